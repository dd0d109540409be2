import PyProof.Rows.All
import PyProof.P3Statements
import PyProof.Dict
import KE.KDictSum
import KE.LcSums
import KE.KRevSl
import KE.KSortTup
import PyProof.Rows.SortRuns
import KE.KDictOf
import PyProof.LongRange
import KE.KItem
import Wide.All
import OpenK.AllK
import Wide.FinOn
import PySem.Challenge.RW_uf050032_14
set_option autoImplicit false
set_option Elab.async false
set_option genInjectivity false

namespace RS
open PySem (Program Str Stmt)
end RS


set_option genSizeOf false
namespace RS
open PySem (PyData)

inductive A4 (a b c d : Prop) : Prop
  | mk : a → b → c → d → A4 a b c d
inductive A5 (a b c d e : Prop) : Prop
  | mk : a → b → c → d → e → A5 a b c d e
inductive A6 (a b c d e f : Prop) : Prop
  | mk : a → b → c → d → e → f → A6 a b c d e f
inductive A7 (a b c d e f g : Prop) : Prop
  | mk : a → b → c → d → e → f → g → A7 a b c d e f g
inductive A9 (a b c d e f g h i : Prop) : Prop
  | mk : a → b → c → d → e → f → g → h → i → A9 a b c d e f g h i
inductive A10 (a b c d e f g h i j : Prop) : Prop
  | mk : a → b → c → d → e → f → g → h → i → j → A10 a b c d e f g h i j
inductive A12 (a b c d e f g h i j k l : Prop) : Prop
  | mk : a → b → c → d → e → f → g → h → i → j → k → l → A12 a b c d e f g h i j k l
inductive Ex2 {α β : Type} (p : α → β → Prop) : Prop
  | mk (a : α) (b : β) : p a b → Ex2 p
inductive Ex3 {α β γ : Type} (p : α → β → γ → Prop) : Prop
  | mk (a : α) (b : β) (c : γ) : p a b c → Ex3 p
inductive Ex4 {α β γ δ : Type} (p : α → β → γ → δ → Prop) : Prop
  | mk (a : α) (b : β) (c : γ) (d : δ) : p a b c d → Ex4 p
inductive Ex5 {α β γ δ ε : Type} (p : α → β → γ → δ → ε → Prop) : Prop
  | mk (a : α) (b : β) (c : γ) (d : δ) (e : ε) : p a b c d e → Ex5 p
/-! ## values, heaps -/
inductive V where
  | none
  | bool (b : Bool)
  | int (i : Int)
  | str (s : String)
  | tup (vs : List V)
  | ref (a : Nat)
  | script
  | typ (n : String)
  | cls (n : String)

noncomputable def V.ints : List V → Option (List Int)
  | [] => some []
  | .int i :: r => (V.ints r).map (i :: ·)
  | _ :: _ => Option.none

/-- the key of a dict by tuples of ints -/
noncomputable def V.key : V → Option (List Int)
  | .tup vs => V.ints vs
  | _ => Option.none
noncomputable def kv (l : List Int) : V := .tup (l.map .int)

inductive Cell where
  | lst (vs : List V)
  | dct (es : List (List Int × V)) (ep : Nat)
  | dci (es : List (Int × V)) (ep : Nat)
  | inst (c : String) (d : Nat)
  | attrs (l : List (String × V))
  | exc (c : String)

/-- an object's own names -/
noncomputable def alook (l : List (String × V)) (n : String) : Option V := (l.find? fun e => decide (e.1 = n)).map (·.2)
noncomputable def aset (l : List (String × V)) (n : String) (v : V) : List (String × V) := (n, v) :: l.filter fun e => decide (e.1 ≠ n)
abbrev Hp := Nat → Option Cell
noncomputable def Hp.set (σ : Hp) (a : Nat) (c : Cell) : Hp := fun b => if b = a then some c else σ b
abbrev Env := String → Option V
noncomputable def Env.set (ρ : Env) (x : String) (v : V) : Env := fun y => if y = x then some v else ρ y

/-! ## data -/
noncomputable def optAll {α β : Type} (f : α → Option β) : List α → Option (List β)
  | [] => some []
  | a :: r => (f a).bind fun b => (optAll f r).map (b :: ·)

noncomputable def snap1 (σ : Hp) (rec : V → Option PyData) : V → Option PyData
  | .none => some .none
  | .bool b => some (.bool b)
  | .int i => some (.int i)
  | .str s => some (.str (PySem.Str.ofString s))
  | .tup vs => (optAll rec vs).map .tuple
  | .ref a => match σ a with
    | some (.lst vs) => (optAll rec vs).map .list
    | _ => Option.none
  | _ => Option.none
noncomputable def snap (σ : Hp) : Nat → V → Option PyData
  | 0 => snap1 σ fun _ => Option.none
  | n + 1 => snap1 σ (snap σ n)

/-! ## the words of the small language -/
inductive Bop where
  | add | sub | mul | fdiv | mod | pow
inductive Cop where
  | eq | ne | lt | le | gt | ge | is | isNot | isIn | notIn
inductive Bi where
  | len | min | max | sum | int | isinstance | list | tuple | dict | all | sorted
inductive Me where
  | append | pop | popk | clear | index | get | update
  | own (m : String)

/-! ## what the operations give -/
noncomputable def truth : V → Option Bool
  | .bool b => some b
  | .none => some false
  | .int i => some (i != 0)
  | _ => Option.none

/-- a place of a sequence, from behind where below nought -/
noncomputable def pyGet {α : Type} (vs : List α) (k : Int) : Option α :=
  if 0 ≤ k then vs[k.toNat]? else if 0 ≤ k + vs.length then vs[(k + vs.length).toNat]? else Option.none

/-- a slice's end, brought into the sequence -/
noncomputable def clip (n : Nat) (k : Int) : Nat := if 0 ≤ k then min k.toNat n else (k + n).toNat
noncomputable def clipLo (n : Nat) : Option Int → Nat
  | Option.none => 0
  | some k => clip n k
noncomputable def clipHi (n : Nat) : Option Int → Nat
  | Option.none => n
  | some k => clip n k
noncomputable def pySlice {α : Type} (vs : List α) (l u : Option Int) : List α := (vs.take (clipHi vs.length u)).drop (clipLo vs.length l)

section
variable {K : Type} [DecidableEq K]
noncomputable def dget (es : List (K × V)) (k : K) : Option V := (es.find? fun e => decide (e.1 = k)).map (·.2)
noncomputable def dput (es : List (K × V)) (k : K) (v : V) : List (K × V) :=
  if (dget es k).isSome then es.map fun e => if e.1 = k then (e.1, v) else e else es ++ [(k, v)]
end

noncomputable def small (i : Int) : Prop := -9223372036854775808 ≤ i ∧ i < 9223372036854775808
noncomputable def lenOk (n : Nat) : Prop := n ≤ 1000000

abbrev VP := V → Hp → Prop
abbrev XP := String → Hp → Prop
abbrev CallT := String → List V → Hp → VP → XP → Prop

structure Glb where
  ns : List Int
  glob : String → Option V
  has : String → Bool
  call : CallT

noncomputable def newP (σ : Hp) (c : Cell) (Q : VP) : Prop := ∀ a, σ a = Option.none → Q (.ref a) (σ.set a c)

inductive binP (σ : Hp) (Q : VP) : Bop → V → V → Prop
  | add {a b : Int} : Q (.int (a + b)) σ → binP σ Q .add (.int a) (.int b)
  | sub {a b : Int} : Q (.int (a - b)) σ → binP σ Q .sub (.int a) (.int b)
  | mul {a b : Int} : small a ∨ small b → Q (.int (a * b)) σ → binP σ Q .mul (.int a) (.int b)
  | fdiv {a b : Int} : 0 < b → small b → Q (.int (a / b)) σ → binP σ Q .fdiv (.int a) (.int b)
  | mod {a b : Int} : 0 < b → Q (.int (a % b)) σ → binP σ Q .mod (.int a) (.int b)
  | pow {a b : Int} : small a → 0 ≤ b → b ≤ 1000 → Q (.int (a ^ b.toNat)) σ → binP σ Q .pow (.int a) (.int b)
  | cat {a b : Nat} {xs ys : List V} : σ a = some (.lst xs) → σ b = some (.lst ys) → lenOk (xs.length + ys.length) → newP σ (.lst (xs ++ ys)) Q → binP σ Q .add (.ref a) (.ref b)

inductive eqP (σ : Hp) (B : Bool → Prop) : V → V → Prop
  | int {a b : Int} : B (decide (a = b)) → eqP σ B (.int a) (.int b)
  | str {a b : String} : B (decide (a = b)) → eqP σ B (.str a) (.str b)
  | gen {v w : V} {d e : PyData} : snap σ 50 v = some d → snap σ 50 w = some e → B (PyData.eqv d e) → eqP σ B v w

inductive inP (σ : Hp) (B : Bool → Prop) : V → V → Prop
  | lst {a : Nat} {v : V} {vs : List V} {d : PyData} {ds : List PyData} : σ a = some (.lst vs) → snap σ 40 v = some d → optAll (snap σ 40) vs = some ds → B (ds.any fun e => PyData.eqv e d) → inP σ B v (.ref a)
  | dct {a : Nat} {v : V} {es : List (List Int × V)} {ep : Nat} {k : List Int} : σ a = some (.dct es ep) → v.key = some k → B (dget es k).isSome → inP σ B v (.ref a)
  | dci {a : Nat} {k : Int} {es : List (Int × V)} {ep : Nat} : σ a = some (.dci es ep) → B (dget es k).isSome → inP σ B (.int k) (.ref a)

noncomputable def V.isNone : V → Bool
  | .none => true
  | _ => false

inductive cmpP (σ : Hp) (B : Bool → Prop) : Cop → V → V → Prop
  | eq {v w : V} : eqP σ B v w → cmpP σ B .eq v w
  | ne {v w : V} : eqP σ (fun b => B (!b)) v w → cmpP σ B .ne v w
  | lt {a b : Int} : B (decide (a < b)) → cmpP σ B .lt (.int a) (.int b)
  | le {a b : Int} : B (decide (a ≤ b)) → cmpP σ B .le (.int a) (.int b)
  | gt {a b : Int} : B (decide (b < a)) → cmpP σ B .gt (.int a) (.int b)
  | ge {a b : Int} : B (decide (b ≤ a)) → cmpP σ B .ge (.int a) (.int b)
  | is {v : V} : B v.isNone → cmpP σ B .is v .none
  | isNot {v : V} : B (!v.isNone) → cmpP σ B .isNot v .none
  | isIn {v w : V} : inP σ B v w → cmpP σ B .isIn v w
  | notIn {v w : V} : inP σ (fun b => B (!b)) v w → cmpP σ B .notIn v w

inductive idxP (g : Glb) (σ : Hp) (Q : VP) : V → V → Prop
  | tup {vs : List V} {k : Int} {v : V} : pyGet vs k = some v → Q v σ → idxP g σ Q (.tup vs) (.int k)
  | script {k n : Int} : pyGet g.ns k = some n → Q (.int n) σ → idxP g σ Q .script (.int k)
  | lst {a : Nat} {vs : List V} {k : Int} {v : V} : σ a = some (.lst vs) → pyGet vs k = some v → Q v σ → idxP g σ Q (.ref a) (.int k)
  | dct {a : Nat} {i : V} {es : List (List Int × V)} {ep : Nat} {k : List Int} {v : V} : σ a = some (.dct es ep) → i.key = some k → dget es k = some v → Q v σ → idxP g σ Q (.ref a) i
  | dci {a : Nat} {es : List (Int × V)} {ep : Nat} {k : Int} {v : V} : σ a = some (.dci es ep) → dget es k = some v → Q v σ → idxP g σ Q (.ref a) (.int k)

noncomputable def optInt : V → Option (Option Int)
  | .none => some Option.none
  | .int i => some (some i)
  | _ => Option.none

inductive sliceP (g : Glb) (σ : Hp) (Q : VP) : V → V → V → Prop
  | tup {vs : List V} {l u : V} {l' u' : Option Int} : optInt l = some l' → optInt u = some u' → Q (.tup (pySlice vs l' u')) σ → sliceP g σ Q (.tup vs) l u
  | script {l u : V} {l' u' : Option Int} : optInt l = some l' → optInt u = some u' → newP σ (.lst ((pySlice g.ns l' u').map .int)) Q → sliceP g σ Q .script l u
  | lst {a : Nat} {vs : List V} {l u : V} {l' u' : Option Int} : σ a = some (.lst vs) → optInt l = some l' → optInt u = some u' → newP σ (.lst (pySlice vs l' u')) Q → sliceP g σ Q (.ref a) l u

/-- what isinstance answers -/
noncomputable def V.isA (σ : Hp) : V → String → Option Bool
  | .none, _ => some false
  | .bool _, t => some (t == "bool" || t == "int")
  | .int _, t => some (t == "int")
  | .str _, t => some (t == "str")
  | .tup _, t => some (t == "tuple")
  | .ref a, t => match σ a with
    | some (.lst _) => some (t == "list")
    | _ => Option.none
  | _, _ => Option.none
noncomputable def isiTypes : List String := ["int", "bool", "str", "tuple", "list"]

/-- the order of keys: tuples of ints item by item -/
noncomputable def ltL : List Int → List Int → Bool
  | [], [] => false
  | [], _ :: _ => true
  | _ :: _, [] => false
  | a :: r, b :: s => decide (a < b) || (a == b && ltL r s)

/-- the keys that a list or a dict holds -/
inductive keysP (σ : Hp) (ks : List (List Int)) : V → Prop
  | lst {a : Nat} : σ a = some (.lst (ks.map kv)) → keysP σ ks (.ref a)
  | dct {a : Nat} {es : List (List Int × V)} {ep : Nat} : σ a = some (.dct es ep) → es.map (·.1) = ks → keysP σ ks (.ref a)

inductive biP (g : Glb) (σ : Hp) (Q : VP) : Bi → List V → Prop
  | lenT {vs : List V} : Q (.int vs.length) σ → biP g σ Q .len [.tup vs]
  | lenS : Q (.int g.ns.length) σ → biP g σ Q .len [.script]
  | lenL {a : Nat} {vs : List V} : σ a = some (.lst vs) → Q (.int vs.length) σ → biP g σ Q .len [.ref a]
  | lenD {a : Nat} {es : List (List Int × V)} {ep : Nat} : σ a = some (.dct es ep) → Q (.int es.length) σ → biP g σ Q .len [.ref a]
  | min2 {a b : Int} : Q (.int (min a b)) σ → biP g σ Q .min [.int a, .int b]
  | max2 {a b : Int} : Q (.int (max a b)) σ → biP g σ Q .max [.int a, .int b]
  | minL {a : Nat} {ns : List Int} : σ a = some (.lst (ns.map .int)) → ns ≠ [] → (∀ m, m ∈ ns → (∀ b ∈ ns, m ≤ b) → Q (.int m) σ) → biP g σ Q .min [.ref a]
  | maxL {a : Nat} {ns : List Int} : σ a = some (.lst (ns.map .int)) → ns ≠ [] → (∀ m, m ∈ ns → (∀ b ∈ ns, b ≤ m) → Q (.int m) σ) → biP g σ Q .max [.ref a]
  | sum {a : Nat} {ns : List Int} : σ a = some (.lst (ns.map .int)) → Q (.int ns.sum) σ → biP g σ Q .sum [.ref a]
  | int {b : Bool} : Q (.int (if b then 1 else 0)) σ → biP g σ Q .int [.bool b]
  | isi {v : V} {t : String} {b : Bool} : t ∈ isiTypes → v.isA σ t = some b → Q (.bool b) σ → biP g σ Q .isinstance [v, .typ t]
  | listT {vs : List V} : newP σ (.lst vs) Q → biP g σ Q .list [.tup vs]
  | listL {a : Nat} {vs : List V} : σ a = some (.lst vs) → newP σ (.lst vs) Q → biP g σ Q .list [.ref a]
  | listD {a : Nat} {es : List (List Int × V)} {ep : Nat} : σ a = some (.dct es ep) → newP σ (.lst (es.map fun e => kv e.1)) Q → biP g σ Q .list [.ref a]
  | tuple {a : Nat} {vs : List V} : σ a = some (.lst vs) → Q (.tup vs) σ → biP g σ Q .tuple [.ref a]
  | all {a : Nat} {bs : List Bool} : σ a = some (.lst (bs.map .bool)) → Q (.bool (bs.all id)) σ → biP g σ Q .all [.ref a]
  | sorted {v : V} {ks : List (List Int)} : keysP σ ks v → ks.Nodup → ks.length ≤ 1000 → (∀ k ∈ ks, k ≠ []) → (∀ ys : List (List Int), ys.Perm ks → ys.Pairwise (fun x y => ltL x y = true) → newP σ (.lst (ys.map kv)) Q) → biP g σ Q .sorted [v]

noncomputable def methNames : List String := ["put", "rule", "places", "need_on", "need_rule", "copied", "filled", "copy_for"]
inductive methP (g : Glb) (σ : Hp) (Q : VP) (X : XP) : V → Me → List V → Prop
  | append {a : Nat} {vs : List V} {v : V} : σ a = some (.lst vs) → lenOk vs.length → Q .none (σ.set a (.lst (vs ++ [v]))) → methP g σ Q X (.ref a) .append [v]
  | pop {a : Nat} {vs : List V} {v : V} : σ a = some (.lst vs) → vs.getLast? = some v → Q v (σ.set a (.lst vs.dropLast)) → methP g σ Q X (.ref a) .pop []
  | clear {a : Nat} {vs : List V} : σ a = some (.lst vs) → Q .none (σ.set a (.lst [])) → methP g σ Q X (.ref a) .clear []
  | index {a : Nat} {vs : List V} {v : V} {d : PyData} {ds : List PyData} {j : Nat} : σ a = some (.lst vs) → snap σ 40 v = some d → optAll (snap σ 40) vs = some ds → ds.findIdx? (fun e => PyData.eqv e d) = some j → Q (.int j) σ → methP g σ Q X (.ref a) .index [v]
  | get {a : Nat} {es : List (List Int × V)} {ep : Nat} {i : V} {k : List Int} : σ a = some (.dct es ep) → i.key = some k → Q ((dget es k).getD .none) σ → methP g σ Q X (.ref a) .get [i]
  | own {v : V} {n : String} {args : List V} : g.call ("Sheet." ++ n) (v :: args) σ Q X → methP g σ Q X v (.own n) args

/-- what a method is asked of -/
inductive recvP (σ : Hp) : V → Me → Prop
  | append {a : Nat} {vs : List V} : σ a = some (.lst vs) → recvP σ (.ref a) .append
  | pop {a : Nat} {vs : List V} : σ a = some (.lst vs) → recvP σ (.ref a) .pop
  | clear {a : Nat} {vs : List V} : σ a = some (.lst vs) → recvP σ (.ref a) .clear
  | index {a : Nat} {vs : List V} : σ a = some (.lst vs) → recvP σ (.ref a) .index
  | get {a : Nat} {es : List (List Int × V)} {ep : Nat} : σ a = some (.dct es ep) → recvP σ (.ref a) .get
  | own {a d : Nat} {n : String} {l : List (String × V)} : σ a = some (.inst "Sheet" d) → n ∈ methNames → σ d = some (.attrs l) → alook l n = none → recvP σ (.ref a) (.own n)

/-- the names that objects bear -/
noncomputable def attrNames : List String := ["high", "wide", "cells"]
inductive attrP (σ : Hp) (Q : VP) : V → String → Prop
  | mk {a d : Nat} {c n : String} {l : List (String × V)} {v : V} : σ a = some (.inst c d) → σ d = some (.attrs l) → alook l n = some v → Q v σ → attrP σ Q (.ref a) n

/-! ## sources of loops -/
abbrev SrcP := List V → (Hp → Prop) → Hp → Prop
noncomputable def rangeL (lo hi : Int) : List V := (List.range (hi - lo).toNat).map fun (i : Nat) => .int (lo + i)

inductive srcP (σ : Hp) (K : SrcP) : V → Prop
  | tup {vs : List V} : K vs (fun _ => True) σ → srcP σ K (.tup vs)
  | lst {a : Nat} {vs : List V} : σ a = some (.lst vs) → K vs (fun σ' => σ' a = some (.lst vs)) σ → srcP σ K (.ref a)
  | dct {a : Nat} {es : List (List Int × V)} {ep : Nat} : σ a = some (.dct es ep) → K (es.map fun e => kv e.1) (fun σ' => σ' a = some (.dct es ep)) σ → srcP σ K (.ref a)
  | dci {a : Nat} {es : List (Int × V)} {ep : Nat} : σ a = some (.dci es ep) → K (es.map fun e => .int e.1) (fun σ' => σ' a = some (.dci es ep)) σ → srcP σ K (.ref a)
inductive rangeP (σ : Hp) (K : SrcP) : V → V → Prop
  | mk {a b : Int} : lenOk (b - a).toNat → K (rangeL a b) (fun _ => True) σ → rangeP σ K (.int a) (.int b)

/-- the items in turn: each passed by, or something made of it -/
noncomputable def compL (one : V → Hp → (Option V → Hp → Prop) → Prop) (chk : Hp → Prop) : List V → List V → Hp → (List V → Hp → Prop) → Prop
  | [], acc, σ, K => chk σ ∧ K acc σ
  | v :: vs, acc, σ, K => chk σ ∧ lenOk acc.length ∧ one v σ fun r σ' => compL one chk vs (match r with | some x => acc ++ [x] | Option.none => acc) σ' K

noncomputable def forL (body : V → Env → Hp → (Env → Hp → Prop) → Prop) (chk : Hp → Prop) : List V → Env → Hp → (Env → Hp → Prop) → Prop
  | [], ρ, σ, N => chk σ ∧ N ρ σ
  | v :: vs, ρ, σ, N => chk σ ∧ body v ρ σ fun ρ' σ' => forL body chk vs ρ' σ' N

noncomputable def whileL (t : Env → Hp → (Bool → Hp → Prop) → Prop) (b : Env → Hp → (Env → Hp → Prop) → Prop) : Nat → Env → Hp → (Env → Hp → Prop) → Prop
  | 0, _, _, _ => False
  | n + 1, ρ, σ, N => t ρ σ fun c σ' => if c = true then b ρ σ' fun ρ'' σ'' => whileL t b n ρ'' σ'' N else N ρ σ'

/-! ## expressions: what must hold ahead -/
noncomputable def X : Type := Glb → Env → Hp → VP → XP → Prop
noncomputable def wpEs : List X → Glb → Env → Hp → (List V → Hp → Prop) → XP → Prop
  | [], _, _, σ, Q, _ => Q [] σ
  | e :: es, g, ρ, σ, Q, X => e g ρ σ (fun v σ₁ => wpEs es g ρ σ₁ (fun vs σ₂ => Q (v :: vs) σ₂) X) X
/-- and, or: all but the last one, then the last -/
noncomputable def wpBop (isAnd : Bool) (last : X) : List X → Glb → Env → Hp → VP → XP → Prop
  | [], g, ρ, σ, Q, X => last g ρ σ Q X
  | e :: es, g, ρ, σ, Q, X => e g ρ σ (fun v σ₁ => ∃ b, truth v = some b ∧ if b = isAnd then wpBop isAnd last es g ρ σ₁ Q X else Q v σ₁) X
noncomputable def wpIfs : List X → Glb → Env → Hp → (Bool → Hp → Prop) → XP → Prop
  | [], _, _, σ, Q, _ => Q true σ
  | e :: es, g, ρ, σ, Q, X => e g ρ σ (fun v σ₁ => ∃ b, truth v = some b ∧ if b = true then wpIfs es g ρ σ₁ Q X else Q false σ₁) X
noncomputable def Src : Type := Glb → Env → Hp → SrcP → XP → Prop

noncomputable def X.none : X := fun _ _ σ Q _ => Q .none σ
noncomputable def X.bool (b : Bool) : X := fun _ _ σ Q _ => Q (.bool b) σ
noncomputable def X.num (i : Int) : X := fun _ _ σ Q _ => Q (.int i) σ
noncomputable def X.str (s : String) : X := fun _ _ σ Q _ => Q (.str s) σ
noncomputable def X.var (x : String) : X := fun _ ρ σ Q _ => ∃ v, ρ x = some v ∧ Q v σ
noncomputable def X.glob (x : String) : X := fun g _ σ Q _ => ∃ v, g.glob x = some v ∧ Q v σ
noncomputable def X.bin (op : Bop) (a b : X) : X := fun g ρ σ Q X => a g ρ σ (fun v σ₁ => b g ρ σ₁ (fun w σ₂ => binP σ₂ Q op v w) X) X
noncomputable def X.neg (a : X) : X := fun g ρ σ Q X => a g ρ σ (fun v σ₁ => ∃ i, v = .int i ∧ Q (.int (-i)) σ₁) X
noncomputable def X.not (a : X) : X := fun g ρ σ Q X => a g ρ σ (fun v σ₁ => ∃ b, truth v = some b ∧ Q (.bool (!b)) σ₁) X
noncomputable def X.bop (isAnd : Bool) (es : List X) (last : X) : X := wpBop isAnd last es
noncomputable def X.cmp (a : X) (op : Cop) (b : X) : X := fun g ρ σ Q X => a g ρ σ (fun v σ₁ => b g ρ σ₁ (fun w σ₂ => cmpP σ₂ (fun c => Q (.bool c) σ₂) op v w) X) X
noncomputable def X.cmp2 (a : X) (op : Cop) (b : X) (op2 : Cop) (c : X) : X := fun g ρ σ Q X => a g ρ σ (fun v σ₁ => b g ρ σ₁ (fun w σ₂ => cmpP σ₂ (fun r =>
      if r = true then c g ρ σ₂ (fun u σ₃ => cmpP σ₃ (fun r' => Q (.bool r') σ₃) op2 w u) X else Q (.bool false) σ₂) op v w) X) X
noncomputable def X.call (f : String) (args : List X) : X := fun g ρ σ Q X => g.has f = true ∧ wpEs args g ρ σ (fun vs σ₁ => g.call f vs σ₁ Q X) X
noncomputable def X.bi (f : Bi) (args : List X) : X := fun g ρ σ Q X => wpEs args g ρ σ (fun vs σ₁ => biP g σ₁ Q f vs) X
noncomputable def X.meth (o : X) (m : Me) (args : List X) : X := fun g ρ σ Q X => o g ρ σ (fun v σ₁ => recvP σ₁ v m ∧ wpEs args g ρ σ₁ (fun vs σ₂ => methP g σ₂ Q X v m vs) X) X
noncomputable def X.idx (o i : X) : X := fun g ρ σ Q X => o g ρ σ (fun v σ₁ => i g ρ σ₁ (fun w σ₂ => idxP g σ₂ Q v w) X) X
noncomputable def X.slice (o l u : X) : X := fun g ρ σ Q X => o g ρ σ (fun v σ₁ => l g ρ σ₁ (fun l' σ₂ => u g ρ σ₂ (fun u' σ₃ => sliceP g σ₃ Q v l' u') X) X) X
inductive revP (σ : Hp) (Q : VP) : V → V → Prop
  | mk {a : Nat} {vs : List V} : σ a = some (.lst vs) → newP σ (.lst vs.reverse) Q → revP σ Q (.ref a) (.int (-1))
noncomputable def X.rev (o st : X) : X := fun g ρ σ Q X => o g ρ σ (fun v σ₁ => st g ρ σ₁ (fun w σ₂ => revP σ₂ Q v w) X) X
noncomputable def X.attr (o : X) (n : String) : X := fun g ρ σ Q X => n ∈ attrNames ∧ o g ρ σ (fun v σ₁ => attrP σ₁ Q v n) X
noncomputable def X.tup (l : List X) : X := fun g ρ σ Q X => wpEs l g ρ σ (fun vs σ₁ => Q (.tup vs) σ₁) X
noncomputable def X.lst (l : List X) : X := fun g ρ σ Q X => wpEs l g ρ σ (fun vs σ₁ => newP σ₁ (.lst vs) Q) X
noncomputable def X.emptyDict : X := fun _ _ σ Q _ => newP σ (.dct [] 0) Q ∨ newP σ (.dci [] 0) Q
inductive dict1P (σ : Hp) (Q : VP) : V → V → Prop
  | dct {i v : V} {k : List Int} : i.key = some k → (∀ ep, newP σ (.dct [(k, v)] ep) Q) → dict1P σ Q i v
  | dci {k : Int} {v : V} : (∀ ep, newP σ (.dci [(k, v)] ep) Q) → dict1P σ Q (.int k) v
noncomputable def X.dict1 (k v : X) : X := fun g ρ σ Q X => k g ρ σ (fun i σ₁ => v g ρ σ₁ (fun w σ₂ => dict1P σ₂ Q i w) X) X
noncomputable def X.comp (elt : X) (x : String) (src : Src) (ifs : List X) : X := fun g ρ σ Q X => src g ρ σ (fun items chk σ₁ =>
      compL (fun v σ₂ K => wpIfs ifs g (ρ.set x v) σ₂ (fun b σ₃ => if b = true then elt g (ρ.set x v) σ₃ (fun r σ₄ => K (some r) σ₄) X else K Option.none σ₃) X)
        chk items [] σ₁ fun vs σ₂ => newP σ₂ (.lst vs) Q) X
noncomputable def Src.range1 (hi : X) : Src := fun g ρ σ K X => hi g ρ σ (fun v σ₁ => rangeP σ₁ K (.int 0) v) X
noncomputable def Src.range2 (lo hi : X) : Src := fun g ρ σ K X => lo g ρ σ (fun v σ₁ => hi g ρ σ₁ (fun w σ₂ => rangeP σ₂ K v w) X) X
noncomputable def Src.of (e : X) : Src := fun g ρ σ K X => e g ρ σ (fun v σ₁ => srcP σ₁ K v) X

/-- the test of a statement -/
noncomputable def wpT (e : X) (g : Glb) (ρ : Env) (σ : Hp) (Q : Bool → Hp → Prop) (X : XP) : Prop := e g ρ σ (fun v σ₁ => ∃ b, truth v = some b ∧ Q b σ₁) X

inductive storeP (σ : Hp) (v : V) (N : Hp → Prop) : V → V → Prop
  | lst {a : Nat} {vs : List V} {k : Int} : σ a = some (.lst vs) → 0 ≤ k → k.toNat < vs.length → N (σ.set a (.lst (vs.set k.toNat v))) → storeP σ v N (.ref a) (.int k)
  | dct {a : Nat} {i : V} {es : List (List Int × V)} {ep : Nat} {k : List Int} : σ a = some (.dct es ep) → i.key = some k → lenOk es.length → (∀ ep', N (σ.set a (.dct (dput es k v) ep'))) → storeP σ v N (.ref a) i
  | dci {a : Nat} {k : Int} {es : List (Int × V)} {ep : Nat} : σ a = some (.dci es ep) → lenOk es.length → (∀ ep', N (σ.set a (.dci (dput es k v) ep'))) → storeP σ v N (.ref a) (.int k)
inductive sattrP (σ : Hp) (n : String) (v : V) (N : Hp → Prop) : V → Prop
  | mk {a d : Nat} {c : String} {l : List (String × V)} : σ a = some (.inst c d) → σ d = some (.attrs l) → l.length ≤ 1000 → N (σ.set d (.attrs (aset l n v))) → sattrP σ n v N (.ref a)

abbrev NP := Env → Hp → Prop
abbrev XPS := String → Env → Hp → Prop

/-! ## targets, statements -/
noncomputable def T : Type := Glb → V → Env → Hp → NP → XP → Prop
noncomputable def T.var (x : String) : T := fun _ v ρ σ N _ => N (ρ.set x v) σ
noncomputable def T.idx (o i : X) : T := fun g v ρ σ N X => o g ρ σ (fun ov σ₁ => i g ρ σ₁ (fun iv σ₂ => storeP σ₂ v (fun σ₃ => N ρ σ₃) ov iv) X) X
noncomputable def T.attr (o : X) (n : String) : T := fun g v ρ σ N X => n ∈ attrNames ∧ o g ρ σ (fun ov σ₁ => sattrP σ₁ n v (fun σ₂ => N ρ σ₂) ov) X
noncomputable def T.tup2 (x y : String) : T := fun _ v ρ σ N _ => ∃ a b, v = .tup [a, b] ∧ N ((ρ.set x a).set y b) σ

noncomputable def S : Type := Glb → Env → Hp → NP → VP → XPS → Prop
noncomputable def wpSs : List S → Glb → Env → Hp → NP → VP → XPS → Prop
  | [], _, ρ, σ, N, _, _ => N ρ σ
  | s :: ss, g, ρ, σ, N, R, X => s g ρ σ (fun ρ₁ σ₁ => wpSs ss g ρ₁ σ₁ N R X) R X
noncomputable def S.ret (e : X) : S := fun g ρ σ _ R X => e g ρ σ R fun x σ' => X x ρ σ'
noncomputable def S.expr (e : X) : S := fun g ρ σ N _ X => e g ρ σ (fun _ σ₁ => N ρ σ₁) fun x σ' => X x ρ σ'
noncomputable def S.assign (t : T) (e : X) : S := fun g ρ σ N _ X => e g ρ σ (fun v σ₁ => t g v ρ σ₁ N fun x σ' => X x ρ σ') fun x σ' => X x ρ σ'
noncomputable def S.ite (c : X) (a b : List S) : S := fun g ρ σ N R X => wpT c g ρ σ (fun t σ₁ => if t = true then wpSs a g ρ σ₁ N R X else wpSs b g ρ σ₁ N R X) fun x σ' => X x ρ σ'
noncomputable def S.for_ (x : String) (src : Src) (body : List S) : S := fun g ρ σ N R X => src g ρ σ (fun items chk σ₁ => forL (fun v ρ₁ σ₂ N' => wpSs body g (ρ₁.set x v) σ₂ N' R X) chk items ρ σ₁ N) fun x σ' => X x ρ σ'
noncomputable def S.while_ (c : X) (body : List S) : S := fun g ρ σ N R X => ∃ n, whileL (fun ρ₁ σ₁ Q => wpT c g ρ₁ σ₁ Q fun x σ' => X x ρ₁ σ') (fun ρ₁ σ₁ N' => wpSs body g ρ₁ σ₁ N' R X) n ρ σ N
noncomputable def S.raise (c : String) : S := fun _ ρ σ _ _ X => X c ρ σ
noncomputable def S.pass : S := fun _ ρ σ N _ _ => N ρ σ

/-- parameters -/
noncomputable def bindP : List String → List V → Env
  | x :: xs, v :: vs => (bindP xs vs).set x v
  | _, _ => fun _ => Option.none

end RS

namespace RS
open PySem (PyData)

/-! ## heaps that grow -/
noncomputable def Hp.le (σ σ' : Hp) : Prop := ∀ a c, σ a = some c → σ' a = some c
theorem Hp.le_refl (σ : Hp) : σ.le σ := fun _ _ h => h
theorem Hp.le_trans {σ τ υ : Hp} (h : σ.le τ) (k : τ.le υ) : σ.le υ := fun a c e => k a c (h a c e)
theorem Hp.set_same (σ : Hp) (a : Nat) (c : Cell) : σ.set a c a = some c := if_pos rfl
theorem Hp.set_ne (σ : Hp) {a b : Nat} (c : Cell) (h : b ≠ a) : σ.set a c b = σ b := if_neg h
theorem Hp.ne_of {σ : Hp} {a b : Nat} {c : Cell} (h : σ b = some c) (k : σ a = none) : b ≠ a := fun e => Option.some_ne_none c (h.symm.trans (e ▸ k))
theorem Hp.le_set {σ : Hp} {a : Nat} (c : Cell) (h : σ a = none) : σ.le (σ.set a c) := fun _ _ e => (Hp.set_ne σ c (Hp.ne_of e h)).trans e
theorem Hp.le_none {σ σ' : Hp} (h : σ.le σ') {a : Nat} (k : σ' a = none) : σ a = none :=
  match e : σ a with
  | none => rfl
  | some c => absurd k (by rw [h a c e]; exact Option.some_ne_none c)
theorem Env.set_same (ρ : Env) (x : String) (v : V) : ρ.set x v x = some v := if_pos rfl
theorem Env.set_ne (ρ : Env) {x y : String} (v : V) (h : y ≠ x) : ρ.set x v y = ρ y := if_neg h
theorem Hp.le_upd {σ σ' : Hp} {a : Nat} (c : Cell) (h : σ.le σ') (ha : σ a = none) : σ.le (σ'.set a c) := fun b d e => (Hp.set_ne σ' c (Hp.ne_of e ha)).trans (h b d e)
/-- one cell is changed -/
noncomputable def Hp.but (a : Nat) (σ σ' : Hp) : Prop := ∀ b, b ≠ a → σ' b = σ b
theorem Hp.le_but {σ σ' σ'' : Hp} {a : Nat} (h : σ.le σ') (ha : σ a = none) (k : Hp.but a σ' σ'') : σ.le σ'' := fun b d e => (k b (Hp.ne_of e ha)).trans (h b d e)

/-! ## loops -/
/-- over a list of data -/
theorem forL_data {α : Type} (p : α → V) {body : V → Env → Hp → (Env → Hp → Prop) → Prop} {chk : Hp → Prop} (I : List α → Env → Hp → Prop) {xs : List α} {ρ : Env} {σ : Hp} {N : Env → Hp → Prop}
    (h0 : I [] ρ σ) (hc : ∀ pre ρ σ, I pre ρ σ → chk σ)
    (ht : ∀ pre x post ρ σ N', xs = pre ++ x :: post → I pre ρ σ → (∀ ρ' σ', I (pre ++ [x]) ρ' σ' → N' ρ' σ') → body (p x) ρ σ N')
    (hN : ∀ ρ σ, I xs ρ σ → N ρ σ) : forL body chk (xs.map p) ρ σ N := by
  suffices H : ∀ (post pre : List α) ρ σ, xs = pre ++ post → I pre ρ σ → forL body chk (post.map p) ρ σ N from H xs [] ρ σ rfl h0
  intro post
  induction post with
  | nil => intro pre ρ σ e i; rw [List.append_nil] at e; exact ⟨hc _ _ _ i, hN _ _ (e ▸ i)⟩
  | cons v post ih =>
    intro pre ρ σ e i
    exact ⟨hc _ _ _ i, ht pre v post ρ σ _ e i fun ρ' σ' i' => ih (pre ++ [v]) ρ' σ' (by rw [e, List.append_assoc]; rfl) i'⟩

/-- over a range, by the number -/
theorem forL_range {body : V → Env → Hp → (Env → Hp → Prop) → Prop} {chk : Hp → Prop} {lo hi : Int} (I : Nat → Env → Hp → Prop) {ρ : Env} {σ : Hp} {N : Env → Hp → Prop}
    (h0 : I 0 ρ σ) (hc : ∀ σ, chk σ)
    (ht : ∀ (i : Nat) ρ σ N', lo + i < hi → I i ρ σ → (∀ ρ' σ', I (i + 1) ρ' σ' → N' ρ' σ') → body (.int (lo + i)) ρ σ N')
    (hN : ∀ ρ σ, I (hi - lo).toNat ρ σ → N ρ σ) : forL body chk (rangeL lo hi) ρ σ N := by
  refine forL_data (fun (i : Nat) => V.int (lo + i)) (fun pre ρ σ => I pre.length ρ σ) h0 (fun _ _ σ _ => hc σ) (fun pre i post ρ σ N' e hI hN' => ?_) fun ρ σ hI => hN ρ σ (by rwa [List.length_range] at hI)
  have hl := congrArg List.length e
  have hi : i = pre.length := by
    have := congrArg (fun l => l[pre.length]?) e
    simp only [List.length_range, List.length_append, List.length_cons] at hl
    rw [List.getElem?_range (by lia), List.getElem?_append_right (Nat.le_refl _), Nat.sub_self] at this
    exact (Option.some.inj this).symm
  subst hi
  simp only [List.length_range, List.length_append, List.length_cons] at hl
  exact ht pre.length ρ σ N' (by omega) hI fun ρ' σ' h => hN' ρ' σ' (by rwa [List.length_append])

theorem whileL_inv {t : Env → Hp → (Bool → Hp → Prop) → Prop} {b : Env → Hp → (Env → Hp → Prop) → Prop} {N : Env → Hp → Prop} (I : Nat → Env → Hp → Prop)
    (h : ∀ m ρ σ (K : Env → Hp → Prop), I m ρ σ → (∀ m' ρ' σ', m' < m → I m' ρ' σ' → K ρ' σ') → t ρ σ (fun c σ' => if c = true then b ρ σ' K else N ρ σ')) {m : Nat} {ρ : Env} {σ : Hp} (h0 : I m ρ σ) : ∃ n, whileL t b n ρ σ N := by
  refine ⟨m + 1, ?_⟩
  suffices H : ∀ n m ρ σ, m < n → I m ρ σ → whileL t b n ρ σ N from H (m + 1) m ρ σ (Nat.lt_succ_self m) h0
  intro n
  induction n with
  | zero => intro m ρ σ hm; exact absurd hm (Nat.not_lt_zero m)
  | succ n ih => intro m ρ σ hm hI; exact h m ρ σ _ hI fun m' ρ' σ' hm' hI' => ih m' ρ' σ' (Nat.lt_of_lt_of_le hm' (Nat.le_of_lt_succ hm)) hI'

/-- a comprehension with a test, over a list of data; the heap grows -/
theorem compL_fl {α : Type} {one : V → Hp → (Option V → Hp → Prop) → Prop} {chk : Hp → Prop} (p q : α → V) (kp : α → Bool) {xs : List α} {σ : Hp} {K : List V → Hp → Prop}
    (hc : ∀ σ', σ.le σ' → chk σ') (hl : lenOk xs.length) (h1 : ∀ x ∈ xs, ∀ σ', σ.le σ' → ∀ K', (∀ σ'', σ'.le σ'' → K' (if kp x = true then some (q x) else none) σ'') → one (p x) σ' K') (hK : ∀ σ', σ.le σ' → K ((xs.filter kp).map q) σ') : compL one chk (xs.map p) [] σ K := by
  suffices H : ∀ (xs : List α) (acc : List V) (σ₁ : Hp), σ.le σ₁ → acc.length + xs.length ≤ 1000000 → (∀ x ∈ xs, ∀ σ', σ.le σ' → ∀ K', (∀ σ'', σ'.le σ'' → K' (if kp x = true then some (q x) else none) σ'') → one (p x) σ' K') → (∀ σ', σ.le σ' → K (acc ++ (xs.filter kp).map q) σ') → compL one chk (xs.map p) acc σ₁ K by
    exact H xs [] σ (Hp.le_refl σ) (by rw [List.length_nil, Nat.zero_add]; exact hl) h1 hK
  clear hl h1 hK
  intro xs
  induction xs with
  | nil => intro acc σ₁ hle _ _ hK; exact ⟨hc _ hle, by have := hK _ hle; rwa [List.filter_nil, List.map_nil, List.append_nil] at this⟩
  | cons v vs ih =>
    intro acc σ₁ hle hl h1 hK
    rw [List.length_cons] at hl
    refine ⟨hc _ hle, by unfold lenOk; lia, h1 v (.head _) σ₁ hle _ fun σ₂ h₂ => ?_⟩
    have h1' := fun w (hw : w ∈ vs) => h1 w (.tail _ hw)
    cases e : kp v with
    | true =>
      rw [if_pos rfl]
      refine ih (acc ++ [q v]) σ₂ (Hp.le_trans hle h₂) (by rw [List.length_append, List.length_singleton]; lia) h1' fun σ' h' => ?_
      have := hK σ' h'
      rwa [List.filter_cons_of_pos e, List.map_cons, List.append_cons] at this
    | false =>
      rw [if_neg Bool.false_ne_true]
      refine ih acc σ₂ (Hp.le_trans hle h₂) (by lia) h1' fun σ' h' => ?_
      have := hK σ' h'
      rwa [List.filter_cons_of_neg (by rw [e]; exact Bool.false_ne_true)] at this
/-- without a test -/
theorem compL_lt {α : Type} {one : V → Hp → (Option V → Hp → Prop) → Prop} {chk : Hp → Prop} (p q : α → V) {xs : List α} {σ : Hp} {K : List V → Hp → Prop}
    (hc : ∀ σ', σ.le σ' → chk σ') (hl : lenOk xs.length) (h1 : ∀ x ∈ xs, ∀ σ', σ.le σ' → ∀ K', (∀ σ'', σ'.le σ'' → K' (some (q x)) σ'') → one (p x) σ' K') (hK : ∀ σ', σ.le σ' → K (xs.map q) σ') : compL one chk (xs.map p) [] σ K :=
  compL_fl p q (fun _ => true) hc hl (fun x hx σ' h' K' hK' => h1 x hx σ' h' K' fun σ'' h'' => hK' σ'' h'') fun σ' h' => by rw [List.filter_eq_self.mpr fun _ _ => rfl]; exact hK σ' h'
theorem V.ints_of {vs : List V} {ks : List Int} (h : V.ints vs = some ks) : vs = ks.map .int := by
  induction vs generalizing ks with
  | nil => cases h; rfl
  | cons v vs ih =>
    cases v with
    | int i =>
      change (V.ints vs).map (i :: ·) = some ks at h
      cases e : V.ints vs with
      | none => rw [e] at h; cases h
      | some l => rw [e] at h; cases h; rw [ih e]; rfl
    | _ => cases h
theorem V.ints_map (ks : List Int) : V.ints (ks.map .int) = some ks := by
  induction ks with
  | nil => rfl
  | cons k ks ih => show (V.ints (ks.map .int)).map (k :: ·) = _; rw [ih]; rfl

/-! ## steps -/
section
variable {g : Glb} {σ : Hp} {Q : VP} {B : Bool → Prop} {K : SrcP}
theorem s_get {α : Type} {o : Option α} {v : α} {P : α → Prop} (h : o = some v) (q : P v) : ∃ v, o = some v ∧ P v := ⟨v, h, q⟩
theorem s_truth {v : V} {b : Bool} {P : Bool → Prop} (h : truth v = some b) (q : P b) : ∃ b, truth v = some b ∧ P b := ⟨b, h, q⟩
theorem s_add {a b : Int} (q : Q (.int (a + b)) σ) : binP σ Q .add (.int a) (.int b) := .add q
theorem s_sub {a b : Int} (q : Q (.int (a - b)) σ) : binP σ Q .sub (.int a) (.int b) := .sub q
theorem s_mul {a b : Int} (h : small a ∨ small b) (q : Q (.int (a * b)) σ) : binP σ Q .mul (.int a) (.int b) := .mul h q
theorem s_fdiv {a b : Int} (h : 0 < b ∧ small b) (q : Q (.int (a / b)) σ) : binP σ Q .fdiv (.int a) (.int b) := .fdiv h.1 h.2 q
theorem s_mod {a b : Int} (h : 0 < b) (q : Q (.int (a % b)) σ) : binP σ Q .mod (.int a) (.int b) := .mod h q
theorem s_lcat {a b : Nat} {xs ys : List V} (ha : σ a = some (.lst xs)) (hb : σ b = some (.lst ys)) (hl : lenOk (xs.length + ys.length))
    (q : ∀ c, σ c = none → Q (.ref c) (σ.set c (.lst (xs ++ ys)))) : binP σ Q .add (.ref a) (.ref b) := .cat ha hb hl q
theorem s_newG {c : Cell} (q : ∀ a σ', σ a = none → σ.le σ' → σ' a = some c → Q (.ref a) σ') : newP σ c Q := fun a ha => q a _ ha (Hp.le_set _ ha) (Hp.set_same _ _ _)
theorem s_idxT {vs : List V} {k : Int} {v : V} (h : pyGet vs k = some v) (q : Q v σ) : idxP g σ Q (.tup vs) (.int k) := .tup h q
theorem s_idxL {a : Nat} {vs : List V} {k : Int} {v : V} (ha : σ a = some (.lst vs)) (h : pyGet vs k = some v) (q : Q v σ) : idxP g σ Q (.ref a) (.int k) := .lst ha h q
theorem s_idxS {k : Int} {n : Int} (h : pyGet g.ns k = some n) (q : Q (.int n) σ) : idxP g σ Q .script (.int k) := .script h q
theorem s_idxD {a : Nat} {es : List (List Int × V)} {ep : Nat} {i : V} {k : List Int} {v : V} (ha : σ a = some (.dct es ep)) (hk : i.key = some k) (h : dget es k = some v) (q : Q v σ) : idxP g σ Q (.ref a) i := .dct ha hk h q
theorem s_min2 {a b : Int} (q : Q (.int (min a b)) σ) : biP g σ Q .min [.int a, .int b] := .min2 q
theorem s_max2 {a b : Int} (q : Q (.int (max a b)) σ) : biP g σ Q .max [.int a, .int b] := .max2 q
theorem s_maxL {a : Nat} {vs : List V} {ns : List Int} (ha : σ a = some (.lst vs)) (h : V.ints vs = some ns) (hn : ns ≠ []) (q : ∀ m, m ∈ ns → (∀ b ∈ ns, b ≤ m) → Q (.int m) σ) : biP g σ Q .max [.ref a] := .maxL (V.ints_of h ▸ ha) hn q
theorem s_minL {a : Nat} {vs : List V} {ns : List Int} (ha : σ a = some (.lst vs)) (h : V.ints vs = some ns) (hn : ns ≠ []) (q : ∀ m, m ∈ ns → (∀ b ∈ ns, m ≤ b) → Q (.int m) σ) : biP g σ Q .min [.ref a] := .minL (V.ints_of h ▸ ha) hn q
theorem s_lenS (q : Q (.int g.ns.length) σ) : biP g σ Q .len [.script] := .lenS q
theorem s_lenL {a : Nat} {vs : List V} (ha : σ a = some (.lst vs)) (q : Q (.int vs.length) σ) : biP g σ Q .len [.ref a] := .lenL ha q
theorem s_isi {v : V} {t : String} {b : Bool} (ht : t ∈ isiTypes) (h : v.isA σ t = some b) (q : Q (.bool b) σ) : biP g σ Q .isinstance [v, .typ t] := .isi ht h q
theorem s_listT {vs : List V} (q : ∀ a, σ a = none → Q (.ref a) (σ.set a (.lst vs))) : biP g σ Q .list [.tup vs] := .listT q
theorem s_listD {a : Nat} {es : List (List Int × V)} {ep : Nat} (ha : σ a = some (.dct es ep)) (q : ∀ c, σ c = none → Q (.ref c) (σ.set c (.lst (es.map fun e => kv e.1)))) : biP g σ Q .list [.ref a] := .listD ha q
theorem s_all {a : Nat} {bs : List Bool} (ha : σ a = some (.lst (bs.map .bool))) (q : Q (.bool (bs.all id)) σ) : biP g σ Q .all [.ref a] := .all ha q
theorem s_eqI {a b : Int} (q : B (decide (a = b))) : cmpP σ B .eq (.int a) (.int b) := .eq (.int q)
theorem s_eqS {a b : String} (q : B (decide (a = b))) : cmpP σ B .eq (.str a) (.str b) := .eq (.str q)
theorem s_lt {a b : Int} (q : B (decide (a < b))) : cmpP σ B .lt (.int a) (.int b) := .lt q
theorem s_le {a b : Int} (q : B (decide (a ≤ b))) : cmpP σ B .le (.int a) (.int b) := .le q
theorem s_gt {a b : Int} (q : B (decide (b < a))) : cmpP σ B .gt (.int a) (.int b) := .gt q
theorem s_ge {a b : Int} (q : B (decide (b ≤ a))) : cmpP σ B .ge (.int a) (.int b) := .ge q
theorem s_is {v : V} (q : B v.isNone) : cmpP σ B .is v .none := .is q
theorem s_isNot {v : V} (q : B (!v.isNone)) : cmpP σ B .isNot v .none := .isNot q
theorem s_appendG {a : Nat} {vs : List V} {v : V} {X : XP} (ha : σ a = some (.lst vs)) (hl : lenOk vs.length) (q : ∀ σ', Hp.but a σ σ' → σ' a = some (.lst (vs ++ [v])) → Q .none σ') : methP g σ Q X (.ref a) .append [v] :=
  .append ha hl (q _ (fun _ hb => Hp.set_ne _ _ hb) (Hp.set_same _ _ _))
theorem s_pop {a : Nat} {vs : List V} {v : V} {X : XP} (ha : σ a = some (.lst vs)) (hl : vs.getLast? = some v) (q : Q v (σ.set a (.lst vs.dropLast))) : methP g σ Q X (.ref a) .pop [] := .pop ha hl q
theorem s_range {a b : Int} (h : lenOk (b - a).toNat) (q : K (rangeL a b) (fun _ => True) σ) : rangeP σ K (.int a) (.int b) := .mk h q
theorem s_srcL {a : Nat} {vs : List V} (ha : σ a = some (.lst vs)) (q : K vs (fun σ' => σ' a = some (.lst vs)) σ) : srcP σ K (.ref a) := .lst ha q
theorem s_srcD {a : Nat} {es : List (List Int × V)} {ep : Nat} (ha : σ a = some (.dct es ep)) (q : K (es.map fun e => kv e.1) (fun σ' => σ' a = some (.dct es ep)) σ) : srcP σ K (.ref a) := .dct ha q
theorem s_sliceT {vs : List V} {l u : V} {l' u' : Option Int} (hl : optInt l = some l') (hu : optInt u = some u') (q : Q (.tup (pySlice vs l' u')) σ) : sliceP g σ Q (.tup vs) l u := .tup hl hu q
theorem s_sliceL {a : Nat} {vs : List V} {l u : V} {l' u' : Option Int} (ha : σ a = some (.lst vs)) (hl : optInt l = some l') (hu : optInt u = some u')
    (q : ∀ c, σ c = none → Q (.ref c) (σ.set c (.lst (pySlice vs l' u')))) : sliceP g σ Q (.ref a) l u := .lst ha hl hu q
theorem s_storeD {a : Nat} {es : List (List Int × V)} {ep : Nat} {i v : V} {k : List Int} {N : Hp → Prop} (ha : σ a = some (.dct es ep)) (hk : i.key = some k) (hl : lenOk es.length) (q : ∀ ep', N (σ.set a (.dct (dput es k v) ep'))) : storeP σ v N (.ref a) i := .dct ha hk hl q
theorem s_sortD {a : Nat} {es : List (List Int × V)} {ep : Nat} (ha : σ a = some (.dct es ep)) (hn : (es.map (·.1)).Nodup) (hl : es.length ≤ 1000) (hne : ∀ k ∈ es.map (·.1), k ≠ []) (q : ∀ ys : List (List Int), ys.Perm (es.map (·.1)) → ys.Pairwise (fun x y => ltL x y = true) → newP σ (.lst (ys.map kv)) Q) : biP g σ Q .sorted [.ref a] :=
  .sorted (.dct ha rfl) hn (by rw [List.length_map]; exact hl) hne q
theorem s_attr {a d : Nat} {c n : String} {l : List (String × V)} {v : V} (ha : σ a = some (.inst c d)) (hd : σ d = some (.attrs l)) (hv : alook l n = some v) (q : Q v σ) : attrP σ Q (.ref a) n := .mk ha hd hv q
theorem s_call {f : String} {P : Prop} (h : g.has f = true) (q : P) : g.has f = true ∧ P := ⟨h, q⟩
theorem s_recv {v : V} {m : Me} {P : Prop} (h : recvP σ v m) (q : P) : recvP σ v m ∧ P := ⟨h, q⟩
theorem s_recvL {a : Nat} {vs : List V} {m : Me} (ha : σ a = some (.lst vs)) (hm : m = .append ∨ m = .pop ∨ m = .clear) : recvP σ (.ref a) m := by
  rcases hm with rfl | rfl | rfl
  · exact .append ha
  · exact .pop ha
  · exact .clear ha
theorem s_recvI {a d : Nat} {n : String} {l : List (String × V)} (ha : σ a = some (.inst "Sheet" d)) (hn : n ∈ methNames) (hd : σ d = some (.attrs l)) (hl : alook l n = none) : recvP σ (.ref a) (.own n) := .own ha hn hd hl
theorem s_neg {i : Int} {P : Int → Prop} (q : P i) : ∃ j, V.int i = V.int j ∧ P j := ⟨i, rfl, q⟩
end

/-! ## statements, one by one -/
theorem st_cons {g : Glb} {s : S} {ss : List S} {ρ : Env} {σ : Hp} {N : NP} {R : VP} {X : XPS} (h : s g ρ σ (fun ρ₁ σ₁ => wpSs ss g ρ₁ σ₁ N R X) R X) : wpSs (s :: ss) g ρ σ N R X := h
theorem st_nil {g : Glb} {ρ : Env} {σ : Hp} {N : NP} {R : VP} {X : XPS} (h : N ρ σ) : wpSs [] g ρ σ N R X := h
theorem s_if {c : Prop} [Decidable c] {A B : Prop} (hA : c → A) (hB : ¬ c → B) : if c then A else B := by
  by_cases h : c
  · rw [if_pos h]; exact hA h
  · rw [if_neg h]; exact hB h
theorem s_ifB {b : Bool} {A B : Prop} (hA : b = true → A) (hB : b = false → B) : if b = true then A else B := by
  cases b
  · exact hB rfl
  · exact hA rfl
theorem s_ifT {c : Prop} [Decidable c] {A B : Prop} (h : c) (q : A) : if c then A else B := by rw [if_pos h]; exact q
theorem s_ifF {c : Prop} [Decidable c] {A B : Prop} (h : ¬ c) (q : B) : if c then A else B := by rw [if_neg h]; exact q

end RS

namespace RS
open PySem (Program World Shared Addr Value Obj Heap Str Around wpAny codeAny model Scope NameKind Expr Stmt FuncData cLine recursionLimit sizeLine mainGlobals builtinsNs)

/-- the fixed parts of one run -/
structure Wd where
  prog : Program
  w : World
  s₀ : Shared
  sa : Addr
  ns : List Int
  cls : String → Option Addr
  glob : String → Option V
  names : List String
  fn : String → Option Addr
  mg : Str → Option Value
  mb : Str → Option Value

inductive Rep (W : Wd) (h : Heap) : V → Value → Prop
  | none : Rep W h .none .none
  | bool (b : Bool) : Rep W h (.bool b) (.bool b)
  | int (i : Int) (t : Nat) : Rep W h (.int i) (.int i t)
  | str (s : String) (t : Nat) : Rep W h (.str s) (.str (Str.ofString s) t)
  | tup {vs : List V} {a : Addr} {items : Array Value} {n : Nat} : items.size ≤ 1000001 → h.get? a = some { cls := .type "tuple", data := .seq items n } → vs.length = items.toList.length → (∀ i v, vs[i]? = some v → Rep W h v (items.toList.getD i .none)) → Rep W h (.tup vs) (.ref a)
  | ref (a : Addr) : Rep W h (.ref a) (.ref a)
  | script : Rep W h .script (.ref W.sa)
  | typ (n : String) : Rep W h (.typ n) (.type n)
  | cls {n : String} {C : Addr} : W.cls n = some C → Rep W h (.cls n) (.ref C)
structure Reps (W : Wd) (h : Heap) (vs : List V) (xs : List Value) : Prop where
  len : vs.length = xs.length
  at_ : ∀ i v, vs[i]? = some v → Rep W h v (xs.getD i .none)

/-- a tuple as it lies -/
noncomputable def isTup (o : Obj) : Prop := o.cls = .type "tuple" ∧ ∃ i n, o.data = .seq i n
theorem notTup_cls {o : Obj} (h : o.cls ≠ .type "tuple") : ¬ isTup o := fun x => h x.1
theorem notTup_type {t : String} {d : PySem.Data} (h : t ≠ "tuple") : ¬ isTup { cls := .type t, data := d } := fun x => h (Value.type.inj x.1)
theorem notTup_dict {o : Obj} {es : Array PySem.DictEntry} {ep : Nat} (h : o.data = .dict es ep) : ¬ isTup o := fun ⟨_, _, _, x⟩ => PySem.Data.noConfusion (h.symm.trans x)
/-- tuples stay -/
noncomputable def TupKeep (h h' : Heap) : Prop := ∀ a o, h.get? a = some o → isTup o → h'.get? a = some o
theorem TupKeep.of {h h' : Heap} (k : ∀ b o, h.get? b = some o → h'.get? b = some o) : TupKeep h h' := fun a o e _ => k a o e
theorem TupKeep.key {W : Wd} {h h' : Heap} (x : TupKeep h h') (ks : List Int) (b : Addr) (k : PySem.IsTupleKey (PySem.intKind W.prog W.w) h ks b) : PySem.IsTupleKey (PySem.intKind W.prog W.w) h' ks b :=
  let ⟨o, i, n, e, c, r⟩ := k; ⟨o, i, n, x b o e ⟨c, i, n, r.1⟩, c, r⟩

section
variable {W : Wd} {h h' : Heap}
theorem Rep.mono (k : TupKeep h h') {v : V} {x : Value} (q : Rep W h v x) : Rep W h' v x := by
  induction q with
  | none => exact .none
  | bool b => exact .bool b
  | int i t => exact .int i t
  | str s t => exact .str s t
  | tup z e l _ ih => exact .tup z (k _ _ e ⟨rfl, _, _, rfl⟩) l ih
  | ref a => exact .ref a
  | script => exact .script
  | typ n => exact .typ n
  | cls e => exact .cls e
theorem Reps.mono (k : TupKeep h h') {vs : List V} {xs : List Value} (q : Reps W h vs xs) : Reps W h' vs xs := ⟨q.len, fun i v e => (q.at_ i v e).mono k⟩
theorem Reps.length {vs : List V} {xs : List Value} (q : Reps W h vs xs) : vs.length = xs.length := q.len
theorem Reps.nil : Reps W h [] [] := ⟨rfl, fun i v e => by cases i <;> cases e⟩
theorem Reps.cons {v : V} {x : Value} {vs : List V} {xs : List Value} (r : Rep W h v x) (q : Reps W h vs xs) : Reps W h (v :: vs) (x :: xs) :=
  ⟨congrArg (· + 1) q.len, fun i u e => match i, e with
    | 0, e => Option.some.inj e ▸ r
    | i + 1, e => q.at_ i u e⟩
theorem Reps.ind {P : List V → List Value → Prop} (h0 : P [] []) (h1 : ∀ v x vs xs, Rep W h v x → Reps W h vs xs → P vs xs → P (v :: vs) (x :: xs)) : ∀ {vs : List V} {xs : List Value}, Reps W h vs xs → P vs xs := by
  intro vs
  induction vs with
  | nil => intro xs q; cases xs with
    | nil => exact h0
    | cons x xs => cases q.len
  | cons v vs ih => intro xs q; cases xs with
    | nil => cases q.len
    | cons x xs =>
      have q' : Reps W h vs xs := ⟨Nat.succ.inj q.len, fun i u e => q.at_ (i + 1) u e⟩
      exact h1 v x vs xs (q.at_ 0 v rfl) q' (ih q')
theorem Reps.nil_inv {xs : List Value} (q : Reps W h [] xs) : xs = [] := List.eq_nil_of_length_eq_zero q.len.symm
theorem Reps.cons_inv {v : V} {vs : List V} {xs : List Value} (q : Reps W h (v :: vs) xs) : ∃ x xs', xs = x :: xs' ∧ Rep W h v x ∧ Reps W h vs xs' := by
  cases xs with
  | nil => cases q.len
  | cons x xs => exact ⟨x, xs, rfl, q.at_ 0 v rfl, Nat.succ.inj q.len, fun i u e => q.at_ (i + 1) u e⟩
theorem Reps.get {vs : List V} {xs : List Value} (q : Reps W h vs xs) {i : Nat} {v : V} (e : vs[i]? = some v) : ∃ x, xs[i]? = some x ∧ Rep W h v x := by
  have hi : i < xs.length := q.len ▸ (List.getElem?_eq_some_iff.mp e).1
  refine ⟨xs[i], List.getElem?_eq_getElem hi, ?_⟩
  have := q.at_ i v e
  rwa [List.getD_eq_getElem?_getD, List.getElem?_eq_getElem hi] at this
theorem Reps.append {vs ws : List V} {xs ys : List Value} (p : Reps W h vs xs) (q : Reps W h ws ys) : Reps W h (vs ++ ws) (xs ++ ys) :=
  p.ind (P := fun vs xs => Reps W h (vs ++ ws) (xs ++ ys)) q fun _ _ _ _ r _ ih => .cons r ih
theorem Reps.drop {vs : List V} {xs : List Value} (q : Reps W h vs xs) (n : Nat) : Reps W h (vs.drop n) (xs.drop n) :=
  ⟨by rw [List.length_drop, List.length_drop, q.len], fun i v e => by
    rw [List.getElem?_drop] at e
    have := q.at_ _ v e
    rwa [List.getD_eq_getElem?_getD, List.getElem?_drop, ← List.getD_eq_getElem?_getD]⟩
theorem Reps.take {vs : List V} {xs : List Value} (q : Reps W h vs xs) (n : Nat) : Reps W h (vs.take n) (xs.take n) :=
  ⟨by rw [List.length_take, List.length_take, q.len], fun i v e => by
    rw [List.getElem?_take] at e
    split at e
    · rename_i hi
      have := q.at_ _ v e
      rwa [List.getD_eq_getElem?_getD, List.getElem?_take_of_lt hi, ← List.getD_eq_getElem?_getD]
    · cases e⟩
theorem Reps.one {v : V} {x : Value} (r : Rep W h v x) : Reps W h [v] [x] := .cons r .nil
theorem Reps.reverse {vs : List V} {xs : List Value} (q : Reps W h vs xs) : Reps W h vs.reverse xs.reverse :=
  q.ind (P := fun vs xs => Reps W h vs.reverse xs.reverse) .nil fun _ _ _ _ r _ ih => by rw [List.reverse_cons, List.reverse_cons]; exact ih.append (.one r)
theorem Reps.set {vs : List V} {xs : List Value} {v : V} {x : Value} (q : Reps W h vs xs) (r : Rep W h v x) (k : Nat) : Reps W h (vs.set k v) (xs.set k x) :=
  ⟨by rw [List.length_set, List.length_set, q.len], fun i u e => by
    rw [List.getElem?_set] at e
    rw [List.getD_eq_getElem?_getD, List.getElem?_set]
    split at e
    · rename_i hk
      split at e
      · rename_i hl
        rw [if_pos hk, if_pos (q.len ▸ hl)]
        exact Option.some.inj e ▸ r
      · cases e
    · rename_i hk
      rw [if_neg hk, ← List.getD_eq_getElem?_getD]
      exact q.at_ i u e⟩
theorem Reps.one_inv {v : V} {xs : List Value} (q : Reps W h [v] xs) : ∃ x, xs = [x] ∧ Rep W h v x := by
  obtain ⟨x, xs', rfl, r, q'⟩ := q.cons_inv
  rw [q'.nil_inv]; exact ⟨x, rfl, r⟩
theorem Reps.two_inv {v v' : V} {xs : List Value} (q : Reps W h [v, v'] xs) : ∃ x x', xs = [x, x'] ∧ Rep W h v x ∧ Rep W h v' x' := by
  obtain ⟨x, xs', rfl, r, q'⟩ := q.cons_inv
  obtain ⟨x', rfl, r'⟩ := q'.one_inv
  exact ⟨x, x', rfl, r, r'⟩
theorem Rep.tupI {vs : List V} {a : Addr} {items : Array Value} {n : Nat} (z : items.size ≤ 1000001) (e : h.get? a = some { cls := .type "tuple", data := .seq items n }) (q : Reps W h vs items.toList) : Rep W h (.tup vs) (.ref a) := .tup z e q.len q.at_
theorem Rep.none_inv {x : Value} (q : Rep W h .none x) : x = .none := by cases q; rfl
theorem Rep.int_inv {i : Int} {x : Value} (q : Rep W h (.int i) x) : ∃ t, x = .int i t := by cases q; exact ⟨_, rfl⟩
theorem Rep.str_inv {i : String} {x : Value} (q : Rep W h (.str i) x) : ∃ t, x = .str (Str.ofString i) t := by cases q; exact ⟨_, rfl⟩
theorem Rep.bool_inv {b : Bool} {x : Value} (q : Rep W h (.bool b) x) : x = .bool b := by cases q; rfl
theorem Rep.ref_inv {a : Nat} {x : Value} (q : Rep W h (.ref a) x) : x = .ref a := by cases q; rfl
theorem Rep.script_inv {x : Value} (q : Rep W h .script x) : x = .ref W.sa := by cases q; rfl
theorem Rep.typ_inv {T : String} {x : Value} (q : Rep W h (.typ T) x) : x = .type T := by cases q; rfl
theorem Rep.tup_inv {vs : List V} {x : Value} (q : Rep W h (.tup vs) x) : ∃ a items n, x = .ref a ∧ items.size ≤ 1000001 ∧ h.get? a = some { cls := .type "tuple", data := .seq items n } ∧ Reps W h vs items.toList := by
  cases q with | tup z e l q => exact ⟨_, _, _, rfl, z, e, l, q⟩
end

/-- the kind of keys -/
abbrev tk (W : Wd) := PySem.tupleKind (PySem.intKind W.prog W.w)
abbrev ik (W : Wd) := PySem.intKind W.prog W.w
/-- an object of the abstract heap, as it lies -/
inductive CellR (W : Wd) (h : Heap) (a : Addr) : Cell → Prop
  | lst {vs : List V} {items : Array Value} {n : Nat} : items.size ≤ 1000001 → h.get? a = some { cls := .type "list", data := .seq items n } → Reps W h vs items.toList → CellR W h a (.lst vs)
  | dct {es : List (List Int × V)} {ep : Nat} {des : Array PySem.DictEntry} {xs : List (List Int × Addr × Value)} : xs.length ≤ 1000001 → h.get? a = some { cls := .type "dict", data := .dict des ep } →
      des.toList = xs.map (PySem.entryOfKey (tk W)) → (∀ x ∈ xs, (tk W).is h x.1 x.2.1) → (xs.map (·.1)).Nodup →
      es.map (·.1) = xs.map (·.1) → Reps W h (es.map (·.2)) (xs.map (·.2.2)) → (∀ x ∈ xs, Rep W h (kv x.1) (.ref x.2.1)) → CellR W h a (.dct es ep)
  | dci {es : List (Int × V)} {ep : Nat} {des : Array PySem.DictEntry} {xs : List (Int × Value)} : xs.length ≤ 1000001 → h.get? a = some { cls := .type "dict", data := .dict des ep } →
      PySem.KeysOf (ik W) des → PySem.Pairs (ik W) des.toList xs → (xs.map (·.1)).Nodup →
      es.map (·.1) = xs.map (·.1) → Reps W h (es.map (·.2)) (xs.map (·.2)) → CellR W h a (.dci es ep)
  | inst {c : String} {C d : Addr} {o : Obj} : W.cls c = some C → h.get? a = some o → o.cls = .ref C → o.dict = some d → (∀ k, o.data ≠ .cls k) → CellR W h a (.inst c d)
  | attrs {l : List (String × V)} {m' : Str → Option Value} : h.Ns1 a m' → (∀ n v, alook l n = some v → ∃ x, m' (Str.ofString n) = some x ∧ Rep W h v x) → (∀ n, alook l n = none → m' (Str.ofString n) = none) →
      (∀ y, m' y ≠ none → y ∈ l.map fun e => Str.ofString e.1) → CellR W h a (.attrs l)
  | exc {c : String} {C : Addr} {o : Obj} {vs : Array Value} : W.cls c = some C → h.get? a = some o → o.cls = .ref C → o.data = .fields vs → CellR W h a (.exc c)

section
variable {W : Wd} {h h' : Heap} {a : Addr} {c : Cell}
theorem CellR.obj (x : CellR W h a c) : ∃ o, h.get? a = some o ∧ ¬ isTup o := by
  cases x with
  | lst _ e _ => exact ⟨_, e, notTup_type (by decide)⟩
  | dct _ e => exact ⟨_, e, notTup_type (by decide)⟩
  | dci _ e => exact ⟨_, e, notTup_type (by decide)⟩
  | inst _ e c => exact ⟨_, e, notTup_cls fun q => Value.noConfusion (c.symm.trans q)⟩
  | attrs q => obtain ⟨o, es, ep, e, d, _⟩ := q; exact ⟨o, e, notTup_dict d⟩
  | exc _ e c => exact ⟨_, e, notTup_cls fun q => Value.noConfusion (c.symm.trans q)⟩
theorem CellR.mono (x : CellR W h a c) (k : TupKeep h h') (ha : ∀ o, h.get? a = some o → h'.get? a = some o) : CellR W h' a c := by
  cases x with
  | lst z e r => exact .lst z (ha _ e) (r.mono k)
  | dct z e d i n m r q => exact .dct z (ha _ e) d (fun x hx => k.key _ _ (i x hx)) n m (r.mono k) fun x hx => (q x hx).mono k
  | dci z e d i n m r => exact .dci z (ha _ e) d i n m (r.mono k)
  | inst c e c1 c2 c3 => exact .inst c (ha _ e) c1 c2 c3
  | attrs q m n w => exact .attrs (q.at ha) (fun y v hy => let ⟨x, hx, hr⟩ := m y v hy; ⟨x, hx, hr.mono k⟩) n w
  | exc c e c1 c2 => exact .exc c (ha _ e) c1 c2
end

/-- as it was, but for the places that a frame's object bears -/
noncomputable def Kept (o : Obj) (x : Option Obj) : Prop := ∃ sl, x = some { o with slots := sl } ∧ (o.cls ≠ .type "frame" → sl = o.slots)
theorem Kept.same {o : Obj} {x : Option Obj} (e : x = some o) : Kept o x := ⟨o.slots, e, fun _ => rfl⟩
theorem Kept.exact {o : Obj} {x : Option Obj} (k : Kept o x) (hd : o.cls ≠ .type "frame") : x = some o := by
  obtain ⟨sl, e, q⟩ := k
  cases q hd; exact e
theorem Kept.trans {o : Obj} {x y : Option Obj} (k : Kept o x) (l : ∀ o', x = some o' → Kept o' y) : Kept o y := by
  obtain ⟨sl, e, q⟩ := k
  obtain ⟨sl', e', q'⟩ := l _ e
  exact ⟨sl', e', fun hd => (q' hd).trans (q hd)⟩
theorem Kept.ns {h h' : Heap} {a : Addr} {m : Str → Option Value} (hn : h.Ns a m) (k : ∀ o, h.get? a = some o → Kept o (h'.get? a)) : h'.Ns a m := by
  obtain ⟨o, es, ep, ho, q⟩ := hn
  obtain ⟨sl, e, _⟩ := k o ho
  exact ⟨_, es, ep, e, q⟩
theorem Kept.cell {h h' : Heap} {a : Addr} {v : Option Value} (hn : h.IsCell a v) (k : ∀ o, h.get? a = some o → Kept o (h'.get? a)) : h'.IsCell a v := by
  obtain ⟨o, ho, hd⟩ := hn
  obtain ⟨sl, e, _⟩ := k o ho
  exact ⟨_, e, hd⟩

/-- the state bears the abstract heap -/
structure HR (W : Wd) (σ : Hp) (s : Shared) : Prop where
  same : ∃ h tk, s = { W.s₀ with heap := h, toks := tk }
  base : ∀ b o, W.s₀.heap.get? b = some o → s.heap.get? b = some o
  free : ∀ b o, W.s₀.heap.get? b = some o → σ b = none
  cell : ∀ a c, σ a = some c → CellR W s.heap a c

/-- from one state to a later one: what is no part of the abstract heap, nor the frame's own, stays -/
structure Step (W : Wd) (own : List Addr) (σ : Hp) (s : Shared) (σ' : Hp) (s' : Shared) : Prop where
  hr : HR W σ' s'
  keep : ∀ b o, s.heap.get? b = some o → σ b = none → b ∉ own → Kept o (s'.heap.get? b)
  none_ : ∀ b o, s.heap.get? b = some o → σ b = none → σ' b = none
  live : ∀ b o, s.heap.get? b = some o → ∃ o', s'.heap.get? b = some o' ∧ (¬ isTup o → ¬ isTup o')

section
variable {W : Wd} {own : List Addr} {σ σ' σ'' : Hp} {s s' s'' : Shared}
theorem Step.refl (x : HR W σ s) : Step W own σ s σ s := ⟨x, fun _ _ e _ _ => .same e, fun _ _ _ h => h, fun _ o e => ⟨o, e, id⟩⟩
theorem Step.trans (x : Step W own σ s σ' s') (y : Step W own σ' s' σ'' s'') : Step W own σ s σ'' s'' where
  hr := y.hr
  keep b o e h n := (x.keep b o e h n).trans fun o' e' => y.keep b o' e' (x.none_ b o e h) n
  none_ b o e h := let ⟨o', e', _⟩ := x.live b o e; y.none_ b o' e' (x.none_ b o e h)
  live b o e := let ⟨o', e', k⟩ := x.live b o e; let ⟨o'', e'', k'⟩ := y.live b o' e'; ⟨o'', e'', fun t => k' (k t)⟩
theorem Step.weak (x : Step W [] σ s σ' s') : Step W own σ s σ' s' := ⟨x.hr, fun b o e h _ => x.keep b o e h (List.not_mem_nil), x.none_, x.live⟩
theorem Step.exact (x : Step W own σ s σ' s') {b : Addr} {o : Obj} (e : s.heap.get? b = some o) (h : σ b = none) (n : b ∉ own) (hd : o.cls ≠ .type "frame") : s'.heap.get? b = some o := (x.keep b o e h n).exact hd
theorem Step.ns (x : Step W own σ s σ' s') {a : Addr} {m : Str → Option Value} (hn : s.heap.Ns a m) (h : σ a = none) (n : a ∉ own) : s'.heap.Ns a m := Kept.ns hn fun o e => x.keep a o e h n
theorem Step.cell (x : Step W own σ s σ' s') {a : Addr} {v : Option Value} (hn : s.heap.IsCell a v) (h : σ a = none) (n : a ∉ own) : s'.heap.IsCell a v := Kept.cell hn fun o e => x.keep a o e h n

theorem HR.notTup (x : HR W σ s) {a : Addr} {o : Obj} (e : s.heap.get? a = some o) (k : isTup o) : σ a = none := by
  cases hc : σ a with
  | none => rfl
  | some c =>
    obtain ⟨o', ho, hn⟩ := (x.cell a c hc).obj
    exact absurd (Option.some.inj (e.symm.trans ho) ▸ k) hn
theorem HR.fresh (x : HR W σ s) {a : Addr} (e : s.heap.get? a = none) : σ a = none := by
  cases hc : σ a with
  | none => rfl
  | some c => obtain ⟨o', ho, _⟩ := (x.cell a c hc).obj; exact absurd (ho.symm.trans e) (Option.some_ne_none _)
theorem size_none (h : Heap) : h.get? h.objs.size = none := by
  cases e : h.get? h.objs.size with
  | none => rfl
  | some o => exact absurd (PySem.Heap.lt_size e) (Nat.lt_irrefl _)
theorem HR.fresh' (x : HR W σ s) : σ s.heap.objs.size = none := x.fresh (size_none _)
theorem HR.at (x : HR W σ s) (h : Heap) (tk : Nat) : ∃ h' tk', { s with heap := h, toks := tk } = ({ W.s₀ with heap := h', toks := tk' } : Shared) := by
  obtain ⟨h₁, tk₁, e⟩ := x.same; exact ⟨h, tk, by rw [e]⟩

/-- the frame's own objects are there, and no tuples -/
noncomputable def Own (own : List Addr) (h : Heap) : Prop := ∀ b ∈ own, ∃ o, h.get? b = some o ∧ ¬ isTup o
theorem Own.nil (h : Heap) : Own [] h := fun _ hb => by cases hb
theorem tup_nd {o : Obj} (k : isTup o) : o.cls ≠ .type "frame" := fun q => absurd (Value.type.inj (k.1.symm.trans q)) (by decide)
theorem Step.tups (x : Step W own σ s σ' s') (r : HR W σ s) (ow : Own own s.heap) : TupKeep s.heap s'.heap := fun b o e k =>
  x.exact e (r.notTup e k) (fun hb => by obtain ⟨o', e', k'⟩ := ow b hb; exact k' (Option.some.inj (e.symm.trans e') ▸ k)) (tup_nd k)
theorem Step.tup0 (x : Step W [] σ s σ' s') (r : HR W σ s) : TupKeep s.heap s'.heap := x.tups r (Own.nil _)
theorem Step.fresh (x : Step W own σ s σ' s') {b : Addr} (e : s'.heap.get? b = none) : s.heap.get? b = none := by
  cases q : s.heap.get? b with
  | none => rfl
  | some o => obtain ⟨o', e', _⟩ := x.live b o q; exact absurd (e'.symm.trans e) (Option.some_ne_none _)

/-- the heap has grown; the abstract one is as it was -/
theorem HR.grow (x : HR W σ s) {h' : Heap} (k : ∀ b o, s.heap.get? b = some o → h'.get? b = some o) (tk : Nat) (own : List Addr) : Step W own σ s σ { s with heap := h', toks := tk } where
  hr := ⟨x.at h' tk, fun b o e => k b o (x.base b o e), x.free, fun a c hc => (x.cell a c hc).mono (.of k) fun o e => k a o e⟩
  keep b o e _ _ := .same (k b o e)
  none_ _ _ _ h := h
  live b o e := ⟨o, k b o e, id⟩
theorem HR.tok (x : HR W σ s) (tk : Nat) (own : List Addr) : Step W own σ s σ { s with toks := tk } := x.grow (h' := s.heap) (fun _ _ e => e) tk own
theorem ne_get {h : Heap} {a b : Addr} {o : Obj} (e : h.get? b = some o) (n : h.get? a = none) : b ≠ a := fun q => absurd (e.symm.trans (q ▸ n)) (Option.some_ne_none _)

theorem Step.add {D : Addr} {c : Cell} (g : Step W [] σ s σ' s') (r : HR W σ s) (hn : s.heap.get? D = none) (hc : CellR W s'.heap D c) : Step W [] σ s (σ'.set D c) s' where
  hr := ⟨g.hr.same, g.hr.base, fun b o e => (Hp.set_ne _ _ (ne_get (r.base b o e) hn)).trans (g.hr.free b o e), fun a d hd => by
    by_cases hb : a = D
    · subst hb; rw [Hp.set_same] at hd; exact Option.some.inj hd ▸ hc
    · rw [Hp.set_ne _ _ hb] at hd; exact g.hr.cell a d hd⟩
  keep := g.keep
  none_ b o e h := (Hp.set_ne _ _ (ne_get e hn)).trans (g.none_ b o e h)
  live := g.live
/-- a new object of the abstract heap -/
theorem HR.new (x : HR W σ s) {h' : Heap} {a : Addr} {c : Cell} (ha : s.heap.get? a = none) (k : ∀ b o, s.heap.get? b = some o → h'.get? b = some o) (hc : CellR W h' a c) (tk : Nat) :
    Step W [] σ s (σ.set a c) { s with heap := h', toks := tk } := (x.grow k tk []).add x ha hc

theorem tups_but {h h' : Heap} {I : Addr} (k : PySem.Heap.ExtBut I h h') (hI : ∃ o, h.get? I = some o ∧ ¬ isTup o) : TupKeep h h' := fun b o e q => k b o (fun hb => by
  obtain ⟨o', e', n⟩ := hI; exact n (Option.some.inj ((hb ▸ e).symm.trans e') ▸ q)) e

/-- one object is changed: one of the abstract heap, or of the frame's own, or a new one -/
theorem Step.but {own' : List Addr} {σ₂ : Hp} {h' : Heap} {a : Addr} (g : Step W own σ s σ' s') (hnb : W.s₀.heap.get? a = none) (ho : ∃ o, s'.heap.get? a = some o ∧ ¬ isTup o) (k : PySem.Heap.ExtBut a s'.heap h') (ho' : ∀ o, s.heap.get? a = some o → ∃ o, h'.get? a = some o ∧ ¬ isTup o)
    (hσ : ∀ b, b ≠ a → σ₂ b = σ' b) (hcell : ∀ c, σ₂ a = some c → CellR W h' a c)
    (hsub : ∀ b, b ∉ own' → b ∉ own) (hk : ∀ o, s.heap.get? a = some o → σ a = none → a ∈ own' ∧ σ₂ a = none) (tk : Nat) :
    Step W own' σ s σ₂ { s' with heap := h', toks := tk } := by
  have kt := tups_but k ho
  refine ⟨⟨g.hr.at h' tk, fun b o e => k b o (ne_get e hnb) (g.hr.base b o e), fun b o e => (hσ b (ne_get e hnb)).trans (g.hr.free b o e), fun b d hd => ?_⟩, fun b o e h n => ?_, fun b o e h => ?_, fun b o e => ?_⟩
  · by_cases hb : b = a
    · subst hb; exact hcell d hd
    · rw [hσ b hb] at hd; exact (g.hr.cell b d hd).mono kt fun o e => k b o hb e
  · have hb : b ≠ a := fun q => by subst q; exact n (hk o e h).1
    exact (g.keep b o e h (hsub b n)).trans fun o' e' => .same (k b o' hb e')
  · by_cases hb : b = a
    · subst hb; exact (hk o e h).2
    · exact (hσ b hb).trans (g.none_ b o e h)
  · by_cases hb : b = a
    · subst hb; obtain ⟨o', e', n'⟩ := ho' o e; exact ⟨o', e', fun _ => n'⟩
    · obtain ⟨o', e', q⟩ := g.live b o e; exact ⟨o', k b o' hb e', q⟩
theorem HR.notBase (x : HR W σ s) {a : Addr} {c : Cell} (h : σ a = some c) : W.s₀.heap.get? a = none := by
  cases e : W.s₀.heap.get? a with
  | none => rfl
  | some o => exact absurd (h.symm.trans (x.free a o e)) (Option.some_ne_none _)
/-- an object of the abstract heap is changed -/
theorem HR.upd (x : HR W σ s) {h' : Heap} {a : Addr} {c c' : Cell} (ha : σ a = some c) (k : PySem.Heap.ExtBut a s.heap h') (hc : CellR W h' a c') (tk : Nat) (own : List Addr) :
    Step W own σ s (σ.set a c') { s with heap := h', toks := tk } :=
  Step.but (own := own) (.refl x) (x.notBase ha) (x.cell a c ha).obj k (fun _ _ => hc.obj) (fun _ hb => Hp.set_ne _ _ hb) (fun d hd => by rw [Hp.set_same] at hd; exact Option.some.inj hd ▸ hc) (fun _ h => h) (fun _ _ h => absurd (ha.symm.trans h) (Option.some_ne_none _)) tk
/-- an object of the frame's own is changed -/
theorem HR.mine (x : HR W σ s) {h' : Heap} {a : Addr} {own : List Addr} {o' : Obj} (ha : a ∈ own) (ow : Own own s.heap) (hσ : σ a = none) (hb : W.s₀.heap.get? a = none) (k : PySem.Heap.ExtBut a s.heap h') (ho : h'.get? a = some o') (hn : ¬ isTup o') (tk : Nat) :
    Step W own σ s σ { s with heap := h', toks := tk } :=
  Step.but (own := own) (.refl x) hb (ow a ha) k (fun _ _ => ⟨o', ho, hn⟩) (fun _ _ => rfl) (fun c hc => absurd (hc.symm.trans hσ) (Option.some_ne_none _)) (fun _ h => h) (fun _ _ h => ⟨ha, h⟩) tk
theorem HR.nb (r : HR W σ s) {C : Addr} (hn : s.heap.get? C = none) : W.s₀.heap.get? C = none := by
  cases e : W.s₀.heap.get? C with
  | none => rfl
  | some o => exact absurd ((r.base _ _ e).symm.trans hn) (Option.some_ne_none _)
/-- an object that was not there is changed -/
theorem Step.over {C : Addr} {h' : Heap} (g : Step W own σ s σ' s') (r : HR W σ s) (hn : s.heap.get? C = none) (hσ : σ' C = none) (hC : ∃ o, s'.heap.get? C = some o ∧ ¬ isTup o) (k : PySem.Heap.ExtBut C s'.heap h') (tk : Nat) :
    Step W own σ s σ' { s' with heap := h', toks := tk } :=
  Step.but g (r.nb hn) hC k (fun _ e => absurd (e.symm.trans hn) (Option.some_ne_none _)) (fun _ _ => rfl) (fun c hc => absurd (hc.symm.trans hσ) (Option.some_ne_none _)) (fun _ h => h) (fun _ e _ => absurd (e.symm.trans hn) (Option.some_ne_none _)) tk
/-- the frame's own objects were not there -/
theorem Step.shrink {s₁ : Shared} {σ₁ : Hp} (g : Step W [] σ s σ₁ s₁) (x : Step W own σ₁ s₁ σ' s') (hn : ∀ b ∈ own, s.heap.get? b = none) : Step W [] σ s σ' s' where
  hr := x.hr
  keep b o e h _ := (g.keep b o e h List.not_mem_nil).trans fun o' e' => x.keep b o' e' (g.none_ b o e h) fun hb => absurd (e.symm.trans (hn b hb)) (Option.some_ne_none _)
  none_ b o e h := let ⟨o', e', _⟩ := g.live b o e; x.none_ b o' e' (g.none_ b o e h)
  live b o e := let ⟨o₁, e₁, k₁⟩ := g.live b o e; let ⟨o₂, e₂, k₂⟩ := x.live b o₁ e₁; ⟨o₂, e₂, fun t => k₂ (k₁ t)⟩
end
end RS

namespace RS
open PySem (Program World Shared Addr Value Obj Heap Str Around wpAny codeAny model Scope NameKind Expr Stmt FuncData cLine recursionLimit sizeLine mainGlobals builtinsNs PyData)

/-- what comes behind a value -/
noncomputable def Kt (W : Wd) (σ : Hp) (s : Shared) (Q : VP) (P : Value → Shared → Prop) : Prop := ∀ v σ' x s', Q v σ' → Rep W s'.heap v x → Step W [] σ s σ' s' → P x s'
theorem Kt.step {W : Wd} {σ σ₁ : Hp} {s s₁ : Shared} {Q : VP} {P : Value → Shared → Prop} (k : Kt W σ s Q P) (st : Step W [] σ s σ₁ s₁) : Kt W σ₁ s₁ Q P := fun v σ' x s' q r st' => k v σ' x s' q r (st.trans st')

/-- room for k more calls -/
structure Room (A : Around) (k : Nat) : Prop where
  hand : A.handled = none
  units : A.units + 10 * k + 200 < cLine
  depth : A.depth + k < recursionLimit
theorem Room.u {A : Around} {k : Nat} (h : Room A k) (n : Nat) (hn : n ≤ 200) : A.units + n < cLine := by have := h.units; lia
theorem Room.le {A : Around} {k k' : Nat} (h : Room A k') (hk : k ≤ k') : Room A k := ⟨h.hand, by have := h.units; lia, by have := h.depth; lia⟩

/-- what is known of the fixed parts -/
structure WOk (W : Wd) : Prop where
  sys : W.s₀.heap.get? PySem.sysModules ≠ none
  script : ∃ items n, items.size ≤ 1000001 ∧ W.s₀.heap.get? W.sa = some { cls := .type "list", data := .seq items n } ∧ ∀ h, Reps W h (W.ns.map .int) items.toList

noncomputable def opOf : Bop → PySem.Operator
  | .add => .Add | .sub => .Sub | .mul => .Mult | .fdiv => .FloorDiv | .mod => .Mod | .pow => .Pow
noncomputable def cmpOf : Cop → PySem.CmpOp
  | .eq => .Eq | .ne => .NotEq | .lt => .Lt | .le => .LtE | .gt => .Gt | .ge => .GtE | .is => .Is | .isNot => .IsNot | .isIn => .In | .notIn => .NotIn

theorem log_small {a : Int} (h : small a) (h0 : a.natAbs ≠ 0) : a.natAbs.log2 < 64 := (Nat.log2_lt h0).mpr (by unfold small at h; omega)
theorem small_bits {a : Int} (h : small a) : PySem.Builtin.Int.intBits a ≤ PySem.shortFactorBits := by
  unfold PySem.Builtin.Int.intBits
  split
  · exact Nat.zero_le _
  · rename_i h0
    exact Nat.le_trans (Nat.succ_le_succ (Nat.le_of_lt_succ (log_small h (by simpa using h0)))) (by decide)
theorem small_pylong {a b : Int} (h : small b) : PySem.Builtin.divisionGoesByPylong a b = false := by
  unfold PySem.Builtin.divisionGoesByPylong
  dsimp only
  rw [Bool.and_eq_false_iff]
  left
  rw [decide_eq_false_iff_not]
  split
  · decide
  · rename_i h0
    have := log_small h (by simpa using h0)
    lia
theorem sizeLine_is : sizeLine = 16777216 := rfl
theorem fits {n : Nat} (h : n ≤ 1000001) : n ≤ sizeLine := Nat.le_trans h (by decide)
theorem lenOk.fits {n : Nat} (h : lenOk n) : n ≤ 1000001 := Nat.le_succ_of_le h

theorem Str.ofString_ok (t : String) : PyData.strOk (Str.ofString t) = true := by
  unfold PyData.strOk Str.ofString
  rw [PySem.cpsOfBytes_string, Array.all_eq_true']
  intro x hx
  simp only [List.mem_toArray, List.mem_map] at hx
  obtain ⟨c, _, rfl⟩ := hx
  have h := c.valid
  simp only [UInt32.isValidChar, Nat.isValidChar] at h
  have : c.toNat = c.val.toNat := rfl
  simp only [decide_eq_true_eq]
  lia
theorem Str.ofString_inj {a b : String} (h : Str.ofString a = Str.ofString b) : a = b := by
  unfold Str.ofString at h
  rw [PySem.cpsOfBytes_string, PySem.cpsOfBytes_string] at h
  have h' : a.toList.map Char.toNat = b.toList.map Char.toNat := congrArg Array.toList (PySem.Str.mk.inj h)
  exact String.toList_inj.mp ((List.map_inj_right (f := Char.toNat) fun x y e => Char.ext (UInt32.toNat_inj.mp e)).mp h')
theorem Str.ofString_beq (a b : String) : (Str.ofString a == Str.ofString b) = decide (a = b) := by
  by_cases h : a = b
  · subst h; rw [beq_self_eq_true, decide_eq_true rfl]
  · rw [decide_eq_false h, beq_eq_false_iff_ne]; exact fun e => h (Str.ofString_inj e)

section
open PySem PyProof.Rows
end

/-- a list, as it lies -/
inductive LstAt (W : Wd) (h : Heap) (a : Addr) (vs : List V) : Prop
  | mk {items : Array Value} {n : Nat} (z : items.size ≤ 1000001) (e : h.get? a = some { cls := .type "list", data := .seq items n }) (q : Reps W h vs items.toList) (l : vs.length = items.size)

section
variable {W : Wd} {A : Around} {E : Value → Shared → Prop} {s : Shared} {σ : Hp} {Q : VP} {P : Value → Shared → Prop}

theorem HR.lst {a : Nat} {vs : List V} (r : HR W σ s) (h : σ a = some (.lst vs)) : LstAt W s.heap a vs := by
  cases r.cell a _ h with
  | lst z e q => exact ⟨z, e, q, q.len⟩
theorem newSeq {t : String} {xs : List Value} (b : Addr) (o : Obj) (e : s.heap.get? b = some o) : (s.heap.push { cls := .type t, data := .seq xs.toArray }).get? b = some o := PySem.Heap.get?_push_of_some _ e
theorem newList_s {vs : List V} {xs : List Value} (r : HR W σ s) (hl : xs.length ≤ 1000001) (hr : Reps W s.heap vs xs) (h : newP σ (.lst vs) Q) (tk : Nat) (hP : Kt W σ s Q P) :
    P (.ref s.heap.objs.size) { s with heap := s.heap.push { cls := .type "list", data := .seq xs.toArray }, toks := tk } :=
  hP _ _ _ _ (h _ r.fresh') (.ref _) (r.new (size_none _) newSeq (.lst hl (PySem.Heap.get?_push_size _ rfl) (hr.mono (.of newSeq))) tk)
theorem newTuple_s {vs : List V} {xs : List Value} (r : HR W σ s) (hl : xs.length ≤ 1000001) (hr : Reps W s.heap vs xs) (h : Q (.tup vs) σ) (tk : Nat) (hP : Kt W σ s Q P) :
    P (.ref s.heap.objs.size) { s with heap := s.heap.push { cls := .type "tuple", data := .seq xs.toArray }, toks := tk } :=
  hP _ _ _ _ h (Rep.tupI (items := xs.toArray) hl (PySem.Heap.get?_push_size _ rfl) (hr.mono (.of newSeq))) (r.grow newSeq tk [])

theorem bin_sound {op : Bop} {v w : V} {x y : Value} (r : HR W σ s) (hx : Rep W s.heap v x) (hy : Rep W s.heap w y) (h : binP σ Q op v w) (hP : Kt W σ s Q P) :
    wpAny (model W.prog W.w) A (PySem.binaryOp (opOf op) x y) P E s := by
  cases h with
  | add h => obtain ⟨t, rfl⟩ := hx.int_inv; obtain ⟨u, rfl⟩ := hy.int_inv; exact PyProof.Rows.add_int (hP _ _ _ _ h (.int _ _) (r.tok _ _))
  | sub h => obtain ⟨t, rfl⟩ := hx.int_inv; obtain ⟨u, rfl⟩ := hy.int_inv; exact PyProof.Rows.sub_int (hP _ _ _ _ h (.int _ _) (r.tok _ _))
  | mul hs h =>
    obtain ⟨t, rfl⟩ := hx.int_inv; obtain ⟨u, rfl⟩ := hy.int_inv
    refine PyProof.Rows.mul_int (hP _ _ _ _ h (.int _ _) (r.tok _ _)) ?_
    unfold PySem.IntMulOk
    rw [Bool.and_eq_true, Bool.and_eq_true, decide_eq_true_eq, decide_eq_true_eq]
    exact fun q => hs.elim (fun hs => absurd q.1.1 (Nat.not_lt.mpr (small_bits hs))) fun hs => absurd q.1.2 (Nat.not_lt.mpr (small_bits hs))
  | fdiv h0 hs h =>
    obtain ⟨t, rfl⟩ := hx.int_inv; obtain ⟨u, rfl⟩ := hy.int_inv
    refine PyProof.Rows.floordiv_int (Int.ne_of_gt h0) ?_ (.inl (small_pylong hs))
    rw [Int.fdiv_eq_ediv_of_nonneg _ (Int.le_of_lt h0)]
    exact hP _ _ _ _ h (.int _ _) (r.tok _ _)
  | mod h0 h =>
    obtain ⟨t, rfl⟩ := hx.int_inv; obtain ⟨u, rfl⟩ := hy.int_inv
    refine PyProof.Rows.mod_int' (Int.ne_of_gt h0) ?_
    rw [Int.fmod_eq_emod_of_nonneg _ (Int.le_of_lt h0)]
    exact hP _ _ _ _ h (.int _ _) (r.tok _ _)
  | pow hs h0 h1 h =>
    obtain ⟨t, rfl⟩ := hx.int_inv; obtain ⟨u, rfl⟩ := hy.int_inv
    exact PyProof.Rows.pow_int_small h0 (by lia) (by unfold small at hs; (clear h1 h0; omega)) (hP _ _ _ _ h (.int _ _) (r.tok _ _))
  | cat ha hb hl h =>
    cases hx.ref_inv; cases hy.ref_inv
    obtain @⟨items, n, z, e, q, l⟩ := r.lst ha
    obtain @⟨items2, n2, z2, e2, q2, l2⟩ := r.lst hb
    rw [l, l2] at hl
    refine PySem.P.add_list e e2 ?_ (fits hl.fits)
    rw [show items ++ items2 = (items.toList ++ items2.toList).toArray from by rw [List.append_toArray]]
    exact newList_s r (by rw [List.length_append]; exact hl.fits) (q.append q2) h s.toks hP

/-! ### data, compared -/
theorem optAll_cons {α β : Type} {f : α → Option β} {a : α} {l : List α} {r : List β} (h : optAll f (a :: l) = some r) : ∃ b s, f a = some b ∧ optAll f l = some s ∧ r = b :: s := by
  change (f a).bind (fun b => (optAll f l).map (b :: ·)) = some r at h
  cases e : f a with
  | none => rw [e] at h; cases h
  | some b =>
    rw [e] at h
    cases e' : optAll f l with
    | none => rw [Option.bind_some, e'] at h; cases h
    | some s => rw [Option.bind_some, e'] at h; cases h; exact ⟨b, s, rfl, rfl, rfl⟩
theorem optAll_length {α β : Type} {f : α → Option β} {l : List α} : ∀ {r : List β}, optAll f l = some r → l.length = r.length := by
  induction l with
  | nil => intro r h; cases h; rfl
  | cons a l ih => intro r h; obtain ⟨b, s, _, hs, rfl⟩ := optAll_cons h; exact congrArg (· + 1) (ih hs)

inductive Rd (h : Heap) (n : Nat) (x : Value) (d : PyData) : Prop
  | mk {as : List Addr} (r : PySem.Reads h x d as) (c : d.canLay0 = true) (l : d.depth ≤ n)
inductive Rds (h : Heap) (n : Nat) (xs : List Value) (ds : List PyData) : Prop
  | mk {as : List Addr} (r : PySem.ReadsAll h xs ds as) (c : PyData.canLayAll0 ds = true) (l : PyData.depthAll ds ≤ n)
theorem snaps_reads {n : Nat} {rec : V → Option PyData} (IH : ∀ (v : V) (d : PyData) (x : Value), rec v = some d → Rep W s.heap v x → Rd s.heap n x d) :
    ∀ (vs : List V) (ds : List PyData) (xs : List Value), optAll rec vs = some ds → Reps W s.heap vs xs → Rds s.heap n xs ds := by
  intro vs
  induction vs with
  | nil => intro ds xs h q; cases h; cases q.nil_inv; exact ⟨.nil, rfl, Nat.zero_le _⟩
  | cons v vs ih =>
    intro ds xs h q
    obtain ⟨d, ds', hd, hds, rfl⟩ := optAll_cons h
    obtain ⟨x, xs', rfl, r, q'⟩ := q.cons_inv
    obtain ⟨r1, c, l⟩ := IH _ _ _ hd r
    obtain ⟨rs, cs, ls⟩ := ih _ _ hds q'
    exact ⟨.cons r1 rs, by show (d.canLay0 && PyData.canLayAll0 ds') = true; rw [c, cs]; rfl, Nat.max_le.mpr ⟨l, ls⟩⟩
theorem snap1_reads (r : HR W σ s) {n : Nat} {rec : V → Option PyData} (IH : ∀ (v : V) (d : PyData) (x : Value), rec v = some d → Rep W s.heap v x → Rd s.heap n x d) (v : V) (d : PyData) (x : Value) (h : snap1 σ rec v = some d) (q : Rep W s.heap v x) :
    Rd s.heap (n + 1) x d := by
  cases q with
  | none => cases h; exact ⟨.none, rfl, Nat.zero_le _⟩
  | bool b => cases h; exact ⟨.bool _, rfl, Nat.zero_le _⟩
  | int i t => cases h; exact ⟨.int _ _, rfl, Nat.zero_le _⟩
  | str i t => cases h; exact ⟨.str _ _, Str.ofString_ok _, Nat.zero_le _⟩
  | @tup vs a items n z e l q =>
    change (optAll rec vs).map PyData.tuple = some d at h
    cases e' : optAll rec vs with
    | none => rw [e'] at h; cases h
    | some ds =>
      rw [e'] at h; cases h
      obtain ⟨rs, c, l⟩ := snaps_reads IH _ _ _ e' ⟨l, q⟩
      exact ⟨.tuple e rfl rfl rs, c, Nat.succ_le_succ l⟩
  | ref a =>
    have h' : (match σ a with | some (.lst vs) => (optAll rec vs).map PyData.list | _ => none) = some d := h
    cases ha : σ a with
    | none => rw [ha] at h'; cases h'
    | some c =>
      cases c with
      | lst vs =>
        rw [ha] at h'
        change (optAll rec vs).map PyData.list = some d at h'
        cases e' : optAll rec vs with
        | none => rw [e'] at h'; cases h'
        | some ds =>
          rw [e'] at h'; cases h'
          obtain ⟨z, e, q, l⟩ := r.lst ha
          obtain ⟨rs, c, l⟩ := snaps_reads IH _ _ _ e' q
          exact ⟨.list e rfl rfl rs, c, Nat.succ_le_succ l⟩
      | _ => rw [ha] at h'; cases h'
  | _ => cases h
theorem snap_reads (r : HR W σ s) (n : Nat) : ∀ (v : V) (d : PyData) (x : Value), snap σ n v = some d → Rep W s.heap v x → Rd s.heap (n + 1) x d := by
  induction n with
  | zero => exact snap1_reads r fun _ _ _ h => by cases h
  | succ n ih => exact snap1_reads r ih

theorem eq_sound {v w : V} {x y : Value} {k : Nat} (hA : Room A k) (r : HR W σ s) (hx : Rep W s.heap v x) (hy : Rep W s.heap w y) {B : Bool → Prop} (h : eqP σ B v w) (hP : ∀ b, B b → P (.bool b) s) :
    wpAny (model W.prog W.w) A (PySem.compareOp .Eq x y) P E s := by
  cases h with
  | int h => obtain ⟨t, rfl⟩ := hx.int_inv; obtain ⟨u, rfl⟩ := hy.int_inv; exact PyProof.Rows.eq_int (hP _ h)
  | str h =>
    obtain ⟨t, rfl⟩ := hx.str_inv; obtain ⟨u, rfl⟩ := hy.str_inv
    refine PyProof.Rows.eq_str ?_
    rw [Str.ofString_beq]; exact hP _ h
  | gen hd he hb =>
    obtain ⟨ra, ca, la⟩ := snap_reads r 50 _ _ _ hd hx
    obtain ⟨rb, cb, _⟩ := snap_reads r 50 _ _ _ he hy
    exact PySem.SeqAt.compareEq_reads ra rb ca cb (hA.u _ (Nat.le_trans (Nat.le_trans (Nat.min_le_left _ _) la) (by decide))) (hP _ hb)
theorem ne_sound {v w : V} {x y : Value} {k : Nat} (hA : Room A k) (r : HR W σ s) (hx : Rep W s.heap v x) (hy : Rep W s.heap w y) {B : Bool → Prop} (h : eqP σ (fun b => B (!b)) v w) (hP : ∀ b, B b → P (.bool b) s) :
    wpAny (model W.prog W.w) A (PySem.compareOp .NotEq x y) P E s := by
  cases h with
  | int h => obtain ⟨t, rfl⟩ := hx.int_inv; obtain ⟨u, rfl⟩ := hy.int_inv; exact PyProof.Rows.ne_int (hP _ h)
  | str h =>
    obtain ⟨t, rfl⟩ := hx.str_inv; obtain ⟨u, rfl⟩ := hy.str_inv
    refine PyProof.Rows.ne_str ?_
    rw [bne, Str.ofString_beq]; exact hP _ h
  | gen hd he hb =>
    obtain ⟨ra, ca, la⟩ := snap_reads r 50 _ _ _ hd hx
    obtain ⟨rb, cb, _⟩ := snap_reads r 50 _ _ _ he hy
    exact PySem.SeqAt.compareNe_reads ra rb ca cb (hA.u _ (Nat.le_trans (Nat.le_trans (Nat.min_le_left _ _) la) (by decide))) (hP _ hb)

theorem ints_ind {h : Heap} {I : List Value → List Int → Prop} (h0 : I [] []) (h1 : ∀ i t xs ks, I xs ks → I (.int i t :: xs) (i :: ks)) (ks : List Int) : ∀ xs : List Value, Reps W h (ks.map .int) xs → I xs ks := by
  induction ks with
  | nil => intro xs q; cases q.nil_inv; exact h0
  | cons k ks ih =>
    intro xs q
    obtain ⟨x, xs', rfl, r, q'⟩ := q.cons_inv
    obtain ⟨t, rfl⟩ := r.int_inv
    exact h1 _ _ _ _ (ih _ q')
theorem V.key_of {v : V} {k : List Int} (h : v.key = some k) : v = kv k := by
  cases v with
  | tup vs => rw [show vs = k.map .int from V.ints_of h]; rfl
  | _ => cases h
/-- a key of numbers, as it lies -/
theorem key_tuple {v : V} {x : Value} {l : List Int} (hv : v.key = some l) (hx : Rep W s.heap v x) : ∃ a, x = .ref a ∧ (tk W).is s.heap l a := by
  rw [V.key_of hv] at hx
  obtain ⟨a, items, n, rfl, z, e, q⟩ := hx.tup_inv
  exact ⟨a, rfl, _, _, _, e, rfl, rfl, ints_ind (I := fun xs ks => PySem.ItemsAre (ik W) ks xs) .nil (fun i t xs ks q => .cons (by simp [PySem.intKind, Value.isInt]) q) l _ q⟩

/-- a dict by tuples, as it lies -/
inductive DctAt (W : Wd) (h : Heap) (a : Addr) (es : List (List Int × V)) (ep : Nat) : Prop
  | mk {des : Array PySem.DictEntry} {xs : List (List Int × Addr × Value)} (z : xs.length ≤ 1000001) (e : h.get? a = some { cls := .type "dict", data := .dict des ep }) (D : h.DictOfH (tk W) a xs)
      (d : des.toList = xs.map (PySem.entryOfKey (tk W))) (i : ∀ x ∈ xs, (tk W).is h x.1 x.2.1) (n : (xs.map (·.1)).Nodup) (m : es.map (·.1) = xs.map (·.1)) (q : Reps W h (es.map (·.2)) (xs.map (·.2.2))) (rk : ∀ x ∈ xs, Rep W h (kv x.1) (.ref x.2.1)) (l : es.length = xs.length) (dl : des.size = xs.length)
theorem HR.dct {a : Nat} {es : List (List Int × V)} {ep : Nat} (r : HR W σ s) (h : σ a = some (.dct es ep)) : DctAt W s.heap a es ep := by
  cases r.cell a _ h with
  | dct z e d i n m q rk => exact ⟨z, e, ⟨_, _, _, e, ⟨rfl, rfl, rfl⟩, rfl, d, i, n⟩, d, i, n, m, q, rk, by have := congrArg List.length m; rwa [List.length_map, List.length_map] at this, PySem.size_of_entries d⟩

/-- what is found under a key -/
theorem dget_at {h : Heap} (k : List Int) : ∀ {es : List (List Int × V)} {xs : List (List Int × Addr × Value)} (_ : es.map (·.1) = xs.map (·.1)) (_ : Reps W h (es.map (·.2)) (xs.map (·.2.2))),
    (dget es k = none ∧ PySem.atKey xs k = none) ∨ ∃ v p, dget es k = some v ∧ PySem.atKey xs k = some p ∧ Rep W h v p.2 := by
  intro es
  induction es with
  | nil => intro xs e q; cases xs with
    | nil => exact .inl ⟨rfl, rfl⟩
    | cons x xs => cases e
  | cons y es ih => intro xs e q; cases xs with
    | nil => cases e
    | cons x xs =>
      obtain ⟨k₁, v⟩ := y
      obtain ⟨k₂, p⟩ := x
      obtain ⟨h1, h2⟩ := List.cons.inj e
      obtain rfl : k₁ = k₂ := h1
      obtain ⟨_, _, e', r, q'⟩ := q.cons_inv
      obtain ⟨rfl, rfl⟩ := List.cons.inj e'
      by_cases hk : k₁ = k
      · subst hk; exact .inr ⟨v, p, by simp [dget], by simp [PySem.atKey], r⟩
      · have := ih h2 q'
        simpa only [dget, PySem.atKey, List.find?_cons, hk, decide_false] using this
theorem dget_isSome {h : Heap} {es : List (List Int × V)} {xs : List (List Int × Addr × Value)} (e : es.map (·.1) = xs.map (·.1)) (q : Reps W h (es.map (·.2)) (xs.map (·.2.2))) (k : List Int) : (dget es k).isSome = (PySem.atKey xs k).isSome := by
  rcases dget_at k e q with ⟨h1, h2⟩ | ⟨v, p, h1, h2, _⟩ <;> rw [h1, h2] <;> rfl
theorem HR.notSys (r : HR W σ s) (hW : WOk W) {a : Nat} {c : Cell} (h : σ a = some c) : (a == PySem.sysModules) = false := by
  rw [beq_eq_false_iff_ne]
  exact fun e => hW.sys (e ▸ r.notBase h)
theorem Room.kr {k : Nat} (hA : Room A k) : (tk W).room A.in1 := PySem.tupleKind_room_in1 (hA.u 1 (by decide))

/-- a dict with ints for keys, as it lies -/
theorem HR.dci {a : Nat} {es : List (Int × V)} {ep : Nat} (r : HR W σ s) (h : σ a = some (.dci es ep)) : ∃ xs : List (Int × Value), s.heap.DictOf (ik W) a xs ∧ es.map (·.1) = xs.map (·.1) ∧ Reps W s.heap (es.map (·.2)) (xs.map (·.2)) ∧ xs.length ≤ 1000001 ∧ ∃ des, s.heap.get? a = some { cls := .type "dict", data := .dict des ep } := by
  cases r.cell a _ h with
  | dci z e d i n m q => exact ⟨_, ⟨_, _, _, e, ⟨rfl, rfl, rfl⟩, rfl, d, i, n⟩, m, q, z, _, e⟩
theorem dgi_at {h : Heap} (k : Int) : ∀ {es : List (Int × V)} {xs : List (Int × Value)} (_ : es.map (·.1) = xs.map (·.1)) (_ : Reps W h (es.map (·.2)) (xs.map (·.2))),
    (dget es k = none ∧ PySem.valueAt xs k = none) ∨ ∃ v p, dget es k = some v ∧ PySem.valueAt xs k = some p ∧ Rep W h v p := by
  intro es
  induction es with
  | nil => intro xs e q; cases xs with
    | nil => exact .inl ⟨rfl, rfl⟩
    | cons x xs => cases e
  | cons y es ih => intro xs e q; cases xs with
    | nil => cases e
    | cons x xs =>
      obtain ⟨k₁, v⟩ := y
      obtain ⟨k₂, p⟩ := x
      obtain ⟨h1, h2⟩ := List.cons.inj e
      obtain rfl : k₁ = k₂ := h1
      obtain ⟨_, _, e', r, q'⟩ := q.cons_inv
      obtain ⟨rfl, rfl⟩ := List.cons.inj e'
      by_cases hk : k₁ = k
      · subst hk; exact .inr ⟨v, p, by simp [dget], by simp [PySem.valueAt], r⟩
      · have := ih h2 q'
        simpa only [dget, PySem.valueAt, List.find?_cons, hk, decide_false] using this
theorem in_dci {a : Nat} {es : List (Int × V)} {ep : Nat} {k : Int} {t : PySem.Tok} (hW : WOk W) (r : HR W σ s) (ha : σ a = some (.dci es ep)) (hP : P (.bool (dget es k).isSome) { s with toks := s.toks + 1 }) :
    wpAny (model W.prog W.w) A (PySem.compareOp .In (.int k t) (.ref a)) P E s := by
  obtain ⟨xs, D, m, q, _⟩ := r.dci ha
  refine PySem.wpAny_in_of (knd := ik W) (k := k) (by simp [PySem.intKind, Value.isInt]) (r.notSys hW ha) D.mapOf ?_
  have : (dget es k).isSome = (PySem.valueAt xs k).isSome := by
    rcases dgi_at k m q with ⟨h1, h2⟩ | ⟨v, p, h1, h2, _⟩ <;> rw [h1, h2] <;> rfl
  rw [← this]
  exact hP
theorem get_dci {a : Nat} {es : List (Int × V)} {ep : Nat} {k : Int} {t : PySem.Tok} {v : V} (r : HR W σ s) (ha : σ a = some (.dci es ep)) (hv : dget es k = some v) (hP : ∀ p, Rep W s.heap v p → P p { s with toks := s.toks + 1 }) :
    wpAny (model W.prog W.w) A (PySem.getItem (.ref a) (.int k t)) P E s := by
  obtain ⟨xs, D, m, q, _⟩ := r.dci ha
  rcases dgi_at k m q with ⟨h1, _⟩ | ⟨v', p, h1, h2, rv⟩
  · exact absurd (hv.symm.trans h1) (Option.some_ne_none _)
  · obtain rfl := Option.some.inj (hv.symm.trans h1)
    exact PySem.wpAny_getItem_of (knd := ik W) (k := k) (by simp [PySem.intKind, Value.isInt]) D.mapOf h2 (hP p rv)
/-- what lies when a value was stored -/
theorem stored_dci {h h' : Heap} {a : Nat} {es : List (Int × V)} {xs : List (Int × Value)} {k : Int} {v : V} {x : Value} (m : es.map (·.1) = xs.map (·.1)) (q : Reps W h (es.map (·.2)) (xs.map (·.2))) (hl : es.length ≤ 1000000) (hv : Rep W h v x) (kt : TupKeep h h') (D : h'.DictOf (ik W) a (PySem.stored xs k x)) :
    ∃ ep', CellR W h' a (.dci (dput es k v) ep') := by
  obtain ⟨o, des, ep', ho, ⟨o1, o2, o3⟩, hd, hk, hp, hn⟩ := D
  have hl' : es.length = xs.length := by have := congrArg List.length m; rwa [List.length_map, List.length_map] at this
  have main : ∀ {es : List (Int × V)} {xs : List (Int × Value)}, es.map (·.1) = xs.map (·.1) → Reps W h (es.map (·.2)) (xs.map (·.2)) → (dput es k v).map (·.1) = (PySem.stored xs k x).map (·.1) ∧ Reps W h ((dput es k v).map (·.2)) ((PySem.stored xs k x).map (·.2)) := by
    intro es xs m q
    have hs : (dget es k).isSome = xs.any fun kv => decide (kv.1 = k) := by
      clear q
      induction es generalizing xs with
      | nil => cases xs with
        | nil => rfl
        | cons _ _ => cases m
      | cons y es ih => cases xs with
        | nil => cases m
        | cons z xs =>
          obtain ⟨h1, h2⟩ := List.cons.inj m
          have := ih h2
          by_cases e : z.1 = k
          · have e' : y.1 = k := h1.trans e
            simp [dget, e, e']
          · have e' : ¬ y.1 = k := fun q => e (h1.symm.trans q)
            simpa [dget, e, e'] using this
    unfold dput PySem.stored
    by_cases hc : (dget es k).isSome = true
    · rw [if_pos hc, if_pos (hs ▸ hc)]
      clear hs hc
      induction es generalizing xs with
      | nil => cases xs with
        | nil => exact ⟨rfl, q⟩
        | cons _ _ => cases m
      | cons y es ih => cases xs with
        | nil => cases m
        | cons z xs =>
          obtain ⟨h1, h2⟩ := List.cons.inj m
          obtain ⟨_, _, e', r, q'⟩ := q.cons_inv
          obtain ⟨rfl, rfl⟩ := List.cons.inj e'
          obtain ⟨i1, i2⟩ := ih h2 q'
          have h1 : y.1 = z.1 := h1
          refine ⟨?_, ?_⟩
          · simp only [List.map_cons]
            rw [i1]
            congr 1
            rw [h1]
            split <;> first | rfl | exact h1
          · simp only [List.map_cons]
            refine .cons ?_ i2
            rw [h1]
            split
            · exact hv
            · exact r
    · rw [if_neg hc, if_neg (fun e => hc (hs ▸ e))]
      refine ⟨by rw [List.map_append, List.map_append, m]; rfl, ?_⟩
      rw [List.map_append, List.map_append]
      exact q.append (.one hv)
  obtain ⟨m', q'⟩ := main m q
  have hsl : (PySem.stored xs k x).length ≤ 1000001 := by
    unfold PySem.stored
    split
    · rw [List.length_map]; lia
    · rw [List.length_append, List.length_singleton]; lia
  refine ⟨ep', .dci (des := des) hsl ?_ hk hp hn m' (q'.mono kt)⟩
  obtain ⟨c, d, dt, sl⟩ := o
  dsimp only at o1 o2 o3 hd
  subst o1 o2 o3 hd
  exact ho
theorem set_dci {a : Nat} {es : List (Int × V)} {ep : Nat} {k : Int} {t : PySem.Tok} {v : V} {x : Value} {N : Hp → Prop} {R : Unit → Shared → Prop} (r : HR W σ s) (ha : σ a = some (.dci es ep)) (hl : lenOk es.length) (hv : Rep W s.heap v x) (hN : ∀ ep', N (σ.set a (.dci (dput es k v) ep')))
    (h : ∀ σ' s', N σ' → Step W [] σ s σ' s' → R () s') : wpAny (model W.prog W.w) A (PySem.setItem (.ref a) (.int k t) x) R E s := by
  obtain ⟨xs, D, m, q, z, des, e⟩ := r.dci ha
  have hl' : es.length = xs.length := by have := congrArg List.length m; rwa [List.length_map, List.length_map] at this
  refine PySem.wpAny_setItem_pairs (knd := ik W) (k := k) (by simp [PySem.intKind, Value.isInt]) D (fun h' hm' hs' => ?_) (fits (hl' ▸ hl.fits))
  have kt : TupKeep s.heap h' := tups_but hs'.extBut ⟨_, e, notTup_type (by decide)⟩
  obtain ⟨ep', hc⟩ := stored_dci m q hl hv kt hm'
  exact h _ _ (hN ep') (r.upd ha hs'.extBut hc _ [])

theorem in_sound {v w : V} {x y : Value} {k : Nat} (hA : Room A k) (hW : WOk W) (r : HR W σ s) (hx : Rep W s.heap v x) (hy : Rep W s.heap w y) {B : Bool → Prop} (h : inP σ B v w)
    (hP : ∀ b tk, B b → P (.bool b) { s with toks := tk }) : wpAny (model W.prog W.w) A (PySem.compareOp .In x y) P E s := by
  cases h with
  | lst ha hd hds hb =>
    cases hy.ref_inv
    obtain ⟨z, e, q, l⟩ := r.lst ha
    obtain ⟨rx, cx, lx⟩ := snap_reads r 40 _ _ _ hd hx
    obtain ⟨rs, cs, _⟩ := snaps_reads (snap_reads r 40) _ _ _ hds q
    exact PySem.SeqAt.in_list_reads (.list e rfl rfl rs) rx cs cx (Nat.add_assoc A.units 1 _ ▸ hA.u _ (Nat.le_trans (Nat.add_le_add_left (Nat.le_trans (Nat.min_le_right _ _) lx) 1) (by decide))) (hP _ s.toks hb)
  | dct ha hk hb =>
    cases hy.ref_inv
    obtain ⟨z, e, D, d, i, n, m, q, rk, l, dl⟩ := r.dct ha
    obtain ⟨b, rfl, kb⟩ := key_tuple hk hx
    refine PySem.wpAny_in_heap hA.kr kb (r.notSys hW ha) D ?_
    rw [← dget_isSome m q]
    exact hP _ _ hb
  | dci ha hb =>
    cases hy.ref_inv
    obtain ⟨t, rfl⟩ := hx.int_inv
    exact in_dci hW r ha (hP _ _ hb)

theorem notIn_of {x y : Value} {M : PySem.Model} (h : wpAny M A (PySem.compareOp .In x y) (fun v s' => ∀ b, v = .bool b → P (.bool (!b)) s') E s) : wpAny M A (PySem.compareOp .NotIn x y) P E s := fun Γ p hΓ => by
  have := h Γ p hΓ
  simp only [PySem.compareOp, PySem.Sem.wp_bind', PySem.Sem.wp_pure'] at this ⊢
  exact PySem.Sem.wp_mono M Γ _ (fun b p' s' q => q b rfl) (fun _ _ _ q => q) _ _ this
theorem isNone_rep {v : V} {x : Value} {h : Heap} (hx : Rep W h v x) : (x == Value.none) = v.isNone := by cases hx <;> rfl

theorem cmp_sound {op : Cop} {v w : V} {x y : Value} {k : Nat} (hW : WOk W) (hA : Room A k) (r : HR W σ s) (hx : Rep W s.heap v x) (hy : Rep W s.heap w y) {B : Bool → Prop} (h : cmpP σ B op v w)
    (hP : ∀ b tk, B b → P (.bool b) { s with toks := tk }) : wpAny (model W.prog W.w) A (PySem.compareOp (cmpOf op) x y) P E s := by
  have hP' : ∀ b, B b → P (.bool b) s := fun b hb => hP b s.toks hb
  cases h with
  | eq h => exact eq_sound hA r hx hy h hP'
  | ne h => exact ne_sound hA r hx hy h hP'
  | lt h => obtain ⟨t, rfl⟩ := hx.int_inv; obtain ⟨u, rfl⟩ := hy.int_inv; exact PyProof.Rows.lt_int (hP' _ h)
  | le h => obtain ⟨t, rfl⟩ := hx.int_inv; obtain ⟨u, rfl⟩ := hy.int_inv; exact PyProof.Rows.le_int (hP' _ h)
  | gt h => obtain ⟨t, rfl⟩ := hx.int_inv; obtain ⟨u, rfl⟩ := hy.int_inv; exact PyProof.Rows.gt_int (hP' _ h)
  | ge h => obtain ⟨t, rfl⟩ := hx.int_inv; obtain ⟨u, rfl⟩ := hy.int_inv; exact PyProof.Rows.ge_int (hP' _ h)
  | is h =>
    cases hy.none_inv
    refine PyProof.Rows.is_none_gen ?_
    rw [isNone_rep hx]; exact hP' _ h
  | isNot h =>
    cases hy.none_inv
    have e : PySem.compareOp .IsNot x .none = pure (.bool (!(x == .none))) := by
      show (do return Value.bool (!(← PySem.isSame x .none))) = _
      rw [PySem.isSame_none]; rfl
    show wpAny _ _ (PySem.compareOp .IsNot x .none) _ _ _
    rw [e, isNone_rep hx]
    exact PySem.wpAny_pure (hP' _ h)
  | isIn h => exact in_sound hA hW r hx hy h hP
  | notIn h => exact notIn_of (in_sound (B := fun b => B (!b)) hA hW r hx hy h fun b tk hb b' e => by cases e; exact hP _ _ hb)

/-! ### subscripts -/
theorem pyGet_at {α : Type} {vs : List α} {k : Int} {v : α} (h : pyGet vs k = some v) : ∃ j, PySem.seqIndex? k vs.length = some j ∧ vs[j]? = some v ∧ -(vs.length : Int) ≤ k ∧ k < vs.length := by
  unfold pyGet at h
  unfold PySem.seqIndex?
  split at h
  · rename_i h0
    have hl := (List.getElem?_eq_some_iff.mp h).1
    refine ⟨k.toNat, ?_, h, by (clear hl; lia), by (clear h0; lia)⟩
    have h1 : ¬ k < 0 := by lia
    have h2 : k < (vs.length : Int) := by omega
    simp [h1, h0, h2]
  · rename_i h0
    split at h
    · rename_i h1
      have hl := (List.getElem?_eq_some_iff.mp h).1
      refine ⟨(k + vs.length).toNat, ?_, h, by (clear hl h0; lia), by (clear hl h1; lia)⟩
      have h2 : k < 0 := by lia
      have h3 : k + (vs.length : Int) < vs.length := by lia
      simp [h1, h2, h3]
    · cases h
theorem pyGet_map {α β : Type} (f : α → β) {vs : List α} {k : Int} {v : α} (h : pyGet vs k = some v) : pyGet (vs.map f) k = some (f v) := by
  unfold pyGet at h ⊢
  rw [List.length_map, List.getElem?_map, List.getElem?_map]
  split at h
  · rename_i h0; rw [if_pos h0, h]; rfl
  · rename_i h0
    rw [if_neg h0]
    split at h
    · rename_i h1; rw [if_pos h1, h]; rfl
    · cases h

theorem getList_sound {a : Addr} {items : Array Value} {n : Nat} {vs : List V} {k : Int} {v : V} {tk : Nat} (r : HR W σ s) (z : items.size ≤ 1000001) (e : s.heap.get? a = some { cls := .type "list", data := .seq items n }) (q : Reps W s.heap vs items.toList) (hv : pyGet vs k = some v) (hq : Q v σ) (hP : Kt W σ s Q P) :
    wpAny (model W.prog W.w) A (PySem.getItem (.ref a) (.int k tk)) P E s := by
  have hl : vs.length = items.size := q.len
  have hL : s.heap.IsList a items := ⟨_, e, rfl, n, rfl⟩
  unfold pyGet at hv
  split at hv
  · rename_i h0
    obtain ⟨y, hy, ry⟩ := q.get hv
    have hb := (List.getElem?_eq_some_iff.mp hv).1
    exact PySem.wpAny_getItem_list hL h0 (by (clear h0; lia)) (by rwa [← Array.getElem?_toList]) (hP _ _ _ _ hq ry (.refl r))
  · rename_i h0
    split at hv
    · rename_i h1
      obtain ⟨y, hy, ry⟩ := q.get hv
      rw [hl] at hy h1
      exact PySem.wpAny_getItem_list_neg hL (Int.lt_of_not_ge h0) (by lia) (by lia) (by rwa [← Array.getElem?_toList]) (hP _ _ _ _ hq ry (.refl r))
    · cases hv

theorem idx_sound {g : Glb} {o i : V} {x y : Value} {k : Nat} {value slice : Expr} (hg : g.ns = W.ns) (hW : WOk W) (hA : Room A k) (r : HR W σ s) (hx : Rep W s.heap o x) (hy : Rep W s.heap i y) (h : idxP g σ Q o i) (hP : Kt W σ s Q P)
    (hs : ∃ ops, PySem.subscripted slice false x y = PySem.operate ops (PySem.getItem x y)) : wpAny (model W.prog W.w) A (PyProof.Rows.subscriptTail value slice x y) P E s := by
  obtain ⟨ops, hs⟩ := hs
  cases h with
  | tup hv hq =>
    obtain ⟨t, rfl⟩ := hy.int_inv
    obtain ⟨a, items, n, rfl, z, e, q⟩ := hx.tup_inv
    obtain ⟨j, hj, hjv, lo, hi⟩ := pyGet_at hv
    obtain ⟨y', hy', ry⟩ := q.get hjv
    have hl := q.len.trans Array.length_toList
    rw [hl] at hj lo hi
    exact PyProof.Rows.tail_any ⟨_, e, rfl⟩ PySem.F.slot_tuple_getitem.lookup (PySem.P.getItem_tuple e (by lia) (by lia) hj (by rwa [← Array.getElem?_toList]) (hP _ _ _ _ hq ry (.refl r))) hs
  | script hv hq =>
    obtain ⟨t, rfl⟩ := hy.int_inv
    cases hx.script_inv
    obtain ⟨items, n, z, e, q⟩ := hW.script
    have e' := r.base _ _ e
    rw [hg] at hv
    exact PyProof.Rows.tail_any ⟨_, e', rfl⟩ PySem.slot_list_getitem.lookup (getList_sound r z e' (q _) (pyGet_map V.int hv) hq hP) hs
  | lst ha hv hq =>
    obtain ⟨t, rfl⟩ := hy.int_inv
    cases hx.ref_inv
    obtain ⟨z, e, q, l⟩ := r.lst ha
    exact PyProof.Rows.tail_any ⟨_, e, rfl⟩ PySem.slot_list_getitem.lookup (getList_sound r z e q hv hq hP) hs
  | dct ha hk hv hq =>
    cases hx.ref_inv
    obtain ⟨z, e, D, d, i, n, m, q, rk, l, dl⟩ := r.dct ha
    obtain ⟨b, rfl, kb⟩ := key_tuple hk hy
    rcases dget_at _ m q with ⟨h1, _⟩ | ⟨v', p, h1, h2, rv⟩
    · exact absurd (hv.symm.trans h1) (Option.some_ne_none _)
    · obtain rfl := Option.some.inj (hv.symm.trans h1)
      exact PyProof.Rows.tail_any ⟨_, e, rfl⟩ PySem.slot_dict_getitem.lookup (PySem.wpAny_getItem_heap hA.kr kb D h2 (hP _ _ _ _ hq rv (r.tok _ _))) hs
  | dci ha hv hq =>
    cases hx.ref_inv
    obtain ⟨t, rfl⟩ := hy.int_inv
    obtain ⟨_, _, _, _, _, _, e⟩ := r.dci ha
    exact PyProof.Rows.tail_any ⟨_, e, rfl⟩ PySem.slot_dict_getitem.lookup (get_dci r ha hv fun p rp => hP _ _ _ _ hq rp (r.tok _ _)) hs
end
end RS

namespace RS
open PySem (Program World Shared Addr Value Obj Heap Str Around wpAny codeAny model Scope NameKind Expr Stmt FuncData cLine recursionLimit sizeLine mainGlobals builtinsNs PyData DictEntry Walks)
open PySem PyProof.Rows

/-! ## over the keys of a dict, whatever they are -/
noncomputable def dctObj (es : Array DictEntry) (ep : Nat) : Obj := { cls := .type "dict", data := .dict es ep }
section
variable {prog : Program} {w : World} {A : Around} {E : Value → Shared → Prop} {s : Shared} {d it : Addr} {es : Array DictEntry} {ep i : Nat}

theorem keysE_iter {Q : Value → Shared → Prop} (hd : (d == sysModules) = false) (ho : s.heap.get? d = some (dctObj es ep))
    (hQ : Q (.ref s.heap.objs.size) { s with heap := s.heap.push { cls := .type "dict_keyiterator", data := .fields #[.ref d, .int 0 0, .int es.size 0, .int ep 0] } }) :
    wpAny (model prog w) A (pyIter (.ref d)) Q E s := by
  have hT : s.TypeIs (.ref d) "dict" := ⟨_, ho, rfl⟩
  refine wpAny_pyIter_slot hT F.slot_dict_iter (wpAny_call_entry F.slot_dict_iter hT F.entry_dict_iter ?_ (F.args_dict_iter_1 _))
  unfold Builtin.«dict.__iter__»
  refine wpAny_bind ?_
  unfold Builtin.Dict.dictSlotNone
  refine wpAny_bind (wpAny_notOrdered_dict hT ?_)
  show wpAny _ _ (pure (Value.ref d)) _ _ s
  refine wpAny_pure ?_
  show wpAny _ _ (Builtin.Dict.showsAll d >>= _) _ _ s
  unfold Builtin.Dict.showsAll
  rw [if_neg (by rw [hd]; exact Bool.false_ne_true)]
  refine wpAny_bind (wpAny_pure (wpAny_bind (wpAny_dictEntries ho rfl (wpAny_bind (wpAny_dictEpoch ho rfl ?_)))))
  refine wpAny_bind (wpAny_newObj_type (wpAny_pure ⟨_, rfl, "dict_keyiterator", _, ⟨_, Heap.get?_push_size _ rfl, rfl⟩, F.slot_dict_keyiterator_next.lookup, ?_⟩))
  simpa [rawInt] using hQ

theorem keysE_item {Q : Option Value → Shared → Prop} (hit : s.heap.IsKeyIter it d i es.size ep) (hod : s.heap.get? d = some (dctObj es ep)) (hlt : i < es.size)
    (hQ : ∀ h', h'.IsKeyIter it d (i + 1) es.size ep → Heap.SameBut it s.heap h' → Q (some es[i].key) { s with heap := h' }) :
    wpAny (model prog w) A (pyNext (.ref it)) Q E s := by
  obtain ⟨o, ho, hc, hd⟩ := id hit
  unfold pyNext
  refine wpAny_bind (wpAny_attempt (wpAny_callSpecial?_slot (name := Str.ofString "__next__") hit.typeIs F.slot_dict_keyiterator_next
    (wpAny_call_entry F.slot_dict_keyiterator_next hit.typeIs F.entry_dict_keyiterator_next ?_ (F.args_dict_keyiterator_next_1 _))))
  refine wpAny_bind (wpAny_pure (wpAny_bind (wpAny_bind ?_)))
  first | refine wpAny_bind (wpAny_typeNameOfWhole_keyiter hit.typeIs (wpAny_pure ?_)) | refine wpAny_bind (wpAny_typeNameOf_keyiter hit.typeIs (wpAny_pure ?_))
  refine wpAny_bind (wpAny_fieldsOf ho hd ?_)
  have hown : Builtin.Dict_items.ownsTuple "dict_keyiterator" = false := by decide
  simp only [hown, Bool.false_eq_true, if_false]
  show wpAny _ _ (if (Value.ref d == Value.none) = true then _ else _) _ _ s
  rw [if_neg (show ¬ ((Value.ref d == Value.none) = true) from Bool.false_ne_true)]
  refine wpAny_bind (wpAny_pure (wpAny_bind (wpAny_dictEntries hod rfl ?_)))
  rw [if_neg (by simp)]
  refine wpAny_bind (wpAny_pure (wpAny_bind (wpAny_dictEpoch hod rfl ?_)))
  rw [if_neg (by simp)]
  refine wpAny_pure ?_
  simp only [show ¬ ((i : Int) < 0) from by lia, if_false, Int.toNat_natCast, Array.getElem?_eq_getElem hlt]
  refine wpAny_bind ?_
  first | refine wpAny_bind (wpAny_typeNameOfWhole_keyiter hit.typeIs (wpAny_pure ?_)) | refine wpAny_bind (wpAny_typeNameOf_keyiter hit.typeIs (wpAny_pure ?_))
  refine wpAny_bind (wpAny_isOneOf_keyiter hit.typeIs ?_)
  show wpAny _ _ (setField (.ref it) 1 (rawInt ((i : Int) + 1)) >>= _) _ _ s
  refine wpAny_bind (wpAny_setField ho hd (by simp) ?_)
  have hit' : (s.heap.update it (Obj.mapFields (·.setIfInBounds 1 (rawInt ((i : Int) + 1))))).IsKeyIter it d (i + 1) es.size ep :=
    ⟨_, Heap.get?_update_self _ ho (Obj.isFreed_of_fields (Obj.data_mapFields hd _)), (Obj.cls_mapFields ..).trans hc, by rw [Obj.data_mapFields hd]; simp [rawInt]⟩
  refine wpAny_bind (wpAny_holding ?_)
  refine wpAny_bind (wpAny_isOneOf_keyiter (s := { s with heap := s.heap.update it (Obj.mapFields (·.setIfInBounds 1 (rawInt ((i : Int) + 1)))) }) hit'.typeIs ?_)
  show wpAny _ _ (pure es[i].key) _ _ _
  exact wpAny_pure (wpAny_pure ⟨_, rfl, wpAny_pure (hQ _ hit' (Heap.SameBut.update ..))⟩)

theorem keysE_end {Q : Option Value → Shared → Prop} (hh : A.handled = none) (hit : s.heap.IsKeyIter it d i es.size ep) (hod : s.heap.get? d = some (dctObj es ep)) (hge : es.size ≤ i)
    (hQ : ∀ h', Heap.ExtBut it s.heap h' → Q none { s with heap := h' }) : wpAny (model prog w) A (pyNext (.ref it)) Q E s := by
  obtain ⟨o, ho, hc, hd⟩ := id hit
  unfold pyNext
  refine wpAny_bind (wpAny_attempt (wpAny_callSpecial?_slot (name := Str.ofString "__next__") hit.typeIs F.slot_dict_keyiterator_next
    (wpAny_call_entry F.slot_dict_keyiterator_next hit.typeIs F.entry_dict_keyiterator_next ?_ (F.args_dict_keyiterator_next_1 _))))
  refine wpAny_bind (wpAny_pure (wpAny_bind (wpAny_bind ?_)))
  first | refine wpAny_bind (wpAny_typeNameOfWhole_keyiter hit.typeIs (wpAny_pure ?_)) | refine wpAny_bind (wpAny_typeNameOf_keyiter hit.typeIs (wpAny_pure ?_))
  refine wpAny_bind (wpAny_fieldsOf ho hd ?_)
  have hown : Builtin.Dict_items.ownsTuple "dict_keyiterator" = false := by decide
  simp only [hown, Bool.false_eq_true, if_false]
  show wpAny _ _ (if (Value.ref d == Value.none) = true then _ else _) _ _ s
  rw [if_neg (show ¬ ((Value.ref d == Value.none) = true) from Bool.false_ne_true)]
  refine wpAny_bind (wpAny_pure (wpAny_bind (wpAny_dictEntries hod rfl ?_)))
  rw [if_neg (by simp)]
  refine wpAny_bind (wpAny_pure (wpAny_bind (wpAny_dictEpoch hod rfl ?_)))
  rw [if_neg (by simp)]
  refine wpAny_pure ?_
  simp only [show ¬ ((i : Int) < 0) from by lia, if_false, Int.toNat_natCast, Array.getElem?_eq_none hge]
  refine wpAny_bind ?_
  first | refine wpAny_bind (wpAny_typeNameOfWhole_keyiter hit.typeIs (wpAny_pure ?_)) | refine wpAny_bind (wpAny_typeNameOf_keyiter hit.typeIs (wpAny_pure ?_))
  show wpAny _ _ (setField (.ref it) 0 .none >>= _) _ _ s
  refine wpAny_bind (wpAny_setField ho hd (by simp) ?_)
  show wpAny _ _ (newExc (.type "StopIteration") [] >>= _) _ _ _
  refine wpAny_bind ?_
  simp only [newExc, newTuple]
  refine wpAny_bind (wpAny_newObj_type ?_ (by size_fits))
  refine wpAny_bind (m := firstArgMember _ _) (wpAny_of_eq (a := Value.none) (by first | rfl | (simp only [firstArgMember]; rfl)) ?_)
  refine wpAny_newObj_type ?_ (by size_fits)
  simp only [raiseNew]
  refine wpAny_bind (wpAny_handled ?_)
  rw [show A.in1.handled = none from hh]
  refine wpAny_bind (wpAny_pure (wpAny_throw ?_))
  refine wpAny_bind (wpAny_isInstance (T := "StopIteration") (b := true) ⟨_, Heap.get?_push_size _ rfl, rfl⟩ isSubtype_stop ?_)
  exact wpAny_pure (hQ _ (((Heap.SameBut.update ..).extBut.push _).push _))

theorem walksE (hh : A.handled = none) (I d : Addr) (hne : d ≠ I) (es : Array DictEntry) (ep : Nat) :
    Walks prog w A I [I, d] [I] es.size (fun i v => ∃ e, es[i]? = some e ∧ v = e.key) (fun i h => h.IsKeyIter I d i es.size ep ∧ h.get? d = some (dctObj es ep)) where
  sub := fun b hb => by simp at hb; simp [hb]
  frame := fun _ _ _ st hk => ⟨st.1.at fun o e => hk I (by simp) o e, hk d (by simp) _ st.2⟩
  item := fun i s Q E hi st hQ => keysE_item st.1 st.2 hi fun h' hit' hs' =>
    hQ _ h' s.toks ⟨es[i], by simp [hi], rfl⟩ ⟨hit', hs'.extBut d _ hne st.2⟩ fun b o hb e => hs'.extBut b o (fun h => hb (by simp [h])) e
  done := fun s Q E st hQ => keysE_end hh st.1 st.2 (Nat.le_refl _) fun h' he' => hQ h' s.toks fun b o hb e => he' b o (fun h => hb (by simp [h])) e
  self := fun _ _ _ _ st hQ => wpAny_pyIter_keyiter st.1 hQ

theorem srcE (lo : (d == sysModules) = false) : PySem.W.KdlSrc prog w "dict" d d es.size (fun i v => ∃ e, es[i]? = some e ∧ v = e.key) (fun h => h.get? d = some (dctObj es ep)) where
  type := fun _ hm => ⟨_, hm, rfl⟩
  there := fun _ hm => ⟨Heap.lt_size hm, Heap.lt_size hm⟩
  keep := fun _ _ hm hk => hk d (.inl rfl) _ hm
  notList := by decide
  notTuple := by decide
  hint := fun _ _ _ _ hm hq => PySem.W.kdl_hint_dict ⟨_, hm, rfl⟩ hq
  iter := fun _ _ hh hm => ⟨_, _, (fun _ _ hq => keysE_iter lo hm hq), walksE hh _ d (Nat.ne_of_lt (Heap.lt_size hm)) es ep, ⟨⟨_, Heap.get?_push_size _ rfl, rfl, rfl⟩, Heap.get?_push_of_some _ hm⟩⟩
theorem meets_lenE (hd : (d == sysModules) = false) :
    MeetsIn prog w (Builtin.«dict.__len__» ⟨[.ref d], []⟩) (fun _ R s => ∃ es ep, s.heap.get? d = some (dctObj es ep) ∧ R (.ok (.ret (.int es.size s.toks))) { s with toks := s.toks + 1 }) :=
  .of_wp fun A R s ⟨es, ep, ho, h⟩ => by
    show wpAny _ _ (dictSize d >>= _) _ _ s
    unfold dictSize
    refine wpAny_bind (wpAny_bind (wpAny_dictEntries ho rfl (wpAny_pure ?_)))
    show wpAny _ _ (Builtin.Dict.pendingCount d >>= _) _ _ s
    refine wpAny_bind (wpAny_pendingCount_other hd ?_)
    refine wpAny_ret_mkInt ?_
    rw [Nat.add_zero]; exact h
theorem lenE {Q : Value → Shared → Prop} (hd : (d == sysModules) = false) (ho : s.heap.get? d = some (dctObj es ep)) (hfit : (es.size : Int) < 2 ^ 63) (h : Q (.int es.size (s.toks + 1)) { s with toks := s.toks + 1 + 1 }) :
    wpAny (model prog w) A (call (.builtin "len") [.ref d]) Q E s := by
  refine Calls.call_function_entry kind_len plain_len entry_len (args_len1 _) ?_
  have hT : s.TypeIs (.ref d) "dict" := ⟨_, ho, rfl⟩
  unfold Builtin.«len»
  refine wpAny_bind (m := oneArg "len" _) (wpAny_pure ?_)
  refine wpAny_bind (m := callSpecial? (.ref d) (Str.ofString "__len__")) (wpAny_callSpecial?_slot (name := Str.ofString "__len__") hT F.slot_dict_len
    (call_meetsIn F.slot_dict_len hT F.entry_dict_len (F.args_dict_len_1 _) (meets_lenE hd) ⟨es, ep, ho, ?_⟩))
  show wpAny _ _ _ _ _ { s with toks := s.toks + 1 }
  refine wpAny_bind (wpAny_holding (wpAny_pure ?_))
  refine wpAny_bind (wpAny_letGo ?_)
  show wpAny _ _ (if ((es.size : Nat) : Int) < 0 then _ else _) _ _ _
  rw [if_neg (by lia)]
  show wpAny _ _ (if ((es.size : Nat) : Int) ≥ 2 ^ 63 then _ else _) _ _ _
  rw [if_neg (by lia)]
  exact wpAny_bind (wpAny_mkInt (wpAny_pure ⟨_, rfl, h⟩))
end
/-! ## the keys of a dict by tuples -/
section
variable {W : Wd} {A : Around} {E : Value → Shared → Prop} {s : Shared} {σ : Hp} {Q : VP} {P : Value → Shared → Prop}

theorem map_kv {es : List (List Int × V)} {xs : List (List Int × Addr × Value)} (m : es.map (·.1) = xs.map (·.1)) : (es.map fun e => kv e.1) = xs.map fun x => kv x.1 := by
  have := congrArg (List.map kv) m
  rwa [List.map_map, List.map_map] at this
theorem keys_reps {h : Heap} {es : List (List Int × V)} {des : Array DictEntry} {xs : List (List Int × Addr × Value)} (hd : des.toList = xs.map (entryOfKey (tk W))) (m : es.map (·.1) = xs.map (·.1))
    (rk : ∀ x ∈ xs, Rep W h (kv x.1) (.ref x.2.1)) {acc : Array Value} (ha : ItemsOf (fun i v => ∃ e, des[i]? = some e ∧ v = e.key) acc des.size) : Reps W h (es.map fun e => kv e.1) acc.toList := by
  have hsz : des.size = xs.length := size_of_entries hd
  rw [map_kv m]
  refine ⟨by rw [List.length_map, ← hsz, ← ha.1]; rfl, fun i v hv => ?_⟩
  rw [List.getElem?_map] at hv
  obtain ⟨x, hx, rfl⟩ := Option.map_eq_some_iff.mp hv
  have hi : i < acc.size := by rw [ha.1, hsz]; exact (List.getElem?_eq_some_iff.mp hx).1
  obtain ⟨e, he, hv⟩ := ha.2 i acc[i] (Array.getElem?_eq_getElem hi)
  rw [entry_at hd i, hx] at he
  rw [List.getD_eq_getElem?_getD, Array.getElem?_toList, Array.getElem?_eq_getElem hi, Option.getD_some, hv, ← Option.some.inj he]
  exact rk x (List.mem_of_getElem? hx)

theorem list_dct_s {a : Addr} {es : List (List Int × V)} {ep : Nat} {k : Nat} (hA : Room A k) (hW : WOk W) (r : HR W σ s) (ha : σ a = some (.dct es ep)) (h : newP σ (.lst (es.map fun e => kv e.1)) Q) (hP : Kt W σ s Q P) :
    wpAny (model W.prog W.w) A (PySem.call (.type "list") [.ref a]) P E s := by
  obtain @⟨des, xs, z, e, D, d, i, n, m, q, rk, l, dl⟩ := r.dct ha
  refine PySem.W.kdl_call (srcE (es := des) (ep := ep) (r.notSys hW ha)) hA.hand e (by rw [dl]; exact fits z) fun h' tk acc c hk hn hacc => ?_
  have rr := keys_reps (h := h') d m (fun x hx => (rk x hx).mono (.of hk)) hacc
  exact hP _ _ _ _ (h _ r.fresh') (.ref _) (r.new (size_none _) hk (.lst (by rw [hacc.1, dl]; exact z) hn rr) tk)

theorem len_dct_s {a : Addr} {es : List (List Int × V)} {ep : Nat} (hW : WOk W) (r : HR W σ s) (ha : σ a = some (.dct es ep)) (h : Q (.int es.length) σ) (hP : Kt W σ s Q P) :
    wpAny (model W.prog W.w) A (PySem.call (.builtin "len") [.ref a]) P E s := by
  obtain @⟨des, xs, z, e, D, d, i, n, m, q, rk, l, dl⟩ := r.dct ha
  refine lenE (r.notSys hW ha) e (by rw [dl]; (clear dl l; lia)) ?_
  rw [dl, ← l]
  exact hP _ _ _ _ h (.int _ _) (r.tok _ _)
end
end RS

namespace RS
open PySem (Program World Shared Addr Value Obj Heap Str Around wpAny codeAny model Scope NameKind Expr Stmt FuncData cLine recursionLimit sizeLine mainGlobals builtinsNs PyData)

/-! ### slices -/
theorem clip_is (n : Nat) (k : Int) : max 0 (min (if k < 0 then k + n else k) (n : Int)) = ((clip n k : Nat) : Int) := by
  unfold clip; split <;> split <;> lia
theorem clip_is' (n : Nat) (k : Int) : (if k < 0 then max (k + n) 0 else min k (n : Int)) = ((clip n k : Nat) : Int) := by
  rw [← clip_is]; split <;> lia
theorem bounds_is (lo hi : Option Int) (n : Nat) : PySem.sliceBounds lo hi none n = (((clipLo n lo : Nat) : Int), ((clipHi n hi : Nat) : Int), 1) := by
  unfold PySem.sliceBounds
  cases lo <;> cases hi <;> simp [clipLo, clipHi, clip_is]
theorem slicePick_is (items : Array Value) (lo hi : Option Int) : (PySem.slicePick items lo hi none).toList = pySlice items.toList lo hi := by
  unfold PySem.slicePick pySlice
  rw [bounds_is]
  simp only [PySem.sliceRange_one, PySem.pick_run, List.drop_take, Array.length_toList]
theorem pySlice_length {α : Type} (vs : List α) (l u : Option Int) : (pySlice vs l u).length ≤ vs.length := by
  unfold pySlice; rw [List.length_drop, List.length_take]; exact Nat.le_trans (Nat.sub_le _ _) (Nat.min_le_right _ _)
theorem Reps.pySlice {W : Wd} {h : Heap} {vs : List V} {xs : List Value} (q : Reps W h vs xs) (l u : Option Int) : Reps W h (pySlice vs l u) (RS.pySlice xs l u) := by
  unfold RS.pySlice
  rw [q.length]
  exact (q.take _).drop _
theorem adjust_is (lo hi : Option Int) (n : Nat) : PySem.Builtin.Slice.sliceAdjust lo hi 1 (n : Int) = (((clipLo n lo : Nat) : Int), ((clipHi n hi : Nat) : Int)) := by
  unfold PySem.Builtin.Slice.sliceAdjust
  have h1 : ¬ ((1 : Int) < 0) := by decide
  cases lo <;> cases hi <;> simp [clipLo, clipHi, clip_is', h1]
theorem places_is (a b : Nat) : PySem.Builtin.Slice.slicePlaces (a : Int) (b : Int) 1 = b - a := by
  unfold PySem.Builtin.Slice.slicePlaces
  have h1 : (1 : Int) > 0 := by decide
  simp only [h1, if_true, Int.ediv_one]
  split <;> lia

section
variable {W : Wd} {A : Around} {E : Value → Shared → Prop} {s : Shared} {σ : Hp} {Q : VP} {P : Value → Shared → Prop} {prog : Program} {w : World}

theorem sliceApplied_is {sl : Addr} {n : Nat} {vl vu : Value} {lo hi : Option Int} {Q : Int × Int × Nat → Shared → Prop} (hs : s.heap.IsSliceOf sl vl vu .none) (pl : PySem.IsPart vl lo) (pu : PySem.IsPart vu hi)
    (h : Q (((clipLo n lo : Nat) : Int), 1, clipHi n hi - clipLo n lo) s) :
    wpAny (model prog w) A (PySem.Builtin.Slice.sliceApplied (.ref sl) (pure (n : Int))) Q E s := by
  obtain ⟨os, hos, hcs, hds⟩ := id hs
  unfold PySem.Builtin.Slice.sliceApplied PySem.Builtin.Slice.sliceFields
  refine PySem.wpAny_bind (PySem.wpAny_bind (PySem.wpAny_field hos hds (x := vl) rfl (PySem.wpAny_bind (PySem.wpAny_field hos hds (x := vu) rfl (PySem.wpAny_bind (PySem.wpAny_field hos hds (x := .none) rfl (PySem.wpAny_pure ?_)))))))
  refine PySem.wpAny_bind (PyProof.Rows.slicePart_none ?_)
  show wpAny _ _ (if ((1 : Int) == 0) = true then _ else _) _ _ s
  rw [if_neg (by decide)]
  have part : ∀ {v : Value} {k : Option Int} {P : Option Int → Shared → Prop}, PySem.IsPart v k → P k s → wpAny (model prog w) A (PySem.Builtin.Slice.slicePartIndex v) P E s := by
    intro v k P hp q
    cases hp with
    | none => exact PyProof.Rows.slicePart_none q
    | int i t => exact PyProof.Rows.slicePart_int q
  refine PySem.wpAny_bind (part pl (PySem.wpAny_bind (part pu (PySem.wpAny_bind (PySem.wpAny_pure ?_)))))
  show wpAny _ _ (match PySem.Builtin.Slice.sliceAdjust lo hi 1 (n : Int) with | (lo, hi) => pure (lo, (1 : Int), PySem.Builtin.Slice.slicePlaces lo hi 1)) _ _ s
  rw [adjust_is]
  dsimp only
  rw [places_is]
  exact PySem.wpAny_pure h

theorem pick_is (xs : Array Value) (a k : Nat) : ((List.range k).filterMap fun (j : Nat) => xs[((a : Int) + (j : Int) * 1).toNat]?).toArray = ((xs.toList.drop a).take k).toArray := by
  have e : (fun (j : Nat) => xs[((a : Int) + (j : Int) * 1).toNat]?) = (fun x => xs[x]?) ∘ fun x => a + x := by
    funext j
    rw [Int.mul_one, ← Int.natCast_add]; rfl
  rw [e, ← List.filterMap_map, PySem.pick_run]

/-- a slice of a tuple: a new one, or the tuple itself -/
theorem getTuple_slice {t sl : Addr} {items : Array Value} {n : Nat} {vl vu : Value} {lo hi : Option Int} {Q : Value → Shared → Prop} (e : s.heap.get? t = some { cls := .type "tuple", data := .seq items n }) (hs : s.heap.IsSliceOf sl vl vu .none) (pl : PySem.IsPart vl lo) (pu : PySem.IsPart vu hi) (hz : items.size ≤ 1000001)
    (h1 : pySlice items.toList lo hi = items.toList → Q (.ref t) s)
    (h2 : Q (.ref s.heap.objs.size) { s with heap := s.heap.push { cls := .type "tuple", data := .seq (pySlice items.toList lo hi).toArray } }) : wpAny (model prog w) A (PySem.getItem (.ref t) (.ref sl)) Q E s := by
  have hT : s.TypeIs (.ref t) "tuple" := ⟨_, e, rfl⟩
  obtain ⟨os, hos, hcs, hds⟩ := id hs
  have hTs : s.TypeIs (.ref sl) "slice" := ⟨os, hos, hcs⟩
  have hsz : PySem.sizeOk (.seq (pySlice items.toList lo hi).toArray) := fits (Nat.le_trans (pySlice_length items.toList lo hi) hz)
  have ep : pySlice items.toList lo hi = (items.toList.drop (clipLo items.size lo)).take (clipHi items.size hi - clipLo items.size lo) := List.drop_take
  unfold PySem.getItem
  refine PySem.wpAny_holding ?_
  refine PySem.wpAny_bind (PySem.wpAny_sequenceKey hT (by decide) ?_)
  refine PySem.wpAny_bind (PySem.wpAny_callSpecial?_slot (name := Str.ofString "__getitem__") hT PySem.F.slot_tuple_getitem
    (PySem.wpAny_call_entry PySem.F.slot_tuple_getitem hT PySem.F.entry_tuple_getitem ?_ (PySem.F.args_tuple_getitem_2 _ _)))
  show wpAny _ _ (PySem.Builtin.Tuple.tupleItemsOf (.ref t) >>= _) _ _ s
  refine PySem.wpAny_bind (PySem.wpAny_tupleItemsOf e rfl ?_)
  refine PySem.wpAny_bind (PySem.wpAny_typeOf hTs ?_)
  rw [if_pos (by decide)]
  refine PySem.wpAny_bind (sliceApplied_is hs pl pu ?_)
  dsimp only
  split
  · rename_i hw
    have hwhole : pySlice items.toList lo hi = items.toList := by
      simp only [Bool.and_eq_true, beq_iff_eq, Int.natCast_eq_zero] at hw
      rw [ep, hw.1.1]
      rw [hw.1.1] at hw
      rw [hw.2, List.drop_zero]
      exact List.take_of_length_le (Nat.le_refl _)
    refine PySem.wpAny_bind (PySem.wpAny_bind (PySem.wpAny_typeOf hT (PySem.wpAny_pure ?_)))
    rw [if_pos (by decide)]
    exact PySem.wpAny_bind (PySem.wpAny_rule (PySem.wpAny_pure ⟨_, rfl, PySem.wpAny_pure (h1 hwhole)⟩))
  · rw [pick_is, ← ep]
    exact PySem.wpAny_bind (m := PySem.Builtin.Tuple.tupleExact _) (PySem.wpAny_newObj_type (PySem.wpAny_pure ⟨_, rfl, PySem.wpAny_pure h2⟩) hsz)

theorem optInt_part {v : V} {k : Option Int} {x : Value} {h : Heap} (e : optInt v = some k) (hx : Rep W h v x) : PySem.IsPart x k := by
  cases v with
  | none => cases e; cases hx.none_inv; exact .none
  | int i => cases e; obtain ⟨t, rfl⟩ := hx.int_inv; exact .int _ _
  | _ => cases e

/-- behind the slice object -/
theorem slice_sound {g : Glb} {o l u : V} {x xl xu : Value} {value slice : Expr} (hg : g.ns = W.ns) (hW : WOk W) (r : HR W σ s) (hx : Rep W s.heap o x)
    (hl : Rep W s.heap l xl) (hu : Rep W s.heap u xu) (h : sliceP g σ Q o l u) (hP : Kt W σ s Q P)
    (hs : ∀ y, ∃ ops, PySem.subscripted slice false x y = PySem.operate ops (PySem.getItem x y)) :
    wpAny (model W.prog W.w) A (PyProof.Rows.subscriptTail value slice x (.ref s.heap.objs.size)) P E { s with heap := s.heap.push { cls := .type "slice", data := .fields #[xl, xu, .none] } } := by
  obtain ⟨ops, hs⟩ := hs (.ref s.heap.objs.size)
  have hk : ∀ b o, s.heap.get? b = some o → (s.heap.push { cls := .type "slice", data := .fields #[xl, xu, .none] }).get? b = some o := fun b o e => PySem.Heap.get?_push_of_some _ e
  have st : Step W [] σ s σ { s with heap := s.heap.push { cls := .type "slice", data := .fields #[xl, xu, .none] } } := r.grow hk s.toks []
  have hsl := PySem.Heap.IsSliceOf.new s.heap xl xu .none
  have list : ∀ {a : Addr} {items : Array Value} {n : Nat} {vs : List V} {l' u' : Option Int}, PySem.IsPart xl l' → PySem.IsPart xu u' → items.size ≤ 1000001 → s.heap.get? a = some { cls := .type "list", data := .seq items n } → Reps W s.heap vs items.toList → newP σ (.lst (pySlice vs l' u')) Q →
      PySem.subscripted slice false (.ref a) (.ref s.heap.objs.size) = PySem.operate ops (PySem.getItem (.ref a) (.ref s.heap.objs.size)) →
      wpAny (model W.prog W.w) A (PyProof.Rows.subscriptTail value slice (.ref a) (.ref s.heap.objs.size)) P E { s with heap := s.heap.push { cls := .type "slice", data := .fields #[xl, xu, .none] } } := by
    intro a items n vs l' u' pl pu z e q hn hs
    have hL : (s.heap.push { cls := .type "slice", data := .fields #[xl, xu, .none] }).IsList a items := ⟨_, hk _ _ e, rfl, n, rfl⟩
    refine PyProof.Rows.tail_any (s := { s with heap := s.heap.push { cls := .type "slice", data := .fields #[xl, xu, .none] } }) ⟨_, hk _ _ e, rfl⟩ PySem.slot_list_getitem.lookup (PySem.wpAny_getItem_list_slice hL hsl pl pu .none (by decide) ?_ (fits z)) hs
    have := newList_s (xs := pySlice items.toList l' u') st.hr (Nat.le_trans (pySlice_length items.toList l' u') z) ((q.mono (st.tup0 r)).pySlice l' u') hn s.toks (hP.step st)
    rw [← slicePick_is, Array.toArray_toList] at this
    exact this
  cases h with
  | tup hl' hu' h =>
    obtain ⟨a, items, n, rfl, z, e, q⟩ := hx.tup_inv
    have q' := (q.mono (st.tup0 r)).pySlice
    refine PyProof.Rows.tail_any (s := { s with heap := s.heap.push { cls := .type "slice", data := .fields #[xl, xu, .none] } }) ⟨_, hk _ _ e, rfl⟩ PySem.F.slot_tuple_getitem.lookup (getTuple_slice (hk _ _ e) hsl (optInt_part hl' hl) (optInt_part hu' hu) z (fun hw => ?_) ?_) hs
    · exact hP _ _ _ _ h (.tupI z (hk _ _ e) (hw ▸ q' _ _)) st
    · exact newTuple_s st.hr (Nat.le_trans (pySlice_length items.toList _ _) z) (q' _ _) h s.toks (hP.step st)
  | script hl' hu' h =>
    cases hx.script_inv
    obtain ⟨items, n, z, e, q⟩ := hW.script
    refine list (optInt_part hl' hl) (optInt_part hu' hu) z (r.base _ _ e) (q _) ?_ hs
    rw [show ∀ l' u', pySlice (W.ns.map V.int) l' u' = (pySlice g.ns l' u').map .int from fun l' u' => by rw [hg]; unfold pySlice; rw [List.map_drop, List.map_take, List.length_map]]
    exact h
  | lst ha hl' hu' h =>
    cases hx.ref_inv
    obtain ⟨z, e, q, l⟩ := r.lst ha
    exact list (optInt_part hl' hl) (optInt_part hu' hu) z e q h hs
end
section
variable {W : Wd} {A : Around} {E : Value → Shared → Prop} {s : Shared} {σ : Hp} {Q : VP} {P : Value → Shared → Prop}
/-- a list from behind -/
theorem rev_sound {o w : V} {x y : Value} {value slice : Expr} (r : HR W σ s) (hx : Rep W s.heap o x) (hy : Rep W s.heap w y) (h : revP σ Q o w) (hP : Kt W σ s Q P)
    (hs : ∀ y, ∃ ops, PySem.subscripted slice false x y = PySem.operate ops (PySem.getItem x y)) :
    wpAny (model W.prog W.w) A (PyProof.Rows.subscriptTail value slice x (.ref s.heap.objs.size)) P E { s with heap := s.heap.push { cls := .type "slice", data := .fields #[.none, .none, y] } } := by
  obtain ⟨ops, hs⟩ := hs (.ref s.heap.objs.size)
  cases h with
  | mk ha hn =>
    cases hx.ref_inv
    obtain ⟨t, rfl⟩ := hy.int_inv
    obtain ⟨z, e, q, l⟩ := r.lst ha
    have hk : ∀ b o, s.heap.get? b = some o → (s.heap.push { cls := .type "slice", data := .fields #[.none, .none, .int (-1) t] }).get? b = some o := fun b o e => PySem.Heap.get?_push_of_some _ e
    have st : Step W [] σ s σ { s with heap := s.heap.push { cls := .type "slice", data := .fields #[.none, .none, .int (-1) t] } } := r.grow hk s.toks []
    refine PyProof.Rows.tail_any (s := { s with heap := s.heap.push { cls := .type "slice", data := .fields #[.none, .none, .int (-1) t] } }) ⟨_, hk _ _ e, rfl⟩ PySem.slot_list_getitem.lookup (PySem.wpAny_getItem_list_slice ⟨_, hk _ _ e, rfl, _, rfl⟩ (PySem.Heap.IsSliceOf.new s.heap .none .none (.int (-1) t)) .none .none (.int (-1) t) (by decide) ?_ (fits z)) hs
    rw [PySem.W.krv_pick]
    exact newList_s st.hr (by rw [List.length_reverse, Array.length_toList]; exact z) ((q.mono (st.tup0 r)).reverse) hn s.toks (hP.step st)
end

/-! ### built-in functions -/
noncomputable def biV : Bi → Value
  | .len => .builtin "len" | .min => .builtin "min" | .max => .builtin "max" | .sum => .builtin "sum" | .isinstance => .builtin "isinstance" | .all => .builtin "all" | .sorted => .builtin "sorted"
  | .int => .type "int" | .list => .type "list" | .tuple => .type "tuple" | .dict => .type "dict"

section
variable {prog : Program} {w : World} {A : Around} {E : Value → Shared → Prop} {s : Shared}
theorem isi_ind {C : String → Prop} (h1 : C "int") (h2 : C "bool") (h3 : C "str") (h4 : C "tuple") (h5 : C "list") : ∀ T ∈ isiTypes, C T := by
  intro T h
  simp only [isiTypes, List.mem_cons, List.not_mem_nil, or_false] at h
  rcases h with rfl | rfl | rfl | rfl | rfl <;> assumption
theorem typeOf_isi : ∀ T ∈ isiTypes, PySem.typeOf (.type T) = pure (.type "type") := isi_ind rfl rfl rfl rfl rfl
theorem sub_no {T : String} (hT : T ∈ ["int", "str", "tuple", "list", "NoneType"]) : ∀ U ∈ isiTypes, T ≠ U → PySem.isSubtype (.type T) (.type U) = pure false := by
  simp only [List.mem_cons, List.not_mem_nil, or_false] at hT
  rcases hT with rfl | rfl | rfl | rfl | rfl <;>
    exact isi_ind (fun h => by first | exact absurd rfl h | (rw [PySem.isSubtype_type]; kernel_rfl)) (fun h => by first | exact absurd rfl h | (rw [PySem.isSubtype_type]; kernel_rfl)) (fun h => by first | exact absurd rfl h | (rw [PySem.isSubtype_type]; kernel_rfl)) (fun h => by first | exact absurd rfl h | (rw [PySem.isSubtype_type]; kernel_rfl)) (fun h => by first | exact absurd rfl h | (rw [PySem.isSubtype_type]; kernel_rfl))
theorem sub_yes : ∀ T ∈ isiTypes, PySem.isSubtype (.type T) (.type T) = pure true :=
  isi_ind (by rw [PySem.isSubtype_type]; kernel_rfl) (by rw [PySem.isSubtype_type]; kernel_rfl) (by rw [PySem.isSubtype_type]; kernel_rfl) (by rw [PySem.isSubtype_type]; kernel_rfl) (by rw [PySem.isSubtype_type]; kernel_rfl)
theorem sub_bool_int : PySem.isSubtype (.type "bool") (.type "int") = pure true := by rw [PySem.isSubtype_type]; kernel_rfl
theorem sub_no_bool : ∀ U ∈ isiTypes, U ≠ "bool" → U ≠ "int" → PySem.isSubtype (.type "bool") (.type U) = pure false :=
  isi_ind (fun _ h => absurd rfl h) (fun h _ => absurd rfl h) (fun _ _ => by rw [PySem.isSubtype_type]; kernel_rfl) (fun _ _ => by rw [PySem.isSubtype_type]; kernel_rfl) (fun _ _ => by rw [PySem.isSubtype_type]; kernel_rfl)
theorem type_ne {T U : String} (h : T ≠ U) : (Value.type T == Value.type U) = false := beq_eq_false_iff_ne.mpr fun e => h (Value.type.inj e)
theorem beq_no {T U : String} (h : T ≠ U) : (U == T) = false := beq_eq_false_iff_ne.mpr fun e => h e.symm
end

section
variable {W : Wd} {A : Around} {E : Value → Shared → Prop} {s : Shared} {σ : Hp} {Q : VP} {P : Value → Shared → Prop}

theorem isi_sound {v : V} {x : Value} {T : String} {b : Bool} (r : HR W σ s) (hx : Rep W s.heap v x) (hT : T ∈ isiTypes) (hb : v.isA σ T = some b) (hq : Q (.bool b) σ) (hP : Kt W σ s Q P) :
    wpAny (model W.prog W.w) A (PySem.call (.builtin "isinstance") [x, .type T]) P E s := by
  have yes : b = true → P (.bool true) s := fun e => hP _ _ _ _ hq (e ▸ .bool _) (.refl r)
  have no : b = false → P (.bool false) { s with toks := s.toks + 1 } := fun e => hP _ _ _ _ hq (e ▸ .bool _) (r.tok _ _)
  have hty := typeOf_isi T hT
  have Y : ∀ {Tx : String}, s.TypeIs x Tx → Tx ∈ isiTypes → Tx = T → b = true → wpAny (model W.prog W.w) A (PySem.call (.builtin "isinstance") [x, .type T]) P E s := fun hx h1 h2 hb => PyProof.Rows.call_isinstance_yes hx hty (h2 ▸ sub_yes _ h1) (yes hb)
  cases v with
  | none =>
    cases hx.none_inv
    have hne : "NoneType" ≠ T := fun e => by subst e; revert hT; decide
    exact PySem.call_isinstance (PySem.isinstance_false_none (type_ne hne) hty (sub_no (by decide) T hT hne)) (no (Option.some.inj hb).symm)
  | bool c =>
    cases hx.bool_inv
    have hb : (T == "bool" || T == "int") = b := Option.some.inj hb
    by_cases h1 : "bool" = T
    · exact Y (PySem.typeIs_bool s c) (by decide) h1 (by rw [← hb, ← h1]; rfl)
    · by_cases h2 : "int" = T
      · subst h2; exact PyProof.Rows.call_isinstance_yes (PySem.typeIs_bool s c) hty sub_bool_int (yes hb.symm)
      · exact PySem.call_isinstance (PySem.isinstance_false_bool (type_ne h1) hty (sub_no_bool T hT (Ne.symm h1) (Ne.symm h2))) (no (by rw [← hb, beq_no h1, beq_no h2]; rfl))
  | int i =>
    obtain ⟨t, rfl⟩ := hx.int_inv
    have hb : (T == "int") = b := Option.some.inj hb
    by_cases h1 : "int" = T
    · exact Y (PySem.typeIs_int s i t) (by decide) h1 (by rw [← hb, ← h1]; rfl)
    · exact PySem.call_isinstance (PySem.isinstance_false_int (type_ne h1) hty (sub_no (by decide) T hT h1)) (no (by rw [← hb, beq_no h1]))
  | str i =>
    obtain ⟨t, rfl⟩ := hx.str_inv
    have hb : (T == "str") = b := Option.some.inj hb
    by_cases h1 : "str" = T
    · exact Y (PySem.typeIs_str s _ t) (by decide) h1 (by rw [← hb, ← h1]; rfl)
    · exact PySem.call_isinstance (PySem.isinstance_false_str (type_ne h1) hty (sub_no (by decide) T hT h1)) (no (by rw [← hb, beq_no h1]))
  | tup vs =>
    obtain ⟨a, items, n, rfl, z, e, q⟩ := hx.tup_inv
    have hb : (T == "tuple") = b := Option.some.inj hb
    by_cases h1 : "tuple" = T
    · exact Y ⟨_, e, rfl⟩ (by decide) h1 (by rw [← hb, ← h1]; rfl)
    · exact PySem.call_isinstance (PySem.isinstance_false_tuple (type_ne h1) hty (sub_no (by decide) T hT h1)) ⟨⟨_, e, rfl⟩, no (by rw [← hb, beq_no h1])⟩
  | ref a =>
    cases hx.ref_inv
    have hb : (match σ a with | some (.lst _) => some (T == "list") | _ => none) = some b := hb
    cases ha : σ a with
    | none => rw [ha] at hb; cases hb
    | some c =>
      rw [ha] at hb
      cases c with
      | lst vs =>
        have hb : (T == "list") = b := Option.some.inj hb
        obtain ⟨z, e, q, l⟩ := r.lst ha
        by_cases h1 : "list" = T
        · exact Y ⟨_, e, rfl⟩ (by decide) h1 (by rw [← hb, ← h1]; rfl)
        · exact PySem.call_isinstance (PySem.isinstance_false_list (type_ne h1) hty (sub_no (by decide) T hT h1)) ⟨⟨_, e, rfl⟩, no (by rw [← hb, beq_no h1])⟩
      | _ => cases hb
  | _ => cases hb

theorem ints_items {items : Array Value} {ks : List Int} (q : Reps W s.heap (ks.map .int) items.toList) : ∃ xs : Array (Int × Nat), items = PySem.intItems xs ∧ ks = xs.toList.map (·.1) := by
  obtain ⟨l⟩ := items
  refine ints_ind (I := fun l ks => ∃ xs : Array (Int × Nat), l.toArray = PySem.intItems xs ∧ ks = xs.toList.map (·.1)) ⟨#[], by simp [PySem.intItems], rfl⟩ (fun i t xs ks ih => ?_) ks l q
  obtain ⟨ys, e, k⟩ := ih
  refine ⟨((i, t) :: ys.toList).toArray, ?_, by rw [k]; rfl⟩
  have : xs = (PySem.intItems ys).toList := congrArg Array.toList e
  rw [this]
  simp [PySem.intItems]
theorem numAt_get {xs : Array (Int × Nat)} {i : Nat} (h : i < xs.size) : PySem.numAt xs i ∈ xs.toList.map (·.1) := by
  unfold PySem.numAt
  rw [Array.getElem?_eq_getElem h]
  exact List.mem_map.mpr ⟨xs[i], Array.getElem_mem_toList h, rfl⟩
theorem numAt_mem {xs : Array (Int × Nat)} {a : Int} (h : a ∈ xs.toList.map (·.1)) : ∃ i, i < xs.size ∧ a = PySem.numAt xs i := by
  obtain ⟨p, hp, rfl⟩ := List.mem_map.mp h
  obtain ⟨i, hi, e⟩ := List.getElem_of_mem hp
  refine ⟨i, hi, ?_⟩
  unfold PySem.numAt
  rw [Array.getElem?_eq_getElem hi, ← Array.getElem_toList, e]; rfl
theorem preSum_is (xs : Array (Int × Nat)) : PySem.preSum (PySem.numAt xs) xs.size = (xs.toList.map (·.1)).sum := by
  rw [PySem.preSum_eq, List.take_of_length_le (by simp)]

theorem seqList {x : Addr} {T : String} {items : Array Value} {n : Nat} {vs : List V} (r : HR W σ s) (hT : T = "list" ∨ T = "tuple") (z : items.size ≤ 1000001) (e : s.heap.get? x = some { cls := .type T, data := .seq items n }) (q : Reps W s.heap vs items.toList) (h : newP σ (.lst vs) Q) (hP : Kt W σ s Q P) :
    wpAny (model W.prog W.w) A (PySem.call (.type "list") [.ref x]) P E s :=
  PySem.call_list_seq x hT e rfl rfl (fun _ _ hk hn => hP _ _ _ _ (h _ r.fresh') (.ref _) (r.new (size_none _) hk (.lst z hn (q.mono (.of hk))) s.toks)) (fits z)

theorem all_s {a : Addr} {bs : List Bool} {k : Nat} (hA : Room A k) (r : HR W σ s) (ha : σ a = some (.lst (bs.map .bool))) (h : Q (.bool (bs.all id)) σ) (hP : Kt W σ s Q P) : wpAny (model W.prog W.w) A (PySem.call (.builtin "all") [.ref a]) P E s := by
  obtain @⟨items, n, z, e, q, l⟩ := r.lst ha
  rw [List.length_map] at l
  have hl : s.heap.IsList a items := ⟨_, e, rfl, n, rfl⟩
  have hlt : a < s.heap.objs.size := PySem.Heap.lt_size e
  refine PySem.call_all_walk (PySem.wpAny_pyIter_list hl ?_)
  refine ⟨s.heap.objs.size, [s.heap.objs.size, a], [s.heap.objs.size], items.size, _, _, fun i => (bs[i]?).getD true, rfl, PySem.Walks.list (A := A.in1) hA.hand _ a (Nat.ne_of_lt hlt) items,
    ⟨⟨_, PySem.Heap.get?_push_size _ rfl, rfl, rfl⟩, hl.push _⟩, fun i v s' Q' E' hp hQ => ?_, fun h' tk hk => ?_⟩
  · have hi : i < items.size := (Array.getElem?_eq_some_iff.mp hp).1
    have hb : (bs.map V.bool)[i]? = some (.bool (bs[i]'(l ▸ hi))) := by rw [List.getElem?_map, List.getElem?_eq_getElem (l ▸ hi)]; rfl
    obtain ⟨y, hy, ry⟩ := q.get hb
    rw [Array.getElem?_toList] at hy
    obtain rfl := Option.some.inj (hp.symm.trans hy)
    cases ry.bool_inv
    refine PySem.wpAny_truthy_bool ?_
    dsimp only at hQ
    rwa [List.getElem?_eq_getElem (l ▸ hi)] at hQ
  · rw [← l, PyProof.Rows.LSm.range_all bs]
    exact hP _ _ _ _ h (.bool _) (r.grow (PyProof.Rows.LSm.kept_iter hk) tk [])

end
end RS

namespace RS
open PySem.W PyProof.Rows

/-! ## the sort's tree of questions, over a strict order -/
section
variable {n : Nat} {lt : Nat → Nat → Bool}
noncomputable def KOk (n : Nat) (lt : Nat → Nat → Bool) {α : Type} : KasT α → (α → Prop) → Prop
  | .ret a, Q => Q a
  | .ask i j k, Q => i < n ∧ j < n ∧ KOk n lt (k (lt i j)) Q
theorem KOk.mono {α : Type} {Q Q' : α → Prop} (hq : ∀ a, Q a → Q' a) : ∀ {t : KasT α}, KOk n lt t Q → KOk n lt t Q'
  | .ret a, h => hq a h
  | .ask _ _ _, h => ⟨h.1, h.2.1, KOk.mono hq h.2.2⟩
theorem KOk.bind {α β : Type} {f : α → KasT β} {Q : β → Prop} : ∀ {t : KasT α}, KOk n lt t (fun a => KOk n lt (f a) Q) → KOk n lt (t.bind f) Q
  | .ret _, h => h
  | .ask _ _ _, h => ⟨h.1, h.2.1, KOk.bind h.2.2⟩
structure LtOk (n : Nat) (lt : Nat → Nat → Bool) : Prop where
  irrefl : ∀ i, i < n → lt i i = false
  trans : ∀ i j k, i < n → j < n → k < n → lt i j = true → lt j k = true → lt i k = true
  total : ∀ i j, i < n → j < n → i ≠ j → lt i j = false → lt j i = true
noncomputable def IsP (n : Nat) (p : Array Nat) : Prop := p.toList.Perm (List.range n)
theorem IsP.size {p : Array Nat} (h : IsP n p) : p.size = n := by have := h.length_eq; simpa using this
theorem IsP.get {p : Array Nat} (h : IsP n p) {i : Nat} (hi : i < n) : p.getD i 0 = p[i]'(by rw [h.size]; exact hi) := by simp [Array.getD, h.size, hi]
theorem IsP.bd {p : Array Nat} (h : IsP n p) {i : Nat} (hi : i < n) : p.getD i 0 < n := by
  rw [h.get hi]
  have : p[i]'(by rw [h.size]; exact hi) ∈ List.range n := h.mem_iff.mp (by simp)
  simpa using this
theorem IsP.ne {p : Array Nat} (h : IsP n p) {i j : Nat} (hi : i < n) (hj : j < n) (hij : i ≠ j) : p.getD i 0 ≠ p.getD j 0 := by
  rw [h.get hi, h.get hj]
  have nd : p.toList.Nodup := h.nodup_iff.mpr List.nodup_range
  intro e
  apply hij
  have := (List.getElem_inj (xs := p.toList) (i := i) (j := j) (h₀ := by simp [h.size, hi]) (h₁ := by simp [h.size, hj]) nd).mp (by simpa using e)
  exact this
noncomputable def STo (lt : Nat → Nat → Bool) (p : Array Nat) (k : Nat) : Prop := ∀ i j, i < j → j < k → lt (p.getD i 0) (p.getD j 0) = true
noncomputable def DTo (lt : Nat → Nat → Bool) (p : Array Nat) (k : Nat) : Prop := ∀ i j, i < j → j < k → lt (p.getD j 0) (p.getD i 0) = true

theorem STo.succ (O : LtOk n lt) {p : Array Nat} (h : IsP n p) {m : Nat} (h1 : 1 ≤ m) (hm : m < n) (s : STo lt p m) (e : lt (p.getD (m - 1) 0) (p.getD m 0) = true) : STo lt p (m + 1) := by
  intro i j hij hj
  rcases Nat.lt_or_ge j m with hjm | hjm
  · exact s i j hij hjm
  · have : j = m := by lia
    subst this
    rcases Nat.lt_or_ge i (j - 1) with h2 | h2
    · exact O.trans _ (p.getD (j - 1) 0) _ (h.bd (by lia)) (h.bd (by (clear h2 hjm hj hij; omega))) (h.bd (by lia)) (s i (j - 1) h2 (by (clear h2 hjm hj hm hij; omega))) e
    · have : i = j - 1 := by lia
      subst this; exact e
theorem DTo.succ (O : LtOk n lt) {p : Array Nat} (h : IsP n p) {m : Nat} (h1 : 1 ≤ m) (hm : m < n) (s : DTo lt p m) (e : lt (p.getD m 0) (p.getD (m - 1) 0) = true) : DTo lt p (m + 1) := by
  intro i j hij hj
  rcases Nat.lt_or_ge j m with hjm | hjm
  · exact s i j hij hjm
  · have : j = m := by lia
    subst this
    rcases Nat.lt_or_ge i (j - 1) with h2 | h2
    · exact O.trans _ (p.getD (j - 1) 0) _ (h.bd (by lia)) (h.bd (by (clear h2 hjm hj hij; omega))) (h.bd (by lia)) e (s i (j - 1) h2 (by (clear h2 hjm hj hm hij; omega)))
    · have : i = j - 1 := by lia
      subst this; exact e

end

/-! ## tuples of ints in their order -/
theorem ltL_irrefl : ∀ k : List Int, ltL k k = false
  | [] => rfl
  | a :: r => by simp [ltL, ltL_irrefl r]
theorem ltL_trans : ∀ {a b c : List Int}, ltL a b = true → ltL b c = true → ltL a c = true
  | [], _, [], h1, h2 => by cases ‹List Int› <;> simp [ltL] at h1 h2
  | [], _, _ :: _, _, _ => rfl
  | _ :: _, [], _, h1, _ => by simp [ltL] at h1
  | _ :: _, _ :: _, [], _, h2 => by simp [ltL] at h2
  | x :: a, y :: b, z :: c, h1, h2 => by
    simp only [ltL, Bool.or_eq_true, decide_eq_true_eq, Bool.and_eq_true, beq_iff_eq] at *
    rcases h1 with h1 | ⟨rfl, h1⟩
    · rcases h2 with h2 | ⟨rfl, h2⟩
      · exact .inl (by lia)
      · exact .inl h1
    · rcases h2 with h2 | ⟨rfl, h2⟩
      · exact .inl h2
      · exact .inr ⟨rfl, ltL_trans h1 h2⟩
theorem ltL_total : ∀ {a b : List Int}, a ≠ b → ltL a b = false → ltL b a = true
  | [], [], h, _ => absurd rfl h
  | [], _ :: _, _, h => by simp [ltL] at h
  | _ :: _, [], _, _ => rfl
  | x :: a, y :: b, hne, h => by
    simp only [ltL, Bool.or_eq_false_iff, decide_eq_false_iff_not, Bool.and_eq_false_iff, beq_eq_false_iff_ne, Bool.or_eq_true, decide_eq_true_eq, Bool.and_eq_true, beq_iff_eq] at *
    rcases Int.lt_trichotomy y x with h' | h' | h'
    · exact .inl h'
    · subst h'
      refine .inr ⟨rfl, ltL_total (fun e => hne (by rw [e])) ?_⟩
      rcases h.2 with h2 | h2
      · exact absurd rfl h2
      · exact h2
    · exact absurd h' h.1

open PySem
section
variable {W : Wd} {A : Around} {E : Value → Shared → Prop} {s : Shared} {σ : Hp}
theorem oneLt_any {a b : Int} {t u : Tok} {c : Bool} {Q : Bool → Shared → Prop} (h : Q (decide (a < b)) s) : wpAny (model W.prog W.w) A (oneLt' c (.int a t) (.int b u)) Q E s := by
  cases c with
  | true => exact oneLt_int h
  | false => exact kat_one _ _ (PyProof.Rows.lt_int h)

theorem lex_ints {Q : Bool → Shared → Prop} {fin : Bool} (ks : List Int) : ∀ {ls : List Int} {xs ys : List Value} (i : Nat), IntsAre xs ks → IntsAre ys ls → fin = decide (xs.length < ys.length) → Q (ltL ks ls) s → KatLex W.prog W.w A true fin Q (xs.zip ys) i s := by
  induction ks with
  | nil =>
    intro ls xs ys i q q' hf h
    cases q
    cases q' with
    | nil => subst hf; exact h
    | cons _ _ _ => subst hf; simpa [ltL, KatLex] using h
  | cons k ks ih =>
    intro ls xs ys i q q' hf h
    cases q with
    | cons _ t q =>
      cases q' with
      | nil => subst hf; simpa [ltL, KatLex] using h
      | cons l u q' =>
        rename_i ls _
        refine kat_cons (wpAny_eqBool_int ?_)
        by_cases e : k = l
        · subst e
          rw [beq_self_eq_true]
          refine kat_yes (ih (i + 1) q q' (by rw [hf]; simp) ?_)
          simpa [ltL] using h
        · rw [beq_false_of_ne e]
          refine kat_no (oneLt_any ?_)
          simpa [ltL, beq_false_of_ne e] using h
end

section
variable {W : Wd} {A : Around} {E : Value → Shared → Prop} {s : Shared} {σ : Hp}
theorem kv_at {h : Heap} {k : List Int} {x : Value} (r : Rep W h (kv k) x) : ∃ a items n, x = .ref a ∧ h.get? a = some { cls := .type "tuple", data := .seq items n } ∧ IntsAre items.toList k := by
  obtain ⟨a, items, n, rfl, z, e, q⟩ := r.tup_inv
  exact ⟨a, items, n, rfl, e, ints_ind (I := fun xs ks => IntsAre xs ks) .nil (fun _ _ _ _ q => .cons _ _ q) k _ q⟩
theorem kat_tups {h : Heap} {ks : List (List Int)} : ∀ {vs : List Value}, Reps W h (ks.map kv) vs → (∀ k ∈ ks, k ≠ []) → ∃ fs, KatTups h vs fs ∧ fs.length = vs.length ∧ ∀ f ∈ fs, ∃ i t, f = Value.int i t := by
  induction ks with
  | nil => intro vs q _; cases q.nil_inv; exact ⟨[], trivial, rfl, fun _ h => by cases h⟩
  | cons k ks ih =>
    intro vs q hne
    obtain ⟨x, xs, rfl, r, rs⟩ := q.cons_inv
    obtain ⟨fs, t, hl, hf⟩ := ih rs fun k hk => hne k (by simp [hk])
    obtain ⟨a, items, n, rfl, e, q⟩ := kv_at r
    have hk := hne k (by simp)
    have : ∃ f : Value, items[0]? = some f ∧ ∃ i t, f = Value.int i t := by
      have h0 : items[0]? = items.toList[0]? := by simp
      rw [h0]
      generalize items.toList = l at q
      cases q with
      | nil => exact absurd rfl hk
      | cons i t q' => exact ⟨_, rfl, i, t, rfl⟩
    obtain ⟨f, hf0, hf1⟩ := this
    refine ⟨f :: fs, .cons e rfl rfl hf0 t, by simp [hl], fun g hg => ?_⟩
    rcases List.mem_cons.mp hg with rfl | hg
    · exact hf1
    · exact hf g hg

theorem ltL_ok {ks : List (List Int)} (nd : ks.Nodup) : LtOk ks.length (fun i j => ltL (ks.getD i []) (ks.getD j [])) where
  irrefl i _ := ltL_irrefl _
  trans i j k _ _ _ h1 h2 := ltL_trans h1 h2
  total i j hi hj hij h := by
    refine ltL_total (fun e => hij ?_) h
    simp only [List.getD_eq_getElem?_getD, List.getElem?_eq_getElem hi, List.getElem?_eq_getElem hj, Option.getD_some] at e
    exact (List.getElem_inj nd).mp e

end
end RS

namespace RS
open PySem PySem.W PyProof.Rows

noncomputable def gallop' : Bool → Keyed → Array Keyed → Nat → Nat → Nat → StateT SortSt Sem (Option Nat) := sortPriv% PySem.Builtin.gallop
noncomputable def mergeLo' : Array Keyed → Array Keyed → StateT SortSt Sem (Array Keyed) := sortPriv% PySem.Builtin.mergeLo
noncomputable def mergeHi' : Array Keyed → Array Keyed → StateT SortSt Sem (Array Keyed) := sortPriv% PySem.Builtin.mergeHi
structure Cmp (prog : Program) (w : World) (A : Around) (s : Shared) (κ : SortKind) (it : Array Keyed) (n : Nat) (lt : Nat → Nat → Bool) : Prop where
  O : LtOk n lt
  ask : ∀ i j C, i < n → j < n → C (lt i j) s → kas_cmp prog w A κ it i j C s

section
variable {prog : Program} {w : World} {A : Around} {E : Value → Shared → Prop} {s : Shared} {κ : SortKind} {it : Array Keyed} {n : Nat} {lt : Nat → Nat → Bool}
theorem lt_s (H : Cmp prog w A s κ it n lt) {i j : Nat} (hi : i < n) (hj : j < n) {st : SortSt} (hk : kindOf st = κ) {Q : Option Bool → SortSt → Prop} (h : Q (some (lt i j)) st) :
    wpS (model prog w) A E s (lt' (kas_item it i) (kas_item it j)) Q st := by
  rw [lt'_eq]
  refine wpS_bind (wpS_get ?_)
  rw [hk]
  refine wpS_bind (wpS_lift (wpAny_attempt (wpAny_mono (H.ask i j (fun c s' => c = lt i j ∧ s' = s) hi hj ⟨rfl, rfl⟩) (fun c s' hc => ?_) fun _ _ hF => hF.elim)))
  obtain ⟨rfl, rfl⟩ := hc
  exact ⟨rfl, wpS_pure h⟩
theorem elem_s {xs : Array Nat} {i : Nat} (hi : i < xs.size) {st : SortSt} {Q : Keyed → SortSt → Prop} (h : Q (kas_item it (xs.getD i 0)) st) : wpS (model prog w) A E s (elem' (xs.map (kas_item it)) i) Q st := by
  rw [elem'_eq, Array.getElem?_map, Array.getElem?_eq_getElem hi]
  have e : xs.getD i 0 = xs[i] := by simp [Array.getD, hi]
  rw [e] at h
  exact wpS_pure h
/-- what is known of the border between yes and no -/
noncomputable def TimGap (B : Nat → Bool) (m lo hi : Nat) : Prop := lo ≤ hi ∧ hi ≤ m ∧ (∀ i, i < lo → B i = true) ∧ ∀ i, hi ≤ i → i < m → B i = false
theorem gallop_s (H : Cmp prog w A s κ it n lt) {left : Bool} {key : Nat} {xs : Array Nat} {base m hint : Nat} (hb : base + m ≤ xs.size) (hh : hint < m) (hx : ∀ i, i < xs.size → xs.getD i 0 < n) (hkey : key < n) {B : Nat → Bool}
    (hB : ∀ i, B i = if left = true then lt (xs.getD (base + i) 0) key else !lt key (xs.getD (base + i) 0)) (mono : ∀ i j, i < j → j < m → B j = true → B i = true) {st : SortSt} (hk : kindOf st = κ) {Q : Option Nat → SortSt → Prop}
    (h : ∀ k, k ≤ m → (∀ i, i < k → B i = true) → (∀ i, k ≤ i → i < m → B i = false) → Q (some k) st) : wpS (model prog w) A E s (gallop' left (kas_item it key) (xs.map (kas_item it)) base m hint) Q st := by
  have beyond : ∀ {i : Nat} {Q' : Option Bool → SortSt → Prop}, i < m → Q' (some (B i)) st → wpS (model prog w) A E s (do
      let x ← elem' (xs.map (kas_item it)) (base + i)
      if left = true then lt' x (kas_item it key) else do
        let r ← lt' (kas_item it key) x
        pure (Option.map (fun (x : Bool) => !x) r)) Q' st := fun {i Q'} hi hq => by
    refine wpS_bind (elem_s (by lia) ?_)
    rw [hB] at hq
    cases left with
    | true => exact lt_s H (hx _ (by omega)) hkey hk hq
    | false => exact wpS_bind (lt_s H hkey (hx _ (by omega)) hk (wpS_pure hq))
  refine wpS_bind (beyond hh ?_)
  dsimp only
  by_cases hr : B hint = true
  · rw [if_pos hr]
    refine wpS_bind (wpS_mono (wpS_forRange (I := fun i (c : Option (Option Nat) × Nat × Nat) st' => st = st' ∧ c.1 = none ∧ i + 1 ≤ c.2.2 ∧ c.2.1 < c.2.2 ∧ hint + c.2.1 < m ∧ B (hint + c.2.1) = true)
      (Q := fun (c : Option (Option Nat) × Nat × Nat) st' => st = st' ∧ c.1 = none ∧ c.2.1 < c.2.2 ∧ hint + c.2.1 < m ∧ B (hint + c.2.1) = true ∧ (c.2.2 < m - hint → B (hint + c.2.2) = false)) ?_ ?_ ⟨rfl, rfl, Nat.le_refl _, Nat.zero_lt_one, hh, hr⟩) ?_)
    · rintro i ⟨c0, la, ofs⟩ st' _ hi ⟨rfl, hc, h1, h2, h3, h4⟩
      dsimp only at hc h1 h2 h3 h4 ⊢
      subst hc
      by_cases hge : ofs ≥ m - hint
      · rw [if_pos hge]
        exact wpS_pure ⟨rfl, rfl, h2, h3, h4, fun q => absurd q (by dsimp only; (clear q h3 h2 h1 hi hkey hh hb; lia))⟩
      · rw [if_neg hge]
        refine wpS_bind (beyond (i := hint + ofs) (by lia) ?_)
        dsimp only
        cases hm : B (hint + ofs) with
        | true => exact wpS_pure ⟨rfl, rfl, by dsimp only; lia, by dsimp only; lia, by dsimp only; omega, hm⟩
        | false => exact wpS_pure ⟨rfl, rfl, h2, h3, h4, fun _ => hm⟩
    · rintro ⟨c0, la, ofs⟩ st' ⟨rfl, hc, h1, h2, h3, h4⟩
      dsimp only at hc h1 h2 h3 h4 ⊢
      exact ⟨rfl, hc, h2, h3, h4, fun q => absurd q (by lia)⟩
    rintro ⟨c0, la, ofs⟩ st' ⟨rfl, hc, h2, h3, h4, h5⟩
    dsimp only at hc h2 h3 h4 h5 ⊢
    subst hc
    dsimp only
    have hF : TimGap B m (hint + la + 1) (hint + min ofs (m - hint)) := by
      refine ⟨by (clear hkey hh hb; lia), by (clear h3 hkey hb; omega), fun i hi => ?_, fun i hi him => ?_⟩
      · rcases Nat.lt_or_ge i (hint + la) with q | q
        · exact mono i _ q h3 h4
        · have : i = hint + la := by lia
          rw [this]; exact h4
      · have hlt : ofs < m - hint := by (clear h3 h2 hkey hb; lia)
        have h5 := h5 hlt
        cases hbi : B i with
        | false => rfl
        | true =>
          rcases Nat.lt_or_ge (hint + ofs) i with q | q
          · rw [mono _ i q him hbi] at h5; cases h5
          · have : i = hint + ofs := by lia
            rw [this, h5] at hbi; cases hbi
    refine wpS_bind (wpS_mono (wpS_forRange (I := fun i (c : Option (Option Nat) × Nat × Nat) st' => st = st' ∧ c.1 = none ∧ TimGap B m c.2.1 c.2.2 ∧ (c.2.2 - c.2.1) + i ≤ m) (Q := fun (c : Option (Option Nat) × Nat × Nat) st' => st = st' ∧ c.1 = none ∧ TimGap B m c.2.1 c.2.2 ∧ c.2.2 ≤ c.2.1) ?_ ?_ ⟨rfl, rfl, hF, by have := hF.2.1; dsimp only; (clear h2 hkey hb; omega)⟩) ?_)
    · rintro i ⟨c0, lo, hi⟩ st' _ him ⟨rfl, hc, hF, hle⟩
      dsimp only at hc hF hle ⊢
      subst hc
      obtain ⟨f1, f2, f3, f4⟩ := hF
      by_cases hge : lo ≥ hi
      · rw [if_pos hge]
        exact wpS_pure ⟨rfl, rfl, ⟨f1, f2, f3, f4⟩, hge⟩
      · rw [if_neg hge]
        refine wpS_bind (beyond (i := lo + (hi - lo) / 2) (by (clear f1 hle him h3 h2 hkey hh hb; lia)) ?_)
        dsimp only
        by_cases hm : B (lo + (hi - lo) / 2) = true
        · rw [if_pos hm]
          refine wpS_pure ⟨rfl, rfl, ⟨by dsimp only; lia, f2, fun j hj => ?_, f4⟩, by dsimp only; (clear hge f2 h3 h2 hkey hh hb; omega)⟩
          rcases Nat.lt_or_ge j (lo + (hi - lo) / 2) with q | q
          · exact mono j _ q (by (clear q hj f1 hle him h3; omega)) hm
          · have : j = lo + (hi - lo) / 2 := by dsimp only at hj; lia
            rw [this]; exact hm
        · rw [if_neg hm]
          refine wpS_pure ⟨rfl, rfl, ⟨by dsimp only; lia, by dsimp only; (clear hge him h3 h2 hkey hh hb; lia), f3, fun j hj hjm => ?_⟩, by dsimp only; lia⟩
          dsimp only at hj
          cases hbj : B j with
          | false => rfl
          | true =>
            rcases Nat.lt_or_ge (lo + (hi - lo) / 2) j with q | q
            · exact absurd (mono _ j q hjm hbj) hm
            · have : j = lo + (hi - lo) / 2 := by lia
              rw [← this] at hm; exact absurd hbj hm
    · rintro ⟨c0, lo, hi⟩ st' ⟨rfl, hc, hF, hle⟩
      dsimp only at hc hF hle ⊢
      exact ⟨rfl, hc, hF, by lia⟩
    · rintro ⟨c0, lo, hi⟩ st' ⟨rfl, hc, hF, hle⟩
      dsimp only at hc hF hle ⊢
      subst hc
      obtain ⟨f1, f2, f3, f4⟩ := hF
      have e : lo = hi := by lia
      subst e
      exact wpS_pure (h lo f2 f3 f4)
  · rw [if_neg hr]
    have hr' : B hint = false := by cases e : B hint with | true => exact absurd e hr | false => rfl
    refine wpS_bind (wpS_mono (wpS_forRange (I := fun i (c : Option (Option Nat) × Nat × Nat) st' => st = st' ∧ c.1 = none ∧ i + 1 ≤ c.2.2 ∧ c.2.1 < c.2.2 ∧ c.2.1 ≤ hint ∧ B (hint - c.2.1) = false)
      (Q := fun (c : Option (Option Nat) × Nat × Nat) st' => st = st' ∧ c.1 = none ∧ c.2.1 < c.2.2 ∧ c.2.1 ≤ hint ∧ B (hint - c.2.1) = false ∧ (c.2.2 < hint + 1 → B (hint - c.2.2) = true)) ?_ ?_ ⟨rfl, rfl, Nat.le_refl _, Nat.zero_lt_one, Nat.zero_le _, hr'⟩) ?_)
    · rintro i ⟨c0, la, ofs⟩ st' _ hi ⟨rfl, hc, h1, h2, h3, h4⟩
      dsimp only at hc h1 h2 h3 h4 ⊢
      subst hc
      by_cases hge : ofs ≥ hint + 1
      · rw [if_pos hge]
        exact wpS_pure ⟨rfl, rfl, h2, h3, h4, fun q => absurd q (by dsimp only; (clear q h3 h2 h1 hi hkey hb; lia))⟩
      · rw [if_neg hge]
        refine wpS_bind (beyond (i := hint - ofs) (by (clear hge h3 h1 hi hkey; omega)) ?_)
        dsimp only
        cases hm : B (hint - ofs) with
        | true => exact wpS_pure ⟨rfl, rfl, h2, h3, h4, fun _ => hm⟩
        | false => exact wpS_pure ⟨rfl, rfl, by dsimp only; omega, by dsimp only; omega, by dsimp only; lia, hm⟩
    · rintro ⟨c0, la, ofs⟩ st' ⟨rfl, hc, h1, h2, h3, h4⟩
      dsimp only at hc h1 h2 h3 h4 ⊢
      exact ⟨rfl, hc, h2, h3, h4, fun q => absurd q (by (clear q h3 h2 hkey hb; lia))⟩
    rintro ⟨c0, la, ofs⟩ st' ⟨rfl, hc, h2, h3, h4, h5⟩
    dsimp only at hc h2 h3 h4 h5 ⊢
    subst hc
    dsimp only
    have hF : TimGap B m (hint + 1 - min ofs (hint + 1)) (hint - la) := by
      refine ⟨by (clear hkey hh hb; omega), by (clear h3 h2 hkey hb; omega), fun i hi => ?_, fun i hi him => ?_⟩
      · have hlt : ofs < hint + 1 := by (clear h3 h2 hkey hh hb; omega)
        have h5 := h5 hlt
        rcases Nat.lt_or_ge i (hint - ofs) with q | q
        · exact mono i _ q (by (clear q hlt hi h3 h2 hkey hb; omega)) h5
        · have : i = hint - ofs := by lia
          rw [this]; exact h5
      · cases hbi : B i with
        | false => rfl
        | true =>
          rcases Nat.lt_or_ge (hint - la) i with q | q
          · rw [mono _ i q him hbi] at h4; cases h4
          · have : i = hint - la := by lia
            rw [this, h4] at hbi; cases hbi
    refine wpS_bind (wpS_mono (wpS_forRange (I := fun i (c : Option (Option Nat) × Nat × Nat) st' => st = st' ∧ c.1 = none ∧ TimGap B m c.2.1 c.2.2 ∧ (c.2.2 - c.2.1) + i ≤ m) (Q := fun (c : Option (Option Nat) × Nat × Nat) st' => st = st' ∧ c.1 = none ∧ TimGap B m c.2.1 c.2.2 ∧ c.2.2 ≤ c.2.1) ?_ ?_ ⟨rfl, rfl, hF, by have := hF.2.1; dsimp only; (clear this h2 hkey hb; omega)⟩) ?_)
    · rintro i ⟨c0, lo, hi⟩ st' _ him ⟨rfl, hc, hF, hle⟩
      dsimp only at hc hF hle ⊢
      subst hc
      obtain ⟨f1, f2, f3, f4⟩ := hF
      by_cases hge : lo ≥ hi
      · rw [if_pos hge]
        exact wpS_pure ⟨rfl, rfl, ⟨f1, f2, f3, f4⟩, hge⟩
      · rw [if_neg hge]
        refine wpS_bind (beyond (i := lo + (hi - lo) / 2) (by omega) ?_)
        dsimp only
        by_cases hm : B (lo + (hi - lo) / 2) = true
        · rw [if_pos hm]
          refine wpS_pure ⟨rfl, rfl, ⟨by dsimp only; omega, f2, fun j hj => ?_, f4⟩, by dsimp only; omega⟩
          rcases Nat.lt_or_ge j (lo + (hi - lo) / 2) with q | q
          · exact mono j _ q (by (clear q hj f1 hle him h3; omega)) hm
          · have : j = lo + (hi - lo) / 2 := by dsimp only at hj; omega
            rw [this]; exact hm
        · rw [if_neg hm]
          refine wpS_pure ⟨rfl, rfl, ⟨by dsimp only; omega, by dsimp only; omega, f3, fun j hj hjm => ?_⟩, by dsimp only; omega⟩
          dsimp only at hj
          cases hbj : B j with
          | false => rfl
          | true =>
            rcases Nat.lt_or_ge (lo + (hi - lo) / 2) j with q | q
            · exact absurd (mono _ j q hjm hbj) hm
            · have : j = lo + (hi - lo) / 2 := by omega
              rw [← this] at hm; exact absurd hbj hm
    · rintro ⟨c0, lo, hi⟩ st' ⟨rfl, hc, hF, hle⟩
      dsimp only at hc hF hle ⊢
      exact ⟨rfl, hc, hF, by omega⟩
    · rintro ⟨c0, lo, hi⟩ st' ⟨rfl, hc, hF, hle⟩
      dsimp only at hc hF hle ⊢
      subst hc
      obtain ⟨f1, f2, f3, f4⟩ := hF
      have e : lo = hi := by omega
      subst e
      exact wpS_pure (h lo f2 f3 f4)
end
end RS

namespace RS
open PySem PySem.W PyProof.Rows
theorem ext_list {α β : Type} (f : α → β) (X : List α) (i j : Nat) : (X.map f).toArray.extract i j = (((X.drop i).take (j - i)).map f).toArray := by
  rw [List.extract_toArray, List.extract_eq_drop_take, List.map_take, List.map_drop]
theorem ext_end {α β : Type} (f : α → β) (X : List α) (i : Nat) : (X.map f).toArray.extract i = ((X.drop i).map f).toArray := by
  rw [ext_list]
  congr 2
  apply List.take_of_length_le
  simp
theorem app_list {α β : Type} (f : α → β) (X Y : List α) : (X.map f).toArray ++ (Y.map f).toArray = ((X ++ Y).map f).toArray := by
  rw [List.map_append]; simp
theorem push_list {α β : Type} (f : α → β) (X : List α) (y : α) : (X.map f).toArray.push (f y) = ((X ++ [y]).map f).toArray := by
  rw [List.map_append]; simp

section
variable {n : Nat} {lt : Nat → Nat → Bool}
/-- in the midst of a merge -/
structure MI (lt : Nat → Nat → Bool) (X Y O : List Nat) (ia ib : Nat) : Prop where
  perm : O.Perm (X.take ia ++ Y.take ib)
  srt : O.Pairwise fun a b => lt a b = true
  ox : ∀ o ∈ O, ∀ x ∈ X.drop ia, lt o x = true
  oy : ∀ o ∈ O, ∀ y ∈ Y.drop ib, lt o y = true
/-- the two runs -/
structure Two (n : Nat) (lt : Nat → Nat → Bool) (X Y : List Nat) : Prop where
  O : LtOk n lt
  sx : X.Pairwise fun a b => lt a b = true
  sy : Y.Pairwise fun a b => lt a b = true
  bx : ∀ x ∈ X, x < n
  bd : ∀ y ∈ Y, y < n
  ne : ∀ x ∈ X, ∀ y ∈ Y, x ≠ y
/-- a run that is merged -/
noncomputable def Good (lt : Nat → Nat → Bool) (X Y Z : List Nat) : Prop := Z.Perm (X ++ Y) ∧ Z.Pairwise fun a b => lt a b = true
variable {X Y O : List Nat} {ia ib : Nat}
theorem MI.len (m : MI lt X Y O ia ib) (ha : ia ≤ X.length) (hb : ib ≤ Y.length) : O.length = ia + ib := by
  have := m.perm.length_eq
  rw [List.length_append, List.length_take, List.length_take] at this
  lia
theorem drop_get {l : List Nat} {i : Nat} (h : i < l.length) : l.drop i = l[i] :: l.drop (i + 1) := List.drop_eq_getElem_cons h
theorem take_get {l : List Nat} {i : Nat} (h : i < l.length) : l.take (i + 1) = l.take i ++ [l[i]] := by
  rw [List.take_add_one, List.getElem?_eq_getElem h]; rfl
theorem MI.pushY (m : MI lt X Y O ia ib) (T : Two n lt X Y) (hb : ib < Y.length) (h : ∀ x ∈ X.drop ia, lt Y[ib] x = true) : MI lt X Y (O ++ [Y[ib]]) ia (ib + 1) where
  perm := by
    rw [take_get hb, ← List.append_assoc]
    exact m.perm.append_right _
  srt := List.pairwise_append.mpr ⟨m.srt, List.pairwise_singleton _ _, fun o ho y hy => by rw [List.mem_singleton.mp hy]; exact m.oy o ho _ (by rw [drop_get hb]; exact .head _)⟩
  ox := fun o ho x hx => by
    rcases List.mem_append.mp ho with ho | ho
    · exact m.ox o ho x hx
    · rw [List.mem_singleton.mp ho]; exact h x hx
  oy := fun o ho y hy => by
    rcases List.mem_append.mp ho with ho | ho
    · exact m.oy o ho y (by rw [drop_get hb]; exact .tail _ hy)
    · rw [List.mem_singleton.mp ho]
      have := T.sy.sublist (List.drop_sublist ib Y)
      rw [drop_get hb] at this
      exact (List.pairwise_cons.mp this).1 y hy
theorem MI.pushX (m : MI lt X Y O ia ib) (T : Two n lt X Y) (ha : ia < X.length) (h : ∀ y ∈ Y.drop ib, lt X[ia] y = true) : MI lt X Y (O ++ [X[ia]]) (ia + 1) ib where
  perm := by
    rw [take_get ha]
    have := m.perm.append_right [X[ia]]
    refine this.trans ?_
    rw [List.append_assoc, List.append_assoc]
    exact (List.perm_append_comm).append_left _
  srt := List.pairwise_append.mpr ⟨m.srt, List.pairwise_singleton _ _, fun o ho x hx => by rw [List.mem_singleton.mp hx]; exact m.ox o ho _ (by rw [drop_get ha]; exact .head _)⟩
  oy := fun o ho y hy => by
    rcases List.mem_append.mp ho with ho | ho
    · exact m.oy o ho y hy
    · rw [List.mem_singleton.mp ho]; exact h y hy
  ox := fun o ho x hx => by
    rcases List.mem_append.mp ho with ho | ho
    · exact m.ox o ho x (by rw [drop_get ha]; exact .tail _ hx)
    · rw [List.mem_singleton.mp ho]
      have := T.sx.sublist (List.drop_sublist ia X)
      rw [drop_get ha] at this
      exact (List.pairwise_cons.mp this).1 x hx
theorem take_more {l : List Nat} {i k : Nat} (h : i + k < l.length) : (l.drop i).take (k + 1) = (l.drop i).take k ++ [l[i + k]] := by
  rw [List.take_add_one, List.getElem?_drop, List.getElem?_eq_getElem h]; rfl
theorem MI.blockX (m : MI lt X Y O ia ib) (T : Two n lt X Y) : ∀ k, ia + k ≤ X.length → (∀ j (hj : j < X.length), ia ≤ j → j < ia + k → ∀ y ∈ Y.drop ib, lt X[j] y = true) → MI lt X Y (O ++ (X.drop ia).take k) (ia + k) ib
  | 0, _, _ => by rw [List.take_zero, List.append_nil]; exact m
  | k + 1, hk, h => by
    have := (m.blockX T k (by lia) fun j hj h1 h2 => h j hj h1 (by lia)).pushX T (by lia) (h (ia + k) (by omega) (by lia) (by lia))
    rw [take_more (by omega), ← List.append_assoc]
    exact this
theorem MI.blockY (m : MI lt X Y O ia ib) (T : Two n lt X Y) : ∀ k, ib + k ≤ Y.length → (∀ j (hj : j < Y.length), ib ≤ j → j < ib + k → ∀ x ∈ X.drop ia, lt Y[j] x = true) → MI lt X Y (O ++ (Y.drop ib).take k) ia (ib + k)
  | 0, _, _ => by rw [List.take_zero, List.append_nil]; exact m
  | k + 1, hk, h => by
    have := (m.blockY T k (by lia) fun j hj h1 h2 => h j hj h1 (by lia)).pushY T (by lia) (h (ib + k) (by omega) (by lia) (by lia))
    rw [take_more (by omega), ← List.append_assoc]
    exact this
/-- one run is at its end -/
theorem MI.done (m : MI lt X Y O ia ib) (T : Two n lt X Y) (h : X.drop ia = [] ∨ Y.drop ib = []) : Good lt X Y (O ++ X.drop ia ++ Y.drop ib) := by
  constructor
  · have := (m.perm.append_right (X.drop ia)).append_right (Y.drop ib)
    refine this.trans ?_
    have e1 : X.take ia ++ X.drop ia = X := List.take_append_drop ia X
    have e2 : Y.take ib ++ Y.drop ib = Y := List.take_append_drop ib Y
    conv => rhs; rw [← e1, ← e2]
    rw [List.append_assoc, List.append_assoc, List.append_assoc]
    refine List.Perm.append_left _ ?_
    rw [← List.append_assoc, ← List.append_assoc]
    exact (List.perm_append_comm).append_right _
  · refine List.pairwise_append.mpr ⟨List.pairwise_append.mpr ⟨m.srt, T.sx.sublist (List.drop_sublist _ _), m.ox⟩, T.sy.sublist (List.drop_sublist _ _), fun a ha b hb => ?_⟩
    rcases List.mem_append.mp ha with ha | ha
    · exact m.oy a ha b hb
    · rcases h with h | h
      · rw [h] at ha; exact (List.not_mem_nil ha).elim
      · rw [h] at hb; exact (List.not_mem_nil hb).elim
/-- only the last one of the first run is left, and it is greater than all of the second one -/
theorem MI.last (m : MI lt X Y O ia ib) (T : Two n lt X Y) (h : ∀ x ∈ X.drop ia, ∀ y ∈ Y.drop ib, lt y x = true) : Good lt X Y (O ++ Y.drop ib ++ X.drop ia) := by
  constructor
  · have := (m.perm.append_right (Y.drop ib)).append_right (X.drop ia)
    refine this.trans ?_
    have e1 : X.take ia ++ X.drop ia = X := List.take_append_drop ia X
    have e2 : Y.take ib ++ Y.drop ib = Y := List.take_append_drop ib Y
    conv => rhs; rw [← e1, ← e2]
    rw [List.append_assoc, List.append_assoc, List.append_assoc]
    refine List.Perm.append_left _ ?_
    rw [← List.append_assoc]
    exact List.perm_append_comm
  · refine List.pairwise_append.mpr ⟨List.pairwise_append.mpr ⟨m.srt, T.sy.sublist (List.drop_sublist _ _), m.oy⟩, T.sx.sublist (List.drop_sublist _ _), fun a ha b hb => ?_⟩
    rcases List.mem_append.mp ha with ha | ha
    · exact m.ox a ha b hb
    · exact h b hb a ha
end
end RS

namespace RS
open PySem PySem.W PyProof.Rows
noncomputable def stG (st : SortSt) (g : Nat) : SortSt := SortSt.mk' (PyProof.Rows.kindOf st) (arrOf st) (pendingOf st) g (failedOf st)
section
variable {prog : Program} {w : World} {A : Around} {E : Value → Shared → Prop} {s : Shared} {κ : SortKind} {it : Array Keyed} {n : Nat} {lt : Nat → Nat → Bool} {X Y O : List Nat} {ia ib : Nat}
theorem elemL_s {l : List Nat} {i : Nat} (hi : i < l.length) {st : SortSt} {Q : Keyed → SortSt → Prop} (h : Q (kas_item it l[i]) st) : wpS (model prog w) A E s (elem' (l.map (kas_item it)).toArray i) Q st := by
  rw [elem'_eq]
  have e : (l.map (kas_item it)).toArray[i]? = some (kas_item it l[i]) := by simp [hi]
  rw [e]
  exact wpS_pure h
theorem getD_list {l : List Nat} {i : Nat} (h : i < l.length) : l.toArray.getD i 0 = l[i] := by simp [Array.getD, h]
theorem Two.lt_of (T : Two n lt X Y) {x y : Nat} (hx : x ∈ X) (hy : y ∈ Y) (h : lt y x = false) : lt x y = true := T.O.total y x (T.bd y hy) (T.bx x hx) (fun e => T.ne x hx y hy e.symm) h
theorem Two.upX (T : Two n lt X Y) (ha : ia < X.length) {y : Nat} (hy : y ∈ Y) (h : lt y X[ia] = true) : ∀ x ∈ X.drop ia, lt y x = true := fun x hx => by
  have hx' := List.mem_of_mem_drop hx
  rw [drop_get ha] at hx
  rcases List.mem_cons.mp hx with rfl | hx
  · exact h
  · have := T.sx.sublist (List.drop_sublist ia X)
    rw [drop_get ha] at this
    exact T.O.trans _ _ _ (T.bd y hy) (T.bx _ (List.getElem_mem ha)) (T.bx x hx') h ((List.pairwise_cons.mp this).1 x hx)
theorem Two.upY (T : Two n lt X Y) (hb : ib < Y.length) {x : Nat} (hx : x ∈ X) (h : lt x Y[ib] = true) : ∀ y ∈ Y.drop ib, lt x y = true := fun y hy => by
  have hy' := List.mem_of_mem_drop hy
  rw [drop_get hb] at hy
  rcases List.mem_cons.mp hy with rfl | hy
  · exact h
  · have := T.sy.sublist (List.drop_sublist ib Y)
    rw [drop_get hb] at this
    exact T.O.trans _ _ _ (T.bx x hx) (T.bd _ (List.getElem_mem hb)) (T.bd y hy') h ((List.pairwise_cons.mp this).1 y hy)
/-- the border in a run -/
theorem gallopL_s (H : Cmp prog w A s κ it n lt) {left : Bool} {key : Nat} {L : List Nat} {base m hint : Nat} (hb : base + m ≤ L.length) (hh : hint < m) (hL : ∀ x ∈ L, x < n) (hkey : key < n)
    (ss : ∀ i j (hj : j < L.length) (hij : i < j), base ≤ i → j < base + m → lt (L[i]'(Nat.lt_trans hij hj)) L[j] = true) {st : SortSt} (hk : PyProof.Rows.kindOf st = κ) {Q : Option Nat → SortSt → Prop}
    (h : ∀ k, k ≤ m → (∀ j (hj : j < L.length), base ≤ j → j < base + k → (if left = true then lt L[j] key else !lt key L[j]) = true) → (∀ j (hj : j < L.length), base + k ≤ j → j < base + m → (if left = true then lt L[j] key else !lt key L[j]) = false) → Q (some k) st) :
    wpS (model prog w) A E s (gallop' left (kas_item it key) (L.map (kas_item it)).toArray base m hint) Q st := by
  have e : (L.map (kas_item it)).toArray = L.toArray.map (kas_item it) := by simp
  have sz : L.toArray.size = L.length := List.size_toArray
  have lx : ∀ i, i < L.toArray.size → L.toArray.getD i 0 < n := fun i hi => by rw [getD_list (by rw [← sz]; exact hi)]; exact hL _ (List.getElem_mem _)
  rw [e]
  refine gallop_s H (B := fun i => if left = true then lt (L.toArray.getD (base + i) 0) key else !lt key (L.toArray.getD (base + i) 0)) (by rw [sz]; exact hb) hh lx hkey (fun _ => rfl) (fun i j hij hj hB => ?_) hk fun k hkm h1 h2 => h k hkm (fun j hj h3 h4 => ?_) fun j hj h3 h4 => ?_
  · have q := ss (base + i) (base + j) (by lia) (by lia) (by lia) (by lia)
    have b1 := hL _ (List.getElem_mem (show base + i < L.length by lia))
    have b2 := hL _ (List.getElem_mem (show base + j < L.length by (clear b1; omega)))
    rw [getD_list (by (clear b2 b1; omega))] at hB ⊢
    cases left with
    | true => exact H.O.trans _ _ _ b1 b2 hkey q hB
    | false =>
      cases hc : lt key L[base + i] with
      | false => simp [hc]
      | true =>
        have := H.O.trans _ _ _ hkey b1 b2 hc q
        simp [this] at hB
  · have := h1 (j - base) (by (clear hj hkm sz hkey hh hb; lia))
    rw [show base + (j - base) = j by lia, getD_list hj] at this
    exact this
  · have := h2 (j - base) (by lia) (by (clear h3 hj hkm sz hkey hb; lia))
    rw [show base + (j - base) = j by lia, getD_list hj] at this
    exact this
theorem done_eq (f : Nat → Keyed) (O X Y : List Nat) (ia ib : Nat) : (O.map f).toArray ++ (X.map f).toArray.extract ia ++ (Y.map f).toArray.extract ib = ((O ++ X.drop ia ++ Y.drop ib).map f).toArray := by
  rw [ext_end, ext_end, app_list, app_list]
noncomputable def AtM (lt : Nat → Nat → Bool) (it : Array Keyed) (X Y : List Nat) (st st' : SortSt) (out : Array Keyed) (ia ib N : Nat) : Prop := ∃ O g, out = (O.map (kas_item it)).toArray ∧ st' = stG st g ∧ MI lt X Y O ia ib ∧ ia + 1 < X.length ∧ ib < Y.length ∧ N ≤ O.length
noncomputable def EndM (lt : Nat → Nat → Bool) (it : Array Keyed) (X Y : List Nat) (st : SortSt) (r : Option (Array Keyed)) (st' : SortSt) : Prop := ∃ Z g, r = some (Z.map (kas_item it)).toArray ∧ st' = stG st g ∧ Good lt X Y Z
theorem wpS_zeta {α β : Type} {v : β} {b : β → StateT SortSt Sem α} {Q : α → SortSt → Prop} {st : SortSt} (h : wpS (model prog w) A E s (b v) Q st) : wpS (model prog w) A E s (have jp := v; b jp) Q st := h
theorem wpS_ite {α : Type} {c : Prop} [Decidable c] {a b : StateT SortSt Sem α} {Q : α → SortSt → Prop} {st : SortSt} (h1 : c → wpS (model prog w) A E s a Q st) (h2 : ¬ c → wpS (model prog w) A E s b Q st) : wpS (model prog w) A E s (if c then a else b) Q st := by
  by_cases h : c
  · rw [if_pos h]; exact h1 h
  · rw [if_neg h]; exact h2 h
theorem wpS_name {α : Type} {m : StateT SortSt Sem α} {Q : α → SortSt → Prop} {st : SortSt} (h : ∀ R, R = Q → wpS (model prog w) A E s m R st) : wpS (model prog w) A E s m Q st := h Q rfl
theorem wpS_join {α β : Type} {c : Prop} [Decidable c] (jp : β → StateT SortSt Sem α) {a b : β} {Q : α → SortSt → Prop} {st : SortSt} (h : ∀ x, wpS (model prog w) A E s (jp x) Q st) : wpS (model prog w) A E s (if c then jp a else jp b) Q st := wpS_ite (fun _ => h a) fun _ => h b
theorem last_drop {l : List Nat} {i : Nat} (h : i + 1 = l.length) : l.drop i = l.drop (l.length - 1) := by rw [← h]; rfl
theorem mergeLo_s (H : Cmp prog w A s κ it n lt) (T : Two n lt X Y) (hx : 0 < X.length) (hy : 0 < Y.length) (hfirst : ∀ x ∈ X, lt Y[0] x = true) (hlast : ∀ x ∈ X.drop (X.length - 1), ∀ y ∈ Y, lt y x = true) {st : SortSt} (hk : PyProof.Rows.kindOf st = κ) {Q : Array Keyed → SortSt → Prop}
    (h : ∀ Z g, Good lt X Y Z → Q (Z.map (kas_item it)).toArray (stG st g)) : wpS (model prog w) A E s (mergeLo' (X.map (kas_item it)).toArray (Y.map (kas_item it)).toArray) Q st := by
  have m1 : MI lt X Y [Y[0]] 0 1 := by
    have m0 : MI lt X Y [] 0 0 := ⟨List.Perm.refl _, .nil, fun _ h => (List.not_mem_nil h).elim, fun _ h => (List.not_mem_nil h).elim⟩
    exact m0.pushY T hy fun x hx => hfirst x hx
  have szX : (X.map (kas_item it)).toArray.size = X.length := by simp
  have szY : (Y.map (kas_item it)).toArray.size = Y.length := by simp
  -- the two ends
  have endY : ∀ {O : List Nat} {ia ib : Nat}, MI lt X Y O ia ib → ib = Y.length → Good lt X Y (O ++ X.drop ia ++ Y.drop ib) := fun m e => m.done T (.inr (by rw [e]; exact List.drop_length))
  have endX : ∀ {O : List Nat} {ia ib : Nat}, MI lt X Y O ia ib → ia + 1 = X.length → Good lt X Y (O ++ Y.drop ib ++ X.drop ia) := fun m e => m.last T fun x hx y hy => hlast x (by rw [← last_drop e]; exact hx) y (List.mem_of_mem_drop hy)
  have srtX : ∀ (b m : Nat), ∀ i j (hj : j < X.length) (hij : i < j), b ≤ i → j < b + m → lt (X[i]'(Nat.lt_trans hij hj)) X[j] = true := fun b m i j hj hij _ _ => List.pairwise_iff_getElem.mp T.sx i j _ hj hij
  have srtY : ∀ (b m : Nat), ∀ i j (hj : j < Y.length) (hij : i < j), b ≤ i → j < b + m → lt (Y[i]'(Nat.lt_trans hij hj)) Y[j] = true := fun b m i j hj hij _ _ => List.pairwise_iff_getElem.mp T.sy i j _ hj hij
  refine wpS_bind (wpS_lift (wpAny_rule ⟨rfl, ?_⟩))
  refine wpS_bind (elemL_s hy ?_)
  refine wpS_zeta (wpS_zeta (wpS_zeta (wpS_ite (fun e => ?_) fun e => wpS_ite (fun e' => ?_) fun e' => wpS_bind (wpS_get ?_))))
  · have e := eq_of_beq e
    rw [szY] at e
    refine wpS_pure ?_
    have := h _ (gallopOf st) (endY m1 e)
    rw [← done_eq] at this
    exact this
  · have e' := eq_of_beq e'
    rw [szX] at e'
    refine wpS_pure ?_
    have := h _ (gallopOf st) (endX m1 e')
    rw [← done_eq] at this
    exact this
  have e : 1 ≠ Y.length := fun q => e (by rw [szY, ← q]; rfl)
  have e' : 0 + 1 ≠ X.length := fun q => e' (by rw [szX, ← q]; rfl)
  refine wpS_zeta (wpS_bind (wpS_mono (wpS_forRange (I := fun i (c : Option (Array Keyed) × Array Keyed × Nat × Nat × Nat) st' => c.1 = none ∧ AtM lt it X Y st st' c.2.1 c.2.2.1 c.2.2.2.1 (i + 1)) (Q := fun (c : Option (Array Keyed) × Array Keyed × Nat × Nat × Nat) st' => EndM lt it X Y st c.1 st') ?_ ?_ ⟨rfl, [Y[0]], gallopOf st, rfl, rfl, m1, by dsimp only; (clear e szY szX; lia), by dsimp only; (clear e' szY szX hx; lia), Nat.le_refl _⟩) ?_))
  · rintro i ⟨c0, out, ia, ib, mg⟩ st' _ hi ⟨hc, A0⟩
    dsimp only at hc A0
    iterate 7 refine wpS_zeta ?_
    refine wpS_bind (wpS_mono (wpS_forRange (I := fun j (c : Option (Array Keyed) × Array Keyed × Nat × Nat × Nat × Nat) st' => c.1 = none ∧ AtM lt it X Y st st' c.2.1 c.2.2.1 c.2.2.2.1 (i + 1)) (Q := fun (c : Option (Array Keyed) × Array Keyed × Nat × Nat × Nat × Nat) st' => EndM lt it X Y st c.1 st' ∨ (c.1 = none ∧ AtM lt it X Y st st' c.2.1 c.2.2.1 c.2.2.2.1 (i + 1))) ?_ ?_ ⟨rfl, A0⟩) ?_)
    · clear A0 hc
      rintro j ⟨c0, out, ia, ib, ac, bc⟩ st' _ hj ⟨hc, O, g, rfl, rfl, m, ha, hb, hN⟩
      dsimp only at hc m ha hb hN
      iterate 9 refine wpS_zeta ?_
      refine wpS_bind (elemL_s hb (wpS_bind (elemL_s (Nat.lt_of_succ_lt ha) (wpS_bind (lt_s H (T.bd _ (List.getElem_mem hb)) (T.bx _ (List.getElem_mem (Nat.lt_of_succ_lt ha))) (st := stG st g) hk ?_)))))
      have ha' := Nat.lt_of_succ_lt ha
      have hml := m.len (by lia) (by lia)
      cases hw : lt Y[ib] X[ia] with
      | true =>
        refine wpS_bind (elemL_s hb ?_)
        have m' := m.pushY T hb (T.upX ha' (List.getElem_mem hb) hw)
        iterate 4 refine wpS_zeta ?_
        refine wpS_ite (fun q => wpS_pure (.inl ?_)) fun q => ?_
        · have q := eq_of_beq q
          rw [szY] at q
          exact ⟨_, g, congrArg some (by rw [push_list]; exact done_eq ..), rfl, endY m' q⟩
        · have q : ib + 1 ≠ Y.length := fun q' => q (by rw [szY]; exact beq_iff_eq.mpr q')
          have at' : AtM lt it X Y st (stG st g) ((O.map (kas_item it)).toArray.push (kas_item it Y[ib])) ia (ib + 1) (i + 1) := ⟨_, g, push_list .., rfl, m', ha, by (clear hml hN ha hj hi e' e szY szX hx; lia), by rw [List.length_append]; (clear q hml ha hj hi e' e szY szX hx; lia)⟩
          exact wpS_ite (fun _ => wpS_pure (.inr ⟨rfl, at'⟩)) fun _ => wpS_pure ⟨rfl, at'⟩
      | false =>
        refine wpS_bind (elemL_s ha' ?_)
        have m' := m.pushX T ha' (T.upY hb (List.getElem_mem ha') (T.lt_of (List.getElem_mem ha') (List.getElem_mem hb) hw))
        iterate 4 refine wpS_zeta ?_
        refine wpS_ite (fun q => wpS_pure (.inl ?_)) fun q => ?_
        · have q := eq_of_beq q
          rw [szX] at q
          exact ⟨_, g, congrArg some (by rw [push_list]; exact done_eq ..), rfl, endX m' q⟩
        · have q : ia + 1 + 1 ≠ X.length := fun q' => q (by rw [szX]; exact beq_iff_eq.mpr q')
          have at' : AtM lt it X Y st (stG st g) ((O.map (kas_item it)).toArray.push (kas_item it X[ia])) (ia + 1) ib (i + 1) := ⟨_, g, push_list .., rfl, m', by (clear hml hN hj hi e' e szY szX; lia), hb, by rw [List.length_append]; (clear q hml ha hj hi e' e szY szX hx; lia)⟩
          exact wpS_ite (fun _ => wpS_pure (.inr ⟨rfl, at'⟩)) fun _ => wpS_pure ⟨rfl, at'⟩
    · rintro ⟨c0, out, ia, ib, ac, bc⟩ st' hI
      exact .inr hI
    clear A0 hc
    rintro ⟨c0, out, ia, ib, ac, bc⟩ st' hI
    rcases hI with ⟨Z, g, hc, rfl, hG⟩ | ⟨hc, A0⟩
    · dsimp only at hc
      subst hc
      exact wpS_pure ⟨Z, g, rfl, rfl, hG⟩
    dsimp only at hc A0
    subst hc
    refine wpS_bind (wpS_lift (wpAny_rule ⟨rfl, ?_⟩))
    refine wpS_zeta ?_
    refine wpS_bind (wpS_mono (wpS_forRange (I := fun j (c : Option (Array Keyed) × Array Keyed × Nat × Nat × Nat × Nat × Nat) st' => c.1 = none ∧ AtM lt it X Y st st' c.2.1 c.2.2.1 c.2.2.2.1 (i + 1 + min j 1)) (Q := fun (c : Option (Array Keyed) × Array Keyed × Nat × Nat × Nat × Nat × Nat) st' => EndM lt it X Y st c.1 st' ∨ (c.1 = none ∧ AtM lt it X Y st st' c.2.1 c.2.2.1 c.2.2.2.1 (i + 2))) ?_ ?_ ⟨rfl, A0⟩) ?_)
    · clear A0
      rintro j ⟨c0, out, ia, ib, mg, ac, bc⟩ st' _ hj ⟨hc, O, g, rfl, rfl, m, ha, hb, hN⟩
      dsimp only at hc m ha hb hN
      refine wpS_name fun R hR => ?_
      have yes : ∀ (c : Option (Array Keyed) × Array Keyed × Nat × Nat × Nat × Nat × Nat) st', EndM lt it X Y st c.1 st' ∨ (c.1 = none ∧ AtM lt it X Y st st' c.2.1 c.2.2.1 c.2.2.2.1 (i + 2)) → R (.done c) st' := fun c st' q => by rw [hR]; exact q
      have no : ∀ (c : Option (Array Keyed) × Array Keyed × Nat × Nat × Nat × Nat × Nat) st', c.1 = none ∧ AtM lt it X Y st st' c.2.1 c.2.2.1 c.2.2.2.1 (i + 1 + min (j + 1) 1) → R (.yield c) st' := fun c st' q => by rw [hR]; exact q
      extract_lets z1 z2 z3 z4 z5 z6 z7 z8 z9 z10 z11 z12 jp
      refine wpS_join (jp ()) ?_
      intro g'
      refine wpS_bind (wpS_modify ?_)
      show wpS _ _ _ _ _ R (stG st g')
      have ha' := Nat.lt_of_succ_lt ha
      refine wpS_bind (elemL_s hb (wpS_bind (gallopL_s H (base := ia) (m := (X.map (kas_item it)).toArray.size - ia) (L := X) (by rw [szX]; (clear ha' hN hb hj hi e' e szY szX; omega)) (by rw [szX]; (clear ha' hN hb hj hi e' e szY szX; omega)) T.bx (T.bd _ (List.getElem_mem hb)) (srtX _ _) (st := stG st g') hk fun k hkm h1 h2 => ?_)))
      rw [szX] at hkm h2
      dsimp (config := { zeta := false }) only
      have lo : ∀ j (hj : j < X.length), ia ≤ j → j < ia + k → ∀ y ∈ Y.drop ib, lt X[j] y = true := fun j hj q1 q2 => by
        have := h1 j hj q1 q2
        rw [if_neg Bool.false_ne_true, Bool.not_eq_true'] at this
        exact T.upY hb (List.getElem_mem hj) (T.lt_of (List.getElem_mem hj) (List.getElem_mem hb) this)
      have hi' : ia + k < X.length → ∀ x ∈ X.drop (ia + k), lt Y[ib] x = true := fun q => by
        have := h2 (ia + k) q (Nat.le_refl _) (by (clear hkm ha' hN ha hj hi e' e szY szX; omega))
        rw [if_neg Bool.false_ne_true, Bool.not_eq_false'] at this
        exact T.upX q (List.getElem_mem hb) this
      extract_lets ac2 jp2
      have hjp : ∀ O ia, MI lt X Y O ia ib → ia + 1 < X.length → (∀ x ∈ X.drop ia, lt Y[ib] x = true) → i + 1 + min j 1 ≤ O.length → wpS (model prog w) A E s (jp2 () (O.map (kas_item it)).toArray ia) R (stG st g') := by
        clear lo hi' h1 h2 hkm m ha ha' hN
        intro O ia m ha hlt hN
        have ha' := Nat.lt_of_succ_lt ha
        refine wpS_bind (elemL_s hb ?_)
        have m' := m.pushY T hb hlt
        refine wpS_ite (fun q => wpS_pure (yes _ _ (.inl ?_))) fun q => ?_
        · have q := eq_of_beq q
          rw [szY] at q
          exact ⟨_, g', congrArg some (by rw [push_list]; exact done_eq ..), rfl, endY m' q⟩
        have q : ib + 1 ≠ Y.length := fun q' => q (by rw [szY]; exact beq_iff_eq.mpr q')
        refine wpS_bind (elemL_s ha' (wpS_bind (gallopL_s H (base := ib + 1) (m := (Y.map (kas_item it)).toArray.size - (ib + 1)) (L := Y) (by rw [szY]; (clear q ha' hN ha hj hi e' e szY szX hx; omega)) (by rw [szY]; (clear ha' hN ha hj hi e' e szY szX hx; omega)) T.bd (T.bx _ (List.getElem_mem ha')) (srtY _ _) (st := stG st g') hk fun k hkm h1 h2 => ?_)))
        rw [szY] at hkm h2
        dsimp (config := { zeta := false }) only
        have lo : ∀ j (hj : j < Y.length), ib + 1 ≤ j → j < ib + 1 + k → ∀ x ∈ X.drop ia, lt Y[j] x = true := fun j hj q1 q2 => by
          have := h1 j hj q1 q2
          rw [if_pos rfl] at this
          exact T.upX ha' (List.getElem_mem hj) this
        have hi' : ib + 1 + k < Y.length → ∀ y ∈ Y.drop (ib + 1 + k), lt X[ia] y = true := fun q => by
          have := h2 (ib + 1 + k) q (Nat.le_refl _) (by (clear hkm hN ha hj hi e' e szY szX hx; omega))
          rw [if_pos rfl] at this
          exact T.upY q (List.getElem_mem ha') (T.lt_of (List.getElem_mem ha') (List.getElem_mem q) this)
        extract_lets bc3 i3 jp3
        have hjp3 : ∀ O ib, MI lt X Y O ia ib → ib < Y.length → (∀ y ∈ Y.drop ib, lt X[ia] y = true) → i + 1 + min j 1 + 1 ≤ O.length → wpS (model prog w) A E s (jp3 () (O.map (kas_item it)).toArray ib) R (stG st g') := by
          clear lo hi' h1 h2 hkm m m' hlt hN q
          intro O ib m hb hlt hN
          refine wpS_bind (elemL_s ha' ?_)
          have m' := m.pushX T ha' hlt
          refine wpS_ite (fun q => wpS_pure (yes _ _ (.inl ?_))) fun q => ?_
          · have q := eq_of_beq q
            rw [szX] at q
            exact ⟨_, g', congrArg some (by rw [push_list]; exact done_eq ..), rfl, endX m' q⟩
          have q : ia + 1 + 1 ≠ X.length := fun q' => q (by rw [szX]; exact beq_iff_eq.mpr q')
          exact wpS_ite (fun _ => wpS_pure (yes _ _ (.inr ⟨rfl, _, g', push_list .., rfl, m', by show ia + 1 + 1 < _; (clear hN hb hj hi e' e szY szX; lia), hb, by rw [List.length_append, List.length_singleton]; lia⟩))) fun _ => wpS_pure (no _ _ ⟨rfl, _, g', push_list .., rfl, m', by show ia + 1 + 1 < _; omega, hb, by rw [List.length_append, List.length_singleton]; (clear q hb ha hj hi e' e szY szX hx; omega)⟩)
        refine wpS_ite (fun hk0 => ?_) fun hk0 => ?_
        · have m'' := m'.blockY T k (by (clear hk0 q hN ha hj hi e' e szY szX hx; omega)) lo
          have eo : (O.map (kas_item it)).toArray.push (kas_item it Y[ib]) ++ (Y.map (kas_item it)).toArray.extract (ib + 1) (ib + 1 + k) = ((O ++ [Y[ib]] ++ (Y.drop (ib + 1)).take k).map (kas_item it)).toArray := by
            rw [push_list, ext_list, app_list, Nat.add_sub_cancel_left]
          refine wpS_zeta (wpS_ite (fun q => wpS_pure (yes _ _ (.inl ?_))) fun q => ?_)
          · have q := eq_of_beq q
            rw [szY] at q
            exact ⟨_, g', congrArg some ((congrArg (fun o => o ++ (X.map (kas_item it)).toArray.extract ia ++ (Y.map (kas_item it)).toArray.extract (ib + 1 + k)) eo).trans (done_eq ..)), rfl, endY m'' q⟩
          · have q : ib + 1 + k ≠ Y.length := fun q' => q (by rw [szY]; exact beq_iff_eq.mpr q')
            have fin := hjp3 _ _ m'' (by (clear hk0 hN ha hj hi e' e szY szX hx; omega)) (hi' (by omega)) (by rw [List.length_append, List.length_append, List.length_singleton]; lia)
            rw [← eo] at fin
            exact fin
        · obtain rfl : k = 0 := by lia
          have fin := hjp3 _ _ m' (by (clear hk0 hkm hN ha hj hi e' e szY szX hx; lia)) (hi' (by (clear hk0 hkm hN ha hj hi e' e szY szX hx; lia))) (by rw [List.length_append, List.length_singleton]; lia)
          rw [← push_list] at fin
          exact fin
      refine wpS_ite (fun hk0 => ?_) fun hk0 => ?_
      · have m' := m.blockX T k (by (clear hk0 ha' hN hj hi e' e szY szX; omega)) lo
        have eo : (O.map (kas_item it)).toArray ++ (X.map (kas_item it)).toArray.extract ia (ia + k) = ((O ++ (X.drop ia).take k).map (kas_item it)).toArray := by
          rw [ext_list, app_list, Nat.add_sub_cancel_left]
        refine wpS_zeta (wpS_ite (fun q => wpS_pure (yes _ _ (.inl ?_))) fun q => wpS_ite (fun q' => wpS_pure (yes _ _ (.inl ?_))) fun q' => ?_)
        · have q := eq_of_beq q
          rw [szX] at q
          exact ⟨_, g', congrArg some ((congrArg (fun o => o ++ (Y.map (kas_item it)).toArray.extract ib ++ (X.map (kas_item it)).toArray.extract (ia + k)) eo).trans (done_eq ..)), rfl, endX m' q⟩
        · have q' := eq_of_beq q'
          rw [szX] at q'
          have q' : ia + k = X.length := q'
          exact ⟨_, g', congrArg some ((congrArg (fun o => o ++ (X.map (kas_item it)).toArray.extract (ia + k) ++ (Y.map (kas_item it)).toArray.extract ib) eo).trans (done_eq ..)), rfl, m'.done T (.inl (by rw [q']; exact List.drop_length))⟩
        · have q : ia + k + 1 ≠ X.length := fun z => q (by rw [szX]; exact beq_iff_eq.mpr z)
          have q' : ia + k ≠ X.length := fun z => q' (by rw [szX]; exact beq_iff_eq.mpr z)
          have fin := hjp _ _ m' (by (clear hk0 ha' hN hj hi e' e szY szX; omega)) (hi' (by (clear q hk0 ha' hN hj hi e' e szY szX; omega))) (by rw [List.length_append]; lia)
          rw [← eo] at fin
          exact fin
      · obtain rfl : k = 0 := by lia
        exact hjp _ _ m ha (hi' (by lia)) hN
    · rintro ⟨c0, out, ia, ib, mg, ac, bc⟩ st' ⟨hc, O, g, h1, h2, m, ha, hb, hN⟩
      rw [szX, szY] at hN
      exact .inr ⟨hc, O, g, h1, h2, m, ha, hb, by (clear hb ha hi e' e szY szX; lia)⟩
    · clear A0
      rintro ⟨c0, out, ia, ib, mg, ac, bc⟩ st' hI
      rcases hI with ⟨Z, g, hc, rfl, hG⟩ | ⟨hc, O, g, rfl, rfl, m, ha, hb, hN⟩
      · dsimp only at hc
        subst hc
        exact wpS_pure ⟨Z, g, rfl, rfl, hG⟩
      · dsimp only at hc
        subst hc
        refine wpS_zeta (wpS_bind (wpS_modify ?_))
        exact wpS_pure ⟨rfl, O, _, rfl, rfl, m, ha, hb, hN⟩
  · rintro ⟨c0, out, ia, ib, mg⟩ st' ⟨hc, O, g, h1, h2, m, ha, hb, hN⟩
    rw [szX, szY] at hN
    dsimp only at ha hb m
    have := m.len (by lia) (by lia)
    lia
  · rintro ⟨c0, out, ia, ib, mg⟩ st' ⟨Z, g, hc, rfl, hG⟩
    dsimp only at hc
    subst hc
    exact wpS_pure (h Z g hG)
end
end RS

namespace RS
open PySem PySem.W PyProof.Rows
section
variable {n : Nat} {lt : Nat → Nat → Bool}
/-- in the midst of a merge from behind -/
structure MH (lt : Nat → Nat → Bool) (X Y O : List Nat) (na nb : Nat) : Prop where
  perm : O.Perm (X.drop na ++ Y.drop nb)
  srt : O.Pairwise fun a b => lt a b = true
  ox : ∀ o ∈ O, ∀ x ∈ X.take na, lt x o = true
  oy : ∀ o ∈ O, ∀ y ∈ Y.take nb, lt y o = true
variable {X Y O : List Nat} {na nb : Nat}
theorem MH.len (m : MH lt X Y O na nb) : O.length = (X.length - na) + (Y.length - nb) := by
  have := m.perm.length_eq
  rw [List.length_append, List.length_drop, List.length_drop] at this
  exact this
theorem take_mono {l : List Nat} {i : Nat} {x : Nat} (h : x ∈ l.take i) : x ∈ l.take (i + 1) := by
  have e : l.take i = (l.take (i + 1)).take i := by rw [List.take_take]; congr 1; lia
  rw [e] at h
  exact List.mem_of_mem_take h
theorem MH.pushX (m : MH lt X Y O (na + 1) nb) (T : Two n lt X Y) (ha : na < X.length) (h : ∀ y ∈ Y.take nb, lt y X[na] = true) : MH lt X Y (X[na] :: O) na nb where
  perm := by rw [drop_get ha]; exact m.perm.cons _
  srt := List.pairwise_cons.mpr ⟨fun o ho => m.ox o ho _ (by rw [take_get ha]; exact List.mem_append_right _ (.head _)), m.srt⟩
  ox := fun o ho x hx => by
    rcases List.mem_cons.mp ho with rfl | ho
    · have := T.sx.sublist (List.take_sublist (na + 1) X)
      rw [take_get ha] at this
      exact (List.pairwise_append.mp this).2.2 x hx _ (.head _)
    · exact m.ox o ho x (take_mono hx)
  oy := fun o ho y hy => by
    rcases List.mem_cons.mp ho with rfl | ho
    · exact h y hy
    · exact m.oy o ho y hy
theorem MH.pushY (m : MH lt X Y O na (nb + 1)) (T : Two n lt X Y) (hb : nb < Y.length) (h : ∀ x ∈ X.take na, lt x Y[nb] = true) : MH lt X Y (Y[nb] :: O) na nb where
  perm := by
    rw [drop_get hb]
    exact (m.perm.cons _).trans List.perm_middle.symm
  srt := List.pairwise_cons.mpr ⟨fun o ho => m.oy o ho _ (by rw [take_get hb]; exact List.mem_append_right _ (.head _)), m.srt⟩
  oy := fun o ho y hy => by
    rcases List.mem_cons.mp ho with rfl | ho
    · have := T.sy.sublist (List.take_sublist (nb + 1) Y)
      rw [take_get hb] at this
      exact (List.pairwise_append.mp this).2.2 y hy _ (.head _)
    · exact m.oy o ho y (take_mono hy)
  ox := fun o ho x hx => by
    rcases List.mem_cons.mp ho with rfl | ho
    · exact h x hx
    · exact m.ox o ho x hx
theorem take_front {l : List Nat} {i k : Nat} (h : i < l.length) : (l.drop i).take (k + 1) = l[i] :: (l.drop (i + 1)).take k := by
  rw [drop_get h, List.take_succ_cons]
theorem MH.blockX (T : Two n lt X Y) : ∀ k (na : Nat), MH lt X Y O (na + k) nb → na + k ≤ X.length → (∀ j (hj : j < X.length), na ≤ j → j < na + k → ∀ y ∈ Y.take nb, lt y X[j] = true) → MH lt X Y ((X.drop na).take k ++ O) na nb
  | 0, na, m, _, _ => by rw [List.take_zero]; exact m
  | k + 1, na, m, hk, h => by
    rw [take_front (by lia), List.cons_append]
    exact (MH.blockX T k (na + 1) (by rw [Nat.add_right_comm]; exact m) (by lia) fun j hj h1 h2 => h j hj (by lia) (by lia)).pushX T (by omega) (h na (by omega) (Nat.le_refl _) (by lia))
theorem MH.blockY (T : Two n lt X Y) : ∀ k (nb : Nat), MH lt X Y O na (nb + k) → nb + k ≤ Y.length → (∀ j (hj : j < Y.length), nb ≤ j → j < nb + k → ∀ x ∈ X.take na, lt x Y[j] = true) → MH lt X Y ((Y.drop nb).take k ++ O) na nb
  | 0, nb, m, _, _ => by rw [List.take_zero]; exact m
  | k + 1, nb, m, hk, h => by
    rw [take_front (by lia), List.cons_append]
    exact (MH.blockY T k (nb + 1) (by rw [Nat.add_right_comm]; exact m) (by lia) fun j hj h1 h2 => h j hj (by lia) (by lia)).pushY T (by omega) (h nb (by omega) (Nat.le_refl _) (by lia))
theorem MH.done (m : MH lt X Y O na nb) (T : Two n lt X Y) (h : X.take na = [] ∨ Y.take nb = []) : Good lt X Y (X.take na ++ Y.take nb ++ O) := by
  constructor
  · refine (m.perm.append_left (X.take na ++ Y.take nb)).trans ?_
    have e1 : X.take na ++ X.drop na = X := List.take_append_drop na X
    have e2 : Y.take nb ++ Y.drop nb = Y := List.take_append_drop nb Y
    conv => rhs; rw [← e1, ← e2]
    rw [List.append_assoc, List.append_assoc]
    refine List.Perm.append_left _ ?_
    rw [← List.append_assoc, ← List.append_assoc]
    exact (List.perm_append_comm).append_right _
  · refine List.pairwise_append.mpr ⟨List.pairwise_append.mpr ⟨T.sx.sublist (List.take_sublist _ _), T.sy.sublist (List.take_sublist _ _), fun a ha b hb => ?_⟩, m.srt, fun a ha b hb => ?_⟩
    · rcases h with h | h
      · rw [h] at ha; exact (List.not_mem_nil ha).elim
      · rw [h] at hb; exact (List.not_mem_nil hb).elim
    · exact (List.mem_append.mp ha).elim (m.ox b hb a) (m.oy b hb a)
theorem MH.first (m : MH lt X Y O na nb) (T : Two n lt X Y) (h : ∀ x ∈ X.take na, ∀ y ∈ Y.take nb, lt y x = true) : Good lt X Y (Y.take nb ++ X.take na ++ O) := by
  constructor
  · refine (m.perm.append_left (Y.take nb ++ X.take na)).trans ?_
    have e1 : X.take na ++ X.drop na = X := List.take_append_drop na X
    have e2 : Y.take nb ++ Y.drop nb = Y := List.take_append_drop nb Y
    have : (Y.take nb ++ X.take na ++ (X.drop na ++ Y.drop nb)) = Y.take nb ++ (X ++ Y.drop nb) := by
      rw [List.append_assoc, ← List.append_assoc (X.take na), e1]
    rw [this, ← List.append_assoc]
    have h2 : (Y.take nb ++ X ++ Y.drop nb).Perm (X ++ Y.take nb ++ Y.drop nb) := (List.perm_append_comm).append_right _
    refine h2.trans ?_
    rw [List.append_assoc, e2]
  · refine List.pairwise_append.mpr ⟨List.pairwise_append.mpr ⟨T.sy.sublist (List.take_sublist _ _), T.sx.sublist (List.take_sublist _ _), fun a ha b hb => h b hb a ha⟩, m.srt, fun a ha b hb => ?_⟩
    exact (List.mem_append.mp ha).elim (m.oy b hb a) (m.ox b hb a)
theorem mem_take {l : List Nat} {m x : Nat} (h : x ∈ l.take m) : ∃ j, ∃ hj : j < l.length, j < m ∧ l[j] = x := by
  obtain ⟨j, hj, e⟩ := List.getElem_of_mem h
  rw [List.length_take] at hj
  exact ⟨j, by lia, by lia, by rw [← e, List.getElem_take]⟩
theorem Two.downX (T : Two n lt X Y) (ha : na < X.length) {y : Nat} (hy : y ∈ Y) (h : lt X[na] y = true) : ∀ x ∈ X.take (na + 1), lt x y = true := fun x hx => by
  have hx' := List.mem_of_mem_take hx
  rw [take_get ha] at hx
  rcases List.mem_append.mp hx with hx | hx
  · have := T.sx.sublist (List.take_sublist (na + 1) X)
    rw [take_get ha] at this
    exact T.O.trans _ _ _ (T.bx x hx') (T.bx _ (List.getElem_mem ha)) (T.bd y hy) ((List.pairwise_append.mp this).2.2 x hx _ (.head _)) h
  · rw [List.mem_singleton.mp hx]; exact h
theorem Two.downY (T : Two n lt X Y) (hb : nb < Y.length) {x : Nat} (hx : x ∈ X) (h : lt Y[nb] x = true) : ∀ y ∈ Y.take (nb + 1), lt y x = true := fun y hy => by
  have hy' := List.mem_of_mem_take hy
  rw [take_get hb] at hy
  rcases List.mem_append.mp hy with hy | hy
  · have := T.sy.sublist (List.take_sublist (nb + 1) Y)
    rw [take_get hb] at this
    exact T.O.trans _ _ _ (T.bd y hy') (T.bd _ (List.getElem_mem hb)) (T.bx x hx) ((List.pairwise_append.mp this).2.2 y hy _ (.head _)) h
  · rw [List.mem_singleton.mp hy]; exact h
theorem rev_push {α : Type} (f : Nat → α) (O : List Nat) (x : Nat) : (O.reverse.map f).toArray.push (f x) = ((x :: O).reverse.map f).toArray := by
  rw [push_list, List.reverse_cons]
theorem rev_block {α : Type} (f : Nat → α) (O L : List Nat) (i j : Nat) : (O.reverse.map f).toArray ++ ((L.map f).toArray.extract i j).reverse = (((L.drop i).take (j - i) ++ O).reverse.map f).toArray := by
  rw [ext_list, List.reverse_append, List.map_append]
  simp
theorem doneH_eq (f : Nat → Keyed) (O X Y : List Nat) (na nb : Nat) : (X.map f).toArray.extract 0 na ++ (Y.map f).toArray.extract 0 nb ++ (O.reverse.map f).toArray.reverse = ((X.take na ++ Y.take nb ++ O).map f).toArray := by
  rw [ext_list, ext_list, List.drop_zero, List.drop_zero, Nat.sub_zero, Nat.sub_zero, List.map_append, List.map_append]
  simp
end
end RS

namespace RS
open PySem PySem.W PyProof.Rows
section
variable {prog : Program} {w : World} {A : Around} {E : Value → Shared → Prop} {s : Shared} {κ : SortKind} {it : Array Keyed} {n : Nat} {lt : Nat → Nat → Bool} {X Y O : List Nat}
theorem elemL_e {l : List Nat} {i j : Nat} (e : i = j) (hj : j < l.length) {st : SortSt} {Q : Keyed → SortSt → Prop} (h : Q (kas_item it l[j]) st) : wpS (model prog w) A E s (elem' (l.map (kas_item it)).toArray i) Q st := by
  subst e
  exact elemL_s hj h
noncomputable def AtH (lt : Nat → Nat → Bool) (it : Array Keyed) (X Y : List Nat) (st st' : SortSt) (out : Array Keyed) (na nb N : Nat) : Prop := ∃ O g, out = (O.reverse.map (kas_item it)).toArray ∧ st' = stG st g ∧ MH lt X Y O na nb ∧ 0 < na ∧ 1 < nb ∧ na ≤ X.length ∧ nb ≤ Y.length ∧ N ≤ O.length
set_option maxHeartbeats 2000000 in
theorem mergeHi_s (H : Cmp prog w A s κ it n lt) (T : Two n lt X Y) (hx : 0 < X.length) (hy : 0 < Y.length) (hfirst : ∀ x ∈ X, lt Y[0] x = true) (hlast : ∀ x ∈ X.drop (X.length - 1), ∀ y ∈ Y, lt y x = true) {st : SortSt} (hk : PyProof.Rows.kindOf st = κ) {Q : Array Keyed → SortSt → Prop}
    (h : ∀ Z g, Good lt X Y Z → Q (Z.map (kas_item it)).toArray (stG st g)) : wpS (model prog w) A E s (mergeHi' (X.map (kas_item it)).toArray (Y.map (kas_item it)).toArray) Q st := by
  obtain ⟨p, hp⟩ : ∃ p, X.length = p + 1 := ⟨X.length - 1, by lia⟩
  have hpx : p < X.length := by lia
  have m1 : MH lt X Y [X[p]] p Y.length := by
    have m0 : MH lt X Y [] (p + 1) Y.length := ⟨by rw [List.drop_eq_nil_of_le (by lia), List.drop_length]; exact List.Perm.refl _, .nil, fun _ h => (List.not_mem_nil h).elim, fun _ h => (List.not_mem_nil h).elim⟩
    exact m0.pushX T hpx fun y hy => hlast _ (by rw [hp, Nat.add_sub_cancel, drop_get hpx]; exact .head _) y (List.mem_of_mem_take hy)
  have szX : (X.map (kas_item it)).toArray.size = X.length := by simp
  have szY : (Y.map (kas_item it)).toArray.size = Y.length := by simp
  have szX' : (X.map (kas_item it)).toArray.size - 1 = p := by rw [szX, hp]; rfl
  have endA : ∀ {O : List Nat} {na nb : Nat}, MH lt X Y O na nb → na = 0 → Good lt X Y (X.take na ++ Y.take nb ++ O) := fun m e => m.done T (.inl (by rw [e]; rfl))
  have endB : ∀ {O : List Nat} {na nb : Nat}, MH lt X Y O na nb → nb = 1 → Good lt X Y (Y.take nb ++ X.take na ++ O) := fun m e => m.first T fun x hx y hy => by
    rw [e] at hy
    obtain ⟨j, hj, hj1, rfl⟩ := mem_take hy
    obtain rfl : j = 0 := by lia
    exact hfirst x (List.mem_of_mem_take hx)
  have srtX : ∀ (b m : Nat), ∀ i j (hj : j < X.length) (hij : i < j), b ≤ i → j < b + m → lt (X[i]'(Nat.lt_trans hij hj)) X[j] = true := fun b m i j hj hij _ _ => List.pairwise_iff_getElem.mp T.sx i j _ hj hij
  have srtY : ∀ (b m : Nat), ∀ i j (hj : j < Y.length) (hij : i < j), b ≤ i → j < b + m → lt (Y[i]'(Nat.lt_trans hij hj)) Y[j] = true := fun b m i j hj hij _ _ => List.pairwise_iff_getElem.mp T.sy i j _ hj hij
  refine wpS_bind (wpS_lift (wpAny_rule ⟨rfl, ?_⟩))
  refine wpS_bind (elemL_e szX' hpx ?_)
  refine wpS_zeta (wpS_ite (fun e => ?_) fun e => wpS_ite (fun e' => ?_) fun e' => wpS_bind (wpS_get ?_))
  · have e := eq_of_beq e
    refine wpS_pure ?_
    have := h _ (gallopOf st) (endA m1 (szX'.symm.trans e))
    rw [← doneH_eq] at this
    rw [szX', szY]
    exact this
  · have e' := eq_of_beq e'
    refine wpS_pure ?_
    have := h _ (gallopOf st) (endB m1 (szY.symm.trans e'))
    rw [← doneH_eq] at this
    rw [szX', szY]
    exact this
  have e : p ≠ 0 := fun q => e (by rw [szX', q]; rfl)
  have e' : Y.length ≠ 1 := fun q => e' (by rw [szY, q]; rfl)
  refine wpS_zeta (wpS_bind (wpS_mono (wpS_forRange (I := fun i (c : Option (Array Keyed) × Nat × Nat × Array Keyed × Nat) st' => c.1 = none ∧ AtH lt it X Y st st' c.2.2.2.1 c.2.1 c.2.2.1 (i + 1)) (Q := fun (c : Option (Array Keyed) × Nat × Nat × Array Keyed × Nat) st' => EndM lt it X Y st c.1 st') ?_ ?_ ⟨rfl, [X[p]], gallopOf st, rfl, rfl, by dsimp only; rw [szX', szY]; exact m1, by dsimp only; (clear e' szY szX hp hx; lia), by dsimp only; lia, by dsimp only; lia, by dsimp only; lia, Nat.le_refl _⟩) ?_))
  · rintro i ⟨c0, na, nb, out, mg⟩ st' _ hi ⟨hc, A0⟩
    dsimp only at hc A0
    refine wpS_bind (wpS_mono (wpS_forRange (I := fun j (c : Option (Array Keyed) × Nat × Nat × Array Keyed × Nat × Nat) st' => c.1 = none ∧ AtH lt it X Y st st' c.2.2.2.1 c.2.1 c.2.2.1 (i + 1)) (Q := fun (c : Option (Array Keyed) × Nat × Nat × Array Keyed × Nat × Nat) st' => EndM lt it X Y st c.1 st' ∨ (c.1 = none ∧ AtH lt it X Y st st' c.2.2.2.1 c.2.1 c.2.2.1 (i + 1))) ?_ ?_ ⟨rfl, A0⟩) ?_)
    · clear A0 hc
      rintro j ⟨c0, na, nb, out, ac, bc⟩ st' _ hj ⟨hc, O, g, rfl, rfl, m, ha, hb, la, lb, hN⟩
      dsimp only at hc m ha hb la lb hN
      obtain ⟨r, rfl⟩ : ∃ r, na = r + 1 := ⟨na - 1, by lia⟩
      obtain ⟨q, rfl⟩ : ∃ q, nb = q + 2 := ⟨nb - 2, by lia⟩
      have hr : r < X.length := by lia
      have hq : q + 1 < Y.length := by lia
      refine wpS_bind (elemL_e (j := q + 1) rfl hq (wpS_bind (elemL_e (j := r) rfl hr (wpS_bind (lt_s H (T.bd _ (List.getElem_mem hq)) (T.bx _ (List.getElem_mem hr)) (st := stG st g) hk ?_)))))
      cases hw : lt Y[q + 1] X[r] with
      | true =>
        refine wpS_bind (elemL_e (j := r) rfl hr ?_)
        have m' := m.pushX T hr (T.downY hq (List.getElem_mem hr) hw)
        refine wpS_zeta (wpS_ite (fun z => wpS_pure (.inl ?_)) fun z => ?_)
        · have z : r = 0 := eq_of_beq z
          exact ⟨_, g, congrArg some (by rw [rev_push]; exact doneH_eq ..), rfl, endA m' z⟩
        · have z : r ≠ 0 := fun z' => z (beq_iff_eq.mpr z')
          have at' : AtH lt it X Y st (stG st g) ((O.reverse.map (kas_item it)).toArray.push (kas_item it X[r])) r (q + 2) (i + 1) := ⟨_, g, rev_push .., rfl, m', by (clear lb hb la ha hN hj hi e' e szX' szY szX hp hx; omega), hb, by lia, lb, by rw [List.length_cons]; lia⟩
          exact wpS_ite (fun _ => wpS_pure (.inr ⟨rfl, at'⟩)) fun _ => wpS_pure ⟨rfl, at'⟩
      | false =>
        refine wpS_bind (elemL_e (j := q + 1) rfl hq ?_)
        have m' := m.pushY T hq (T.downX hr (List.getElem_mem hq) (T.lt_of (List.getElem_mem hr) (List.getElem_mem hq) hw))
        refine wpS_zeta (wpS_ite (fun z => wpS_pure (.inl ?_)) fun z => ?_)
        · have z : q + 1 = 1 := eq_of_beq z
          exact ⟨_, g, congrArg some (by rw [rev_push]; exact doneH_eq ..), rfl, endB m' z⟩
        · have z : q + 1 ≠ 1 := fun z' => z (beq_iff_eq.mpr z')
          have at' : AtH lt it X Y st (stG st g) ((O.reverse.map (kas_item it)).toArray.push (kas_item it Y[q + 1])) (r + 1) (q + 1) (i + 1) := ⟨_, g, rev_push .., rfl, m', ha, by (clear lb hb la ha hN hj hi e' e szX' szY szX hp hx; omega), la, by lia, by rw [List.length_cons]; omega⟩
          exact wpS_ite (fun _ => wpS_pure (.inr ⟨rfl, at'⟩)) fun _ => wpS_pure ⟨rfl, at'⟩
    · rintro ⟨c0, na, nb, out, ac, bc⟩ st' hI
      exact .inr hI
    clear A0 hc
    rintro ⟨c0, na, nb, out, ac, bc⟩ st' hI
    rcases hI with ⟨Z, g, hc, rfl, hG⟩ | ⟨hc, A0⟩
    · dsimp only at hc
      subst hc
      exact wpS_pure ⟨Z, g, rfl, rfl, hG⟩
    dsimp only at hc A0
    subst hc
    refine wpS_bind (wpS_lift (wpAny_rule ⟨rfl, ?_⟩))
    refine wpS_zeta ?_
    refine wpS_bind (wpS_mono (wpS_forRange (I := fun j (c : Option (Array Keyed) × Nat × Nat × Array Keyed × Nat × Nat × Nat) st' => c.1 = none ∧ AtH lt it X Y st st' c.2.2.2.1 c.2.1 c.2.2.1 (i + 1 + min j 1)) (Q := fun (c : Option (Array Keyed) × Nat × Nat × Array Keyed × Nat × Nat × Nat) st' => EndM lt it X Y st c.1 st' ∨ (c.1 = none ∧ AtH lt it X Y st st' c.2.2.2.1 c.2.1 c.2.2.1 (i + 2))) ?_ ?_ ⟨rfl, A0⟩) ?_)
    · clear A0
      rintro j ⟨c0, na, nb, out, mg, ac, bc⟩ st' _ hj ⟨hc, O, g, rfl, rfl, m, ha, hb, la, lb, hN⟩
      dsimp only at hc m ha hb la lb hN
      obtain ⟨r, rfl⟩ : ∃ r, na = r + 1 := ⟨na - 1, by omega⟩
      obtain ⟨q, rfl⟩ : ∃ q, nb = q + 2 := ⟨nb - 2, by omega⟩
      have hr : r < X.length := by omega
      have hq : q + 1 < Y.length := by omega
      refine wpS_name fun R hR => ?_
      have yes : ∀ (c : Option (Array Keyed) × Nat × Nat × Array Keyed × Nat × Nat × Nat) st', EndM lt it X Y st c.1 st' ∨ (c.1 = none ∧ AtH lt it X Y st st' c.2.2.2.1 c.2.1 c.2.2.1 (i + 2)) → R (.done c) st' := fun c st' z => by rw [hR]; exact z
      have no : ∀ (c : Option (Array Keyed) × Nat × Nat × Array Keyed × Nat × Nat × Nat) st', c.1 = none ∧ AtH lt it X Y st st' c.2.2.2.1 c.2.1 c.2.2.1 (i + 1 + min (j + 1) 1) → R (.yield c) st' := fun c st' z => by rw [hR]; exact z
      extract_lets z1 z2 z3 z4 z5 z6 z7 z8 z9 z10 z11 z12 jp
      refine wpS_join (jp ()) ?_
      intro g'
      refine wpS_bind (wpS_modify ?_)
      show wpS _ _ _ _ _ R (stG st g')
      refine wpS_bind (elemL_e (j := q + 1) rfl hq (wpS_bind (gallopL_s H (base := 0) (m := r + 1) (hint := r) (L := X) (by lia) (by lia) T.bx (T.bd _ (List.getElem_mem hq)) (srtX _ _) (st := stG st g') hk fun k hkm h1 h2 => ?_)))
      dsimp (config := { zeta := false }) only
      have lo : ∀ x ∈ X.take k, lt x Y[q + 1] = true := fun x hx => by
        obtain ⟨j, hj, hjk, rfl⟩ := mem_take hx
        have := h1 j hj (Nat.zero_le _) (by lia)
        rw [if_neg Bool.false_ne_true, Bool.not_eq_true'] at this
        exact T.lt_of (List.getElem_mem hj) (List.getElem_mem hq) this
      have up : ∀ j (hj : j < X.length), k ≤ j → j < r + 1 → ∀ y ∈ Y.take (q + 2), lt y X[j] = true := fun j hj q1 q2 => by
        have := h2 j hj (by lia) (by lia)
        rw [if_neg Bool.false_ne_true, Bool.not_eq_false'] at this
        exact T.downY hq (List.getElem_mem hj) this
      extract_lets kk ac2 jp2
      have hjp : ∀ O na, MH lt X Y O na (q + 2) → 0 < na → na ≤ X.length → (∀ x ∈ X.take na, lt x Y[q + 1] = true) → i + 1 + min j 1 ≤ O.length → wpS (model prog w) A E s (jp2 () na (O.reverse.map (kas_item it)).toArray) R (stG st g') := by
        intro O na m ha la hlt hN
        have m' := m.pushY T hq hlt
        refine wpS_bind (elemL_e (j := q + 1) rfl hq ?_)
        refine wpS_ite (fun z => wpS_pure (yes _ _ (.inl ?_))) fun z => ?_
        · have z : q + 1 = 1 := eq_of_beq z
          exact ⟨_, g', congrArg some (by rw [rev_push]; exact doneH_eq ..), rfl, endB m' z⟩
        have z : q + 1 ≠ 1 := fun z' => z (beq_iff_eq.mpr z')
        obtain ⟨r', rfl⟩ : ∃ r, na = r + 1 := ⟨na - 1, by (clear z hN la hkm hr lb hb hj hi e' e szX' szY szX hp hx; omega)⟩
        have hr' : r' < X.length := by lia
        refine wpS_bind (elemL_e (j := r') rfl hr' (wpS_bind (gallopL_s H (base := 0) (m := q + 1) (hint := q) (L := Y) (by lia) (by lia) T.bd (T.bx _ (List.getElem_mem hr')) (srtY _ _) (st := stG st g') hk fun k hkm h1 h2 => ?_)))
        dsimp (config := { zeta := false }) only
        have lo : ∀ y ∈ Y.take k, lt y X[r'] = true := fun y hy => by
          obtain ⟨j, hj, hjk, rfl⟩ := mem_take hy
          have := h1 j hj (Nat.zero_le _) (by lia)
          rw [if_pos rfl] at this
          exact this
        have up : ∀ j (hj : j < Y.length), k ≤ j → j < q + 1 → ∀ x ∈ X.take (r' + 1), lt x Y[j] = true := fun j hj q1 q2 => by
          have := h2 j hj (by lia) (by lia)
          rw [if_pos rfl] at this
          exact T.downX hr' (List.getElem_mem hj) (T.lt_of (List.getElem_mem hr') (List.getElem_mem hj) this)
        extract_lets kk3 bc3 i3 jp3
        have hjp3 : ∀ O nb, MH lt X Y O (r' + 1) nb → 1 < nb → nb ≤ Y.length → (∀ y ∈ Y.take nb, lt y X[r'] = true) → i + 1 + min j 1 + 1 ≤ O.length → wpS (model prog w) A E s (jp3 () nb (O.reverse.map (kas_item it)).toArray) R (stG st g') := by
          intro O nb m hb lb hlt hN
          have m' := m.pushX T hr' hlt
          refine wpS_bind (elemL_e (j := r') rfl hr' ?_)
          refine wpS_ite (fun z => wpS_pure (yes _ _ (.inl ?_))) fun z => ?_
          · have z : r' = 0 := eq_of_beq z
            exact ⟨_, g', congrArg some (by rw [rev_push]; exact doneH_eq ..), rfl, endA m' z⟩
          have z : r' ≠ 0 := fun z' => z (beq_iff_eq.mpr z')
          exact wpS_ite (fun _ => wpS_pure (yes _ _ (.inr ⟨rfl, _, g', rev_push .., rfl, m', by show 0 < r'; lia, hb, by show r' ≤ _; lia, lb, by rw [List.length_cons]; lia⟩))) fun _ => wpS_pure (no _ _ ⟨rfl, _, g', rev_push .., rfl, m', by show 0 < r'; omega, hb, by show r' ≤ _; omega, lb, by rw [List.length_cons]; (clear z lb hb hkm la ha hr hj hi e' e szX' szY szX hp hx; omega)⟩)
        refine wpS_ite (fun hk0 => ?_) fun hk0 => ?_
        · have hk0 : q + 1 - k > 0 := hk0
          have m'' := MH.blockY T (q + 1 - k) k (by rw [show k + (q + 1 - k) = q + 1 by (clear hk0 la ha z hN hr lb hb hj hi e' e szX' szY szX hp hx; omega)]; exact m') (by (clear hk0 la ha z hN hr lb hb hj hi e' e szX' szY szX hp; omega)) fun j hj q1 q2 => up j hj q1 (by (clear q1 hj hk0 la ha z hN hr lb hb hi e' e szX' hp hx; omega))
          have eo : (O.reverse.map (kas_item it)).toArray.push (kas_item it Y[q + 1]) ++ ((Y.map (kas_item it)).toArray.extract k (q + 1)).reverse = (((Y.drop k).take (q + 1 - k) ++ Y[q + 1] :: O).reverse.map (kas_item it)).toArray := by
            rw [rev_push, rev_block]
          refine wpS_zeta (wpS_ite (fun z => wpS_pure (yes _ _ (.inl ?_))) fun z => wpS_ite (fun z' => wpS_pure (yes _ _ (.inl ?_))) fun z' => ?_)
          · have z : k = 1 := eq_of_beq z
            exact ⟨_, g', congrArg some ((congrArg (fun o => (Y.map (kas_item it)).toArray.extract 0 k ++ (X.map (kas_item it)).toArray.extract 0 (r' + 1) ++ o.reverse) eo).trans (doneH_eq ..)), rfl, endB m'' z⟩
          · have z' : k = 0 := eq_of_beq z'
            exact ⟨_, g', congrArg some ((congrArg (fun o => (X.map (kas_item it)).toArray.extract 0 (r' + 1) ++ (Y.map (kas_item it)).toArray.extract 0 k ++ o.reverse) eo).trans (doneH_eq ..)), rfl, m''.done T (.inr (by rw [z']; rfl))⟩
          · have z : k ≠ 1 := fun y => z (beq_iff_eq.mpr y)
            have z' : k ≠ 0 := fun y => z' (beq_iff_eq.mpr y)
            have fin := hjp3 _ _ m'' (by lia) (by lia) lo (by rw [List.length_append, List.length_cons]; lia)
            rw [← eo] at fin
            exact fin
        · have hk0 : ¬ q + 1 - k > 0 := hk0
          obtain rfl : k = q + 1 := by (clear la ha z hN hr lb hb hj hi e' e szX' szY szX hp hx; omega)
          have fin := hjp3 _ _ m' (by lia) (by lia) lo (by rw [List.length_cons]; lia)
          rw [← rev_push] at fin
          exact fin
      refine wpS_ite (fun hk0 => ?_) fun hk0 => ?_
      · have hk0 : r + 1 - k > 0 := hk0
        have m' := MH.blockX T (r + 1 - k) k (by rw [show k + (r + 1 - k) = r + 1 by (clear hk0 hr lb hb la hN hj hi e' e szX' szY szX hp hx; omega)]; exact m) (by (clear hk0 hr lb hb ha hN hj hi e' e szX' szY szX hp hx; omega)) fun j hj q1 q2 => up j hj q1 (by (clear q1 hj hk0 hr lb hb la hN hi e' e szX' hp hx; omega))
        have eo : (O.reverse.map (kas_item it)).toArray ++ ((X.map (kas_item it)).toArray.extract k (r + 1)).reverse = (((X.drop k).take (r + 1 - k) ++ O).reverse.map (kas_item it)).toArray := rev_block ..
        refine wpS_zeta (wpS_ite (fun z => wpS_pure (yes _ _ (.inl ?_))) fun z => ?_)
        · have z : k = 0 := eq_of_beq z
          exact ⟨_, g', congrArg some ((congrArg (fun o => (X.map (kas_item it)).toArray.extract 0 k ++ (Y.map (kas_item it)).toArray.extract 0 (q + 2) ++ o.reverse) eo).trans (doneH_eq ..)), rfl, endA m' z⟩
        · have z : k ≠ 0 := fun y => z (beq_iff_eq.mpr y)
          have fin := hjp _ _ m' (by lia) (by lia) lo (by rw [List.length_append]; lia)
          rw [← eo] at fin
          exact fin
      · have hk0 : ¬ r + 1 - k > 0 := hk0
        obtain rfl : k = r + 1 := by (clear hr lb hb la hN hj hi e' e szX' szY szX hp hx; omega)
        exact hjp _ _ m ha la lo hN
    · rintro ⟨c0, na, nb, out, mg, ac, bc⟩ st' ⟨hc, O, g, h1, h2, m, ha, hb, la, lb, hN⟩
      rw [szX, szY] at hN
      exact .inr ⟨hc, O, g, h1, h2, m, ha, hb, la, lb, by lia⟩
    · clear A0
      rintro ⟨c0, na, nb, out, mg, ac, bc⟩ st' hI
      rcases hI with ⟨Z, g, hc, rfl, hG⟩ | ⟨hc, O, g, rfl, rfl, m, ha, hb, la, lb, hN⟩
      · dsimp only at hc
        subst hc
        exact wpS_pure ⟨Z, g, rfl, rfl, hG⟩
      · dsimp only at hc
        subst hc
        refine wpS_zeta (wpS_bind (wpS_modify ?_))
        exact wpS_pure ⟨rfl, O, _, rfl, rfl, m, ha, hb, la, lb, hN⟩
  · rintro ⟨c0, na, nb, out, mg⟩ st' ⟨hc, O, g, h1, h2, m, ha, hb, la, lb, hN⟩
    rw [szX, szY] at hN
    dsimp only at ha hb la lb m
    have := m.len
    lia
  · rintro ⟨c0, na, nb, out, mg⟩ st' ⟨Z, g, hc, rfl, hG⟩
    dsimp only at hc
    subst hc
    exact wpS_pure (h Z g hG)
end
end RS

namespace RS
open PySem PySem.W PyProof.Rows
theorem set_block {α : Type} (base : Nat) : ∀ (zs old pre post : List α) (c : Nat), zs.length = old.length → base + c = pre.length → (zs.zipIdx c).foldl (fun (a : Array α) (x : α × Nat) => a.setIfInBounds (base + x.snd) x.fst) (pre ++ old ++ post).toArray = (pre ++ zs ++ post).toArray
  | [], old, pre, post, c, hl, _ => by
    have : old = [] := List.eq_nil_of_length_eq_zero hl.symm
    subst this; rfl
  | z :: zs, old, pre, post, c, hl, hb => by
    cases old with
    | nil => cases hl
    | cons o old =>
      rw [List.zipIdx_cons, List.foldl_cons]
      have e : (pre ++ o :: old ++ post).toArray.setIfInBounds (base + c) z = ((pre ++ [z]) ++ old ++ post).toArray := by
        rw [hb]
        simp
      show List.foldl _ ((pre ++ o :: old ++ post).toArray.setIfInBounds (base + c) z) _ = _
      rw [e, set_block base zs old (pre ++ [z]) post (c + 1) (Nat.succ.inj hl) (by rw [List.length_append, List.length_singleton]; lia)]
      simp
section
variable {prog : Program} {w : World} {A : Around} {E : Value → Shared → Prop} {s : Shared} {κ : SortKind} {it : Array Keyed} {n : Nat} {lt : Nat → Nat → Bool}
theorem wpS_set {v st : SortSt} {Q : PUnit → SortSt → Prop} (h : Q ⟨⟩ v) : wpS (model prog w) A E s (set v : StateT SortSt Sem PUnit) Q st := by
  unfold wpS; rw [StateT.run_set]; exact wpAny_pure ⟨rfl, h⟩
theorem at_L {pre L M post : List Nat} {j : Nat} (h : j < L.length) (h' : pre.length + j < (pre ++ L ++ M ++ post).length) : (pre ++ L ++ M ++ post)[pre.length + j] = L[j] := by
  rw [List.getElem_append_left (by rw [List.length_append, List.length_append]; lia), List.getElem_append_left (by rw [List.length_append]; lia), List.getElem_append_right (by lia)]
  congr 1
  lia
theorem at_M {pre L M post : List Nat} {j : Nat} (h : j < M.length) (h' : pre.length + L.length + j < (pre ++ L ++ M ++ post).length) : (pre ++ L ++ M ++ post)[pre.length + L.length + j] = M[j] := by
  rw [List.getElem_append_left (by rw [List.length_append, List.length_append]; lia), List.getElem_append_right (by rw [List.length_append]; lia)]
  congr 1
  rw [List.length_append]
  (clear h'; omega)
/-- a sort's state over a list of numbers -/
noncomputable def stL (κ : SortKind) (it : Array Keyed) (P : List Nat) (pend : Array (Nat × Nat × Nat)) (g : Nat) : SortSt := SortSt.mk' κ (P.map (kas_item it)).toArray pend g none
theorem mergeAt_s (H : Cmp prog w A s κ it n lt) {i g : Nat} {pend : Array (Nat × Nat × Nat)} {pre L M post : List Nat} {p1 p2 : Nat} (h1 : pend[i]? = some (pre.length, L.length, p1)) (h2 : pend[i + 1]? = some (pre.length + L.length, M.length, p2)) (hl : 0 < L.length) (hm : 0 < M.length)
    (nd : (pre ++ L ++ M ++ post).Nodup) (bd : ∀ x ∈ pre ++ L ++ M ++ post, x < n) (sl : L.Pairwise fun a b => lt a b = true) (sm : M.Pairwise fun a b => lt a b = true) {Q : Bool → SortSt → Prop}
    (h : ∀ C g', C.Perm (L ++ M) → C.Pairwise (fun a b => lt a b = true) → Q true (stL κ it (pre ++ C ++ post) ((pend.setIfInBounds i (pre.length, L.length + M.length, p1)).eraseIdxIfInBounds (i + 1)) g')) :
    wpS (model prog w) A E s (mergeAt' i) Q (stL κ it (pre ++ L ++ M ++ post) pend g) := by
  refine wpS_bind (wpS_get ?_)
  show wpS _ _ _ _ (match ((pend[i]?, pend[i + 1]?) : Option (Nat × Nat × Nat) × Option (Nat × Nat × Nat)) with | (some (sa, na, power), some (sb, nb, snd)) => _ | _ => _) Q _
  rw [h1, h2]
  dsimp (config := { zeta := false }) only
  have hlen : (pre ++ L ++ M ++ post).length = pre.length + L.length + M.length + post.length := by rw [List.length_append, List.length_append, List.length_append]
  have bL : ∀ x ∈ L, x < n := fun x hx => bd x (List.mem_append_left _ (List.mem_append_left _ (List.mem_append_right _ hx)))
  have bM : ∀ x ∈ M, x < n := fun x hx => bd x (List.mem_append_left _ (List.mem_append_right _ hx))
  have dLM : ∀ x ∈ L, ∀ y ∈ M, x ≠ y := fun x hx y hy => (List.nodup_append.mp (List.nodup_append.mp nd).1).2.2 x (List.mem_append_right _ hx) y hy
  have upM : ∀ {a : Nat} (j : Nat) (hj : j < M.length), a < n → lt a M[j] = true → ∀ b ∈ M.drop j, lt a b = true := fun {a} j hj ha hlt b hb => by
    have hb' := bM b (List.mem_of_mem_drop hb)
    rw [drop_get hj] at hb
    rcases List.mem_cons.mp hb with rfl | hb
    · exact hlt
    · have := sm.sublist (List.drop_sublist j M)
      rw [drop_get hj] at this
      exact H.O.trans _ _ _ ha (bM _ (List.getElem_mem hj)) hb' hlt ((List.pairwise_cons.mp this).1 b hb)
  refine wpS_bind (wpS_set ?_)
  show wpS _ _ _ _ _ Q (stL κ it (pre ++ L ++ M ++ post) ((pend.setIfInBounds i (pre.length, L.length + M.length, p1)).eraseIdxIfInBounds (i + 1)) g)
  generalize (pend.setIfInBounds i (pre.length, L.length + M.length, p1)).eraseIdxIfInBounds (i + 1) = pend' at *
  refine wpS_bind (elemL_s (l := pre ++ L ++ M ++ post) (by lia) (wpS_bind ?_))
  have e0 : (pre ++ L ++ M ++ post)[pre.length + L.length]'(by omega) = M[0] := at_M (j := 0) hm (by lia)
  rw [e0]
  refine gallopL_s H (L := pre ++ L ++ M ++ post) (by (clear e0 hm hl; lia)) hl bd (bM _ (List.getElem_mem hm)) (fun i j hj hij q1 q2 => ?_) (st := stL κ it (pre ++ L ++ M ++ post) pend' g) rfl fun k hkm g1 g2 => ?_
  · obtain ⟨a, rfl⟩ : ∃ a, i = pre.length + a := ⟨i - pre.length, by lia⟩
    obtain ⟨b, rfl⟩ : ∃ b, j = pre.length + b := ⟨j - pre.length, by lia⟩
    rw [at_L (by lia), at_L (by lia)]
    exact List.pairwise_iff_getElem.mp sl a b (by omega) (by omega) (by lia)
  dsimp (config := { zeta := false }) only
  have lowA : ∀ a ∈ L.take k, lt a M[0] = true := fun a ha => by
    obtain ⟨j, hj, hjk, rfl⟩ := mem_take ha
    have := g1 (pre.length + j) (by (clear hjk hkm e0 hl; lia)) (by lia) (by lia)
    rw [at_L hj, if_neg Bool.false_ne_true, Bool.not_eq_true'] at this
    exact H.O.total _ _ (bM _ (List.getElem_mem hm)) (bL _ (List.getElem_mem hj)) (fun e => dLM _ (List.getElem_mem hj) _ (List.getElem_mem hm) e.symm) this
  have highX : ∀ x ∈ L.drop k, lt M[0] x = true := fun x hx => by
    obtain ⟨j, hj, rfl⟩ := List.getElem_of_mem hx
    rw [List.length_drop] at hj
    have := g2 (pre.length + (k + j)) (by lia) (by lia) (by lia)
    rw [at_L (by lia), if_neg Bool.false_ne_true, Bool.not_eq_false'] at this
    rw [List.getElem_drop]; exact this
  have lowAM : ∀ a ∈ L.take k, ∀ b ∈ M, lt a b = true := fun a ha b hb => upM 0 hm (bL a (List.mem_of_mem_take ha)) (lowA a ha) b hb
  refine wpS_ite (fun z => wpS_pure ?_) fun z => ?_
  · have z : L.length - k = 0 := eq_of_beq z
    have ek : L.take k = L := List.take_of_length_le (by (clear hkm e0 hlen; lia))
    rw [ek] at lowAM
    have := h (L ++ M) g (List.Perm.refl _) (List.pairwise_append.mpr ⟨sl, sm, lowAM⟩)
    rw [← List.append_assoc] at this
    exact this
  have z : k < L.length := by
    have : L.length - k ≠ 0 := fun z' => z (beq_iff_eq.mpr z')
    lia
  have hlx : L.length - 1 < L.length := by (clear z hkm e0 hlen; omega)
  have el : pre.length + k + (L.length - k) - 1 = pre.length + (L.length - 1) := by lia
  refine wpS_bind (elemL_e (l := pre ++ L ++ M ++ post) el (by lia) (wpS_bind ?_))
  rw [at_L hlx]
  refine gallopL_s H (L := pre ++ L ++ M ++ post) (by lia) (by (clear el hlx z hkm e0 hlen hl; omega)) bd (bL _ (List.getElem_mem hlx)) (fun i j hj hij q1 q2 => ?_) (st := stL κ it (pre ++ L ++ M ++ post) pend' g) rfl fun nb hnb g3 g4 => ?_
  · obtain ⟨a, rfl⟩ : ∃ a, i = pre.length + L.length + a := ⟨i - (pre.length + L.length), by (clear q2 hij hj el hlx z hkm e0 hlen; omega)⟩
    obtain ⟨b, rfl⟩ : ∃ b, j = pre.length + L.length + b := ⟨j - (pre.length + L.length), by lia⟩
    rw [at_M (by lia), at_M (by lia)]
    exact List.pairwise_iff_getElem.mp sm a b (by omega) (by omega) (by lia)
  dsimp (config := { zeta := false }) only
  have hlastm : L[L.length - 1] ∈ L.drop k := by
    rw [List.mem_iff_getElem]
    exact ⟨L.length - 1 - k, by rw [List.length_drop]; (clear hnb el hkm e0 hlen hl; omega), by rw [List.getElem_drop]; congr 1; (clear hnb el hkm e0 hlen; lia)⟩
  have lowY : ∀ y ∈ M.take nb, lt y L[L.length - 1] = true := fun y hy => by
    obtain ⟨j, hj, hjk, rfl⟩ := mem_take hy
    have := g3 (pre.length + L.length + j) (by (clear hjk hnb el z hkm e0 hl; lia)) (by lia) (by lia)
    rw [at_M hj, if_pos rfl] at this
    exact this
  have highB : ∀ b ∈ M.drop nb, lt L[L.length - 1] b = true := fun b hb => by
    obtain ⟨j, hj, rfl⟩ := List.getElem_of_mem hb
    rw [List.length_drop] at hj
    have := g4 (pre.length + L.length + (nb + j)) (by lia) (by lia) (by lia)
    rw [at_M (by lia), if_pos rfl] at this
    rw [List.getElem_drop]
    exact H.O.total _ _ (bM _ (List.getElem_mem _)) (bL _ (List.getElem_mem hlx)) (fun e => dLM _ (List.getElem_mem hlx) _ (List.getElem_mem _) e.symm) this
  refine wpS_ite (fun z' => ?_) fun z' => ?_
  · have z' : nb = 0 := eq_of_beq z'
    have q1 := highX _ hlastm
    have q2 := highB M[0] (by rw [z', List.drop_zero]; exact List.getElem_mem hm)
    have := H.O.trans _ _ _ (bM _ (List.getElem_mem hm)) (bL _ (List.getElem_mem hlx)) (bM _ (List.getElem_mem hm)) q1 q2
    rw [H.O.irrefl _ (bM _ (List.getElem_mem hm))] at this
    cases this
  have z' : 0 < nb := by
    have : nb ≠ 0 := fun e => z' (beq_iff_eq.mpr e)
    lia
  have ex : ((pre ++ L ++ M ++ post).map (kas_item it)).toArray.extract (pre.length + k) (pre.length + L.length) = ((L.drop k).map (kas_item it)).toArray := by
    rw [ext_list, List.append_assoc, List.append_assoc, ← List.drop_drop, List.drop_left, List.drop_append_of_le_length (by (clear z' hnb el z e0 hlen hl; lia)), List.take_left' (by rw [List.length_drop]; lia)]
  have ey : ((pre ++ L ++ M ++ post).map (kas_item it)).toArray.extract (pre.length + L.length) (pre.length + L.length + nb) = ((M.take nb).map (kas_item it)).toArray := by
    rw [ext_list, List.append_assoc, ← List.length_append, List.drop_left, Nat.add_sub_cancel_left, List.take_append_of_le_length hnb]
  have T : Two n lt (L.drop k) (M.take nb) := ⟨H.O, sl.sublist (List.drop_sublist _ _), sm.sublist (List.take_sublist _ _), fun x hx => bL x (List.mem_of_mem_drop hx), fun y hy => bM y (List.mem_of_mem_take hy), fun x hx y hy => dLM x (List.mem_of_mem_drop hx) y (List.mem_of_mem_take hy)⟩
  have hx : 0 < (L.drop k).length := by rw [List.length_drop]; lia
  have hy : 0 < (M.take nb).length := by rw [List.length_take]; lia
  have hfirst : ∀ x ∈ L.drop k, lt (M.take nb)[0] x = true := fun x hx => by rw [List.getElem_take]; exact highX x hx
  have hlast : ∀ x ∈ (L.drop k).drop ((L.drop k).length - 1), ∀ y ∈ M.take nb, lt y x = true := fun x hx y hy => by
    rw [List.drop_drop, List.length_drop, show k + (L.length - k - 1) = L.length - 1 by (clear z' hnb el hkm e0 hlen; lia), drop_get hlx, List.drop_eq_nil_of_le (by (clear z' hnb el z hkm e0 hlen hl; lia))] at hx
    rw [List.mem_singleton.mp hx]
    exact lowY y hy
  extract_lets xx yy jp
  have hjp : ∀ Z g', Good lt (L.drop k) (M.take nb) Z → wpS (model prog w) A E s (jp (Z.map (kas_item it)).toArray) Q (stG (stL κ it (pre ++ L ++ M ++ post) pend' g) g') := by
    intro Z g' ⟨hp, hs⟩
    refine wpS_bind (wpS_modify (wpS_bind (wpS_get (wpS_pure ?_))))
    have hzl : Z.length = (L.drop k ++ M.take nb).length := hp.length_eq
    have e1 : (pre ++ L ++ M ++ post).map (kas_item it) = (pre ++ L.take k).map (kas_item it) ++ (L.drop k ++ M.take nb).map (kas_item it) ++ (M.drop nb ++ post).map (kas_item it) := by
      rw [← List.map_append, ← List.map_append]
      congr 1
      conv => lhs; rw [← List.take_append_drop k L, ← List.take_append_drop nb M]
      simp only [List.append_assoc]
    have e2 := set_block (pre.length + k) (Z.map (kas_item it)) ((L.drop k ++ M.take nb).map (kas_item it)) ((pre ++ L.take k).map (kas_item it)) ((M.drop nb ++ post).map (kas_item it)) 0 (by rw [List.length_map, List.length_map, hzl]) (by rw [List.length_map, List.length_append, List.length_take]; lia)
    rw [← e1] at e2
    have e3 : (pre ++ L.take k).map (kas_item it) ++ Z.map (kas_item it) ++ (M.drop nb ++ post).map (kas_item it) = (pre ++ (L.take k ++ Z ++ M.drop nb) ++ post).map (kas_item it) := by
      rw [← List.map_append, ← List.map_append]
      simp only [List.append_assoc]
    rw [e3] at e2
    have hZ : ∀ c ∈ Z, c ∈ L.drop k ∨ c ∈ M.take nb := fun c hc => List.mem_append.mp (hp.mem_iff.mp hc)
    have fin := h (L.take k ++ Z ++ M.drop nb) g' ?_ ?_
    · show Q true (SortSt.mk' κ (List.foldl (fun (a : Array Keyed) (x : Keyed × Nat) => a.setIfInBounds (pre.length + k + x.snd) x.fst) ((pre ++ L ++ M ++ post).map (kas_item it)).toArray ((Z.map (kas_item it)).zipIdx 0)) pend' g' none)
      rw [e2]
      exact fin
    · have p1 := (hp.append_left (L.take k)).append_right (M.drop nb)
      refine p1.trans ?_
      rw [← List.append_assoc, List.take_append_drop, List.append_assoc, List.take_append_drop]
    · have sA : (L.take k).Pairwise fun a b => lt a b = true := sl.sublist (List.take_sublist _ _)
      have sB : (M.drop nb).Pairwise fun a b => lt a b = true := sm.sublist (List.drop_sublist _ _)
      have sL' := sl
      rw [← List.take_append_drop k L] at sL'
      have sM' := sm
      rw [← List.take_append_drop nb M] at sM'
      refine List.pairwise_append.mpr ⟨List.pairwise_append.mpr ⟨sA, hs, fun a ha c hc => ?_⟩, sB, fun a ha b hb => ?_⟩
      · rcases hZ c hc with hc | hc
        · exact (List.pairwise_append.mp sL').2.2 a ha c hc
        · exact lowAM a ha c (List.mem_of_mem_take hc)
      · rcases List.mem_append.mp ha with ha | ha
        · exact lowAM a ha b (List.mem_of_mem_drop hb)
        · rcases hZ a ha with ha | ha
          · have q := highB b hb
            obtain ⟨j, hj, rfl⟩ := List.getElem_of_mem (List.mem_of_mem_drop ha)
            rcases Nat.lt_or_ge j (L.length - 1) with hjl | hjl
            · exact H.O.trans _ _ _ (bL _ (List.getElem_mem hj)) (bL _ (List.getElem_mem hlx)) (bM b (List.mem_of_mem_drop hb)) (List.pairwise_iff_getElem.mp sl j (L.length - 1) hj hlx hjl) q
            · have : j = L.length - 1 := by (clear hzl hx z' hnb el z hkm e0 hlen hl; lia)
              subst this; exact q
          · exact (List.pairwise_append.mp sM').2.2 a ha b hb
  refine wpS_ite (fun _ => wpS_bind ?_) fun _ => wpS_bind ?_
  · have fin := mergeLo_s (A := A) (E := E) H T hx hy hfirst hlast (st := stL κ it (pre ++ L ++ M ++ post) pend' g) (Q := fun z st' => wpS (model prog w) A E s (jp z) Q st') rfl hjp
    rw [← ex, ← ey] at fin
    exact fin
  · have fin := mergeHi_s (A := A) (E := E) H T hx hy hfirst hlast (st := stL κ it (pre ++ L ++ M ++ post) pend' g) (Q := fun z st' => wpS (model prog w) A E s (jp z) Q st') rfl hjp
    rw [← ex, ← ey] at fin
    exact fin
end
end RS

namespace RS
open PySem PySem.W PyProof.Rows
section
variable {prog : Program} {w : World} {A : Around} {E : Value → Shared → Prop} {s : Shared} {κ : SortKind} {it : Array Keyed} {n : Nat} {lt : Nat → Nat → Bool} {pend : Array (Nat × Nat × Nat)} {g : Nat}
theorem ltAt_s (H : Cmp prog w A s κ it n lt) {P : List Nat} (bd : ∀ x ∈ P, x < n) {i j : Nat} (hi : i < P.length) (hj : j < P.length) {Q : Option Bool → SortSt → Prop} (h : Q (some (lt P[i] P[j])) (stL κ it P pend g)) : wpS (model prog w) A E s (ltAt' i j) Q (stL κ it P pend g) := by
  rw [ltAt'_eq]
  refine wpS_bind (wpS_get ?_)
  exact wpS_bind (elemL_s hi (wpS_bind (elemL_s hj (lt_s H (bd _ (List.getElem_mem hi)) (bd _ (List.getElem_mem hj)) (st := stL κ it P pend g) rfl h))))
theorem mirror_list {α : Type} (pre D post : List α) : mirror (pre ++ D ++ post).toArray pre.length (pre.length + D.length) ((pre.length + D.length - pre.length) / 2) = (pre ++ D.reverse ++ post).toArray := by
  apply Array.ext_getElem?
  intro k
  rw [getElem?_mirror_all (by simp)]
  simp only [List.getElem?_toArray]
  split
  · rename_i hk
    obtain ⟨j, rfl⟩ : ∃ j, k = pre.length + j := ⟨k - pre.length, by lia⟩
    rw [List.append_assoc, List.append_assoc, List.getElem?_append_right (by omega), List.getElem?_append_left (by omega), List.getElem?_append_right (by lia), List.getElem?_append_left (by rw [List.length_reverse]; lia), List.getElem?_reverse (by omega)]
    congr 1
    lia
  · rename_i hk
    by_cases h1 : k < pre.length
    · rw [List.append_assoc, List.append_assoc, List.getElem?_append_left h1, List.getElem?_append_left h1]
    · rw [List.getElem?_append_right (by rw [List.length_append]; lia), List.getElem?_append_right (by rw [List.length_append, List.length_reverse]; omega)]
      simp
theorem reverse_s {pre D post : List Nat} {Q : Unit → SortSt → Prop} (h : Q () (stL κ it (pre ++ D.reverse ++ post) pend g)) : wpS (model prog w) A E s (reverseSlice' pre.length (pre.length + D.length)) Q (stL κ it (pre ++ D ++ post) pend g) := by
  rw [reverseSlice'_eq]
  refine wpS_modify ?_
  have e := mirror_list (pre.map (kas_item it)) (D.map (kas_item it)) (post.map (kas_item it))
  rw [← List.map_reverse, ← List.map_append, ← List.map_append, ← List.map_append, ← List.map_append, List.length_map, List.length_map] at e
  show Q () (SortSt.mk' κ (mirror ((pre ++ D ++ post).map (kas_item it)).toArray pre.length (pre.length + D.length) ((pre.length + D.length - pre.length) / 2)) pend g none)
  rw [e]
  exact h
theorem at_R {pre R : List Nat} {j : Nat} (h : j < R.length) (h' : pre.length + j < (pre ++ R).length) : (pre ++ R)[pre.length + j] = R[j] := by
  rw [List.getElem_append_right (by lia)]
  congr 1
  lia
/-- one more in order -/
theorem asc_succ {rel : Nat → Nat → Bool} {R : List Nat} {m : Nat} (htr : ∀ a ∈ R, ∀ b ∈ R, ∀ c ∈ R, rel a b = true → rel b c = true → rel a c = true) (hm : m + 1 < R.length) (h : (R.take (m + 1)).Pairwise fun a b => rel a b = true) (e : rel R[m] R[m + 1] = true) : (R.take (m + 1 + 1)).Pairwise fun a b => rel a b = true := by
  rw [take_get hm]
  refine List.pairwise_append.mpr ⟨h, List.pairwise_singleton _ _, fun a ha b hb => ?_⟩
  rw [List.mem_singleton.mp hb]
  have ha' := List.mem_of_mem_take ha
  rw [take_get (by omega)] at ha h
  rcases List.mem_append.mp ha with ha | ha
  · exact htr a ha' _ (List.getElem_mem _) _ (List.getElem_mem _) ((List.pairwise_append.mp h).2.2 a ha _ (.head _)) e
  · rw [List.mem_singleton.mp ha]; exact e
theorem countRun_s (H : Cmp prog w A s κ it n lt) {pre R : List Nat} (hr : 0 < R.length) (nd : (pre ++ R).Nodup) (bd : ∀ x ∈ pre ++ R, x < n) {Q : Option Nat → SortSt → Prop}
    (h : ∀ m R', 1 ≤ m → m ≤ R.length → R'.Perm R → (R'.take m).Pairwise (fun a b => lt a b = true) → Q (some m) (stL κ it (pre ++ R') pend g)) :
    wpS (model prog w) A E s (countRun' pre.length R.length) Q (stL κ it (pre ++ R) pend g) := by
  have tot : ∀ {P : List Nat}, (pre ++ P).Nodup → (∀ x ∈ pre ++ P, x < n) → ∀ {i j : Nat} (hi : i < P.length) (hj : j < P.length), i ≠ j → lt P[i] P[j] = false → lt P[j] P[i] = true := fun {P} nd bd {i j} hi hj hij e =>
    H.O.total _ _ (bd _ (List.mem_append_right _ (List.getElem_mem hi))) (bd _ (List.mem_append_right _ (List.getElem_mem hj))) (fun e' => hij ((List.getElem_inj (List.nodup_append.mp nd).2.1).mp e')) e
  have trn : ∀ {P : List Nat}, (∀ x ∈ pre ++ P, x < n) → ∀ a ∈ P, ∀ b ∈ P, ∀ c ∈ P, lt a b = true → lt b c = true → lt a c = true := fun bd a ha b hb c hc => H.O.trans _ _ _ (bd _ (List.mem_append_right _ ha)) (bd _ (List.mem_append_right _ hb)) (bd _ (List.mem_append_right _ hc))
  have ask : ∀ {P : List Nat}, (∀ x ∈ pre ++ P, x < n) → ∀ {i j : Nat} (hi : i < P.length) (hj : j < P.length) {i' j' : Nat} {Q : Option Bool → SortSt → Prop}, i' = pre.length + i → j' = pre.length + j → Q (some (lt P[i] P[j])) (stL κ it (pre ++ P) pend g) → wpS (model prog w) A E s (ltAt' i' j') Q (stL κ it (pre ++ P) pend g) := fun {P} bd {i j} hi hj {i' j' Q} e1 e2 q => by
    subst e1 e2
    refine ltAt_s H bd (by rw [List.length_append]; lia) (by rw [List.length_append]; lia) ?_
    rw [at_R hi, at_R hj]
    exact q
  -- going up
  have up : ∀ {P : List Nat}, (pre ++ P).Nodup → (∀ x ∈ pre ++ P, x < n) → ∀ {i : Nat}, i + 1 < P.length → (P.take (i + 1)).Pairwise (fun a b => lt a b = true) → lt P[i + 1]! P[i]! = false → (P.take (i + 1 + 1)).Pairwise (fun a b => lt a b = true) := fun {P} nd bd {i} hi hs e => by
    rw [getElem!_pos P (i + 1) hi, getElem!_pos P i (by (clear hr; omega))] at e
    exact asc_succ (trn bd) hi hs (tot nd bd hi (by (clear hr; omega)) (by lia) e)
  refine wpS_zeta ?_
  refine wpS_bind (wpS_mono (wpS_forRange (I := fun i (c : Option (Option Nat) × Nat) st' => stL κ it (pre ++ R) pend g = st' ∧ c.1 = none ∧ c.2 = i ∧ 1 ≤ i ∧ (R.take i).Pairwise fun a b => lt a b = true) (Q := fun (c : Option (Option Nat) × Nat) st' => stL κ it (pre ++ R) pend g = st' ∧ c.1 = none ∧ 1 ≤ c.2 ∧ c.2 ≤ R.length ∧ ((R.take c.2).Pairwise fun a b => lt a b = true) ∧ (c.2 < R.length → lt R[c.2]! R[c.2 - 1]! = true)) ?_ ?_ ⟨rfl, rfl, rfl, Nat.le_refl _, by rw [take_get hr]; exact List.pairwise_singleton _ _⟩) ?_)
  · rintro i ⟨c0, m⟩ st' hi1 hi ⟨rfl, hc, rfl, _, hs⟩
    dsimp only at hc hi1 hi hs
    obtain ⟨i, rfl⟩ : ∃ k, m = k + 1 := ⟨m - 1, by lia⟩
    refine wpS_zeta ?_
    refine wpS_bind (ask bd hi (show i < R.length by omega) rfl (by dsimp only; lia) ?_)
    cases e : lt R[i + 1] R[i] with
    | true => exact wpS_pure ⟨rfl, rfl, by dsimp only; lia, by dsimp only; lia, hs, fun _ => by dsimp only; rw [getElem!_pos R (i + 1) hi, Nat.add_sub_cancel, getElem!_pos R i (by omega)]; exact e⟩
    | false => exact wpS_pure ⟨rfl, rfl, rfl, by dsimp only; lia, up nd bd hi hs (by rw [getElem!_pos R (i + 1) hi, getElem!_pos R i (by omega)]; exact e)⟩
  · rintro ⟨c0, m⟩ st' ⟨rfl, hc, hm, h1, hs⟩
    dsimp only at hc hm h1 hs
    subst hm
    exact ⟨rfl, hc, by dsimp only; lia, by dsimp only; lia, hs, fun q => absurd q (by dsimp only; (clear q h1; lia))⟩
  · rintro ⟨c0, m⟩ st' ⟨rfl, hc, h1, h2, hs, hd⟩
    dsimp only at hc h1 h2 hs hd
    subst hc
    refine wpS_ite (fun z => wpS_pure (h m R h1 h2 (List.Perm.refl _) hs)) fun z => ?_
    have hm : m < R.length := by
      have : m ≠ R.length := fun e => z (beq_iff_eq.mpr e)
      lia
    have hd := hd hm
    refine wpS_ite (fun z1 => ?_) fun z1 => ?_
    · refine wpS_bind (ask (i := 0) (j := m - 1) bd (by lia) (by (clear z1 hm h1; omega)) rfl (by dsimp only; lia) ?_)
      have e : lt R[0] R[m - 1] = true := by
        have := List.pairwise_iff_getElem.mp hs 0 (m - 1) (by rw [List.length_take]; lia) (by rw [List.length_take]; lia) (by (clear hm h2 h1 hr; omega))
        rw [List.getElem_take, List.getElem_take] at this
        exact this
      rw [e]
      exact wpS_pure (h m R h1 h2 (List.Perm.refl _) hs)
    obtain rfl : m = 1 := by lia
    rw [getElem!_pos R 1 hm, getElem!_pos R 0 (by (clear z1 h2 h1 hr; lia))] at hd
    refine wpS_bind (wpS_lift (wpAny_rule ⟨rfl, ?_⟩))
    refine wpS_zeta ?_
    have hs2 : (R.take 2).Pairwise fun a b => lt b a = true := by
      rw [take_get hm, take_get hr]
      exact List.pairwise_cons.mpr ⟨fun b hb => by rw [List.mem_singleton.mp hb]; exact hd, List.pairwise_singleton _ _⟩
    refine wpS_bind (wpS_mono (wpS_forRange (I := fun i (c : Option (Option Nat) × Nat × Nat) st' => stL κ it (pre ++ R) pend g = st' ∧ c.1 = none ∧ c.2.1 = i ∧ c.2.2 = 0 ∧ 2 ≤ i ∧ (R.take i).Pairwise fun a b => lt b a = true) (Q := fun (c : Option (Option Nat) × Nat × Nat) st' => stL κ it (pre ++ R) pend g = st' ∧ c.1 = none ∧ 2 ≤ c.2.1 ∧ c.2.1 ≤ R.length ∧ c.2.2 = 0 ∧ (R.take c.2.1).Pairwise fun a b => lt b a = true) ?_ ?_ ⟨rfl, rfl, rfl, rfl, Nat.le_refl _, hs2⟩) ?_)
    · rintro i ⟨c0, m, q⟩ st' hi1 hi ⟨rfl, hc, rfl, hq, _, hs⟩
      dsimp only at hc hi1 hi hs hq
      subst hq
      obtain ⟨i, rfl⟩ : ∃ k, m = k + 1 := ⟨m - 1, by lia⟩
      refine wpS_zeta ?_
      refine wpS_bind (ask bd hi (show i < R.length by lia) rfl (by dsimp only; lia) ?_)
      cases e : lt R[i + 1] R[i] with
      | true => exact wpS_pure ⟨rfl, rfl, rfl, rfl, by dsimp only; lia, asc_succ (rel := fun a b => lt b a) (fun a ha b hb c hc h1 h2 => trn bd c hc b hb a ha h2 h1) hi hs e⟩
      | false =>
        refine wpS_bind (ask (i := i) bd (by omega) hi (by dsimp only; omega) rfl ?_)
        rw [tot nd bd hi (by omega) (by lia) e]
        exact wpS_pure ⟨rfl, rfl, by dsimp only; lia, by dsimp only; lia, rfl, hs⟩
    · rintro ⟨c0, m, q⟩ st' ⟨rfl, hc, hm, hq, h1, hs⟩
      dsimp only at hc hm h1 hs hq
      subst hm
      exact ⟨rfl, hc, by dsimp only; lia, by dsimp only; lia, hq, hs⟩
    rintro ⟨c0, m, q⟩ st' ⟨rfl, hc, h1, h2, hq, hs⟩
    dsimp only at hc h1 h2 hs hq
    subst hc hq
    have hml : (R.take m).length = m := by rw [List.length_take]; lia
    have eR : pre ++ R = pre ++ R.take m ++ R.drop m := by rw [List.append_assoc, List.take_append_drop]
    have hp : ((R.take m).reverse ++ R.drop m).Perm R := by
      have := (List.reverse_perm (R.take m)).append_right (R.drop m)
      rwa [List.take_append_drop] at this
    have rv : ∀ {Q : Unit → SortSt → Prop}, Q () (stL κ it (pre ++ ((R.take m).reverse ++ R.drop m)) pend g) → wpS (model prog w) A E s (reverseSlice' pre.length (pre.length + m)) Q (stL κ it (pre ++ R) pend g) := fun {Q} q => by
      have := reverse_s (prog := prog) (w := w) (A := A) (E := E) (s := s) (κ := κ) (it := it) (pend := pend) (g := g) (pre := pre) (D := R.take m) (post := R.drop m) (Q := Q) (by rw [List.append_assoc]; exact q)
      rw [← eR, hml] at this
      exact this
    refine wpS_bind (rv ?_)
    have nd' : (pre ++ ((R.take m).reverse ++ R.drop m)).Nodup := ((hp.append_left pre).nodup_iff).mpr nd
    have bd' : ∀ x ∈ pre ++ ((R.take m).reverse ++ R.drop m), x < n := fun x hx => bd x ((hp.append_left pre).mem_iff.mp hx)
    have hs' : (((R.take m).reverse ++ R.drop m).take m).Pairwise fun a b => lt a b = true := by
      rw [List.take_left' (by rw [List.length_reverse]; exact hml)]
      exact List.pairwise_reverse.mpr hs
    have hl' : ((R.take m).reverse ++ R.drop m).length = R.length := hp.length_eq
    generalize (R.take m).reverse ++ R.drop m = P at *
    clear hs hd rv eR
    refine wpS_bind (wpS_mono (wpS_forRange (I := fun i (c : Option (Option Nat) × Nat) st' => stL κ it (pre ++ P) pend g = st' ∧ c.1 = none ∧ c.2 = i ∧ 1 ≤ i ∧ (P.take i).Pairwise fun a b => lt a b = true) (Q := fun (c : Option (Option Nat) × Nat) st' => stL κ it (pre ++ P) pend g = st' ∧ c.1 = none ∧ 1 ≤ c.2 ∧ c.2 ≤ R.length ∧ (P.take c.2).Pairwise fun a b => lt a b = true) ?_ ?_ ⟨rfl, rfl, rfl, Nat.le_of_succ_le h1, hs'⟩) ?_)
    · rintro i ⟨c0, m⟩ st' hi1 hi ⟨rfl, hc, rfl, _, hs⟩
      dsimp only at hc hi1 hi hs
      obtain ⟨i, rfl⟩ : ∃ k, m = k + 1 := ⟨m - 1, by (clear hi hi1 hl' hml h2 h1 z1 hm hr; lia)⟩
      refine wpS_zeta ?_
      refine wpS_bind (ask (P := P) (i := i + 1) (j := i) bd' (by lia) (by lia) rfl (by dsimp only; lia) ?_)
      cases e : lt (P[i + 1]'(by omega)) (P[i]'(by omega)) with
      | true => exact wpS_pure ⟨rfl, rfl, by dsimp only; lia, by dsimp only; lia, hs⟩
      | false => exact wpS_pure ⟨rfl, rfl, rfl, by dsimp only; lia, up nd' bd' (by omega) hs (by rw [getElem!_pos P (i + 1) (by omega), getElem!_pos P i (by omega)]; exact e)⟩
    · rintro ⟨c0, m⟩ st' ⟨rfl, hc, hm, h1, hs⟩
      dsimp only at hc hm h1 hs
      subst hm
      exact ⟨rfl, hc, h1, by dsimp only; lia, hs⟩
    · rintro ⟨c0, m⟩ st' ⟨rfl, hc, h1, h2, hs⟩
      dsimp only at hc h1 h2 hs
      subst hc
      exact wpS_pure (h m P h1 h2 hp hs)
end
end RS

namespace RS
open PySem PySem.W PyProof.Rows
theorem bubble_list {α : Type} (F S : List α) (x : α) (post : List α) : bubble (F ++ S ++ x :: post).toArray (F.length + S.length) S.length = (F ++ x :: S ++ post).toArray := by
  apply Array.ext_getElem?
  intro k
  rw [getElem?_bubble (by simp) _ (by lia)]
  simp only [List.getElem?_toArray]
  split
  · rename_i hk
    have hk : k = F.length := by lia
    subst hk
    rw [List.append_assoc, List.append_assoc, List.getElem?_append_right (by lia), List.getElem?_append_right (by lia), List.getElem?_append_right (by lia)]
    simp
  · rename_i hk
    split
    · rename_i hk2
      obtain ⟨j, rfl⟩ : ∃ j, k = F.length + (j + 1) := ⟨k - F.length - 1, by lia⟩
      have a1 : (F ++ (S ++ x :: post))[F.length + (j + 1) - 1]? = S[j]? := by
        rw [List.getElem?_append_right (by lia), show F.length + (j + 1) - 1 - F.length = j by lia, List.getElem?_append_left (by lia)]
      have a2 : (F ++ (x :: S ++ post))[F.length + (j + 1)]? = S[j]? := by
        rw [List.getElem?_append_right (by lia), show F.length + (j + 1) - F.length = j + 1 by lia, List.cons_append, List.getElem?_cons_succ, List.getElem?_append_left (by omega)]
      rw [List.append_assoc, List.append_assoc, a1, a2]
    · rename_i hk2
      by_cases h1 : k < F.length
      · rw [List.append_assoc, List.append_assoc, List.getElem?_append_left h1, List.getElem?_append_left h1]
      · rw [List.append_assoc, List.append_assoc, List.getElem?_append_right (by lia), List.getElem?_append_right (by lia), List.getElem?_append_right (by omega)]
        obtain ⟨j, rfl⟩ : ∃ j, k = F.length + S.length + 1 + j := ⟨k - (F.length + S.length + 1), by lia⟩
        rw [show F.length + S.length + 1 + j - F.length - S.length = j + 1 by lia, show F.length + S.length + 1 + j - F.length = (S.length + j) + 1 by lia, List.getElem?_cons_succ, List.cons_append, List.getElem?_cons_succ, List.getElem?_append_right (by lia)]
        congr 1
        lia
section
variable {prog : Program} {w : World} {A : Around} {E : Value → Shared → Prop} {s : Shared} {κ : SortKind} {it : Array Keyed} {n : Nat} {lt : Nat → Nat → Bool} {pend : Array (Nat × Nat × Nat)} {g : Nat}
theorem move_s {F S post : List Nat} {x src dst : Nat} (hs : src = F.length + S.length) (hd : dst = F.length) {Q : Unit → SortSt → Prop} (h : Q () (stL κ it (F ++ x :: S ++ post) pend g)) : wpS (model prog w) A E s (moveDown' src dst) Q (stL κ it (F ++ S ++ x :: post) pend g) := by
  subst hs hd
  rw [moveDown'_eq]
  refine wpS_modify ?_
  have e := bubble_list (F.map (kas_item it)) (S.map (kas_item it)) (kas_item it x) (post.map (kas_item it))
  rw [← List.map_cons, ← List.map_cons, ← List.map_append, ← List.map_append, ← List.map_append, ← List.map_append, List.length_map, List.length_map] at e
  show Q () (SortSt.mk' κ (bubble ((F ++ S ++ x :: post).map (kas_item it)).toArray (F.length + S.length) (F.length + S.length - F.length)) pend g none)
  rw [Nat.add_sub_cancel_left, e]
  exact h
theorem binarySort_s (H : Cmp prog w A s κ it n lt) {pre R : List Nat} {m ok : Nat} (h1 : 1 ≤ ok) (hok : ok ≤ m) (hm : m ≤ R.length) (nd : (pre ++ R).Nodup) (bd : ∀ x ∈ pre ++ R, x < n) (so : (R.take ok).Pairwise fun a b => lt a b = true) {Q : Bool → SortSt → Prop}
    (h : ∀ R', R'.Perm R → (R'.take m).Pairwise (fun a b => lt a b = true) → Q true (stL κ it (pre ++ R') pend g)) :
    wpS (model prog w) A E s (binarySort' pre.length m ok) Q (stL κ it (pre ++ R) pend g) := by
  refine wpS_bind (wpS_mono (wpS_forRange (I := fun k (c : Option Bool × Unit) st' => c.1 = none ∧ ∃ P : List Nat, stL κ it (pre ++ P) pend g = st' ∧ P.Perm R ∧ (P.take k).Pairwise fun a b => lt a b = true) (Q := fun (c : Option Bool × Unit) st' => c.1 = none ∧ ∃ P : List Nat, stL κ it (pre ++ P) pend g = st' ∧ P.Perm R ∧ (P.take m).Pairwise fun a b => lt a b = true) ?_ ?_ ⟨rfl, R, rfl, List.Perm.refl _, by rw [show max ok 1 = ok by lia]; exact so⟩) ?_)
  · rintro k ⟨c0, u⟩ st' hk1 hk ⟨hc, P, rfl, hp, hs⟩
    dsimp only at hc
    have nd' : (pre ++ P).Nodup := ((hp.append_left pre).nodup_iff).mpr nd
    have bd' : ∀ x ∈ pre ++ P, x < n := fun x hx => bd x ((hp.append_left pre).mem_iff.mp hx)
    have hl' : P.length = R.length := hp.length_eq
    have hkP : k < P.length := by lia
    have bP : ∀ {i : Nat} (hi : i < P.length), P[i] < n := fun hi => bd' _ (List.mem_append_right _ (List.getElem_mem hi))
    have srt : ∀ {i j : Nat} (hj : j < P.length) (hij : i < j), j < k → lt (P[i]'(Nat.lt_trans hij hj)) P[j] = true := fun {i j} hj hij hjk => by
      have := List.pairwise_iff_getElem.mp hs i j (by rw [List.length_take]; (clear hj hl' hk hk1 hm hok h1; lia)) (by rw [List.length_take]; (clear hij hj hl' hk hk1 hm hok h1; lia)) hij
      rw [List.getElem_take, List.getElem_take] at this
      exact this
    refine wpS_bind (wpS_mono (wpS_forRange (I := fun i (c : Option Bool × Nat × Nat) st' => stL κ it (pre ++ P) pend g = st' ∧ c.1 = none ∧ c.2.1 ≤ c.2.2 ∧ c.2.2 ≤ k ∧ (c.2.2 - c.2.1) + i ≤ k ∧ (∀ j (hj : j < P.length), j < c.2.1 → lt P[j] P[k] = true) ∧ ∀ j (hj : j < P.length), c.2.2 ≤ j → j < k → lt P[k] P[j] = true)
      (Q := fun (c : Option Bool × Nat × Nat) st' => stL κ it (pre ++ P) pend g = st' ∧ c.1 = none ∧ c.2.1 ≤ k ∧ (∀ j (hj : j < P.length), j < c.2.1 → lt P[j] P[k] = true) ∧ ∀ j (hj : j < P.length), c.2.1 ≤ j → j < k → lt P[k] P[j] = true) ?_ ?_ ⟨rfl, rfl, Nat.zero_le _, Nat.le_refl _, by dsimp only; lia, fun j _ q => absurd q (Nat.not_lt_zero _), fun j _ q1 q2 => absurd q2 (by dsimp only at q1; (clear q2 hkP hl' hk hk1 hm hok h1; lia))⟩) ?_)
    · rintro i ⟨c0, l, r⟩ st' _ hi ⟨rfl, hc, hlr, hrk, hm', lo, up⟩
      dsimp only at hc hlr hrk hm' lo up
      refine wpS_zeta ?_
      refine wpS_ite (fun z => ?_) fun z => ?_
      · have z : l ≥ r := z
        obtain rfl : l = r := by lia
        exact wpS_pure ⟨rfl, rfl, hrk, lo, up⟩
      · have z : ¬ l ≥ r := z
        have hmid : (l + r) / 2 < P.length := by (clear z hm' hi hl' hk hk1 hm hok h1; lia)
        have hask : ∀ {Q : Option Bool → SortSt → Prop}, Q (some (lt P[k] P[(l + r) / 2])) (stL κ it (pre ++ P) pend g) → wpS (model prog w) A E s (ltAt' (pre.length + k) (pre.length + (l + r) / 2)) Q (stL κ it (pre ++ P) pend g) := fun {Q} q => by
          refine ltAt_s H bd' (by rw [List.length_append]; (clear z hm' hrk hlr hi hl' hk hk1 hm hok h1; lia)) (by rw [List.length_append]; (clear z hm' hrk hlr hi hl' hk hk1 hm hok h1; lia)) ?_
          rw [at_R hkP, at_R hmid]
          exact q
        refine wpS_zeta (wpS_bind (hask ?_))
        cases e : lt P[k] P[(l + r) / 2] with
        | true =>
          refine wpS_pure ⟨rfl, rfl, by dsimp only; lia, by dsimp only; lia, by dsimp only; (clear z hrk hlr hl' hk hk1 hm hok h1; lia), lo, fun j hj q1 q2 => ?_⟩
          dsimp only at q1
          rcases Nat.lt_or_ge ((l + r) / 2) j with q | q
          · exact H.O.trans _ _ _ (bP hkP) (bP hmid) (bP hj) e (srt hj q q2)
          · obtain rfl : j = (l + r) / 2 := by lia
            exact e
        | false =>
          have e' : lt P[(l + r) / 2] P[k] = true := H.O.total _ _ (bP hkP) (bP hmid) (fun e' => absurd ((List.getElem_inj (List.nodup_append.mp nd').2.1).mp e') (by lia)) e
          refine wpS_pure ⟨rfl, rfl, by dsimp only; lia, hrk, by dsimp only; lia, fun j hj q1 => ?_, up⟩
          dsimp only at q1
          rcases Nat.lt_or_ge j ((l + r) / 2) with q | q
          · exact H.O.trans _ _ _ (bP hj) (bP hmid) (bP hkP) (srt hmid q (by lia)) e'
          · obtain rfl : j = (l + r) / 2 := by lia
            exact e'
    · rintro ⟨c0, l, r⟩ st' ⟨rfl, hc, hlr, hrk, hm', lo, up⟩
      dsimp only at hc hlr hrk hm' lo up
      obtain rfl : l = r := by lia
      exact ⟨rfl, hc, hrk, lo, up⟩
    · rintro ⟨c0, l, r⟩ st' ⟨rfl, hc, hlk, lo, up⟩
      dsimp only at hc hlk lo up
      subst hc
      have eP : P = P.take l ++ (P.drop l).take (k - l) ++ P[k] :: P.drop (k + 1) := by
        have e1 : (P.drop l).drop (k - l) = P[k] :: P.drop (k + 1) := by rw [List.drop_drop, show l + (k - l) = k by lia, drop_get hkP]
        rw [List.append_assoc, ← e1, List.take_append_drop, List.take_append_drop]
      have hl1 : (P.take l).length = l := by rw [List.length_take]; (clear hl' hk hk1 hm hok h1; lia)
      have hl2 : ((P.drop l).take (k - l)).length = k - l := by rw [List.length_take, List.length_drop]; lia
      have hp2 : (P.take l ++ P[k] :: (P.drop l).take (k - l) ++ P.drop (k + 1)).Perm P := by
        conv => rhs; rw [eP]
        rw [List.append_assoc, List.append_assoc, List.cons_append]
        exact (List.perm_middle.symm).append_left _
      have eq1 : pre ++ P.take l ++ (P.drop l).take (k - l) ++ P[k] :: P.drop (k + 1) = pre ++ P := by
        conv => rhs; rw [eP]
        simp only [List.append_assoc]
      have mv : ∀ {Q : Unit → SortSt → Prop}, Q () (stL κ it (pre ++ P.take l ++ P[k] :: (P.drop l).take (k - l) ++ P.drop (k + 1)) pend g) → wpS (model prog w) A E s (moveDown' (pre.length + k) (pre.length + l)) Q (stL κ it (pre ++ P) pend g) := fun {Q} q => by
        have := move_s (prog := prog) (w := w) (A := A) (E := E) (s := s) (κ := κ) (it := it) (pend := pend) (g := g) (F := pre ++ P.take l) (S := (P.drop l).take (k - l)) (post := P.drop (k + 1)) (x := P[k]) (src := pre.length + k) (dst := pre.length + l) (Q := Q) (by rw [List.length_append, hl1, hl2]; lia) (by rw [List.length_append, hl1]) q
        rw [eq1] at this
        exact this
      refine wpS_bind (mv (wpS_pure ⟨rfl, P.take l ++ P[k] :: (P.drop l).take (k - l) ++ P.drop (k + 1), ?_, hp2.trans hp, ?_⟩))
      · congr 1
        simp only [List.append_assoc]
      · have et : (P.take l ++ P[k] :: (P.drop l).take (k - l) ++ P.drop (k + 1)).take (k + 1) = P.take l ++ P[k] :: (P.drop l).take (k - l) := List.take_left' (by rw [List.length_append, List.length_cons, hl1, hl2]; lia)
        rw [et]
        have sk : P.take k = P.take l ++ (P.drop l).take (k - l) := by
          have : k = l + (k - l) := by lia
          conv => lhs; rw [this, List.take_add]
        rw [sk] at hs
        obtain ⟨s1, s2, s3⟩ := List.pairwise_append.mp hs
        refine List.pairwise_append.mpr ⟨s1, List.pairwise_cons.mpr ⟨fun b hb => ?_, s2⟩, fun a ha b hb => ?_⟩
        · obtain ⟨j, hj, rfl⟩ := List.getElem_of_mem hb
          rw [hl2] at hj
          rw [List.getElem_take, List.getElem_drop]
          exact up (l + j) (by (clear hj hl1 hlk hl' hk hk1 hm hok h1; omega)) (by lia) (by (clear hj hl1 hlk hl' hk hk1 hm hok h1; omega))
        · rcases List.mem_cons.mp hb with rfl | hb
          · obtain ⟨j, hj, hjl, rfl⟩ := mem_take ha
            exact lo j hj hjl
          · exact s3 a ha b hb
  · rintro ⟨c0, u⟩ st' ⟨hc, P, rfl, hp, hs⟩
    rw [show max (max ok 1) m = m by lia] at hs
    exact ⟨hc, P, rfl, hp, hs⟩
  · rintro ⟨c0, u⟩ st' ⟨hc, P, rfl, hp, hs⟩
    dsimp only at hc
    subst hc
    exact wpS_pure (h P hp hs)
end
end RS

namespace RS
open PySem PySem.W PyProof.Rows
/-- the runs so far, and what they are in the sort's own books -/
noncomputable def flat (rs : List (List Nat × Nat)) : List Nat := rs.flatMap (·.1)
noncomputable def pendOf : Nat → List (List Nat × Nat) → List (Nat × Nat × Nat)
  | _, [] => []
  | b, (L, p) :: rs => (b, L.length, p) :: pendOf (b + L.length) rs
theorem flat_append (a b : List (List Nat × Nat)) : flat (a ++ b) = flat a ++ flat b := List.flatMap_append
theorem flat_one (L : List Nat) (p : Nat) : flat [(L, p)] = L := by unfold flat; simp
theorem flat_cons (L : List Nat) (p : Nat) (rs : List (List Nat × Nat)) : flat ((L, p) :: rs) = L ++ flat rs := by unfold flat; simp
theorem pendOf_append : ∀ (a : List (List Nat × Nat)) (n : Nat) (b : List (List Nat × Nat)), pendOf n (a ++ b) = pendOf n a ++ pendOf (n + (flat a).length) b
  | [], n, b => by simp [pendOf, flat]
  | (L, p) :: a, n, b => by
    rw [List.cons_append]
    show (n, L.length, p) :: pendOf (n + L.length) (a ++ b) = (n, L.length, p) :: (pendOf (n + L.length) a ++ _)
    rw [pendOf_append a, flat_cons, List.length_append, Nat.add_assoc]
theorem pendOf_length : ∀ (a : List (List Nat × Nat)) (n : Nat), (pendOf n a).length = a.length
  | [], _ => rfl
  | (L, p) :: a, n => congrArg Nat.succ (pendOf_length a _)
structure RunsOk (lt : Nat → Nat → Bool) (rs : List (List Nat × Nat)) : Prop where
  srt : ∀ r ∈ rs, r.1.Pairwise fun a b => lt a b = true
  pos : ∀ r ∈ rs, 0 < r.1.length
theorem runs_le {lt : Nat → Nat → Bool} {rs : List (List Nat × Nat)} (h : RunsOk lt rs) : rs.length ≤ (flat rs).length := by
  induction rs with
  | nil => exact Nat.zero_le _
  | cons r rs ih =>
    have := ih ⟨fun r hr => h.srt r (.tail _ hr), fun r hr => h.pos r (.tail _ hr)⟩
    have h0 := h.pos r (.head _)
    obtain ⟨L, p⟩ := r
    rw [flat_cons, List.length_append, List.length_cons]
    dsimp only at h0
    lia
theorem split_two {α : Type} : ∀ (l : List α) (i : Nat), i + 1 < l.length → ∃ a x y b, l = a ++ x :: y :: b ∧ a.length = i
  | [], i, h => by simp at h
  | [x], i, h => by simp at h
  | x :: y :: l, 0, _ => ⟨[], x, y, l, rfl, rfl⟩
  | x :: y :: l, i + 1, h => by
    obtain ⟨a, u, v, b, e, hl⟩ := split_two (y :: l) i (by simpa using h)
    exact ⟨x :: a, u, v, b, by rw [e]; rfl, by rw [List.length_cons, hl]⟩
section
variable {prog : Program} {w : World} {A : Around} {E : Value → Shared → Prop} {s : Shared} {κ : SortKind} {it : Array Keyed} {n : Nat} {lt : Nat → Nat → Bool} {g : Nat}
theorem mergeRuns_s (H : Cmp prog w A s κ it n lt) {i : Nat} {rs : List (List Nat × Nat)} {rest : List Nat} (hi : i + 1 < rs.length) (ok : RunsOk lt rs) (nd : (flat rs ++ rest).Nodup) (bd : ∀ x ∈ flat rs ++ rest, x < n) {Q : Bool → SortSt → Prop}
    (h : ∀ rs' g', rs'.length + 1 = rs.length → (flat rs').Perm (flat rs) → RunsOk lt rs' → Q true (stL κ it (flat rs' ++ rest) (pendOf 0 rs').toArray g')) :
    wpS (model prog w) A E s (mergeAt' i) Q (stL κ it (flat rs ++ rest) (pendOf 0 rs).toArray g) := by
  obtain ⟨a, ⟨L, p1⟩, ⟨M, p2⟩, b, rfl, hl⟩ := split_two rs i hi
  have ef : flat (a ++ (L, p1) :: (M, p2) :: b) ++ rest = flat a ++ L ++ M ++ (flat b ++ rest) := by
    rw [flat_append, flat_cons, flat_cons]
    simp only [List.append_assoc]
  have ep : pendOf 0 (a ++ (L, p1) :: (M, p2) :: b) = pendOf 0 a ++ ((flat a).length, L.length, p1) :: ((flat a).length + L.length, M.length, p2) :: pendOf ((flat a).length + L.length + M.length) b := by
    rw [pendOf_append, Nat.zero_add]; rfl
  have la : (pendOf 0 a).length = i := (pendOf_length a 0).trans hl
  rw [ef] at nd bd ⊢
  refine mergeAt_s H (pre := flat a) (L := L) (M := M) (post := flat b ++ rest) (p1 := p1) (p2 := p2) ?_ ?_ (ok.pos (L, p1) (List.mem_append_right _ (.head _))) (ok.pos (M, p2) (List.mem_append_right _ (.tail _ (.head _)))) nd bd (ok.srt (L, p1) (List.mem_append_right _ (.head _))) (ok.srt (M, p2) (List.mem_append_right _ (.tail _ (.head _)))) fun C g' hp hs => ?_
  · rw [ep, List.getElem?_toArray, List.getElem?_append_right (by lia), la, Nat.sub_self]; rfl
  · rw [ep, List.getElem?_toArray, List.getElem?_append_right (by lia), la, Nat.add_sub_cancel_left]; rfl
  have hcl : C.length = L.length + M.length := by rw [hp.length_eq, List.length_append]
  have ok' : RunsOk lt (a ++ (C, p1) :: b) := by
    refine ⟨fun r hr => ?_, fun r hr => ?_⟩
    · rcases List.mem_append.mp hr with hr | hr
      · exact ok.srt r (List.mem_append_left _ hr)
      · rcases List.mem_cons.mp hr with rfl | hr
        · exact hs
        · exact ok.srt r (List.mem_append_right _ (.tail _ (.tail _ hr)))
    · rcases List.mem_append.mp hr with hr | hr
      · exact ok.pos r (List.mem_append_left _ hr)
      · rcases List.mem_cons.mp hr with rfl | hr
        · have := ok.pos (L, p1) (List.mem_append_right _ (.head _))
          dsimp only at this ⊢
          lia
        · exact ok.pos r (List.mem_append_right _ (.tail _ (.tail _ hr)))
  have fin := h (a ++ (C, p1) :: b) g' (by simp only [List.length_append, List.length_cons]; lia) (by
    rw [flat_append, flat_append, flat_cons, flat_cons, flat_cons, ← List.append_assoc L]
    exact (hp.append_right _).append_left _) ok'
  have e1 : flat (a ++ (C, p1) :: b) ++ rest = flat a ++ C ++ (flat b ++ rest) := by
    rw [flat_append, flat_cons]
    simp only [List.append_assoc]
  have e2 : pendOf 0 (a ++ (C, p1) :: b) = pendOf 0 a ++ ((flat a).length, L.length + M.length, p1) :: pendOf ((flat a).length + L.length + M.length) b := by
    rw [pendOf_append, Nat.zero_add]
    show _ ++ (_, C.length, p1) :: pendOf ((flat a).length + C.length) b = _
    rw [hcl, ← Nat.add_assoc]
  rw [e1, e2] at fin
  rw [ep]
  have e3 : ((pendOf 0 a ++ ((flat a).length, L.length, p1) :: ((flat a).length + L.length, M.length, p2) :: pendOf ((flat a).length + L.length + M.length) b).toArray.setIfInBounds i ((flat a).length, L.length + M.length, p1)).eraseIdxIfInBounds (i + 1) = (pendOf 0 a ++ ((flat a).length, L.length + M.length, p1) :: pendOf ((flat a).length + L.length + M.length) b).toArray := by
    rw [← la]
    simp [List.eraseIdx_append_of_length_le]
  rw [e3]
  exact fin
theorem mod_last {α : Type} (f : α → α) : ∀ (a : List α) (x : α), (a ++ [x]).modify a.length f = a ++ [f x]
  | [], _ => rfl
  | y :: a, x => by
    have := mod_last f a x
    simp only [List.cons_append, List.length_cons, List.modify_succ_cons, this]
theorem if_lt {N : Nat} (c : Prop) [Decidable c] (a b : Nat) (ha : a + 1 < N) (hb : b + 1 < N) : (if c then a else b) + 1 < N := by split <;> assumption
theorem sortRuns_s (H : Cmp prog w A s κ it n lt) {P : List Nat} (nd : P.Nodup) (bd : ∀ x ∈ P, x < n) {Q : Unit → SortSt → Prop}
    (h : ∀ P' pend g', P'.Perm P → P'.Pairwise (fun a b => lt a b = true) → Q () (stL κ it P' pend g')) : wpS (model prog w) A E s sortRuns' Q (stL κ it P #[] g) := by
  refine wpS_bind (wpS_get ?_)
  have sz : (arrOf (stL κ it P #[] g)).size = P.length := by show (P.map (kas_item it)).toArray.size = _; simp
  dsimp (config := { zeta := false }) only
  extract_lets size minrun lo0
  have hsz : size = P.length := sz
  clear_value minrun size
  subst hsz
  have ndP : ∀ {X : List Nat}, X.Perm P → X.Nodup := fun hp => hp.nodup_iff.mpr nd
  have bdP : ∀ {X : List Nat}, X.Perm P → ∀ x ∈ X, x < n := fun hp x hx => bd x (hp.mem_iff.mp hx)
  refine wpS_bind (wpS_mono (wpS_forRange (I := fun i (c : Option Unit × Nat) st' => c.1 = none ∧ ∃ rs rest g', stL κ it (flat rs ++ rest) (pendOf 0 rs).toArray g' = st' ∧ c.2 = (flat rs).length ∧ (flat rs ++ rest).Perm P ∧ RunsOk lt rs ∧ i ≤ (flat rs).length)
    (Q := fun (c : Option Unit × Nat) st' => c.1 = none ∧ ∃ rs g', stL κ it (flat rs) (pendOf 0 rs).toArray g' = st' ∧ (flat rs).Perm P ∧ RunsOk lt rs) ?_ ?_ ⟨rfl, [], P, g, rfl, rfl, List.Perm.refl _, ⟨fun _ h => (List.not_mem_nil h).elim, fun _ h => (List.not_mem_nil h).elim⟩, Nat.zero_le _⟩) ?_)
  · rintro i ⟨c0, lo⟩ st' _ hi ⟨hc, rs, rest, g', rfl, hlo, hp, ok, hil⟩
    dsimp only at hc hlo
    subst hlo
    have hlen : (flat rs).length + rest.length = P.length := by rw [← List.length_append]; exact hp.length_eq
    refine wpS_name fun R hR => ?_
    have yes : ∀ (c : Option Unit × Nat) st', (c.1 = none ∧ ∃ rs g', stL κ it (flat rs) (pendOf 0 rs).toArray g' = st' ∧ (flat rs).Perm P ∧ RunsOk lt rs) → R (.done c) st' := fun c st' z => by rw [hR]; exact z
    have no : ∀ (c : Option Unit × Nat) st', (c.1 = none ∧ ∃ rs rest g', stL κ it (flat rs ++ rest) (pendOf 0 rs).toArray g' = st' ∧ c.2 = (flat rs).length ∧ (flat rs ++ rest).Perm P ∧ RunsOk lt rs ∧ i + 1 ≤ (flat rs).length) → R (.yield c) st' := fun c st' z => by rw [hR]; exact z
    refine wpS_zeta (wpS_ite (fun z => ?_) fun z => ?_)
    · have z : (flat rs).length ≥ P.length := z
      have er : rest = [] := List.eq_nil_of_length_eq_zero (by (clear z hil hi sz; lia))
      subst er
      rw [List.append_nil] at hp ⊢
      exact wpS_pure (yes _ _ ⟨rfl, rs, g', rfl, hp, ok⟩)
    have z : ¬ (flat rs).length ≥ P.length := z
    have er : P.length - (flat rs).length = rest.length := by lia
    rw [er]
    refine wpS_bind (countRun_s H (pre := flat rs) (R := rest) (by lia) (ndP hp) (bdP hp) fun m R' h1 h2 hp' hs => ?_)
    dsimp (config := { zeta := false }) only
    extract_lets fo jp
    have hjp : ∀ n' R'', 1 ≤ n' → n' ≤ rest.length → R''.Perm rest → (R''.take n').Pairwise (fun a b => lt a b = true) → wpS (model prog w) A E s (jp () n') R (stL κ it (flat rs ++ R'') (pendOf 0 rs).toArray g') := by
      intro n' R'' h1 h2 hpR hs
      have hpA : (flat rs ++ R'').Perm P := (hpR.append_left _).trans hp
      have hRl : R''.length = rest.length := hpR.length_eq
      refine wpS_bind (wpS_get ?_)
      extract_lets lo2 jp2
      have hjp2 : ∀ rs2 g2, (flat rs2).Perm (flat rs) → RunsOk lt rs2 → wpS (model prog w) A E s (jp2 ()) R (stL κ it (flat rs2 ++ R'') (pendOf 0 rs2).toArray g2) := by
        intro rs2 g2 hp2 ok2
        refine wpS_bind (wpS_modify (wpS_zeta (wpS_pure (no _ _ ⟨rfl, rs2 ++ [(R''.take n', 0)], R''.drop n', g2, ?_, ?_, ?_, ⟨fun r hr => ?_, fun r hr => ?_⟩, ?_⟩))))
        · have e1 : flat (rs2 ++ [(R''.take n', 0)]) ++ R''.drop n' = flat rs2 ++ R'' := by rw [flat_append, flat_one, List.append_assoc, List.take_append_drop]
          have e2 : (pendOf 0 (rs2 ++ [(R''.take n', 0)])).toArray = (pendOf 0 rs2).toArray.push ((flat rs).length, n', 0) := by
            rw [pendOf_append, Nat.zero_add, hp2.length_eq]
            show (pendOf 0 rs2 ++ [((flat rs).length, (R''.take n').length, 0)]).toArray = _
            rw [List.length_take, show min n' R''.length = n' by lia]
            simp
          rw [e1, e2]
          rfl
        · show (flat rs).length + n' = _
          rw [flat_append, flat_one, List.length_append, List.length_take, hp2.length_eq]
          lia
        · rw [flat_append, flat_one, List.append_assoc, List.take_append_drop]
          exact (hp2.append_right _).trans hpA
        · rcases List.mem_append.mp hr with hr | hr
          · exact ok2.srt r hr
          · rw [List.mem_singleton.mp hr]; exact hs
        · rcases List.mem_append.mp hr with hr | hr
          · exact ok2.pos r hr
          · rw [List.mem_singleton.mp hr]; show 0 < (R''.take n').length; rw [List.length_take]; lia
        · rw [flat_append, flat_one, List.length_append, List.length_take, hp2.length_eq]
          lia
      show wpS _ _ _ _ (match ((pendOf 0 rs).toArray.back? : Option (Nat × Nat × Nat)) with | some (s1, n1, snd) => _ | _ => _) R _
      rcases List.eq_nil_or_concat rs with hrs | ⟨rs0, ⟨L, p⟩, hrs⟩
      · rw [hrs]
        have fin := hjp2 rs g' (List.Perm.refl _) ok
        rw [hrs] at fin
        exact fin
      · have hb : (pendOf 0 rs).toArray.back? = some ((flat rs0).length, L.length, p) := by
          rw [hrs, List.concat_eq_append, pendOf_append, Nat.zero_add]
          show (pendOf 0 rs0 ++ [((flat rs0).length, L.length, p)]).toArray.back? = _
          simp
        rw [hb]
        dsimp (config := { zeta := false }) only
        extract_lets pw
        clear_value pw
        have hne : rs ≠ [] := by rw [hrs, List.concat_eq_append]; simp
        refine wpS_bind (wpS_mono (wpS_forRange (I := fun j (c : Option Unit × Unit) st' => c.1 = none ∧ ∃ rs2 g2, stL κ it (flat rs2 ++ R'') (pendOf 0 rs2).toArray g2 = st' ∧ (flat rs2).Perm (flat rs) ∧ RunsOk lt rs2 ∧ rs2 ≠ []) (Q := fun (c : Option Unit × Unit) st' => c.1 = none ∧ ∃ rs2 g2, stL κ it (flat rs2 ++ R'') (pendOf 0 rs2).toArray g2 = st' ∧ (flat rs2).Perm (flat rs) ∧ RunsOk lt rs2 ∧ rs2 ≠ []) ?_ ?_ ⟨rfl, rs, g', rfl, List.Perm.refl _, ok, hne⟩) ?_)
        · rintro j ⟨c1, u⟩ st' _ hj ⟨hc1, rs2, g2, rfl, hp2, ok2, hne2⟩
          have hpl : (pendOf 0 rs2).toArray.size = rs2.length := by rw [List.size_toArray, pendOf_length]
          have hpB : (flat rs2 ++ R'').Perm P := (hp2.append_right _).trans hpA
          refine wpS_bind (wpS_get ?_)
          show wpS _ _ _ _ (match (if (pendOf 0 rs2).toArray.size > 1 then (pendOf 0 rs2).toArray[(pendOf 0 rs2).toArray.size - 2]? else none : Option (Nat × Nat × Nat)) with | some (fst, fst_1, older) => _ | _ => _) _ _
          by_cases h1' : (pendOf 0 rs2).toArray.size > 1
          · obtain ⟨⟨t1, t2, t3⟩, ht⟩ : ∃ t, (pendOf 0 rs2).toArray[(pendOf 0 rs2).toArray.size - 2]? = some t := ⟨_, Array.getElem?_eq_getElem (by (clear hpl hne2 hj hne hRl h2 h1 er z hlen hil hi sz; lia))⟩
            rw [if_pos h1', ht]
            refine wpS_ite (fun _ => wpS_pure ⟨rfl, rs2, g2, rfl, hp2, ok2, hne2⟩) fun _ => ?_
            refine wpS_bind (mergeRuns_s H (i := (pendOf 0 rs2).toArray.size - 2) (by lia) ok2 (ndP hpB) (bdP hpB) fun rs3 g3 hl3 hp3 ok3 => ?_)
            exact wpS_pure ⟨rfl, rs3, g3, rfl, hp3.trans hp2, ok3, fun e => by rw [e, List.length_nil] at hl3; lia⟩
          · rw [if_neg h1']
            exact wpS_pure ⟨rfl, rs2, g2, rfl, hp2, ok2, hne2⟩
        · rintro ⟨c1, u⟩ st' hI
          exact hI
        · rintro ⟨c1, u⟩ st' ⟨hc1, rs2, g2, rfl, hp2, ok2, hne2⟩
          dsimp only at hc1
          subst hc1
          refine wpS_bind (wpS_modify ?_)
          rcases List.eq_nil_or_concat rs2 with hrs | ⟨rs0, ⟨L, p⟩, hrs⟩
          · exact absurd hrs hne2
          rw [List.concat_eq_append] at hrs
          have hf : flat (rs0 ++ [(L, pw)]) = flat rs2 := by rw [hrs, flat_append, flat_append, flat_one, flat_one]
          have ok3 : RunsOk lt (rs0 ++ [(L, pw)]) := by
            refine ⟨fun r hr => ?_, fun r hr => ?_⟩
            · rcases List.mem_append.mp hr with hr | hr
              · exact ok2.srt r (by rw [hrs]; exact List.mem_append_left _ hr)
              · rw [List.mem_singleton.mp hr]; exact ok2.srt (L, p) (by rw [hrs]; exact List.mem_append_right _ (.head _))
            · rcases List.mem_append.mp hr with hr | hr
              · exact ok2.pos r (by rw [hrs]; exact List.mem_append_left _ hr)
              · rw [List.mem_singleton.mp hr]; exact ok2.pos (L, p) (by rw [hrs]; exact List.mem_append_right _ (.head _))
          have fin := hjp2 (rs0 ++ [(L, pw)]) g2 (by rw [hf]; exact hp2) ok3
          have e2 : (pendOf 0 rs2).toArray.modify ((pendOf 0 rs2).toArray.size - 1) (fun x => (x.fst, x.2.fst, pw)) = (pendOf 0 (rs0 ++ [(L, pw)])).toArray := by
            rw [hrs, pendOf_append, pendOf_append, Nat.zero_add]
            show (pendOf 0 rs0 ++ [((flat rs0).length, L.length, p)]).toArray.modify ((pendOf 0 rs0 ++ [((flat rs0).length, L.length, p)]).toArray.size - 1) _ = (pendOf 0 rs0 ++ [((flat rs0).length, L.length, pw)]).toArray
            apply Array.toList_inj.mp
            simp
            exact mod_last _ _ _
          rw [hf, ← e2] at fin
          exact fin
    refine wpS_ite (fun hmr => ?_) fun hmr => hjp m R' h1 h2 hp' hs
    have hmr : m < minrun := hmr
    refine wpS_bind (wpS_lift (wpAny_rule ⟨rfl, ?_⟩))
    refine wpS_zeta ?_
    have hpA : (flat rs ++ R').Perm P := (hp'.append_left _).trans hp
    refine wpS_bind (binarySort_s H (pre := flat rs) (R := R') (m := min rest.length minrun) (ok := m) h1 (by (clear hmr h1 er z hlen hil hi sz; lia)) (by rw [hp'.length_eq]; (clear hmr h2 er z hlen hil hi sz; lia)) (ndP hpA) (bdP hpA) hs fun R2 hp2 hs2 => ?_)
    exact hjp (min rest.length minrun) R2 (by lia) (by omega) (hp2.trans hp') hs2
  · rintro ⟨c0, lo⟩ st' ⟨hc, rs, rest, g', rfl, hlo, hp, ok, hil⟩
    have hlen : (flat rs).length + rest.length = P.length := by rw [← List.length_append]; exact hp.length_eq
    have er : rest = [] := List.eq_nil_of_length_eq_zero (by lia)
    subst er
    rw [List.append_nil] at hp ⊢
    exact ⟨hc, rs, g', rfl, hp, ok⟩
  · rintro ⟨c0, lo⟩ st' ⟨hc, rs, g', rfl, hp, ok⟩
    dsimp only at hc
    subst hc
    have hle := runs_le ok
    refine wpS_bind (wpS_mono (wpS_forRange (I := fun j (c : Option Unit × Unit) st' => c.1 = none ∧ ∃ rs2 g2, stL κ it (flat rs2) (pendOf 0 rs2).toArray g2 = st' ∧ (flat rs2).Perm P ∧ RunsOk lt rs2 ∧ rs2.length + j ≤ P.length) (Q := fun (c : Option Unit × Unit) st' => c.1 = none ∧ ∃ rs2 g2, stL κ it (flat rs2) (pendOf 0 rs2).toArray g2 = st' ∧ (flat rs2).Perm P ∧ RunsOk lt rs2 ∧ rs2.length ≤ 1) ?_ ?_ ⟨rfl, rs, g', rfl, hp, ok, by rw [← hp.length_eq]; exact hle⟩) ?_)
    · rintro j ⟨c1, u⟩ st' _ hj ⟨hc1, rs2, g2, rfl, hp2, ok2, hj2⟩
      have hpl : (pendOf 0 rs2).toArray.size = rs2.length := by rw [List.size_toArray, pendOf_length]
      refine wpS_bind (wpS_get ?_)
      refine wpS_zeta (wpS_ite (fun z => ?_) fun z => ?_)
      · have z : (pendOf 0 rs2).toArray.size ≤ 1 := z
        exact wpS_pure ⟨rfl, rs2, g2, rfl, hp2, ok2, by lia⟩
      have z : ¬ (pendOf 0 rs2).toArray.size ≤ 1 := z
      have go : ∀ {k : Nat} {Q : Bool → SortSt → Prop}, k + 1 < rs2.length → (∀ rs' g', rs'.length + 1 = rs2.length → (flat rs').Perm (flat rs2) → RunsOk lt rs' → Q true (stL κ it (flat rs') (pendOf 0 rs').toArray g')) → wpS (model prog w) A E s (mergeAt' k) Q (stL κ it (flat rs2) (pendOf 0 rs2).toArray g2) := fun {k Q} hk q => by
        have := mergeRuns_s (A := A) (E := E) (g := g2) H (i := k) (rs := rs2) (rest := []) hk ok2 (by rw [List.append_nil]; exact ndP hp2) (by rw [List.append_nil]; exact bdP hp2) (Q := Q) (fun rs' g' h1 h2 h3 => by rw [List.append_nil]; exact q rs' g' h1 h2 h3)
        rw [List.append_nil] at this
        exact this
      refine wpS_bind (go ?_ fun rs3 g3 hl3 hp3 ok3 => ?_)
      · refine if_lt _ _ _ ?_ ?_
        · show (pendOf 0 rs2).toArray.size - 2 - 1 + 1 < _
          (clear hj hle sz; omega)
        · show (pendOf 0 rs2).toArray.size - 2 + 1 < _
          lia
      · exact wpS_pure ⟨rfl, rs3, g3, rfl, hp3.trans hp2, ok3, by lia⟩
    · rintro ⟨c1, u⟩ st' ⟨hc1, rs2, g2, rfl, hp2, ok2, hj2⟩
      exact ⟨hc1, rs2, g2, rfl, hp2, ok2, by lia⟩
    · rintro ⟨c1, u⟩ st' ⟨hc1, rs2, g2, rfl, hp2, ok2, hj2⟩
      dsimp only at hc1
      subst hc1
      refine wpS_pure (h (flat rs2) _ g2 hp2 ?_)
      match rs2, hj2, ok2 with
      | [], _, _ => exact .nil
      | [(L, p)], _, ok2 => rw [flat_one]; exact ok2.srt (L, p) (.head _)
end
end RS

namespace RS
open PySem PySem.W PyProof.Rows
section
variable {W : Wd} {A : Around} {E : Value → Shared → Prop} {s : Shared} {σ : Hp}
theorem sort_tups2 {a : Addr} {vs : List Value} {ks : List (List Int)} {n : Nat} {P : PySem.Fin → Shared → Prop} (ho : s.heap.get? a = some (seqObj "list" vs.toArray n)) (hle : vs.length ≤ 1000)
    (hk : Reps W s.heap (ks.map kv) vs) (hne : ∀ k ∈ ks, k ≠ []) (nd : ks.Nodup)
    (h : ∀ h' (p : List Nat) c, h'.get? a = some (seqObj "list" (p.map fun i => vs.getD i Value.none).toArray c) → (∀ b o, b ≠ a → s.heap.get? b = some o → h'.get? b = some o) → p.Perm (List.range vs.length) →
      (p.map fun i => ks.getD i []).Pairwise (fun x y => ltL x y = true) → P (.done (.ret .none)) { s with heap := h' }) :
    wpAny (model W.prog W.w) A (Builtin.«list.sort» ⟨[.ref a], []⟩) P E s := by
  have hlen : ks.length = vs.length := by have := hk.length; simpa using this
  have ha : a < s.heap.objs.size := Heap.lt_size ho
  have s1 := Heap.SameBut.update s.heap a (Obj.mapSeq fun _ => (#[] : Array Value))
  obtain ⟨e1, ho1⟩ : ∃ e1, (s.heap.update a (Obj.mapSeq fun _ => (#[] : Array Value))).get? a = some (seqObj "list" #[] e1) := ⟨_, get?_update_seq ho fun _ => #[]⟩
  have ho6 : (((s.heap.update a (Obj.mapSeq fun _ => (#[] : Array Value))).push (seqObj "tuple" vs.toArray 0)).push (seqObj "list" #[] 0)).get? a = some (seqObj "list" #[] e1) := Heap.get?_push_of_some _ (Heap.get?_push_of_some _ ho1)
  have keep : ∀ b o, b ≠ a → s.heap.get? b = some o → (((s.heap.update a (Obj.mapSeq fun _ => (#[] : Array Value))).push (seqObj "tuple" vs.toArray 0)).push (seqObj "list" #[] 0)).get? b = some o := fun b o hb e =>
    Heap.get?_push_of_some _ (Heap.get?_push_of_some _ ((s1.2 b hb).trans e))
  generalize hh3 : ((s.heap.update a (Obj.mapSeq fun _ => (#[] : Array Value))).push (seqObj "tuple" vs.toArray 0)).push (seqObj "list" #[] 0) = h3 at ho6 keep
  have kt : TupKeep s.heap h3 := fun b o e q => keep b o (fun hb => by subst hb; rw [ho] at e; cases e; exact absurd q.1 (by simp [seqObj])) e
  have hk3 := hk.mono kt
  rw [list_sort_plain]
  refine wpAny_bind (listItems_at ho rfl ?_)
  refine wpAny_bind (listUpdate_at ho rfl ?_ (by rw [List.size_toArray, sizeLine_eq]; lia) (Nat.zero_le _))
  refine wpAny_bind (seqEpoch_at ho1 rfl ?_)
  refine wpAny_bind (wpAny_newTuple ?_ (by show vs.length ≤ _; rw [sizeLine_eq]; omega))
  refine wpAny_bind (wpAny_newList ?_ (Nat.zero_le _))
  refine wpAny_holding ?_
  have fin : ∀ (p : List Nat) (out : Array Value), out = (p.map fun i => vs.getD i Value.none).toArray → p.Perm (List.range vs.length) → (p.map fun i => ks.getD i []).Pairwise (fun x y => ltL x y = true) → P (.done (.ret .none)) { s with heap := h3.update a (Obj.mapSeq fun _ => out) } := by
    rintro p out rfl hp hs
    obtain ⟨c2, hc2⟩ : ∃ c2, (h3.update a (Obj.mapSeq fun _ => (p.map fun i => vs.getD i Value.none).toArray)).get? a = some (seqObj "list" (p.map fun i => vs.getD i Value.none).toArray c2) := ⟨_, get?_update_seq ho6 fun _ => (p.map fun i => vs.getD i Value.none).toArray⟩
    exact h _ p c2 hc2 (fun b o hb e => ((Heap.SameBut.update h3 a (Obj.mapSeq fun _ => (p.map fun i => vs.getD i Value.none).toArray)).2 b hb).trans (keep b o hb e)) hp hs
  show wpAny (model W.prog W.w) A _ P E { s with heap := ((s.heap.update a (Obj.mapSeq fun _ => (#[] : Array Value))).push (seqObj "tuple" vs.toArray 0)).push (seqObj "list" #[] 0) }
  rw [hh3]
  dsimp only
  have hsz : vs.toArray.size = vs.length := by simp
  by_cases h2 : vs.toArray.size < 2
  · rw [if_pos h2, if_pos h2]
    refine wpAny_bind (wpAny_pure ?_)
    rw [StateT.run_pure]
    refine wpAny_bind (wpAny_pure ?_)
    dsimp only
    refine wpAny_bind (seqEpoch_at ho6 rfl ?_)
    have hout : (arrOf (SortSt.mk' general' (vs.toArray.zip vs.toArray) #[] 7 none)).map (·.2) = ((List.range vs.length).map fun i => vs.getD i Value.none).toArray := by
      show (vs.toArray.zip vs.toArray).map (·.2) = _
      apply Array.toList_inj.mp
      apply List.ext_getElem?
      intro i
      by_cases hi : i < vs.length
      · simp [hi]
      · simp [hi, Nat.le_of_not_lt hi]
    refine wpAny_bind (listUpdate_at ho6 rfl ?_ (Nat.zero_le _) (by rw [hout, List.size_toArray, List.length_map, List.length_range, sizeLine_eq]; (clear h2 hsz ha hlen; lia)))
    simp only [bne_self_eq_false, Bool.false_eq_true, if_false]
    refine wpAny_pure (fin (List.range vs.length) _ hout (List.Perm.refl _) ?_)
    rw [hsz] at h2
    have : vs.length = 0 ∨ vs.length = 1 := by lia
    rcases this with e | e <;> rw [e] <;> simp [List.range_succ]
  · rw [if_neg h2, if_neg h2]
    have h2' : 2 ≤ vs.length := by rw [hsz] at h2; lia
    obtain ⟨fs, tf, hfl, hfi⟩ := kat_tups hk3 hne
    refine wpAny_bind (kat_kind (s := { s with heap := h3 }) (T := .type "int") tf (by (clear h2' ha hlen hle; lia)) (fun v hv => ?_) (by decide) ?_)
    · obtain ⟨i, t, rfl⟩ := hfi v hv
      exact Looks.of_pure rfl
    have hlt : ∀ i j C, i < vs.length → j < vs.length → C (ltL (ks.getD i []) (ks.getD j [])) { s with heap := h3 } → kas_ask W.prog W.w A (tuples' (Value.type "int" != Value.type "tuple")) vs i j C { s with heap := h3 } := by
      intro i j C hi hj hC
      obtain ⟨x, hx, rx⟩ := hk3.get (i := i) (v := kv (ks.getD i [])) (by simp [hlen, hi])
      obtain ⟨y, hy, ry⟩ := hk3.get (i := j) (v := kv (ks.getD j [])) (by simp [hlen, hj])
      unfold kas_ask
      rw [show vs.getD i Value.none = x from by simp [hx], show vs.getD j Value.none = y from by simp [hy]]
      obtain ⟨xa, xi, xn, rfl, ex, qx⟩ := kv_at rx
      obtain ⟨ya, yi, yn, rfl, ey, qy⟩ := kv_at ry
      rw [show (Value.type "int" != Value.type "tuple") = true from by decide]
      exact kat_lt ex rfl ey rfl (lex_ints _ 0 qx qy (by simp) hC)
    have O := ltL_ok nd
    rw [hlen] at O
    have C : Cmp W.prog W.w A { s with heap := h3 } (tuples' (Value.type "int" != Value.type "tuple")) (vs.toArray.zip vs.toArray) vs.length (fun i j => ltL (ks.getD i []) (ks.getD j [])) := ⟨O, fun i j C hi hj hC => by
      have := hlt i j C hi hj hC
      rw [kat_ask_eq rfl] at this
      exact this⟩
    have est : SortSt.mk' (tuples' (Value.type "int" != Value.type "tuple")) (vs.toArray.zip vs.toArray) #[] 7 none = stL (tuples' (Value.type "int" != Value.type "tuple")) (vs.toArray.zip vs.toArray) (List.range vs.length) #[] 7 := by
      have e := kas_range (vs.toArray.zip vs.toArray)
      rw [show (vs.toArray.zip vs.toArray).size = vs.length by simp] at e
      show SortSt.mk' _ (vs.toArray.zip vs.toArray) #[] 7 none = SortSt.mk' _ ((List.range vs.length).map (kas_item (vs.toArray.zip vs.toArray))).toArray #[] 7 none
      rw [show ((List.range vs.length).map (kas_item (vs.toArray.zip vs.toArray))).toArray = (List.toArray (List.range vs.length)).map (kas_item (vs.toArray.zip vs.toArray)) from (List.map_toArray ..).symm, e]
    rw [est]
    refine wpAny_bind (wpAny_mono (sortRuns_s (E := E) C (P := List.range vs.length) (g := 7) List.nodup_range (fun x hx => List.mem_range.mp hx) (Q := fun _ st' => ∃ p : List Nat, arrOf st' = (p.map (kas_item (vs.toArray.zip vs.toArray))).toArray ∧ failedOf st' = none ∧ p.Perm (List.range vs.length) ∧ p.Pairwise fun i j => ltL (ks.getD i []) (ks.getD j []) = true) fun P' pend g' hp hs => ⟨P', rfl, rfl, hp, hs⟩) ?_ fun _ _ e => e)
    rintro ⟨⟨⟩, st'⟩ s' ⟨rfl, p, har, hf, hP, hS⟩
    dsimp only at har hf ⊢
    have har' : arrOf st' = p.toArray.map (kas_item (vs.toArray.zip vs.toArray)) := by rw [har]; simp
    have hout : (arrOf st').map (·.2) = (p.map fun i => vs.getD i Value.none).toArray := kat_snds rfl har'
    have hpl : p.length = vs.length := by rw [hP.length_eq, List.length_range]
    refine wpAny_bind (seqEpoch_at ho6 rfl ?_)
    refine wpAny_bind (listUpdate_at ho6 rfl ?_ (Nat.zero_le _) (by rw [hout, List.size_toArray, List.length_map, hpl, sizeLine_eq]; lia))
    rw [hf]
    simp only [bne_self_eq_false, Bool.false_eq_true, if_false]
    refine wpAny_pure (fin p _ hout hP ?_)
    rw [List.pairwise_map]
    exact hS
end
end RS

namespace RS
open PySem (Program World Shared Addr Value Obj Heap Str Around wpAny codeAny model Scope NameKind Expr Stmt FuncData cLine recursionLimit sizeLine mainGlobals builtinsNs PyData)
section
variable {W : Wd} {A : Around} {E : Value → Shared → Prop} {s : Shared} {σ : Hp} {Q : VP} {P : Value → Shared → Prop}

open PySem PySem.W PyProof.Rows in
theorem reps_pick {h : Heap} {ks : List (List Int)} {vs : List Value} (hk : Reps W h (ks.map kv) vs) (p : List Nat) (hp : ∀ i ∈ p, i < vs.length) : Reps W h ((p.map fun i => ks.getD i []).map kv) (p.map fun i => vs.getD i Value.none) := by
  have hlen : ks.length = vs.length := by have := hk.length; rwa [List.length_map] at this
  induction p with
  | nil => exact .nil
  | cons i p ih => exact .cons (hk.at_ i (kv (ks.getD i [])) (by simp [hlen, hp i (.head _)])) (ih fun j hj => hp j (.tail _ hj))
theorem pick_all {α : Type} (ks : List α) (d : α) : (List.range ks.length).map (fun i => ks.getD i d) = ks := by
  apply List.ext_getElem?
  intro i
  by_cases hi : i < ks.length
  · simp [hi]
  · simp [hi, Nat.le_of_not_lt hi]

open PySem PySem.W PyProof.Rows in
theorem sorted_s {v : V} {x : Value} {ks : List (List Int)} {k : Nat} (hA : Room A k) (hW : WOk W) (r : HR W σ s) (hx : Rep W s.heap v x) (hsrc : keysP σ ks v) (nd : ks.Nodup) (h64 : ks.length ≤ 1000) (hne : ∀ k ∈ ks, k ≠ [])
    (h : ∀ ys : List (List Int), ys.Perm ks → ys.Pairwise (fun x y => ltL x y = true) → newP σ (.lst (ys.map kv)) Q) (hP : Kt W σ s Q P) :
    wpAny (model W.prog W.w) A (PySem.call (.builtin "sorted") [x]) P E s := by
  refine Calls.call_function_entry kind_sorted plain_sorted entry_sorted (args_sorted1 _) ?_
  unfold Builtin.«sorted»
  refine wpAny_bind (m := checkCount "sorted" 1 1 _) (wpAny_pure ?_)
  have fin : ∀ (h' : Heap) (tk : Nat) (vs : List Value), (∀ b o, s.heap.get? b = some o → h'.get? b = some o) → Reps W h' (ks.map kv) vs →
      wpAny (model W.prog W.w) A.in1 (do
        let l ← newList vs
        let _ ← holding [l] (call (.builtin "list.sort") [l])
        ret l) (fun fin s' => ∃ v, fin = .done (.ret v) ∧ P v s') E { s with heap := h', toks := tk } := by
    intro h' tk vs hk rr
    have hlen : ks.length = vs.length := by have := rr.length; rwa [List.length_map] at this
    rw [hlen] at h64
    refine wpAny_bind (wpAny_newList ?_ (fits (Nat.le_trans h64 (by decide))))
    have hoL : (h'.push (seqObj "list" vs.toArray 0)).get? h'.objs.size = some (seqObj "list" vs.toArray 0) := Heap.get?_push_size _ rfl
    have kp : ∀ b o, h'.get? b = some o → (h'.push (seqObj "list" vs.toArray 0)).get? b = some o := fun b o e => Heap.get?_push_of_some _ e
    refine wpAny_bind (wpAny_holding (wpAny_call_entry slot_list_sort ⟨_, hoL, rfl⟩ entry_list_sort (sort_tups2 (W := W) (s := { s with heap := h'.push (seqObj "list" vs.toArray 0), toks := tk }) (ks := ks) hoL h64 (rr.mono (.of kp)) hne nd
      fun h'' p c hg hkeep hp hs => ⟨_, rfl, wpAny_pure ⟨_, rfl, ?_⟩⟩) (args_list_sort _)))
    have hno : s.heap.get? h'.objs.size = none := by
      cases e : s.heap.get? h'.objs.size with
      | none => rfl
      | some o => exact absurd ((hk _ _ e).symm.trans (size_none _)) (Option.some_ne_none _)
    have kk : ∀ b o, s.heap.get? b = some o → h''.get? b = some o := fun b o e => hkeep b o (ne_get e hno) (kp _ _ (hk b o e))
    have kt : TupKeep h' h'' := fun b o e q => hkeep b o (ne_get e (size_none _)) (kp _ _ e)
    have hpm : ∀ i ∈ p, i < vs.length := fun i hi => List.mem_range.mp (hp.mem_iff.mp hi)
    have hperm : (p.map fun i => ks.getD i []).Perm ks := by
      have := hp.map (fun i => ks.getD i [])
      rwa [← hlen, pick_all] at this
    refine hP _ _ _ _ (h _ hperm hs _ (r.fresh hno)) (.ref _) (r.new hno kk (.lst ?_ hg ((reps_pick rr p hpm).mono kt)) tk)
    rw [List.size_toArray, List.length_map, hp.length_eq, List.length_range]
    exact Nat.le_trans h64 (by decide)
  cases hsrc with
  | lst ha =>
    cases hx.ref_inv
    obtain @⟨items, n, z, e, q, l⟩ := r.lst ha
    refine wpAny_bind (collect_list (vs := items.toList) ⟨_, e, rfl, n, rfl⟩ ?_ (fits z))
    have keep : ∀ b o, s.heap.get? b = some o → ((s.heap.push (seqObj "list" #[] 0)).update s.heap.objs.size (Obj.mapSeq (· ++ items.toList.toArray))).get? b = some o := fun b o q => by
      have hlt : b < s.heap.objs.size := Heap.lt_size q
      rw [Heap.get?_update_ne _ _ _ _ (Nat.ne_of_lt hlt), Heap.get?_push_ne _ _ _ (Nat.ne_of_lt hlt)]
      exact q
    exact fin _ s.toks _ keep (q.mono (.of keep))
  | dct ha hks =>
    subst hks
    cases hx.ref_inv
    obtain @⟨des, xs, z, e, D, d, i, n, m, q, rk, l, dl⟩ := r.dct ha
    refine wpAny_bind (kdu_collect (A := A.in1) (srcE (es := des) (ep := _) (r.notSys hW ha)) hA.hand e (by rw [dl]; exact fits z) fun h' tk acc hk hacc => ?_)
    have rr := keys_reps (h := h') d m (fun x hx => (rk x hx).mono (.of hk)) hacc
    refine fin h' tk _ hk ?_
    rwa [List.map_map]


theorem bi_sound {g : Glb} {f : Bi} {vs : List V} {xs : List Value} {k : Nat} (hg : g.ns = W.ns) (hW : WOk W) (hA : Room A k) (r : HR W σ s) (hx : Reps W s.heap vs xs) (h : biP g σ Q f vs) (hP : Kt W σ s Q P) :
    wpAny (model W.prog W.w) A (PySem.call (biV f) xs) P E s := by
  cases h with
  | lenT h =>
    obtain ⟨x, rfl, q⟩ := hx.one_inv
    obtain ⟨a, items, n, rfl, z, e, q⟩ := q.tup_inv
    refine PySem.P.len_tuple e (by lia) (hP _ _ _ _ h ?_ (r.tok _ _))
    rw [q.len]; exact .int _ _
  | lenS h =>
    obtain ⟨x, rfl, q⟩ := hx.one_inv
    cases q.script_inv
    obtain ⟨items, n, z, e, q⟩ := hW.script
    refine PySem.Calls.call_len_list ⟨_, r.base _ _ e, rfl, n, rfl⟩ (by lia) (hP _ _ _ _ h ?_ (r.tok _ _))
    have hl := (q s.heap).len
    rw [List.length_map] at hl
    rw [hg, hl]; exact .int _ _
  | lenL ha h =>
    obtain ⟨x, rfl, q⟩ := hx.one_inv
    cases q.ref_inv
    obtain ⟨z, e, q, l⟩ := r.lst ha
    refine PySem.Calls.call_len_list ⟨_, e, rfl, _, rfl⟩ (by (clear l; omega)) (hP _ _ _ _ h ?_ (r.tok _ _))
    rw [l]; exact .int _ _
  | lenD ha h => obtain ⟨x, rfl, q⟩ := hx.one_inv; cases q.ref_inv; exact len_dct_s hW r ha h hP
  | min2 h =>
    obtain ⟨x, y, rfl, q, q'⟩ := hx.two_inv; obtain ⟨t, rfl⟩ := q.int_inv; obtain ⟨u, rfl⟩ := q'.int_inv
    refine PySem.min_two_ints hA.hand fun h' tk hk => hP _ _ _ _ h ?_ (r.grow hk tk [])
    split
    · rename_i c; rw [Int.min_eq_right (Int.le_of_lt c)]; exact .int _ _
    · rename_i c; rw [Int.min_eq_left (Int.not_lt.mp c)]; exact .int _ _
  | max2 h =>
    obtain ⟨x, y, rfl, q, q'⟩ := hx.two_inv; obtain ⟨t, rfl⟩ := q.int_inv; obtain ⟨u, rfl⟩ := q'.int_inv
    refine PySem.max_two_ints hA.hand fun h' tk hk => hP _ _ _ _ h ?_ (r.grow hk tk [])
    split
    · rename_i c; rw [Int.max_eq_right (Int.le_of_lt c)]; exact .int _ _
    · rename_i c; rw [Int.max_eq_left (Int.not_lt.mp c)]; exact .int _ _
  | minL ha hn h =>
    obtain ⟨x, rfl, q⟩ := hx.one_inv; cases q.ref_inv
    obtain ⟨z, e, q, l⟩ := r.lst ha
    obtain ⟨xs, rfl, rfl⟩ := ints_items q
    have hsz : 0 < xs.size := Nat.pos_of_ne_zero fun h0 => hn (by rw [Array.eq_empty_of_size_eq_zero h0]; rfl)
    refine PySem.min_intList hA.hand ⟨_, e, rfl, _, rfl⟩ hsz fun v h' tk hv hk => ?_
    obtain ⟨t, rfl⟩ := PySem.intItems_at hv
    obtain ⟨h1, h2⟩ := PySem.argBest_lt (PySem.numAt xs) (xs.size - 1)
    refine hP _ _ _ _ (h _ (numAt_get (by (clear l hn z; omega))) fun b hb => ?_) (.int _ t) (r.grow hk tk [])
    obtain ⟨i, hi', rfl⟩ := numAt_mem hb
    exact h2 i (Nat.le_sub_one_of_lt hi')
  | maxL ha hn h =>
    obtain ⟨x, rfl, q⟩ := hx.one_inv; cases q.ref_inv
    obtain ⟨z, e, q, l⟩ := r.lst ha
    obtain ⟨xs, rfl, rfl⟩ := ints_items q
    have hsz : 0 < xs.size := Nat.pos_of_ne_zero fun h0 => hn (by rw [Array.eq_empty_of_size_eq_zero h0]; rfl)
    refine PySem.max_intList hA.hand ⟨_, e, rfl, _, rfl⟩ hsz fun v h' tk hv hk => ?_
    obtain ⟨t, rfl⟩ := PySem.intItems_at hv
    obtain ⟨h1, h2⟩ := PySem.argBest_gt (PySem.numAt xs) (xs.size - 1)
    refine hP _ _ _ _ (h _ (numAt_get (by (clear l hn z; omega))) fun b hb => ?_) (.int _ t) (r.grow hk tk [])
    obtain ⟨i, hi', rfl⟩ := numAt_mem hb
    exact h2 i (Nat.le_sub_one_of_lt hi')
  | sum ha h =>
    obtain ⟨x, rfl, q⟩ := hx.one_inv; cases q.ref_inv
    obtain ⟨z, e, q, l⟩ := r.lst ha
    obtain ⟨xs, rfl, rfl⟩ := ints_items q
    refine PySem.sum_intListG hA.hand ⟨_, e, rfl, _, rfl⟩ fun h' tk t' hk => ?_
    rw [preSum_is]
    exact hP _ _ _ _ h (.int _ _) (r.grow hk tk [])
  | int h => obtain ⟨x, rfl, q⟩ := hx.one_inv; cases q.bool_inv; exact PySem.call_int_bool (hP _ _ _ _ h (.int _ _) (r.tok _ _))
  | isi hT hb h => obtain ⟨x, y, rfl, q, q'⟩ := hx.two_inv; cases q'.typ_inv; exact isi_sound r q hT hb h hP
  | listT h => obtain ⟨x, rfl, q⟩ := hx.one_inv; obtain ⟨a, items, n, rfl, z, e, q⟩ := q.tup_inv; exact seqList r (.inr rfl) z e q h hP
  | listL ha h => obtain ⟨x, rfl, q⟩ := hx.one_inv; cases q.ref_inv; obtain ⟨z, e, q, l⟩ := r.lst ha; exact seqList r (.inl rfl) z e q h hP
  | listD ha h => obtain ⟨x, rfl, q⟩ := hx.one_inv; cases q.ref_inv; exact list_dct_s hA hW r ha h hP
  | tuple ha h =>
    obtain ⟨x, rfl, q⟩ := hx.one_inv; cases q.ref_inv
    obtain ⟨z, e, q, l⟩ := r.lst ha
    refine PySem.call_tuple_list ⟨_, e, rfl, _, rfl⟩ (fun h' hk => ?_) (fits z)
    have st := r.grow hk s.toks []
    exact newTuple_s (xs := _) st.hr z (q.mono (st.tup0 r)) h s.toks (hP.step st)
  | all ha h => obtain ⟨x, rfl, q⟩ := hx.one_inv; cases q.ref_inv; exact all_s hA r ha h hP
  | sorted hk nd hl hne h => obtain ⟨x, rfl, q⟩ := hx.one_inv; exact sorted_s hA hW r q hk nd hl hne h hP
end
end RS

namespace RS
open PySem (Program World Shared Addr Value Obj Heap Str Around wpAny codeAny model Scope NameKind Expr Stmt FuncData cLine recursionLimit sizeLine mainGlobals builtinsNs PyData)

/-- an iterator over items -/
structure Iter (W : Wd) (A : Around) (I : Addr) (vs : List V) (chk : Hp → Prop) (St : Nat → Heap → Prop) : Prop where
  frame : ∀ i h h', St i h → (∀ o, h.get? I = some o → h'.get? I = some o) → TupKeep h h' → St i h'
  it : ∀ i h, St i h → ∃ o, h.get? I = some o ∧ ¬ isTup o ∧ o.cls ≠ .type "frame"
  item : ∀ i (s : Shared) (σ : Hp) (v : V) (Q : Option Value → Shared → Prop) (E : Value → Shared → Prop), vs[i]? = some v → St i s.heap → HR W σ s → chk σ →
    (∀ x h' tk, Rep W h' v x → St (i + 1) h' → PySem.Heap.ExtBut I s.heap h' → Q (some x) { s with heap := h', toks := tk }) → wpAny (model W.prog W.w) A (PySem.pyNext (.ref I)) Q E s
  done : ∀ (s : Shared) (σ : Hp) (Q : Option Value → Shared → Prop) (E : Value → Shared → Prop), St vs.length s.heap → HR W σ s → chk σ →
    (∀ h' tk, PySem.Heap.ExtBut I s.heap h' → Q none { s with heap := h', toks := tk }) → wpAny (model W.prog W.w) A (PySem.pyNext (.ref I)) Q E s
  self : ∀ i (s : Shared) (Q : Value → Shared → Prop) (E : Value → Shared → Prop), St i s.heap → Q (.ref I) s → wpAny (model W.prog W.w) A (PySem.pyIter (.ref I)) Q E s

section
variable {W : Wd} {A : Around} {I : Addr} {vs : List V} {chk : Hp → Prop} {St : Nat → Heap → Prop} {σ σ' : Hp} {s s' : Shared} {own : List Addr} {i : Nat}
theorem Iter.nt (x : Iter W A I vs chk St) {h : Heap} (st : St i h) : ∃ o, h.get? I = some o ∧ ¬ isTup o := let ⟨o, e, n, _⟩ := x.it i h st; ⟨o, e, n⟩
/-- it stays, over a step that does not touch it -/
theorem Iter.step (x : Iter W A I vs chk St) (g : Step W own σ s σ' s') (r : HR W σ s) (ow : Own own s.heap) (hσ : σ I = none) (hI : I ∉ own) (st : St i s.heap) : St i s'.heap ∧ σ' I = none := by
  obtain ⟨o, e, n, hf⟩ := x.it _ _ st
  exact ⟨x.frame _ _ _ st (fun o' e' => by
    obtain rfl := Option.some.inj (e.symm.trans e')
    exact g.exact e hσ hI hf) (g.tups r ow), g.none_ _ _ e hσ⟩

theorem Iter.list (hh : A.handled = none) (I a : Addr) (vs : List V) :
    Iter W A I vs (fun σ => σ a = some (.lst vs)) (fun i h => h.IsListIter I a i) where
  frame i h h' st k _ := st.at k
  it i h st := let ⟨o, e, c, _⟩ := st; ⟨o, e, notTup_cls fun q => absurd (Value.type.inj (c.symm.trans q)) (by decide), fun q => absurd (Value.type.inj (c.symm.trans q)) (by decide)⟩
  item i s σ v Q E hv st r hc hQ := by
    obtain ⟨z, e, q, l⟩ := r.lst hc
    obtain ⟨x, hx, rx⟩ := q.get hv
    refine PySem.wpAny_pyNext_list_item st ⟨_, e, rfl, _, rfl⟩ (by rwa [← Array.getElem?_toList]) fun h' hit hs => ?_
    obtain ⟨o, eo, co, _⟩ := st
    exact hQ x h' s.toks (rx.mono (tups_but hs.extBut ⟨o, eo, notTup_cls fun q => absurd (Value.type.inj (co.symm.trans q)) (by decide)⟩)) hit hs.extBut
  done s σ Q E st r hc hQ := by
    obtain ⟨z, e, q, l⟩ := r.lst hc
    exact PySem.wpAny_pyNext_list_end hh st ⟨_, e, rfl, _, rfl⟩ (by rw [l]; exact Array.getElem?_size) fun h' he => hQ h' s.toks he
  self i s Q E st h := PySem.wpAny_pyIter_listiter st h

theorem Iter.tuple (hh : A.handled = none) (I a : Addr) (vs : List V) :
    Iter W A I vs (fun _ => True) (fun i h => h.IsTupleIter I a i ∧ Rep W h (.tup vs) (.ref a)) where
  frame i h h' st k kt := ⟨let ⟨o, e, r⟩ := st.1; ⟨o, k o e, r⟩, st.2.mono kt⟩
  it i h st := let ⟨⟨o, e, c, _⟩, _⟩ := st; ⟨o, e, notTup_cls fun q => absurd (Value.type.inj (c.symm.trans q)) (by decide), fun q => absurd (Value.type.inj (c.symm.trans q)) (by decide)⟩
  item i s σ v Q E hv st r hc hQ := by
    obtain ⟨a', items, n, ha, z, e, q⟩ := st.2.tup_inv
    cases ha
    obtain ⟨x, hx, rx⟩ := q.get hv
    refine PySem.wpAny_pyNext_tuple_item st.1 ⟨_, e, rfl, n, rfl⟩ (by rwa [← Array.getElem?_toList]) fun h' hit hs => ?_
    obtain ⟨⟨o, eo, co, _⟩, _⟩ := id st
    have kt := tups_but hs.extBut ⟨o, eo, notTup_cls fun q => absurd (Value.type.inj (co.symm.trans q)) (by decide)⟩
    exact hQ x h' s.toks (rx.mono kt) ⟨hit, st.2.mono kt⟩ hs.extBut
  done s σ Q E st r hc hQ := by
    obtain ⟨a', items, n, ha, z, e, q⟩ := st.2.tup_inv
    cases ha
    exact PySem.wpAny_pyNext_tuple_end hh st.1 ⟨_, e, rfl, n, rfl⟩ (by rw [q.len]; exact Array.getElem?_size) fun h' he => hQ h' s.toks he
  self i s Q E st h := PySem.wpAny_pyIter_tupleiter st.1 h

theorem Iter.dct (hh : A.handled = none) (I a : Addr) (es : List (List Int × V)) (ep : Nat) :
    Iter W A I (es.map fun e => kv e.1) (fun σ => σ a = some (.dct es ep)) (fun i h => h.IsKeyIter I a i es.length ep) where
  frame i h h' st k _ := st.at k
  it i h st := let ⟨o, e, c, _⟩ := st; ⟨o, e, notTup_cls fun q => absurd (Value.type.inj (c.symm.trans q)) (by decide), fun q => absurd (Value.type.inj (c.symm.trans q)) (by decide)⟩
  item i s σ v Q E hv st r hc hQ := by
    obtain @⟨des, xs, z, e, D, d, is, nd, m, q, rk, l, dl⟩ := r.dct hc
    rw [map_kv m, List.getElem?_map] at hv
    obtain ⟨x, hx, rfl⟩ := Option.map_eq_some_iff.mp hv
    have hi : i < des.size := dl ▸ (List.getElem?_eq_some_iff.mp hx).1
    rw [l.trans dl.symm] at st
    refine keysE_item st e hi fun h' hit hs => ?_
    obtain ⟨o, eo, co, _⟩ := st
    have kt := tups_but hs.extBut ⟨o, eo, notTup_cls fun q => absurd (Value.type.inj (co.symm.trans q)) (by decide)⟩
    have hkey : des[i].key = .ref x.2.1 := by
      have h1 : des[i]? = (xs[i]?).map (PySem.entryOfKey (tk W)) := PySem.entry_at d i
      rw [Array.getElem?_eq_getElem hi, hx] at h1
      rw [Option.some.inj h1]; rfl
    rw [hkey]
    exact hQ _ h' s.toks ((rk _ (List.mem_of_getElem? hx)).mono kt) (by rw [l.trans dl.symm]; exact hit) hs.extBut
  done s σ Q E st r hc hQ := by
    obtain @⟨des, xs, z, e, D, d, is, nd, m, q, rk, l, dl⟩ := r.dct hc
    rw [List.length_map, l.trans dl.symm] at st
    exact keysE_end hh st e (Nat.le_refl _) fun h' he => hQ h' s.toks he
  self i s Q E st h := PySem.wpAny_pyIter_keyiter st h

theorem rangeL_get {lo hi : Int} {i : Nat} {v : V} (h : (rangeL lo hi)[i]? = some v) : v = .int (lo + i) ∧ i < (hi - lo).toNat := by
  unfold rangeL at h
  rw [List.getElem?_map] at h
  obtain ⟨j, hj, rfl⟩ := Option.map_eq_some_iff.mp h
  obtain ⟨hj', e⟩ := List.getElem?_eq_some_iff.mp hj
  rw [List.getElem_range] at e
  subst e
  exact ⟨rfl, by rwa [List.length_range] at hj'⟩
theorem rangeL_length (lo hi : Int) : (rangeL lo hi).length = (hi - lo).toNat := by unfold rangeL; rw [List.length_map, List.length_range]
theorem range_up (lo : Int) (i : Nat) : lo + ((i + 1 : Nat) : Int) = lo + i + 1 := by lia
theorem range_down (d : Int) (i : Nat) : d - ((i + 1 : Nat) : Int) = d - i - 1 := by lia

theorem Iter.range (hh : A.handled = none) (I : Addr) (lo hi : Int) :
    Iter W A I (rangeL lo hi) (fun _ => True) (fun i h => PySem.IsRangeIter h I (lo + i) (((hi - lo).toNat : Int) - i) 1) where
  frame i h h' st k _ := k _ st
  it i h st := ⟨_, st, notTup_type (by decide), fun q => absurd (Value.type.inj q) (by decide)⟩
  item i s σ v Q E hv st r hc hQ := by
    obtain ⟨rfl, hi'⟩ := rangeL_get hv
    refine PySem.wpAny_pyNext_range_item st (Int.sub_pos_of_lt (Int.ofNat_lt.mpr hi')) fun h' hit hs => hQ _ h' _ (.int _ _) ?_ hs.extBut
    rw [range_up, range_down]; exact hit
  done s σ Q E st r hc hQ := by
    rw [rangeL_length] at st
    exact PySem.wpAny_pyNext_range_end hh st (by rw [Int.sub_self]; decide) fun h' he => hQ h' s.toks he
  self i s Q E st h := PySem.wpAny_pyIter_rangeiter st h
theorem Iter.longrange (hh : A.handled = none) (I : Addr) (lo hi : Int) :
    Iter W A I (rangeL lo hi) (fun _ => True) (fun i h => PySem.IsLongIter h I (lo + i) (((hi - lo).toNat : Int) - i) 1) where
  frame i h h' st k _ := k _ st
  it i h st := ⟨_, st, notTup_type (by decide), fun q => absurd (Value.type.inj q) (by decide)⟩
  item i s σ v Q E hv st r hc hQ := by
    obtain ⟨rfl, hi'⟩ := rangeL_get hv
    refine PySem.wpAny_pyNext_long_item st (Int.sub_pos_of_lt (Int.ofNat_lt.mpr hi')) fun h' hit hs => hQ _ h' _ (.int _ _) ?_ hs.extBut
    rw [range_up, range_down]; exact hit
  done s σ Q E st r hc hQ := by
    rw [rangeL_length] at st
    exact PySem.wpAny_pyNext_long_end hh st (by rw [Int.sub_self]; decide) fun h' he => hQ h' s.toks he
  self i s Q E st h := PySem.wpAny_pyIter_longiter st h

/-- what comes behind the head of a loop -/
noncomputable def SrcK (W : Wd) (A : Around) (σ : Hp) (s : Shared) (K : SrcP) (P : Value → Shared → Prop) : Prop :=
  ∀ I items chk St σ' s', Iter W A I items chk St → St 0 s'.heap → σ' I = none → s.heap.get? I = none → K items chk σ' → Step W [] σ s σ' s' → P (.ref I) s'
theorem SrcK.step {K : SrcP} {P : Value → Shared → Prop} (k : SrcK W A σ s K P) (st : Step W [] σ s σ' s') : SrcK W A σ' s' K P :=
  fun I items chk St τ s'' it h0 hσ hn hK st' => k I items chk St τ s'' it h0 hσ (st.fresh hn) hK (st.trans st')
theorem newFs {t : String} {fs : Array Value} (b : Addr) (o : Obj) (e : s.heap.get? b = some o) : (s.heap.push { cls := .type t, data := .fields fs }).get? b = some o := PySem.Heap.get?_push_of_some _ e

theorem pairs_at {ds : List PySem.DictEntry} {xs : List (Int × Value)} (p : PySem.Pairs (ik W) ds xs) : ds.length = xs.length ∧ ∀ i (hi : i < ds.length) (hx : i < xs.length), (ik W).is xs[i].1 ds[i].key = true := by
  induction p with
  | nil => exact ⟨rfl, fun i hi => absurd hi (Nat.not_lt_zero _)⟩
  | cons h1 h2 p ih =>
    refine ⟨congrArg Nat.succ ih.1, fun i hi hx => ?_⟩
    cases i with
    | zero => exact h1
    | succ i => exact ih.2 i (Nat.lt_of_succ_lt_succ hi) (Nat.lt_of_succ_lt_succ hx)
theorem HR.dci' {a : Nat} {es : List (Int × V)} {ep : Nat} (r : HR W σ s) (h : σ a = some (.dci es ep)) : ∃ des : Array PySem.DictEntry, s.heap.get? a = some { cls := .type "dict", data := .dict des ep } ∧ des.size = es.length ∧ ∀ i (hi : i < des.size) (he : i < es.length), ∃ t, des[i].key = .int es[i].1 t := by
  cases r.cell a _ h with
  | @dci _ _ des xs z e d i n m q =>
    obtain ⟨h1, h2⟩ := pairs_at i
    have hl : es.length = xs.length := by have := congrArg List.length m; rwa [List.length_map, List.length_map] at this
    refine ⟨des, e, by rw [hl, ← h1]; rfl, fun j hj he => ?_⟩
    have hx : j < xs.length := hl ▸ he
    obtain ⟨t, ht⟩ := Value.isInt_shape (h2 j hj hx)
    have ek : es[j].1 = xs[j].1 := by
      have := congrArg (fun l => l[j]?) m
      simp only [List.getElem?_map, List.getElem?_eq_getElem he, List.getElem?_eq_getElem hx, Option.map_some] at this
      exact Option.some.inj this
    exact ⟨t, by rw [ek]; exact ht⟩
theorem Iter.dci (hh : A.handled = none) (I a : Addr) (es : List (Int × V)) (ep : Nat) :
    Iter W A I (es.map fun e => .int e.1) (fun σ => σ a = some (.dci es ep)) (fun i h => h.IsKeyIter I a i es.length ep) where
  frame i h h' st k _ := st.at k
  it i h st := let ⟨o, e, c, _⟩ := st; ⟨o, e, notTup_cls fun q => absurd (Value.type.inj (c.symm.trans q)) (by decide), fun q => absurd (Value.type.inj (c.symm.trans q)) (by decide)⟩
  item i s σ v Q E hv st r hc hQ := by
    obtain ⟨des, e, dl, hk⟩ := r.dci' hc
    rw [List.getElem?_map] at hv
    obtain ⟨x, hx, rfl⟩ := Option.map_eq_some_iff.mp hv
    obtain ⟨hx1, hx2⟩ := List.getElem?_eq_some_iff.mp hx
    have hi : i < des.size := dl ▸ hx1
    rw [← dl] at st
    refine keysE_item st e hi fun h' hit hs => ?_
    obtain ⟨t, ht⟩ := hk i hi hx1
    rw [ht, hx2]
    exact hQ _ h' s.toks (.int _ _) (by rw [← dl]; exact hit) hs.extBut
  done s σ Q E st r hc hQ := by
    obtain ⟨des, e, dl, hk⟩ := r.dci' hc
    rw [List.length_map, ← dl] at st
    exact keysE_end hh st e (Nat.le_refl _) fun h' he => hQ h' s.toks he
  self i s Q E st h := PySem.wpAny_pyIter_keyiter st h
theorem src_dci {a : Nat} {es : List (Int × V)} {ep k : Nat} {K : SrcP} {E : Value → Shared → Prop} {P : Value → Shared → Prop} (hA : Room A k) (hW : WOk W) (r : HR W σ s) (ha : σ a = some (.dci es ep)) (h : K (es.map fun e => .int e.1) (fun σ' => σ' a = some (.dci es ep)) σ) (hP : SrcK W A σ s K P) : wpAny (model W.prog W.w) A (PySem.pyIter (.ref a)) P E s := by
  obtain ⟨des, e, dl, hk⟩ := r.dci' ha
  refine keysE_iter (r.notSys hW ha) e ?_
  rw [dl]
  exact hP _ _ _ _ _ _ (Iter.dci hA.hand _ _ _ _) ⟨_, PySem.Heap.get?_push_size _ rfl, rfl, rfl⟩ r.fresh' (size_none _) h (r.grow newFs s.toks [])
theorem src_sound {E : Value → Shared → Prop} {P : Value → Shared → Prop} {v : V} {x : Value} {k : Nat} {K : SrcP} (hA : Room A k) (hW : WOk W) (r : HR W σ s) (hx : Rep W s.heap v x) (h : srcP σ K v) (hP : SrcK W A σ s K P) : wpAny (model W.prog W.w) A (PySem.pyIter x) P E s := by
  cases h with
  | tup h =>
    obtain ⟨a, items, n, rfl, z, e, q⟩ := hx.tup_inv
    refine PySem.wpAny_pyIter_tuple ⟨_, e, rfl, n, rfl⟩ ?_
    have st := r.grow (newFs (t := "tuple_iterator") (fs := #[.ref a, .int 0 0])) s.toks []
    exact hP _ _ _ _ _ _ (Iter.tuple hA.hand _ a _) ⟨⟨_, PySem.Heap.get?_push_size _ rfl, rfl, rfl⟩, hx.mono (st.tup0 r)⟩ r.fresh' (size_none _) h st
  | lst ha h =>
    cases hx.ref_inv
    obtain ⟨z, e, q, l⟩ := r.lst ha
    refine PySem.wpAny_pyIter_list ⟨_, e, rfl, _, rfl⟩ ?_
    exact hP _ _ _ _ _ _ (Iter.list hA.hand _ _ _) ⟨_, PySem.Heap.get?_push_size _ rfl, rfl, rfl⟩ r.fresh' (size_none _) h (r.grow newFs s.toks [])
  | dct ha h =>
    cases hx.ref_inv
    obtain @⟨des, xs, z, e, D, d, i, n, m, q, rk, l, dl⟩ := r.dct ha
    refine keysE_iter (r.notSys hW ha) e ?_
    rw [dl, ← l]
    exact hP _ _ _ _ _ _ (Iter.dct hA.hand _ _ _ _) ⟨_, PySem.Heap.get?_push_size _ rfl, rfl, rfl⟩ r.fresh' (size_none _) h (r.grow newFs s.toks [])
  | dci ha h =>
    cases hx.ref_inv
    exact src_dci hA hW r ha h hP

theorem range_any {E : Value → Shared → Prop} {P : Value → Shared → Prop} {lo hi : Int} {t u r₀ : Nat} {x k : Nat} {K : SrcP} (hA : Room A k) (r : HR W σ s) (hr : PySem.IsRange s.heap x lo hi 1 t u r₀) (hK : K (rangeL lo hi) (fun _ => True) σ) (hP : SrcK W A σ s K P) :
    wpAny (model W.prog W.w) A (PySem.pyIter (.ref x)) P E s := by
  have hsz : PySem.Builtin.Range.rangeSize lo hi 1 = ((hi - lo).toNat : Int) := by
    unfold PySem.Builtin.Range.rangeSize; rw [if_pos (by decide)]; split <;> lia
  have e0 : ∀ d : Int, d - ((0 : Nat) : Int) = d := fun d => Int.sub_zero d
  have e1 : lo + ((0 : Nat) : Int) = lo := Int.add_zero lo
  cases hs : PySem.Builtin.Range.small lo hi 1 with
  | true =>
    refine PySem.wpAny_pyIter_range hr hs ?_
    rw [hsz]
    exact hP _ _ _ _ _ _ (Iter.range hA.hand _ lo hi) (by rw [e0, e1]; exact PySem.Heap.get?_push_size _ rfl) r.fresh' (size_none _) hK (r.grow newFs s.toks [])
  | false =>
    refine PySem.wpAny_pyIter_longrange hr hs ?_
    rw [hsz]
    exact hP _ _ _ _ _ _ (Iter.longrange hA.hand _ lo hi) (by rw [e0, e1]; exact PySem.Heap.get?_push_size _ rfl) r.fresh' (size_none _) hK (r.grow newFs s.toks [])
end
end RS

namespace RS
open PySem (Program World Shared Addr Value Obj Heap Str Around wpAny codeAny model Scope NameKind Expr Stmt FuncData cLine recursionLimit sizeLine mainGlobals builtinsNs PyData)

/-! ## from the text's trees to the small language -/
abbrev Ks := List (Str × NameKind)
noncomputable def nm (s : Str) : Option String := if Str.ofString s.toString = s then some s.toString else none
theorem nm_is {s : Str} {x : String} (h : nm s = some x) : s = Str.ofString x := by
  unfold nm at h; split at h
  · rename_i e; cases h; exact e.symm
  · cases h
noncomputable def isVar (ks : Ks) (s : Str) : Bool := match ks.lookup s with | some .local | some .cell | some .free => true | _ => false
noncomputable def isGlob (ks : Ks) (s : Str) : Bool := ks.lookup s == some .globalImplicit
noncomputable def isOwn (ks : Ks) (s : Str) : Bool := match ks.lookup s with | some .local | some .cell => true | _ => false
noncomputable def bopOf : PySem.Operator → Option Bop
  | .Add => some .add | .Sub => some .sub | .Mult => some .mul | .FloorDiv => some .fdiv | .Mod => some .mod | .Pow => some .pow | _ => none
noncomputable def copOf : PySem.CmpOp → Cop
  | .Eq => .eq | .NotEq => .ne | .Lt => .lt | .LtE => .le | .Gt => .gt | .GtE => .ge | .Is => .is | .IsNot => .isNot | .In => .isIn | .NotIn => .notIn
noncomputable def biOf (x : String) : Option Bi := List.lookup x [("len", .len), ("min", .min), ("max", .max), ("sum", .sum), ("int", .int), ("isinstance", .isinstance), ("list", .list), ("tuple", .tuple), ("dict", .dict), ("all", .all), ("sorted", .sorted)]
noncomputable def meOf (n : Nat) (m : String) : Me := match List.lookup m [("append", Me.append), ("pop", if n = 0 then .pop else .popk), ("clear", .clear), ("index", .index), ("get", .get), ("update", .update)] with
  | some k => k
  | none => .own m
noncomputable def meStr : Me → String
  | .append => "append" | .pop => "pop" | .popk => "pop" | .clear => "clear" | .index => "index" | .get => "get" | .update => "update"
  | .own m => m
/-- the base of a method or an attribute: no super() -/
noncomputable def plainBase : Expr → Bool
  | .Name .. | .Attribute .. | .Subscript .. => true
  | _ => false
noncomputable def isSetE : Expr → Bool
  | .Set .. => true
  | _ => false
noncomputable def isSlice : Expr → Bool
  | .Slice .. => true
  | _ => false
noncomputable def isComp : Expr → Bool
  | .ListComp .. | .SetComp .. | .DictComp .. => true
  | _ => false
noncomputable def isCall : Expr → Bool
  | .Call .. => true
  | _ => false
noncomputable def relabelK (ks names : Ks) : Ks := names.map fun (n, k) => if k == .free && ks.lookup n == some .cell then (n, .cell) else (n, k)
noncomputable def notStar : Expr → Bool
  | .Starred .. => false
  | _ => true

section
variable {α β γ δ : Type}
noncomputable def oif (c : Bool) (a : Option α) : Option α := if c = true then a else none
noncomputable def o1 (f : α → γ) (a : Option α) : Option γ := match a with | some x => some (f x) | none => none
noncomputable def o2 (f : α → β → γ) (a : Option α) (b : Option β) : Option γ := match a, b with | some x, some y => some (f x y) | _, _ => none
noncomputable def o3 (f : α → β → δ → γ) (a : Option α) (b : Option β) (c : Option δ) : Option γ := o2 (fun f z => f z) (o2 f a b) c
theorem oif_inv {c : Bool} {a : Option α} {z : α} {C : Prop} (h : oif c a = some z) (k : c = true → a = some z → C) : C := by
  cases c with
  | true => exact k rfl h
  | false => cases h
theorem ob_inv {a : Option α} {f : α → Option β} {z : β} {C : Prop} (h : Option.bind a f = some z) (k : ∀ x, a = some x → f x = some z → C) : C := by
  cases a with
  | none => cases h
  | some x => exact k x rfl h
@[elab_as_elim] theorem o1_inv {f : α → γ} {a : Option α} {z : γ} {P : γ → Prop} (h : o1 f a = some z) (k : ∀ x, a = some x → P (f x)) : P z := by
  cases a with
  | none => cases h
  | some x => cases h; exact k x rfl
@[elab_as_elim] theorem o2_inv {f : α → β → γ} {a : Option α} {b : Option β} {z : γ} {P : γ → Prop} (h : o2 f a b = some z) (k : ∀ x y, a = some x → b = some y → P (f x y)) : P z := by
  cases a with
  | none => cases h
  | some x => cases b with
    | none => cases h
    | some y => cases h; exact k x y rfl rfl
@[elab_as_elim] theorem o3_inv {f : α → β → δ → γ} {a : Option α} {b : Option β} {c : Option δ} {z : γ} {P : γ → Prop} (h : o3 f a b c = some z) (k : ∀ x y w, a = some x → b = some y → c = some w → P (f x y w)) : P z :=
  o2_inv (P := P) h fun g w e1 e2 => by
    cases a with
    | none => cases e1
    | some x => cases b with
      | none => cases e1
      | some y => cases e1; exact k x y w rfl rfl e2
end

noncomputable def constX : PySem.Const → Option X
  | .none => some .none
  | .bool b => some (.bool b)
  | .int i => some (.num i)
  | .str s => o1 .str (nm s)
  | _ => none
noncomputable def nameX (ks : Ks) (id : Str) : Option X := oif (!(id == ("__debug__" : Str) || id == ("__classdict__" : Str) || id == (".0" : Str))) (if isVar ks id then o1 .var (nm id) else oif (isGlob ks id) (o1 .glob (nm id)))
section
variable (rec : Ks → Expr → Option X)
noncomputable def listX (ks : Ks) (es : List Expr) : Option (List X) := optAll (fun e => oif (notStar e) (rec ks e)) es
noncomputable def optX (ks : Ks) : Option Expr → Option X
  | none => some .none
  | some e => rec ks e
noncomputable def bopL (ks : Ks) : Expr → List Expr → Option (List X × X)
  | e, [] => o1 (fun x => ([], x)) (rec ks e)
  | e, e' :: es => o2 (fun x p => (x :: p.1, p.2)) (rec ks e) (bopL ks e' es)
noncomputable def callX (x : String) (as : List X) : Option X := match biOf x with
  | some b => some (.bi b as)
  | none => oif (!(x == "range")) (some (.call x as))
noncomputable def rangeX (ks : Ks) (args : List Expr) : Option Src := match args with
  | [hi] => oif (notStar hi) (o1 .range1 (rec ks hi))
  | [lo, hi] => oif (notStar lo && notStar hi) (o2 .range2 (rec ks lo) (rec ks hi))
  | _ => none
noncomputable def srcX (ks : Ks) : Expr → Option Src
  | .Call (.Name f p) args kws pos => if (f == ("range" : Str) && isGlob ks f) = true then oif kws.isEmpty (rangeX rec ks args) else o1 .of (rec ks (.Call (.Name f p) args kws pos))
  | e => o1 .of (rec ks e)
noncomputable def compOk (ks : Ks) (sc : Scope) (x : Str) (iter : Expr) (ifs : List Expr) : Bool :=
  !isSetE iter && (sc.kind == .function) && (sc.names.all fun y => y.2 != .cell) && (sc.names.lookup x == some .local) && (sc.names.all fun y => y.2 != .local || sc.names.lookup y.1 == some .local)
    && (sc.names.all fun y => y.2 != .free || ks.lookup y.1 == some .cell) && (sc.names.all fun y => y.1 == x || y.1 == (".0" : Str) || y.2 != .local) && !(x == (".0" : Str)) && decide (ifs.length ≤ 1)

noncomputable def stepE (ks : Ks) : Expr → Option X
  | .Constant c _ _ => constX c
  | .Name id _ => nameX ks id
  | .BinOp l op r _ => o3 .bin (bopOf op) (rec ks l) (rec ks r)
  | .UnaryOp op x _ => match op with
    | .USub => o1 .neg (rec ks x)
    | .Not => o1 .not (rec ks x)
    | _ => none
  | .BoolOp op vs _ => match vs with
    | v :: v' :: vs => o1 (fun p => .bop (op == .And) p.1 p.2) (bopL rec ks v (v' :: vs))
    | _ => none
  | .Compare l ops cs _ => match ops, cs with
    | [op], [r] => oif (!isSetE r) (o2 (fun a b => .cmp a (copOf op) b) (rec ks l) (rec ks r))
    | [op, op2], [r, r2] => oif (!isSetE r2) (o3 (fun a b c => .cmp2 a (copOf op) b (copOf op2) c) (rec ks l) (rec ks r) (rec ks r2))
    | _, _ => none
  | .Call f args kws pos => match f, kws with
    | .Name f _, [] => oif (!(f == ("__debug__" : Str)) && isGlob ks f && !args.isEmpty) (Option.bind (nm f) fun x => Option.bind (listX rec ks args) fun as => callX x as)
    | .Attribute o m apos, [] => oif (plainBase o && (apos.endLine == pos.line) && decide (args.length ≤ 20)) (Option.bind (nm m) fun m' => oif (meStr (meOf args.length m') == m') (o2 (fun x as => .meth x (meOf args.length m') as) (rec ks o) (listX rec ks args)))
    | _, _ => none
  | .Subscript v sl _ => match sl with
    | .Slice l u step _ => match step with
      | none => o3 .slice (rec ks v) (optX rec ks l) (optX rec ks u)
      | some e => match l, u with
        | none, none => o2 .rev (rec ks v) (rec ks e)
        | _, _ => none
    | i => o2 .idx (rec ks v) (rec ks i)
  | .Attribute o a _ => oif (plainBase o) (o2 .attr (rec ks o) (nm a))
  | .Tuple es _ _ => oif (decide (es.length ≤ 100)) (o1 .tup (listX rec ks es))
  | .List es _ => oif (decide (es.length ≤ 100)) (o1 .lst (listX rec ks es))
  | .Dict keys vals _ => match keys, vals with
    | [], [] => some .emptyDict
    | [some k], [v] => o2 .dict1 (rec ks k) (rec ks v)
    | _, _ => none
  | .ListComp elt gens sc _ => match gens with
    | [g] => match g.target with
      | .Name x _ => oif (decide (g.is_async = 0) && compOk ks sc x g.iter g.ifs) (o2 (fun p q => X.comp q.1 p.2 p.1 q.2) (o2 Prod.mk (srcX rec ks g.iter) (nm x)) (o2 Prod.mk (rec (relabelK ks sc.names) elt) (optAll (rec (relabelK ks sc.names)) g.ifs)))
      | _ => none
    | _ => none
  | _ => none
end
noncomputable def compE : Nat → Ks → Expr → Option X
  | 0 => fun _ _ => none
  | n + 1 => stepE (compE n)

section
variable (n : Nat)
noncomputable def targetT (ks : Ks) (v : Expr) : Expr → Option T
  | .Name x _ => oif (isOwn ks x) (o1 .var (nm x))
  | .Subscript o i _ => oif (!isSlice i) (o2 .idx (compE n ks o) (compE n ks i))
  | .Attribute o a _ => oif (plainBase o) (o2 .attr (compE n ks o) (nm a))
  | .Tuple es _ _ => match es with
    | [a, b] => match a with
      | .Name x _ => match b with
        | .Name y _ => oif (isOwn ks x && isOwn ks y && isCall v) (o2 .tup2 (nm x) (nm y))
        | _ => none
      | _ => none
    | _ => none
  | _ => none
noncomputable def stepS (rec : Ks → Stmt → Option S) (ks : Ks) : Stmt → Option S
  | .Return e _ => match e with
    | some e => o1 .ret (compE n ks e)
    | none => none
  | .Expr e _ => oif (!isComp e) (o1 .expr (compE n ks e))
  | .Assign ts v _ => match ts with
    | [t] => o2 .assign (targetT n ks v t) (compE n ks v)
    | _ => none
  | .If t b o _ => o3 .ite (compE n ks t) (optAll (rec ks) b) (optAll (rec ks) o)
  | .For t iter b o _ => match t, o with
    | .Name x _, [] => oif (isOwn ks x && !isSetE iter) (o3 .for_ (nm x) (srcX (compE n) ks iter) (optAll (rec ks) b))
    | _, _ => none
  | .While t b o _ => match o with
    | [] => o2 .while_ (compE n ks t) (optAll (rec ks) b)
    | _ => none
  | .Raise e _ _ => match e with
    | some (.Call (.Name c _) _ _ _) => o1 .raise (nm c)
    | _ => none
  | .Pass _ => some .pass
  | _ => none
end
noncomputable def compS : Nat → Ks → Stmt → Option S
  | 0 => fun _ _ => none
  | n + 1 => stepS n (compS n)
noncomputable def compSs (n : Nat) (ks : Ks) (ss : List Stmt) : Option (List S) := optAll (compS n ks) ss
end RS

namespace RS
open PySem (Program World Shared Addr Value Obj Heap Str Around wpAny codeAny model Scope NameKind Expr Stmt FuncData cLine recursionLimit sizeLine mainGlobals builtinsNs PyData)
open PySem PyProof.Rows

/-! ## objects of a plain class  -/
noncomputable def methAll : List String := "__init__" :: methNames
/-- a class of the text, as its top leaves it -/
structure ClsIs (W : Wd) (c : String) (C N : Addr) (mN : Str → Option Value) : Prop where
  at_ : W.cls c = some C
  cls : ClsAt W.s₀.heap C N mN
  q1 : mN "__getattribute__" = none
  q2 : mN "__getattr__" = none
  q3 : mN "__setattr__" = none
  attr : ∀ n ∈ attrNames, mN (Str.ofString n) = none
  meth : ∀ n ∈ methAll, ∃ f o fd, mN (Str.ofString n) = some (.ref f) ∧ W.s₀.heap.get? f = some o ∧ o.cls = .type "function" ∧ o.data = .func fd ∧ W.fn (c ++ "." ++ n) = some f
theorem meth_type : ∀ n ∈ methNames, typeLookup (.type "object") (Str.ofString n) = pure none := by
  intro n hn
  simp only [methNames, List.mem_cons, List.not_mem_nil, or_false] at hn
  rcases hn with rfl | rfl | rfl | rfl | rfl | rfl | rfl | rfl <;> (rw [typeLookup_type, builtinLookup_eq_fast]; kernel_rfl)
theorem attr_type : ∀ n ∈ attrNames, typeLookup (.type "object") (Str.ofString n) = pure none := by
  intro n hn
  simp only [attrNames, List.mem_cons, List.not_mem_nil, or_false] at hn
  rcases hn with rfl | rfl | rfl <;> (rw [typeLookup_type, builtinLookup_eq_fast]; kernel_rfl)

section
variable {W : Wd} {A : Around} {E : Value → Shared → Prop} {s : Shared} {σ : Hp} {Q : VP}

theorem HR.inst {c : String} {a d : Nat} {l : List (String × V)} (r : HR W σ s) (ha : σ a = some (.inst c d)) (hd : σ d = some (.attrs l)) :
    ∃ C m', W.cls c = some C ∧ s.heap.Inst a C m' ∧ (∃ o, s.heap.get? a = some o ∧ o.dict = some d) ∧ s.heap.Ns1 d m' ∧ d ≠ a ∧ (∀ n v, alook l n = some v → ∃ x, m' (Str.ofString n) = some x ∧ Rep W s.heap v x) ∧ (∀ n, alook l n = none → m' (Str.ofString n) = none) ∧ (∀ y, m' y ≠ none → y ∈ l.map fun e => Str.ofString e.1) := by
  have hne : d ≠ a := fun e => by subst e; rw [ha] at hd; cases hd
  cases r.cell a _ ha with
  | inst hc e c1 c2 c3 =>
    cases r.cell d _ hd with
    | attrs q m n w => exact ⟨_, _, hc, ⟨_, e, c1, c3, .inr ⟨d, c2, hne, q⟩⟩, ⟨_, e, c2⟩, q, hne, m, n, w⟩

theorem handed {h : Heap} {v : V} {x : Value} (r : Rep W h v x) : handedOut x = pure x := by cases r <;> rfl

/-- an attribute is read -/
theorem getattr_s {c n : String} {C N a d : Addr} {mN : Str → Option Value} {l : List (String × V)} {v : V} {expr : Bool} (K : ClsIs W c C N mN) (r : HR W σ s) (ha : σ a = some (.inst c d)) (hd : σ d = some (.attrs l)) (hv : alook l n = some v)
    (hna : mN (Str.ofString n) = none) (hB : typeLookup (.type "object") (Str.ofString n) = pure none) (h : Q v σ) {P : Value → Shared → Prop} (hP : Kt W σ s Q P) : wpAny (model W.prog W.w) A (getAttr (.ref a) (Str.ofString n) expr) P E s := by
  obtain ⟨C', m', hc, I, _, q, hne, hm, hn, hw⟩ := r.inst ha hd
  obtain rfl : C' = C := by rw [K.at_] at hc; exact (Option.some.inj hc).symm
  obtain ⟨x, hx, rx⟩ := hm n v hv
  have X := K.cls.keeps r.base
  have st := r.tok (s.toks + 1) []
  obtain ⟨hh, g, dd, t, os⟩ := s
  obtain ⟨nm, q', bs, sn, sub, col, dd', k0, k1, k2, k3, k5, hC⟩ := X.obj
  exact load_attr hC X.ns K.q1 hna hB I hx (handed rx) (hP v σ _ _ h rx st)

theorem alook_aset (l : List (String × V)) (n : String) (v : V) (y : String) : alook (aset l n v) y = if y = n then some v else alook l y := by
  unfold alook aset
  by_cases h : y = n
  · subst h; simp
  · have h' : ¬ n = y := fun e => h e.symm
    simp only [List.find?_cons, h', decide_false, Bool.false_eq_true, if_false, h]
    congr 1
    induction l with
    | nil => rfl
    | cons e l ih =>
      by_cases he : e.1 = n
      · have : ¬ e.1 = y := fun e' => h (e'.symm.trans he)
        rw [List.filter_cons_of_neg (by simp [he]), ih, List.find?_cons_of_neg (by simpa using this)]
      · rw [List.filter_cons_of_pos (by simp [he]), List.find?_cons, List.find?_cons, ih]

/-- an attribute is set -/
theorem setattr_s {c n : String} {C N a d : Addr} {mN : Str → Option Value} {l : List (String × V)} {v : V} {x : Value} {P : Unit → Shared → Prop} (K : ClsIs W c C N mN) (r : HR W σ s) (ha : σ a = some (.inst c d)) (hd : σ d = some (.attrs l)) (hx : Rep W s.heap v x) (hl : l.length ≤ 1000)
    (hna : mN (Str.ofString n) = none) (hB : typeLookup (.type "object") (Str.ofString n) = pure none) (h : ∀ s', Step W [] σ s (σ.set d (.attrs (aset l n v))) s' → P () s') : wpAny (model W.prog W.w) A (setAttr (.ref a) (Str.ofString n) x) P E s := by
  obtain ⟨C', m', hc, I, ⟨oa, hoa, hda⟩, q, hne, hm, hn, hw⟩ := r.inst ha hd
  obtain rfl : C' = C := by rw [K.at_] at hc; exact (Option.some.inj hc).symm
  have X := K.cls.keeps r.base
  obtain ⟨nm, q', bs, sn, sub, col, dd', k0, k1, k2, k3, k5, hC₀⟩ := K.cls.obj
  have haC : a ≠ C' := fun e => by
    subst e
    have := r.free _ _ hC₀
    rw [this] at ha; cases ha
  have rr := r
  obtain ⟨hh, g, dd, t, os⟩ := s
  refine store_attr PySem.F.store_object (r.base _ _ hC₀) X.ns K.q3 hna hB haC I (fun h' tk' I' hk hsame => ?_) hw (by rw [List.length_map, sizeLine_is]; lia)
  obtain ⟨o₁, e₁, c₁, dt₁, sl₁, dk₁⟩ := hsame oa hoa
  have eo : o₁ = oa := by
    have hd1 := dk₁ d hda
    cases o₁; cases oa; simp_all
  subst eo
  have ext : Heap.ExtBut d hh h' := fun b o hb e => by
    by_cases hba : b = a
    · subst hba
      have : o = o₁ := by have := hoa; simp only at e this; rw [e] at this; exact Option.some.inj this
      rw [this]; exact e₁
    · exact hk b o hba (fun o₀ dx e₀ ed => by
        obtain rfl := Option.some.inj (hoa.symm.trans e₀)
        obtain rfl := Option.some.inj (hda.symm.trans ed)
        exact hb) e
  obtain ⟨o', e', _, _, hd'⟩ := I'
  obtain rfl := Option.some.inj (e₁.symm.trans e')
  have kt : TupKeep hh h' := fun b o e q2 => ext b o (fun hbd => by
    subst hbd
    obtain ⟨od, es, ep, ed, dd2, _⟩ := q
    simp only at ed e
    rw [ed] at e; cases e
    exact notTup_dict dd2 q2) e
  rcases hd' with ⟨hn0, _⟩ | ⟨d', hd', _, hns'⟩
  · rw [hda] at hn0; cases hn0
  · obtain rfl := Option.some.inj (hda.symm.trans hd')
    refine h _ (rr.upd hd ext (.attrs hns' (fun y u hy => ?_) (fun y hy => ?_) fun y hy => ?_) tk' [])
    · rw [alook_aset] at hy
      by_cases hyn : y = n
      · subst hyn
        rw [if_pos rfl] at hy; cases hy
        exact ⟨x, by simp, hx.mono kt⟩
      · rw [if_neg hyn] at hy
        obtain ⟨z, hz, rz⟩ := hm y u hy
        refine ⟨z, ?_, rz.mono kt⟩
        have : Str.ofString y ≠ Str.ofString n := fun e => hyn (by
          have := Str.ofString_beq y n
          rw [e, beq_self_eq_true] at this
          exact of_decide_eq_true this.symm)
        simp [this, hz]
    · rw [alook_aset] at hy
      by_cases hyn : y = n
      · rw [if_pos hyn] at hy; cases hy
      · rw [if_neg hyn] at hy
        have : Str.ofString y ≠ Str.ofString n := fun e => hyn (by
          have := Str.ofString_beq y n
          rw [e, beq_self_eq_true] at this
          exact of_decide_eq_true this.symm)
        simp [this, hn y hy]
    · by_cases hyn : y = Str.ofString n
      · subst hyn; simp [aset]
      · simp only [if_neg hyn] at hy
        have := hw y hy
        simp only [aset, List.map_cons, List.mem_cons, List.mem_map, List.mem_filter] at this ⊢
        obtain ⟨e, he, rfl⟩ := this
        refine .inr ⟨e, ⟨he, ?_⟩, rfl⟩
        simpa using fun hen => hyn (by rw [hen])

/-- a method is looked up -/
theorem method_s {c n : String} {C N a d f : Addr} {mN : Str → Option Value} {l : List (String × V)} {of : Obj} {pl : Sem Bool} {y : Option Value} {P : Value × List Value → Shared → Prop} (K : ClsIs W c C N mN) (r : HR W σ s) (ha : σ a = some (.inst c d)) (hd : σ d = some (.attrs l)) (hl : alook l n = none)
    (hf : mN (Str.ofString n) = some (.ref f)) (hfo : W.s₀.heap.get? f = some of) (hfc : of.cls = .type "function") (hB : typeLookup (.type "object") (Str.ofString n) = pure y) (h : P (.ref f, [.ref a]) s) : wpAny (model W.prog W.w) A (getMethod (.ref a) (Str.ofString n) pl) P E s := by
  obtain ⟨C', m', hc, I, _, q, hne, hm, hn, hw⟩ := r.inst ha hd
  obtain rfl : C' = C := by rw [K.at_] at hc; exact (Option.some.inj hc).symm
  have X := K.cls.keeps r.base
  have hfo' := r.base _ _ hfo
  obtain ⟨hh, g, dd, t, os⟩ := s
  obtain ⟨nm, q', bs, sn, sub, col, dd', k0, k1, k2, k3, k5, hC⟩ := X.obj
  exact method_of hC X.ns K.q1 K.q2 hf hfo' hfc hB I (hn n hl) h

/-- a new object, before its __init__ -/
theorem new_s {c : String} {C N fI : Addr} {mN : Str → Option Value} {oI : Obj} {rest : List Value} {P : Value → Shared → Prop} (K : ClsIs W c C N mN) (r : HR W σ s) (hi : mN "__init__" = some (.ref fI)) (hfI : W.s₀.heap.get? fI = some oI) (hfc : oI.cls = .type "function")
    (h : ∀ s' x dx, Step W [] σ s ((σ.set dx (.attrs [])).set x (.inst c dx)) s' → σ x = none → σ dx = none → x ≠ dx →
      wpAny (model W.prog W.w) (A.under (.builtin "type.__call__" ⟨.ref C :: rest, []⟩)) (call (.ref fI) (.ref x :: rest)) (fun v s'' => v = .none ∧ P (.ref x) s'') E s') : wpAny (model W.prog W.w) A (call (.ref C) rest) P E s := by
  have X := K.cls.keeps r.base
  have hfI' := r.base _ _ hfI
  have rr := r
  obtain ⟨hh, g, dd, t, os⟩ := s
  obtain ⟨nm, q', bs, sn, sub, col, dd', k0, k1, k2, k3, k5, hC⟩ := X.obj
  refine wpAny_call_obj_init PySem.F.objNew hC X.ns hi hfI' hfc fun h' x dx Mk => ?_
  obtain ⟨ox, hx, hcx, hncx, hdx⟩ := Mk.inst
  have hdd := Mk.dict ox hx
  have hns : dx ≠ x ∧ h'.Ns1 dx fun _ => none := by
    rcases hdx with ⟨hn0, _⟩ | ⟨d', hd', hne', hns'⟩
    · rw [hn0] at hdd; cases hdd
    · obtain rfl := Option.some.inj (hd'.symm.trans hdd); exact ⟨hne', hns'⟩
  have st1 := rr.new (c := .attrs []) Mk.newD Mk.keeps (.attrs hns.2 (fun n v hv => by simp [alook] at hv) (fun _ _ => rfl) fun y hy => absurd rfl hy) t
  have hσx : σ x = none := rr.fresh Mk.newX
  have hσd : σ dx = none := rr.fresh Mk.newD
  have cx : CellR W h' x (.inst c dx) := .inst K.at_ hx hcx hdd hncx
  exact h _ x dx (st1.add rr Mk.newX cx) hσx hσd (Ne.symm hns.1)
end
end RS

namespace RS
open PySem (Program World Shared Addr Value Obj Heap Str Around wpAny codeAny model Scope NameKind Expr Stmt FuncData cLine recursionLimit sizeLine mainGlobals builtinsNs PyData)

/-- what is known of the top -/
structure TopOk (W : Wd) : Prop extends WOk W where
  lim : W.s₀.heap.NoLimit
  hg : W.s₀.heap.Ns mainGlobals W.mg
  hb : W.s₀.heap.Ns builtinsNs W.mb
  fnF : ∀ f ∈ W.names, ∃ fa, W.fn f = some fa ∧ W.mg (Str.ofString f) = some (.ref fa) ∧ ((∃ o fd, W.s₀.heap.get? fa = some o ∧ o.data = .func fd) ∨ ∃ N mN, PyProof.Rows.ClsAt W.s₀.heap fa N mN)
  globV : ∀ x v, W.glob x = some v → ∃ y, (W.mg (Str.ofString x) = some y ∨ (W.mg (Str.ofString x) = none ∧ W.mb (Str.ofString x) = some y)) ∧ ∀ h, Rep W h v y
  biB : ∀ x b, biOf x = some b → W.mg (Str.ofString x) = none ∧ W.mb (Str.ofString x) = some (biV b)
  clsK : ∀ c C, W.cls c = some C → ∃ N mN, ClsIs W c C N mN
  rng : W.mg "range" = none ∧ W.mb "range" = some (.type "range")

/-- the exceptions of a call -/
noncomputable def XC (_W : Wd) (_A : Around) (_σ : Hp) (_s : Shared) (X : XP) (_E : Value → Shared → Prop) : Prop := ∀ c σ', ¬ X c σ'
theorem XC.step {W : Wd} {A : Around} {σ σ' : Hp} {s s' : Shared} {X : XP} {E : Value → Shared → Prop} (h : XC W A σ s X E) (_ : Step W [] σ s σ' s') : XC W A σ' s' X E := h

/-- a call of the text's own -/
noncomputable def callP (W : Wd) (k : Nat) : CallT := fun f vs σ Q X => ∃ fa, W.fn f = some fa ∧ ∀ A s xs P E, Room A k → HR W σ s → Reps W s.heap vs xs → XC W A σ s X E → Kt W σ s Q P →
  wpAny (model W.prog W.w) A (PySem.call (.ref fa) xs []) P E s

noncomputable def glb (W : Wd) (k : Nat) : Glb := ⟨W.ns, W.glob, fun f => decide (f ∈ W.names), callP W k⟩

/-- where a name's value lies -/
noncomputable def VarAt (W : Wd) (env : PySem.Env) (σ : Hp) (h : Heap) (X : Str) (v : V) : Prop :=
  (env.scope.names.lookup X = some .local → ∃ m y, h.Ns env.locals m ∧ m X = some y ∧ Rep W h v y ∧ σ env.locals = none) ∧
  (env.scope.names.lookup X = some .cell ∨ env.scope.names.lookup X = some .free → ∃ c y, env.cells.lookup X = some c ∧ h.IsCell c (some y) ∧ Rep W h v y ∧ σ c = none)

structure EnvR (W : Wd) (env : PySem.Env) (ρ : Env) (σ : Hp) (h : Heap) : Prop where
  kind : env.scope.kind = .function
  glob : env.globals = mainGlobals
  blt : env.builtins = builtinsNs
  var : ∀ x v, ρ x = some v → Str.ofString x ≠ ".0" → VarAt W env σ h (Str.ofString x) v
  cells : ∀ X, env.scope.names.lookup X = some .cell → ∃ c, env.cells.lookup X = some c

section
variable {W : Wd} {k : Nat} {ks : Ks} {A : Around} {E : Value → Shared → Prop} {s s' : Shared} {σ σ' : Hp} {Q : VP} {X : XP} {P : Value → Shared → Prop} {env : PySem.Env} {ρ : Env}

theorem ns_here {h : Heap} {a : Addr} {m : Str → Option Value} (x : h.Ns a m) : ∃ o, h.get? a = some o := let ⟨o, _, _, e, _⟩ := x; ⟨o, e⟩
theorem cell_here {h : Heap} {a : Addr} {v : Option Value} (x : h.IsCell a v) : ∃ o, h.get? a = some o := let ⟨o, e, _⟩ := x; ⟨o, e⟩
theorem EnvR.step (x : EnvR W env ρ σ s.heap) (r : HR W σ s) (st : Step W [] σ s σ' s') : EnvR W env ρ σ' s'.heap where
  kind := x.kind
  glob := x.glob
  blt := x.blt
  cells := x.cells
  var n v e e0 := by
    have kt := st.tup0 r
    refine ⟨fun hl => ?_, fun hc => ?_⟩
    · obtain ⟨m, y, hn, hm, hr, hs⟩ := (x.var n v e e0).1 hl
      obtain ⟨o, ho⟩ := ns_here hn
      exact ⟨m, y, st.ns hn hs List.not_mem_nil, hm, hr.mono kt, st.none_ _ o ho hs⟩
    · obtain ⟨c, y, hl, hn, hr, hs⟩ := (x.var n v e e0).2 hc
      obtain ⟨o, ho⟩ := cell_here hn
      exact ⟨c, y, hl, st.cell hn hs List.not_mem_nil, hr.mono kt, st.none_ _ o ho hs⟩

/-- the place at which an expression is read -/
structure Cx (W : Wd) (k : Nat) (ks : Ks) (A : Around) (env : PySem.Env) (ρ : Env) (σ : Hp) (s : Shared) : Prop where
  room : Room A k
  names : env.scope.names = ks
  R : EnvR W env ρ σ s.heap
  r : HR W σ s
theorem Cx.step (C : Cx W k ks A env ρ σ s) (st : Step W [] σ s σ' s') : Cx W k ks A env ρ σ' s' := ⟨C.room, C.names, C.R.step C.r st, st.hr⟩

/-- its exceptions -/
noncomputable def XH (W : Wd) (A : Around) (_env : PySem.Env) (σ : Hp) (s : Shared) (X : XP) (E : Value → Shared → Prop) : Prop := XC W A σ s X E
theorem XH.step (h : XH W A env σ s X E) (st : Step W [] σ s σ' s') : XH W A env σ' s' X E := XC.step h st

theorem ld_glob {X : Str} {y : Value} (T : TopOk W) (C : Cx W k ks A env ρ σ s) (hx : isGlob ks X = true) (hy : W.mg X = some y ∨ (W.mg X = none ∧ W.mb X = some y)) (h : P y s) :
    wpAny (model W.prog W.w) A (PySem.loadName env X) P E s := by
  have hx' : env.kindOf X = some .globalImplicit := by show env.scope.names.lookup X = _; rw [C.names]; exact eq_of_beq hx
  rw [PyProof.Rows.loadName_read C.R.kind hx']
  have hg : s.heap.Ns env.globals W.mg := by rw [C.R.glob]; exact T.hg.keeps C.r.base
  have hb : s.heap.Ns env.builtins W.mb := by rw [C.R.blt]; exact T.hb.keeps C.r.base
  unfold PySem.loadGlobal
  refine PySem.wpAny_bind (PySem.wpAny_nsGet hg ?_)
  rcases hy with hy | ⟨h0, hy⟩
  · rw [hy]; exact PySem.wpAny_pure h
  · rw [h0]
    refine PySem.wpAny_bind (PySem.wpAny_nsGet hb ?_)
    rw [hy]; exact PySem.wpAny_pure h

theorem ld_var {x : String} {v : V} (C : Cx W k ks A env ρ σ s) (hx : isVar ks (Str.ofString x) = true) (hcd : (Str.ofString x == ("__classdict__" : Str)) = false) (h0 : Str.ofString x ≠ ".0") (hv : ρ x = some v) (h : Q v σ) (hP : Kt W σ s Q P) :
    wpAny (model W.prog W.w) A (PySem.loadName env (Str.ofString x)) P E s := by
  have V := C.R.var x v hv h0
  have hnm := C.names
  subst hnm
  cases hk : env.scope.names.lookup (Str.ofString x) with
  | none => unfold isVar at hx; rw [hk] at hx; cases hx
  | some kd =>
    cases kd with
    | «local» =>
      obtain ⟨m, y, hn, hm, hr, _⟩ := V.1 hk
      exact PySem.wpAny_loadName_local C.R.kind hk hn hm (hP _ _ _ _ h hr (.refl C.r))
    | cell =>
      obtain ⟨c, y, hl, hc, hr, _⟩ := V.2 (.inl hk)
      exact PySem.wpAny_loadName_cell C.R.kind hk hl hc (hP _ _ _ _ h hr (.refl C.r))
    | free =>
      obtain ⟨c, y, hl, hc, hr, _⟩ := V.2 (.inr hk)
      exact PySem.wpAny_loadName_free C.R.kind hk hl hc (hP _ _ _ _ h hr (.refl C.r)) hcd
    | _ => unfold isVar at hx; rw [hk] at hx; cases hx

theorem truthy_sound {v : V} {x : Value} {b : Bool} {P : Bool → Shared → Prop} {h : Heap} (hx : Rep W h v x) (ht : truth v = some b) (hp : P b s) : wpAny (model W.prog W.w) A (PySem.truthy x) P E s := by
  cases v with
  | none => cases ht; cases hx.none_inv; exact PyProof.Rows.truthy_none hp
  | bool b => cases ht; cases hx.bool_inv; exact PySem.wpAny_truthy_bool hp
  | int i => cases ht; obtain ⟨t, rfl⟩ := hx.int_inv; exact PyProof.Rows.truthy_int hp
  | _ => cases ht
end

/-- the transformer is sound for an expression's tree -/
noncomputable def SE (W : Wd) (k : Nat) (cE : Ks → Expr → Option RS.X) : Prop := ∀ ks e x, cE ks e = some x → ∀ A env ρ σ s Q X E P, Cx W k ks A env ρ σ s → x (glb W k) ρ σ Q X → XH W A env σ s X E → Kt W σ s Q P →
  wpAny (model W.prog W.w) A (PySem.eval e env) P E s
/-- and for its truth -/
noncomputable def STr (W : Wd) (k : Nat) (cE : Ks → Expr → Option RS.X) : Prop := ∀ ks e x, cE ks e = some x → ∀ A env ρ σ s Q X E (P : Bool → Shared → Prop), Cx W k ks A env ρ σ s → x (glb W k) ρ σ Q X → XH W A env σ s X E → (∀ v σ', Q v σ' → (truth v).isSome = true) →
  (∀ v b σ' s', Q v σ' → truth v = some b → Step W [] σ s σ' s' → P b s') → wpAny (model W.prog W.w) A (PySem.isTrue e env (PySem.eval e env)) P E s

/-- what comes behind the values of a list -/
noncomputable def KtL (W : Wd) (σ : Hp) (s : Shared) (m : Nat) (Q : List V → Hp → Prop) (P : List Value → Shared → Prop) : Prop := ∀ vs σ' xs s', Q vs σ' → Reps W s'.heap vs xs → Step W [] σ s σ' s' → xs.length = m → P xs s'

section
variable {W : Wd} {k : Nat} {cE : Ks → Expr → Option RS.X} {ks : Ks} {A : Around} {E : Value → Shared → Prop} {s : Shared} {σ : Hp} {env : PySem.Env} {ρ : Env} {X : XP}

theorem starEach_cons {e : Expr} (es : List Expr) (env : PySem.Env) (h : notStar e = true) : PySem.starEach (e :: es) env = (false, PySem.eval e env) :: PySem.starEach es env := by
  cases e <;> first | rfl | cases h
theorem listX_cons {e : Expr} {es : List Expr} {xs : List RS.X} (h : listX cE ks (e :: es) = some xs) : ∃ x xs', notStar e = true ∧ cE ks e = some x ∧ listX cE ks es = some xs' ∧ xs = x :: xs' := by
  obtain ⟨x, xs', h1, h2, rfl⟩ := optAll_cons h
  exact oif_inv h1 fun hs hx => ⟨x, xs', hs, hx, h2, rfl⟩

theorem sEs (IE : SE W k cE) (pos : PySem.Pos) : ∀ (es : List Expr) (xs : List RS.X), listX cE ks es = some xs → ∀ σ s Q P, Cx W k ks A env ρ σ s → wpEs xs (glb W k) ρ σ Q X → XH W A env σ s X E → KtL W σ s es.length Q P →
    wpAny (model W.prog W.w) A (PySem.spliced (PySem.backTo pos (PySem.starEach es env))) P E s := by
  intro es
  induction es with
  | nil => intro xs h σ s Q P C hw hE hP; cases h; exact PySem.Calls.spliced_nil (hP _ _ _ _ hw .nil (.refl C.r) rfl)
  | cons e es ih =>
    intro xs h σ s Q P C hw hE hP
    obtain ⟨x, xs', hs, hx, hxs, rfl⟩ := listX_cons h
    rw [starEach_cons es env hs]
    refine PySem.Calls.spliced_cons (IE ks e x hx A env ρ σ s _ X E _ C hw hE fun v σ₁ y s₁ hw₁ rv st => ?_)
    exact ih xs' hxs σ₁ s₁ _ _ (C.step st) hw₁ (hE.step st) fun vs σ₂ ys s₂ hq rs st₂ hl => hP _ _ _ _ hq (.cons (rv.mono (st₂.tup0 st.hr)) rs) (st.trans st₂) (congrArg (· + 1) hl)

theorem listX_star : ∀ {es : List Expr} {xs : List RS.X}, listX cE ks es = some xs → ∀ e ∈ es, notStar e = true := by
  intro es
  induction es with
  | nil => intro xs _ e he; cases he
  | cons e es ih =>
    intro xs h e' he
    obtain ⟨x, xs', hs, hx, hxs, rfl⟩ := listX_cons h
    rcases List.mem_cons.mp he with rfl | he
    · exact hs
    · exact ih hxs e' he
theorem stars {pos : PySem.Pos} {es : List Expr} (h : ∀ e ∈ es, notStar e = true) : (PySem.backTo pos (PySem.starEach es env)).any (·.1) = false := by
  induction es with
  | nil => rfl
  | cons e es ih =>
    rw [starEach_cons es env (h e (.head _))]
    show (false || (PySem.backTo pos (PySem.starEach es env)).any (·.1)) = false
    rw [ih fun e' he => h e' (.tail _ he)]; rfl
theorem evalArgs_s {M : PySem.Model} {pos : PySem.Pos} {f : Value} {es : List Expr} {P : PySem.Args → Shared → Prop} (hs : ∀ e ∈ es, notStar e = true)
    (h : wpAny M A (PySem.spliced (PySem.backTo pos (PySem.starEach es env))) (fun vs s' => P ⟨vs, []⟩ s') E s) : wpAny M A (PySem.evalArgs f true (PySem.backTo pos (PySem.starEach es env)) []) P E s := by
  cases es with
  | nil => exact fun Γ p hΓ => PyProof.Rows.evalArgs_empty (h Γ p hΓ) Γ p hΓ
  | cons e es =>
    rw [starEach_cons es env (hs e (.head _))] at h ⊢
    exact PySem.Calls.evalArgs_plain h
theorem subs_any (slice : Expr) (x y : Value) : ∃ ops, PySem.subscripted slice false x y = PySem.operate ops (PySem.getItem x y) := by
  unfold PySem.subscripted
  split <;> first | exact ⟨_, rfl⟩ | (rename_i h; cases h)
theorem beh_of {op : PySem.CmpOp} {e : Expr} (h : (!isSetE e) = true) : PySem.behindInMarks op e = false := by
  cases e <;> first | rfl | cases h
theorem opC (op : PySem.CmpOp) : op = cmpOf (copOf op) := by cases op <;> rfl
theorem opB {op : PySem.Operator} {o : Bop} (h : bopOf op = some o) : op = opOf o := by cases op <;> cases h <;> rfl

/-- and, or -/
theorem sBop (IE : SE W k cE) (isAnd : Bool) (pos : PySem.Pos) : ∀ (es : List Expr) (e : Expr) (p : List RS.X × RS.X), bopL cE ks e es = some p → ∀ σ s Q P, Cx W k ks A env ρ σ s → wpBop isAnd p.2 p.1 (glb W k) ρ σ Q X → XH W A env σ s X E → Kt W σ s Q P →
    wpAny (model W.prog W.w) A (PySem.eval (.BoolOp (if isAnd then .And else .Or) (e :: es) pos) env) P E s := by
  intro es
  induction es with
  | nil =>
    intro e p h σ s Q P
    refine o1_inv h fun x hx C hw hE hP => ?_
    exact PyProof.Rows.BoolOp_one (IE ks e x hx A env ρ σ s Q X E _ C hw hE hP)
  | cons e₂ es ih =>
    intro e p h σ s Q P
    refine o2_inv h fun x p' hx hp C hw hE hP => ?_
    have rest : ∀ v σ₁ y s₁, (∃ b, truth v = some b ∧ if b = isAnd then wpBop isAnd p'.2 p'.1 (glb W k) ρ σ₁ Q X else Q v σ₁) → Rep W s₁.heap v y → Step W [] σ s σ₁ s₁ →
        wpAny (model W.prog W.w) A (PySem.truthy y) (fun b s₂ => if b = isAnd then wpAny (model W.prog W.w) A (PySem.eval (.BoolOp (if isAnd then .And else .Or) (e₂ :: es) pos) env) P E s₂ else P y s₂) E s₁ := by
      rintro v σ₁ y s₁ ⟨b, hb, hq⟩ rv st
      refine truthy_sound rv hb ?_
      by_cases hb' : b = isAnd
      · rw [if_pos hb'] at hq ⊢; exact ih e₂ p' hp σ₁ s₁ Q P (C.step st) hq (hE.step st) (hP.step st)
      · rw [if_neg hb'] at hq ⊢; exact hP _ _ _ _ hq rv st
    cases isAnd with
    | true => exact PyProof.Rows.BoolOp_and (IE ks e x hx A env ρ σ s _ X E _ C hw hE fun v σ₁ y s₁ hq rv st => PySem.wpAny_mono (rest v σ₁ y s₁ hq rv st) (fun b s₂ q => by cases b <;> exact q) fun _ _ q => q)
    | false => exact PyProof.Rows.BoolOp_or (IE ks e x hx A env ρ σ s _ X E _ C hw hE fun v σ₁ y s₁ hq rv st => PySem.wpAny_mono (rest v σ₁ y s₁ hq rv st) (fun b s₂ q => by cases b <;> exact q) fun _ _ q => q)

theorem sBopT (IT : STr W k cE) (isAnd : Bool) (pos : PySem.Pos) (whole : PySem.Sem Value) : ∀ (es : List Expr) (e : Expr) (p : List RS.X × RS.X), bopL cE ks e es = some p → ∀ σ s (Q : VP) (P : Bool → Shared → Prop), Cx W k ks A env ρ σ s → wpBop isAnd p.2 p.1 (glb W k) ρ σ Q X → XH W A env σ s X E → (∀ v σ', Q v σ' → (truth v).isSome = true) →
    (∀ v b σ' s', Q v σ' → truth v = some b → Step W [] σ s σ' s' → P b s') → wpAny (model W.prog W.w) A (PySem.isTrue (.BoolOp (if isAnd then .And else .Or) (e :: es) pos) env whole) P E s := by
  intro es
  induction es with
  | nil =>
    intro e p h σ s Q P
    refine o1_inv h fun x hx C hw hE hT hP => ?_
    have H := fun (P' : Bool → Shared → Prop) hP' => IT ks e x hx A env ρ σ s Q X E P' C hw hE hT hP'
    cases isAnd with
    | true =>
      refine PyProof.Rows.isTrue_and (H _ fun v b σ' s' hq hb st => ?_)
      have := hP v b σ' s' hq hb st
      cases b with
      | true => exact PyProof.Rows.isTrue_and_nil this
      | false => exact this
    | false =>
      refine PyProof.Rows.isTrue_or (H _ fun v b σ' s' hq hb st => ?_)
      have := hP v b σ' s' hq hb st
      cases b with
      | true => exact this
      | false => exact PyProof.Rows.isTrue_or_nil this
  | cons e₂ es ih =>
    intro e p h σ s Q P
    refine o2_inv h fun x p' hx hp C hw hE hT hP => ?_
    have H := fun (P' : Bool → Shared → Prop) hP' => IT ks e x hx A env ρ σ s _ X E P' C hw hE (fun v σ' ⟨b, hb, _⟩ => by rw [hb]; rfl) hP'
    have rest : ∀ v b σ₁ s₁, (∃ b, truth v = some b ∧ if b = isAnd then wpBop isAnd p'.2 p'.1 (glb W k) ρ σ₁ Q X else Q v σ₁) → truth v = some b → Step W [] σ s σ₁ s₁ →
        if b = isAnd then wpAny (model W.prog W.w) A (PySem.isTrue (.BoolOp (if isAnd then .And else .Or) (e₂ :: es) pos) env whole) P E s₁ else P b s₁ := by
      rintro v b σ₁ s₁ ⟨b', hb', hq⟩ hb st
      obtain rfl : b = b' := Option.some.inj (hb.symm.trans hb')
      by_cases hbb : b = isAnd
      · rw [if_pos hbb] at hq ⊢
        exact ih e₂ p' hp σ₁ s₁ Q P (C.step st) hq (hE.step st) hT fun v b σ' s' hq hb st' => hP v b σ' s' hq hb (st.trans st')
      · rw [if_neg hbb] at hq ⊢; exact hP _ _ _ _ hq hb st
    cases isAnd with
    | true => exact PyProof.Rows.isTrue_and (H _ fun v b σ' s' hq hb st => by have := rest v b σ' s' hq hb st; cases b <;> exact this)
    | false => exact PyProof.Rows.isTrue_or (H _ fun v b σ' s' hq hb st => by have := rest v b σ' s' hq hb st; cases b <;> exact this)
end
end RS

namespace RS
open PySem (Program World Shared Addr Value Obj Heap Str Around wpAny codeAny model Scope NameKind Expr Stmt FuncData cLine recursionLimit sizeLine mainGlobals builtinsNs PyData)

/-! ### comprehensions -/
noncomputable def clOf (env : PySem.Env) : Ks → List (Str × Addr) → List (Str × Addr)
  | [], acc => acc
  | (n, k) :: r, acc => if k == .free then clOf env r ((n, (env.cells.lookup n).getD 0) :: acc) else clOf env r acc

theorem clOf_is (env : PySem.Env) (sc : Scope) (h : ∀ y ∈ sc.names, y.2 = .free → ∃ c, env.cells.lookup y.1 = some c) : PySem.closureFor sc env = pure (clOf env sc.names []) := by
  unfold PySem.closureFor
  suffices H : ∀ (names : Ks) (acc : List (Str × Addr)), (∀ y ∈ names, y.2 = .free → ∃ c, env.cells.lookup y.1 = some c) →
      (forIn names acc fun x r => match x with | (name, kind) => do
        if (kind == NameKind.free) = true then do
          let c ← PySem.cellOf env name
          pure (ForInStep.yield ((name, c) :: r))
        else pure (ForInStep.yield r) : PySem.Sem (List (Str × Addr))) = pure (clOf env names acc) by
    have := H sc.names [] h
    simpa using this
  intro names
  induction names with
  | nil => intro acc _; rfl
  | cons y names ih =>
    intro acc hy
    obtain ⟨n, kd⟩ := y
    rw [List.forIn_cons]
    by_cases hk : (kd == NameKind.free) = true
    · obtain ⟨c, hc⟩ := hy (n, kd) (by simp) (by simpa using hk)
      simp only at hc
      have hcell : PySem.cellOf env n = pure c := by unfold PySem.cellOf; rw [hc]
      simp only [hk, if_true, hcell, pure_bind]
      rw [ih _ fun y hy' => hy y (by simp [hy'])]
      simp [clOf, hk, hc]
    · have hk' : (kd == NameKind.free) = false := by simpa using hk
      simp only [hk', Bool.false_eq_true, if_false, pure_bind]
      rw [ih _ fun y hy' => hy y (by simp [hy'])]
      simp [clOf, hk']

theorem clOf_lookup (env : PySem.Env) : ∀ (names : Ks) (acc : List (Str × Addr)), (∀ y ∈ names, y.2 = .free → ∃ c, env.cells.lookup y.1 = some c) → (∀ X c, acc.lookup X = some c → env.cells.lookup X = some c) →
    (∀ X c, (clOf env names acc).lookup X = some c → env.cells.lookup X = some c) ∧ (∀ X, (X, NameKind.free) ∈ names ∨ (acc.lookup X).isSome = true → ((clOf env names acc).lookup X).isSome = true)
  | [], acc, _, ha => ⟨ha, fun X h => h.elim (fun h => by cases h) id⟩
  | (n, kd) :: r, acc, hy, ha => by
    unfold clOf
    by_cases hk : (kd == NameKind.free) = true
    · obtain ⟨c, hc⟩ := hy (n, kd) (by simp) (by simpa using hk)
      simp only at hc
      rw [if_pos hk]
      have ih := clOf_lookup env r ((n, (env.cells.lookup n).getD 0) :: acc) (fun y hy' => hy y (by simp [hy'])) (fun X c' hX => by
        rw [List.lookup_cons] at hX
        split at hX
        · rename_i hXn
          cases hX; rw [eq_of_beq hXn, hc]; rfl
        · exact ha X c' hX)
      refine ⟨ih.1, fun X hX => ih.2 X ?_⟩
      by_cases hXn : X = n
      · subst hXn; right; simp [List.lookup_cons]
      · rcases hX with hX | hX
        · rcases List.mem_cons.mp hX with h | h
          · cases h; exact absurd rfl hXn
          · exact .inl h
        · right
          have hb : (X == n) = false := by simpa using hXn
          rw [List.lookup_cons, hb]; exact hX
    · rw [if_neg hk]
      have ih := clOf_lookup env r acc (fun y hy' => hy y (by simp [hy'])) ha
      refine ⟨ih.1, fun X hX => ih.2 X ?_⟩
      rcases hX with hX | hX
      · rcases List.mem_cons.mp hX with h | h
        · cases h; exact absurd rfl hk
        · exact .inl h
      · exact .inr hX

section
variable {W : Wd} {k : Nat}

theorem XH.any {A : Around} {env env' : PySem.Env} {σ σ' : Hp} {s s' : Shared} {X : XP} {E E' : Value → Shared → Prop} (h : XH W A env σ s X E) : XH W A env' σ' s' X E' := h
theorem folded_id {e : Expr} (env : PySem.Env) (h : (!isSetE e) = true) (x : Value) : PySem.foldedSetIterable e env x = pure x := by
  cases e <;> first | rfl | cases h

theorem relabel_is (sc : Scope) (env : PySem.Env) (hk : env.scope.kind = .function) : (PySem.relabel sc env).names = relabelK env.scope.names sc.names := by
  unfold PySem.relabel relabelK PySem.Env.kindOf
  simp [hk]

theorem relabelK_lookup (ks : Ks) : ∀ (names : Ks) (X : Str) (kd : NameKind), (relabelK ks names).lookup X = some kd → ∃ kd', names.lookup X = some kd' ∧ (X, kd') ∈ names ∧ kd = (if kd' == .free && ks.lookup X == some .cell then .cell else kd')
  | [], _, _, h => by simp [relabelK] at h
  | (y, q) :: r, X, kd, h => by
    have hh : ((if (q == NameKind.free && ks.lookup y == some .cell) = true then (y, NameKind.cell) else (y, q)) :: relabelK ks r).lookup X = some kd := h
    have hsplit : (if (q == NameKind.free && ks.lookup y == some .cell) = true then (y, NameKind.cell) else (y, q)) = (y, if (q == NameKind.free && ks.lookup y == some .cell) = true then NameKind.cell else q) := by split <;> rfl
    rw [hsplit, List.lookup_cons] at hh
    by_cases hX : X = y
    · subst hX
      simp only [beq_self_eq_true, Option.some.injEq] at hh
      exact ⟨q, by simp [List.lookup_cons], by simp, hh.symm⟩
    · have hb : (X == y) = false := by simpa using hX
      rw [hb] at hh
      obtain ⟨kd', h1, h2, h3⟩ := relabelK_lookup ks r X kd hh
      exact ⟨kd', by rw [List.lookup_cons, hb]; exact h1, by simp [h2], h3⟩

/-- what the scope of a comprehension must be -/
structure CompSc (ks : Ks) (sc : Scope) (x : Str) : Prop where
  kind : sc.kind = .function
  nocell : ∀ y ∈ sc.names, y.2 ≠ .cell
  loc : sc.names.lookup x = some .local
  locs : ∀ y ∈ sc.names, y.2 = .local → sc.names.lookup y.1 = some .local
  free : ∀ y ∈ sc.names, y.2 = .free → ks.lookup y.1 = some .cell
  only : ∀ y ∈ sc.names, y.2 = .local → y.1 = x ∨ y.1 = ".0"
  ne0 : x ≠ ".0"

theorem EnvR.comp {env : PySem.Env} {ρ : Env} {σ : Hp} {h : Heap} {sc : Scope} {x : String} {v : V} {y : Value} {C : Addr} {m : Str → Option Value} (R : EnvR W env ρ σ h) (cs : CompSc env.scope.names sc (Str.ofString x))
    (hn : h.Ns C m) (hm : m (Str.ofString x) = some y) (hv : Rep W h v y) (hσ : σ C = none) : EnvR W (PySem.compEnvC sc (clOf env sc.names []) C env) (ρ.set x v) σ h := by
  have cells : ∀ z ∈ sc.names, z.2 = .free → ∃ c, env.cells.lookup z.1 = some c := fun z hz hf => R.cells _ (cs.free z hz hf)
  obtain ⟨cl1, cl2⟩ := clOf_lookup env sc.names [] cells (fun _ _ e => by cases e)
  have names : (PySem.compEnvC sc (clOf env sc.names []) C env).scope.names = relabelK env.scope.names sc.names := relabel_is sc env R.kind
  have kindOf : ∀ X kd, (relabelK env.scope.names sc.names).lookup X = some kd → kd = .cell ∨ kd = .free → (X, NameKind.free) ∈ sc.names ∧ env.scope.names.lookup X = some .cell := by
    intro X kd e hk
    obtain ⟨kd', h1, h2, h3⟩ := relabelK_lookup _ _ _ _ e
    have hf : kd' = .free := by
      by_cases hq : kd' = .free
      · exact hq
      · have hb : (kd' == NameKind.free) = false := by simpa using hq
        rw [hb] at h3; simp only [Bool.false_and, Bool.false_eq_true, if_false] at h3
        rcases hk with hk | hk
        · exact absurd (h3.symm.trans hk) (cs.nocell _ h2)
        · exact h3.symm.trans hk
    subst hf
    exact ⟨h2, cs.free _ h2 rfl⟩
  refine ⟨cs.kind, R.glob, R.blt, fun z u hz h0 => ⟨fun hl => ?_, fun hc => ?_⟩, fun X hX => ?_⟩
  · rw [names] at hl
    obtain ⟨kd', h1, h2, h3⟩ := relabelK_lookup _ _ _ _ hl
    have hkd : kd' = .local := by
      by_cases hq : (kd' == NameKind.free && env.scope.names.lookup (Str.ofString z) == some .cell) = true
      · rw [if_pos hq] at h3; cases h3
      · rw [if_neg hq] at h3; exact h3.symm
    subst hkd
    rcases cs.only _ h2 rfl with he | he
    · have hzx : z = x := Str.ofString_inj he
      subst hzx
      rw [Env.set_same] at hz; cases hz
      exact ⟨m, y, hn, hm, hv, hσ⟩
    · exact absurd he h0
  · rw [names] at hc
    have hk : (Str.ofString z, NameKind.free) ∈ sc.names ∧ env.scope.names.lookup (Str.ofString z) = some .cell := by
      rcases hc with hc | hc
      · exact kindOf _ _ hc (.inl rfl)
      · exact kindOf _ _ hc (.inr rfl)
    have hzx : z ≠ x := fun q => by
      subst q
      have hl := cs.loc
      rcases hc with hc | hc <;>
      · obtain ⟨kd', h1, h2, h3⟩ := relabelK_lookup _ _ _ _ hc
        rw [hl] at h1; cases h1
        simp at h3
    rw [Env.set_ne _ _ hzx] at hz
    obtain ⟨c, y', hl, hcell, hr, hs⟩ := (R.var z u hz h0).2 (.inl hk.2)
    refine ⟨c, y', ?_, hcell, hr, hs⟩
    have hsome := cl2 _ (.inl hk.1)
    obtain ⟨c', hc'⟩ := Option.isSome_iff_exists.mp hsome
    have := cl1 _ _ hc'
    rw [hl] at this; cases this; exact hc'
  · rw [names] at hX
    exact Option.isSome_iff_exists.mp (cl2 _ (.inl (kindOf _ _ hX (.inl rfl)).1))


theorem ns_notTup {h : Heap} {C : Addr} {m : Str → Option Value} (hn : h.Ns C m) : ∃ o, h.get? C = some o ∧ ¬ isTup o := let ⟨o, _, _, ho, hd, _⟩ := hn; ⟨o, ho, notTup_dict hd⟩
theorem LstAt.nt {h : Heap} {a : Addr} {vs : List V} (x : LstAt W h a vs) : ∃ o, h.get? a = some o ∧ ¬ isTup o := by obtain ⟨_, e, _, _⟩ := x; exact ⟨_, e, notTup_type (by decide)⟩
theorem LstAt.but {h h' : Heap} {a I : Addr} {vs : List V} (x : LstAt W h a vs) (k : PySem.Heap.ExtBut I h h') (hI : ∃ o, h.get? I = some o ∧ ¬ isTup o) (ne : a ≠ I) : LstAt W h' a vs := by
  obtain ⟨z, e, q, l⟩ := x; exact ⟨z, k _ _ ne e, q.mono (tups_but k hI), l⟩
theorem LstAt.step {σ σ' : Hp} {s s' : Shared} {a : Addr} {vs : List V} (x : LstAt W s.heap a vs) (r : HR W σ s) (st : Step W [] σ s σ' s') (hσ : σ a = none) : LstAt W s'.heap a vs := by
  obtain ⟨z, e, q, l⟩ := x; exact ⟨z, st.exact e hσ List.not_mem_nil (fun q => absurd (Value.type.inj q) (by decide)), q.mono (st.tup0 r), l⟩
theorem ns_but {h h' : Heap} {C I : Addr} {m : Str → Option Value} (hn : h.Ns C m) (k : PySem.Heap.ExtBut I h h') (ne : C ≠ I) : h'.Ns C m := let ⟨o, es, ep, ho, q⟩ := hn; ⟨o, es, ep, k _ _ ne ho, q⟩

/-- in the midst of a comprehension's loop -/
structure CompAt (W : Wd) (σ : Hp) (s : Shared) (D C : Addr) (acc : List V) (σ' : Hp) (s' : Shared) : Prop where
  g : Step W [] σ s σ' s'
  nD : σ' D = none
  nC : σ' C = none
  d : LstAt W s'.heap D acc
  ns : ∃ m, s'.heap.Ns C m
theorem CompAt.step {σ σ' σ'' : Hp} {s s' s'' : Shared} {D C : Addr} {acc : List V} (x : CompAt W σ s D C acc σ' s') (st : Step W [] σ' s' σ'' s'') : CompAt W σ s D C acc σ'' s'' := by
  obtain ⟨m, hn⟩ := x.ns
  obtain ⟨o, ho⟩ := ns_here hn
  obtain ⟨z, e, q, l⟩ := id x.d
  exact ⟨x.g.trans st, st.none_ _ _ e x.nD, st.none_ _ _ ho x.nC, x.d.step x.g.hr st x.nD, m, st.ns hn x.nC List.not_mem_nil⟩
theorem CompAt.over {σ σ' : Hp} {s s' : Shared} {D C I : Addr} {acc : List V} {h' : Heap} (x : CompAt W σ s D C acc σ' s') (r : HR W σ s) (hI : s.heap.get? I = none) (hσ : σ' I = none) (hIt : ∃ o, s'.heap.get? I = some o ∧ ¬ isTup o) (kx : PySem.Heap.ExtBut I s'.heap h') (nD : D ≠ I) (nC : C ≠ I) (tk : Nat) : CompAt W σ s D C acc σ' { s' with heap := h', toks := tk } := by
  obtain ⟨m, hn⟩ := x.ns
  exact ⟨x.g.over r hI hσ hIt kx tk, x.nD, x.nC, x.d.but kx hIt nD, m, ns_but hn kx nC⟩

theorem compLoop_sound {cE : Ks → Expr → Option RS.X} (IE : SE W k cE) (IT : STr W k cE) {elt iter : Expr} {x : String} {px : PySem.Pos} {ifs : List Expr} {sc : Scope} {pos : PySem.Pos} {ks : Ks} {xe : RS.X} {xifs : List RS.X} {A : Around} {env : PySem.Env} {ρ : Env} {σ : Hp} {s : Shared} {K : List V → Hp → Prop} {X : XP} {E : Value → Shared → Prop}
    {I D C : Addr} {items : List V} {chk : Hp → Prop} {St : Nat → Heap → Prop} {RR : PySem.Result → Shared → Prop}
    (hce : cE (relabelK ks sc.names) elt = some xe) (hci : optAll (cE (relabelK ks sc.names)) ifs = some xifs) (hil : ifs.length ≤ 1) (cx : Cx W k ks A env ρ σ s) (cs : CompSc ks sc (Str.ofString x)) (hE : XH W A env σ s X E)
    (hit : Iter W A I items chk St) (hI : s.heap.get? I = none) (hC : s.heap.get? C = none) (hD : s.heap.get? D = none) (hDC : D ≠ C) (hDI : D ≠ I) (hCI : C ≠ I)
    (hRR : ∀ vs σ' s', K vs σ' → CompAt W σ s D C vs σ' s' → RR (.ok .next) s')
    (s₀ : Shared) (σ₀ : Hp) (at₀ : CompAt W σ s D C [] σ₀ s₀) (hst : St 0 s₀.heap) (hσI : σ₀ I = none)
    (hw : compL (fun v σ₂ K => wpIfs xifs (glb W k) (ρ.set x v) σ₂ (fun b σ₃ => if b = true then xe (glb W k) (ρ.set x v) σ₃ (fun r σ₄ => K (some r) σ₄) X else K Option.none σ₃) X) chk items [] σ₀ K) :
    codeAny (model W.prog W.w) A (.compLoop (.ListComp elt [⟨.Name (Str.ofString x) px, iter, ifs, 0⟩] sc pos) 0 (.ref I) (.ref D) (PySem.compEnvC sc (clOf env sc.names []) C env)) RR s₀ := by
  generalize hone : (fun v σ₂ K => wpIfs xifs (glb W k) (ρ.set x v) σ₂ (fun b σ₃ => if b = true then xe (glb W k) (ρ.set x v) σ₃ (fun r σ₄ => K (some r) σ₄) X else K Option.none σ₃) X : V → Hp → (Option V → Hp → Prop) → Prop) = one at hw
  have hks := cx.names
  subst hks
  have R := cx.R
  have r := cx.r
  refine PySem.codeAny_compLoop_tests (fun q s' => ∃ i σ' acc, q + i = items.length ∧ CompAt W σ s D C acc σ' s' ∧ St i s'.heap ∧ σ' I = none ∧ compL one chk (items.drop i) acc σ' K) ?_ items.length ⟨0, σ₀, [], rfl, at₀, hst, hσI, hw⟩
  rintro q s' ⟨i, σ', acc, hqi, at', hst, hσI, hw⟩
  have hIt := hit.nt hst
  cases hdr : items.drop i with
  | nil =>
    rw [hdr] at hw
    obtain ⟨hchk, hK⟩ := hw
    have hil' : i = items.length := Nat.le_antisymm (hqi ▸ Nat.le_add_left _ _) (List.drop_eq_nil_iff.mp hdr)
    subst hil'
    exact hit.done s' σ' _ _ hst at'.g.hr hchk fun h' tk kx => hRR _ _ _ hK (at'.over r hI hσI hIt kx hDI hCI tk)
  | cons v vs =>
    rw [hdr] at hw
    obtain ⟨hchk, hlen, hw⟩ := hw
    have hv : items[i]? = some v := by rw [← List.head?_drop, hdr]; rfl
    have hlt : i < items.length := (List.getElem?_eq_some_iff.mp hv).1
    have hdr' : items.drop (i + 1) = vs := by rw [← List.tail_drop, hdr]; rfl
    obtain ⟨q, rfl⟩ : ∃ q', q = q' + 1 := ⟨q - 1, by lia⟩
    have hqi' : q + (i + 1) = items.length := by rw [← hqi, Nat.add_assoc, Nat.add_comm 1 i]
    refine hit.item i s' σ' v _ _ hv hst at'.g.hr hchk fun xv h₁ tk₁ rx hst₁ kx => ?_
    have at₁ := at'.over r hI hσI hIt kx hDI hCI tk₁
    obtain ⟨m₁, hns₁⟩ := at₁.ns
    refine PySem.wpAny_assign_Name (PySem.wpAny_storeName_local (PySem.lookup_relabel_local cs.loc) hns₁ (fun h₂ hn₂ hs₂ => ?_) (by simp [PySem.compEnvC, PySem.relabel, cs.kind]))
    change h₂.Ns C _ at hn₂
    change PySem.Heap.SameBut C h₁ h₂ at hs₂
    have kt₂ := tups_but hs₂.extBut (ns_notTup hns₁)
    have at₂ : CompAt W σ s D C acc σ' { s' with heap := h₂, toks := tk₁ + 1 } := ⟨at₁.g.over r hC at'.nC (ns_notTup hns₁) hs₂.extBut (tk₁ + 1), at'.nD, at'.nC, at₁.d.but hs₂.extBut (ns_notTup hns₁) hDC, _, hn₂⟩
    have hst₂ : St (i + 1) h₂ := hit.frame _ _ _ hst₁ (fun o e => hs₂.extBut _ _ (Ne.symm hCI) e) kt₂
    have R₂ : EnvR W (PySem.compEnvC sc (clOf env sc.names []) C env) (ρ.set x v) σ' h₂ := EnvR.comp (R.step r at₂.g) cs hn₂ (by simp) (rx.mono kt₂) at'.nC
    have cx₂ : Cx W k (relabelK env.scope.names sc.names) A (PySem.compEnvC sc (clOf env sc.names []) C env) (ρ.set x v) σ' { s' with heap := h₂, toks := tk₁ + 1 } := ⟨cx.room, relabel_is sc env R.kind, R₂, at₂.g.hr⟩
    have next : ∀ σ₅ s₅ acc₅, CompAt W σ s D C acc₅ σ₅ s₅ → St (i + 1) s₅.heap → σ₅ I = none → compL one chk vs acc₅ σ₅ K → ∃ m, m < q + 1 ∧ ∃ i σ' acc, m + i = items.length ∧ CompAt W σ s D C acc σ' s₅ ∧ St i s₅.heap ∧ σ' I = none ∧ compL one chk (items.drop i) acc σ' K :=
      fun σ₅ s₅ acc₅ a b c d => ⟨q, Nat.lt_succ_self q, i + 1, σ₅, acc₅, hqi', a, b, c, by rw [hdr']; exact d⟩
    have rest : ∀ (b : Bool) (σ₃ : Hp) (s₃ : Shared), Step W [] σ' { s' with heap := h₂, toks := tk₁ + 1 } σ₃ s₃ → (if b = true then xe (glb W k) (ρ.set x v) σ₃ (fun r σ₄ => compL one chk vs (acc ++ [r]) σ₄ K) X else compL one chk vs acc σ₃ K) →
        if b = true then wpAny (model W.prog W.w) A (PySem.eval elt (PySem.compEnvC sc (clOf env sc.names []) C env)) (fun y s₄ =>
          wpAny (model W.prog W.w) A (PySem.call (.builtin "list.append") [.ref D, y]) (fun _ s₅ => ∃ m, m < q + 1 ∧ ∃ i σ' acc, m + i = items.length ∧ CompAt W σ s D C acc σ' s₅ ∧ St i s₅.heap ∧ σ' I = none ∧ compL one chk (items.drop i) acc σ' K)
            (PySem.notedBy (model W.prog W.w) A (PySem.compEnvC sc (clOf env sc.names []) C env) fun e s' => RR (.error e) s') s₄) (PySem.notedBy (model W.prog W.w) A (PySem.compEnvC sc (clOf env sc.names []) C env) fun e s' => RR (.error e) s') s₃
        else ∃ m, m < q + 1 ∧ ∃ i σ' acc, m + i = items.length ∧ CompAt W σ s D C acc σ' s₃ ∧ St i s₃.heap ∧ σ' I = none ∧ compL one chk (items.drop i) acc σ' K := by
      intro b σ₃ s₃ st hb
      have at₃ := at₂.step st
      obtain ⟨hst₃, hσI₃⟩ := hit.step st at₂.g.hr (Own.nil _) hσI List.not_mem_nil hst₂
      cases b with
      | false => exact next σ₃ s₃ acc at₃ hst₃ hσI₃ hb
      | true =>
        refine IE _ elt xe hce A _ _ σ₃ s₃ _ X _ _ (cx₂.step st) hb hE.any fun u σ₄ y s₄ hw₄ ru st₄ => ?_
        have at₄ := at₃.step st₄
        obtain ⟨hst₄, hσI₄⟩ := hit.step st₄ st.hr (Own.nil _) hσI₃ List.not_mem_nil hst₃
        obtain @⟨arr, n', hz, hd, hra, hl⟩ := id at₄.d
        have hal : arr.size ≤ 1000000 := by rw [← hl]; exact hlen
        refine PySem.wpAny_list_append_plain (items := arr) ⟨n', hd⟩ (fun h₅ hp₅ hs₅ => ?_) (fits hz)
        have kt₅ := tups_but hs₅.extBut at₄.d.nt
        obtain ⟨n₅, hd₅⟩ := hp₅
        obtain ⟨m₄, hn₄⟩ := at₄.ns
        refine next σ₄ _ (acc ++ [u]) ⟨at₄.g.over r hD at₄.nD at₄.d.nt hs₅.extBut s₄.toks, at₄.nD, at₄.nC, ⟨by rw [Array.size_push]; exact Nat.succ_le_succ hal, hd₅, ?_, by rw [List.length_append, hl, Array.size_push]; rfl⟩, m₄, ns_but hn₄ hs₅.extBut (Ne.symm hDC)⟩ (hit.frame _ _ _ hst₄ (fun o' e => hs₅.extBut _ _ (Ne.symm hDI) e) kt₅) hσI₄ hw₄
        rw [Array.toList_push]; exact (hra.mono kt₅).append (.one (ru.mono kt₅))
    subst hone
    cases ifs with
    | nil => cases hci; exact PySem.wpAny_tests_nil (rest true σ' _ (.refl at₂.g.hr) hw)
    | cons c cs' =>
      cases cs' with
      | cons _ _ => exact absurd hil (by simp)
      | nil =>
        obtain ⟨xc, xr, hxc, hxr, rfl⟩ := optAll_cons hci
        cases hxr
        refine PySem.wpAny_tests_one (IT _ c xc hxc A _ _ σ' _ _ X _ _ cx₂ hw hE.any (fun v σ' ⟨b, hb, _⟩ => by rw [hb]; rfl) fun u b σ₃ s₃ ⟨b', hb', hw₃⟩ hb st => rest b σ₃ s₃ st ?_)
        obtain rfl : b = b' := Option.some.inj (hb.symm.trans hb')
        cases b <;> exact hw₃
end
end RS

namespace RS
open PySem (Program World Shared Addr Value Obj Heap Str Around wpAny codeAny model Scope NameKind Expr Stmt FuncData cLine recursionLimit sizeLine mainGlobals builtinsNs PyData)

section
variable {W : Wd} {k : Nat} {cE : Ks → Expr → Option RS.X} {ks : Ks} {A : Around} {E : Value → Shared → Prop} {s : Shared} {σ : Hp} {env : PySem.Env} {ρ : Env} {X : XP} {Q : VP} {P : Value → Shared → Prop}

/-! ### the head of a loop -/
inductive SrcC (cE : Ks → Expr → Option RS.X) (ks : Ks) : Expr → Src → Prop
  | of {e : Expr} {x : RS.X} : cE ks e = some x → SrcC cE ks e (.of x)
  | r1 {p : PySem.Pos} {hi : Expr} {pos : PySem.Pos} {xh : RS.X} : isGlob ks ("range" : Str) = true → notStar hi = true → cE ks hi = some xh → SrcC cE ks (.Call (.Name ("range" : Str) p) [hi] [] pos) (.range1 xh)
  | r2 {p : PySem.Pos} {lo hi : Expr} {pos : PySem.Pos} {xl xh : RS.X} : isGlob ks ("range" : Str) = true → notStar lo = true → notStar hi = true → cE ks lo = some xl → cE ks hi = some xh → SrcC cE ks (.Call (.Name ("range" : Str) p) [lo, hi] [] pos) (.range2 xl xh)
theorem srcX_is {e : Expr} {x : Src} (h : srcX cE ks e = some x) : SrcC cE ks e x := by
  have gen : o1 Src.of (cE ks e) = some x → SrcC cE ks e x := fun h => o1_inv h fun x' hx' => .of hx'
  cases e with
  | Call f args kws pos =>
    cases f with
    | Name f p =>
      have h' : (if (f == ("range" : Str) && isGlob ks f) = true then oif kws.isEmpty (rangeX cE ks args) else o1 Src.of (cE ks (.Call (.Name f p) args kws pos))) = some x := h
      by_cases hf : (f == ("range" : Str) && isGlob ks f) = true
      · clear h gen
        rw [if_pos hf] at h'
        obtain ⟨hf1, hg⟩ := Bool.and_eq_true_iff.mp hf
        cases eq_of_beq hf1
        refine oif_inv h' fun hk h => ?_
        clear h'
        cases List.isEmpty_iff.mp hk
        cases args with
        | nil => cases h
        | cons a args => cases args with
          | nil => exact oif_inv h fun hs h => o1_inv h fun xh hh => .r1 hg hs hh
          | cons b args => cases args with
            | nil => exact oif_inv h fun hs h => o2_inv h fun xl xh hl hh => .r2 hg (Bool.and_eq_true_iff.mp hs).1 (Bool.and_eq_true_iff.mp hs).2 hl hh
            | cons _ _ => cases h
      · rw [if_neg hf] at h'; exact gen h'
    | _ => exact gen h
  | _ => exact gen h

theorem sSrc (T : TopOk W) (IE : SE W k cE) {K : SrcP} {e : Expr} {x : Src} (h : srcX cE ks e = some x) (C : Cx W k ks A env ρ σ s) (hw : x (glb W k) ρ σ K X) (hE : XH W A env σ s X E) (hP : SrcK W A σ s K P) :
    wpAny (model W.prog W.w) A (PySem.eval e env) (fun xv s₁ => wpAny (model W.prog W.w) A (PySem.pyIter xv) P E s₁) E s := by
  cases srcX_is h with
  | of hx' => exact IE ks e _ hx' A env ρ σ s _ X E _ C hw hE fun v σ₁ y s₁ hw₁ rv st => src_sound C.room T.toWOk st.hr rv hw₁ (hP.step st)
  | @r1 p hi pos xh hg hs hh =>
    refine PySem.wpAny_Call_NameR (PySem.wpAny_Name (ld_glob T C hg (.inr T.rng) ?_) (by decide))
    rw [starEach_cons [] env hs]
    refine PySem.callWith_type rfl (PySem.Calls.evalArgs_plain (PySem.Calls.spliced_cons (IE ks hi xh hh A env ρ σ s _ X E _ C hw hE fun v σ₁ y s₁ hw₁ rv st => PySem.Calls.spliced_nil ?_)))
    cases hw₁ with
    | @mk _ b hl hK =>
      obtain ⟨t, rfl⟩ := rv.int_inv
      refine PySem.call_range_1 ?_
      have st₂ := st.hr.grow (newFs (t := "range") (fs := #[.int 0 s₁.toks, .int b t, .int 1 (s₁.toks + 1)])) (s₁.toks + 1 + 1) []
      exact range_any C.room st₂.hr (PySem.Heap.get?_push_size _ rfl) hK ((hP.step st).step st₂)
  | @r2 p lo hi pos xl xh hg hs1 hs2 hl hh =>
    refine PySem.wpAny_Call_NameR (PySem.wpAny_Name (ld_glob T C hg (.inr T.rng) ?_) (by decide))
    rw [starEach_cons [hi] env hs1, starEach_cons [] env hs2]
    refine PySem.callWith_type rfl (PySem.Calls.evalArgs_plain (PySem.Calls.spliced_cons (IE ks lo xl hl A env ρ σ s _ X E _ C hw hE fun v σ₁ y s₁ hw₁ rv st =>
      PySem.Calls.spliced_cons (IE ks hi xh hh A env ρ σ₁ s₁ _ X E _ (C.step st) hw₁ (hE.step st) fun v' σ₂ y' s₂ hw₂ rv' st' => PySem.Calls.spliced_nil ?_))))
    cases hw₂ with
    | @mk a b hl hK =>
      obtain ⟨t, rfl⟩ := rv.int_inv
      obtain ⟨u, rfl⟩ := rv'.int_inv
      refine PySem.call_range_2 ?_
      have st₂ := st'.hr.grow (newFs (t := "range") (fs := #[.int a t, .int b u, .int 1 s₂.toks])) (s₂.toks + 1) []
      exact range_any C.room st₂.hr (PySem.Heap.get?_push_size _ rfl) hK (((hP.step st).step st').step st₂)

/-! ### comprehensions -/
theorem compSc_of {sc : Scope} {x : Str} {iter : Expr} {ifs : List Expr} (h : compOk ks sc x iter ifs = true) : (!isSetE iter) = true ∧ CompSc ks sc x ∧ ifs.length ≤ 1 := by
  simp only [compOk, Bool.and_eq_true, List.all_eq_true, bne_iff_ne, beq_iff_eq, Bool.or_eq_true, Bool.not_eq_true', beq_eq_false_iff_ne, decide_eq_true_eq] at h
  obtain ⟨⟨⟨⟨⟨⟨⟨⟨hset, hkind⟩, hcell⟩, hloc⟩, hlocs⟩, hfree⟩, honly⟩, hne0⟩, hil⟩ := h
  exact ⟨by rw [hset]; rfl, ⟨hkind, hcell, hloc, fun y hy e => (hlocs y hy).resolve_left fun q => q e, fun y hy e => (hfree y hy).resolve_left fun q => q e, fun y hy e => (honly y hy).resolve_right fun q => q e, hne0⟩, hil⟩

theorem sComp (T : TopOk W) (IE : SE W k cE) (IT : STr W k cE) {elt : Expr} {gens : List PySem.Comprehension} {sc : Scope} {pos : PySem.Pos} {x : RS.X} (h : stepE cE ks (.ListComp elt gens sc pos) = some x)
    (C : Cx W k ks A env ρ σ s) (hw : x (glb W k) ρ σ Q X) (hE : XH W A env σ s X E) {use : Option (Value → PySem.Sem Unit)} {Q' : Value → Shared → Prop}
    (hp : ∀ vs σ' D C' s', newP σ' (.lst vs) Q → CompAt W σ s D C' vs σ' s' → s.heap.get? D = none → s.heap.get? C' = none → D ≠ C' → PySem.compPost (model W.prog W.w) A E use Q' (.ref D) C' (.ok .next) s') (pos' : PySem.Pos) :
    wpAny (model W.prog W.w) A (PySem.comprehension (.ListComp elt gens sc pos) sc env pos' (PySem.newList []) (PySem.firstAsync gens) (PySem.firstIter gens env) use) Q' E s := by
  cases gens with
  | nil => cases h
  | cons g gs =>
  cases gs with
  | cons g' gs => cases h
  | nil =>
  obtain ⟨target, iter, ifs, isa⟩ := g
  cases target with
  | Name xn px =>
    refine oif_inv h fun hok h => ?_
    obtain ⟨h0, hok⟩ := Bool.and_eq_true_iff.mp hok
    cases of_decide_eq_true h0
    obtain ⟨hset, cs, hil⟩ := compSc_of hok
    revert hw
    refine o2_inv h fun p q hp' hq' => ?_
    revert hq'
    refine o2_inv hp' fun src x' hsrc hx' hq' => ?_
    refine o2_inv hq' fun xe xifs hxe hxifs hw => ?_
    cases nm_is hx'
    have hcl : PySem.closureFor sc env = pure (clOf env sc.names []) := clOf_is env sc fun y hy e => C.R.cells _ (by rw [C.names]; exact cs.free y hy e)
    refine PySem.wpAny_comprehension_free (g := ⟨.Name (Str.ofString x') px, iter, ifs, 0⟩) (gs := []) rfl (folded_id env hset) hcl cs.kind cs.locs ?_
    refine sSrc T IE hsrc C hw hE fun I items chk St σ₁ s₂ hit hst hσI hI hK st => ?_
    refine PySem.wpAny_newObj_type (PySem.wpAny_newFunctionEnv cs.nocell (by intro y hy; cases hy) (fun h₁ hns₁ hsb₁ => ?_) cs.kind)
    dsimp only at hns₁ hsb₁ ⊢
    generalize hH2 : s₂.heap.push { cls := .type "list", dict := none, data := .seq ([] : List Value).toArray } = H2 at hns₁ hsb₁ ⊢
    have hC : H2.objs.size = s₂.heap.objs.size + 1 := by rw [← hH2, PySem.Heap.size_push]
    have below : ∀ b o, s₂.heap.get? b = some o → b ≠ H2.objs.size ∧ b ≠ s₂.heap.objs.size := fun b o e => by
      have := PySem.Heap.lt_size e
      exact ⟨by rw [hC]; exact Nat.ne_of_lt (Nat.lt_succ_of_lt this), Nat.ne_of_lt this⟩
    have old : ∀ b o, s₂.heap.get? b = some o → h₁.get? b = some o := fun b o e => hsb₁.extBut b o (below b o e).1 (PySem.Heap.get?_push_of_some _ (hH2 ▸ PySem.Heap.get?_push_of_some _ e))
    have hDC : s₂.heap.objs.size ≠ H2.objs.size := by rw [hC]; exact Nat.ne_of_lt (Nat.lt_succ_self _)
    have hd : h₁.get? s₂.heap.objs.size = some { cls := .type "list", data := .seq #[] 0 } := hsb₁.extBut _ _ hDC (PySem.Heap.get?_push_of_some _ (hH2 ▸ PySem.Heap.get?_push_size _ rfl))
    have f2 : s₂.heap.get? H2.objs.size = none := PySem.Heap.get?_none_of_le (by rw [hC]; exact Nat.le_succ _)
    have fD := st.fresh (size_none s₂.heap)
    have fC := st.fresh f2
    have stg := st.hr.grow (h' := h₁) old s₂.toks []
    obtain ⟨oI, eI, _⟩ := hit.nt hst
    have loop : codeAny (model W.prog W.w) A (.compLoop (.ListComp elt [⟨.Name (Str.ofString x') px, iter, ifs, 0⟩] sc pos) 0 (.ref I) (.ref s₂.heap.objs.size) (PySem.compEnvC sc (clOf env sc.names []) H2.objs.size env))
        (PySem.compPost (model W.prog W.w) A E use Q' (.ref s₂.heap.objs.size) H2.objs.size) { s₂ with heap := h₁, toks := s₂.toks } :=
      compLoop_sound IE IT hxe hxifs hil C cs hE hit hI fC fD hDC (Ne.symm (below _ _ eI).2) (Ne.symm (below _ _ eI).1) (fun vs σ' s' hK at' => hp vs σ' _ _ s' hK at' fD fC hDC) _ σ₁
        ⟨st.trans stg, st.hr.fresh (size_none _), st.hr.fresh f2, ⟨Nat.zero_le _, hd, .nil, rfl⟩, _, hns₁⟩ (hit.frame _ _ _ hst (fun o e => old _ _ e) (.of old)) hσI hK
    exact PySem.codeAny_compStart_list loop (hit.self 0 _ _ _ (hit.frame _ _ _ hst (fun o e => old _ _ e) (.of old)) loop)
  | _ => cases h
end
end RS

namespace RS
open PySem (Program World Shared Addr Value Obj Heap Str Around wpAny codeAny model sizeLine PyData HeapKind DictEntry)
open PySem

section
variable {prog : Program} {w : World} {K : Type} [DecidableEq K] {knd : HeapKind prog w K} {A : Around} {E : Value → Shared → Prop} {s : Shared}

end
section
variable {prog : Program} {w : World} {K : Type} [DecidableEq K] (knd : HeapKind prog w K) (d a : Addr)
end
section
variable {W : Wd} {k : Nat} {A : Around} {E : Value → Shared → Prop} {s : Shared} {σ : Hp} {Q : VP} {P : Value → Shared → Prop}

theorem index_s {a : Addr} {vs : List V} {v : V} {x : Value} {d : PyData} {ds : List PyData} {j : Nat} (hA : Room A k) (r : HR W σ s) (ha : σ a = some (.lst vs)) (hd : snap σ 40 v = some d) (hds : optAll (snap σ 40) vs = some ds) (hj : ds.findIdx? (fun e => PyData.eqv e d) = some j) (hx : Rep W s.heap v x) (hq : Q (.int j) σ) (hP : Kt W σ s Q P) :
    wpAny (model W.prog W.w) A (PySem.call (.builtin "list.index") [.ref a, x]) P E s := by
  obtain @⟨items, n, z, e, q, l⟩ := r.lst ha
  obtain ⟨rx, cx, lx⟩ := snap_reads r 40 _ _ _ hd hx
  obtain ⟨rs, cs, _⟩ := snaps_reads (snap_reads r 40) _ _ _ hds q
  have hmap := PySem.SeqAt.readsAll_map _ _ _ cs rs
  obtain ⟨hjl, h1, h2⟩ := List.findIdx?_eq_some_iff_getElem.mp hj
  have hsz : ds.length = items.size := by rw [← hmap, List.length_map, Array.length_toList]
  have hat : ∀ m (hm : m < items.size) (hm' : m < ds.length), PySem.SeqAt.readOf s.heap items[m] = ds[m] := by
    intro m hm hm'
    have : ds[m]? = some (PySem.SeqAt.readOf s.heap items[m]) := by
      rw [← hmap, List.getElem?_map, Array.getElem?_toList, Array.getElem?_eq_getElem hm]; rfl
    rw [List.getElem?_eq_getElem hm'] at this
    exact (Option.some.inj this).symm
  refine PySem.call_meets PySem.F.slot_list_index ⟨_, e, rfl⟩ PySem.F.entry_list_index (PySem.F.args_list_index_2 _ _)
    (PySem.SeqAt.list_indexAt a items n none #[] x (fun y => PyData.eqv (PySem.SeqAt.readOf s.heap y) d) j (by lia) (by lia) (by rw [hat j (by omega) hjl]; exact h1)
      (fun m hm hlt => by rw [hat m hm (by (clear hlt lx l; lia))]; exact Bool.eq_false_iff.mpr (h2 m hlt)))
    ⟨e, PySem.SeqAt.items_eqAt rs rx cs cx (Nat.add_assoc A.units 1 _ ▸ hA.u _ (Nat.le_trans (Nat.add_le_add_left (Nat.le_trans (Nat.min_le_right _ _) lx) 1) (by decide))), hP _ _ _ _ hq (.int _ _) (r.tok _ _)⟩
end
end RS

namespace RS
open PySem (Program World Shared Addr Value Obj Heap Str Around wpAny codeAny model Scope NameKind Expr Stmt FuncData cLine recursionLimit sizeLine mainGlobals builtinsNs PyData)

section
variable {W : Wd} {k : Nat} {cE : Ks → Expr → Option RS.X} {ks : Ks} {A : Around} {E : Value → Shared → Prop} {s : Shared} {σ : Hp} {env : PySem.Env} {ρ : Env} {X : XP} {Q : VP} {P : Value → Shared → Prop}

/-! ### methods -/
theorem meth_eval {o : Expr} {m : Str} {apos pos : PySem.Pos} {args : List Expr} (hb : plainBase o = true) (hp : (apos.endLine == pos.line) = true) (hs : ∀ e ∈ args, notStar e = true) (hl : args.length ≤ 20) :
    PySem.eval (.Call (.Attribute o m apos) args [] pos) env = (do
      let ov ← PySem.eval o env
      PySem.standAt apos.atName
      let (f, first) ← PySem.holding [ov] (PySem.getMethod ov m (do return (← PySem.importBound o env).getD true))
      PySem.callWith pos f first (PySem.backTo pos (PySem.starEach args env)) []) := by
  have hbase : PySem.attributeBase o m env (PySem.eval o env) = PySem.eval o env := by cases o <;> first | rfl | cases hb
  have hform : PySem.methodCallForm (args.length + ([] : List PySem.Keyword).length) (PySem.backTo pos (PySem.starEach args env)) (PySem.backToKw pos (PySem.keywordEach [] env)) = true := by
    unfold PySem.methodCallForm
    have h1 : (PySem.backTo pos (PySem.starEach args env)).all (fun x => !x.1) = true := by
      have := stars (env := env) (pos := pos) hs
      rw [List.any_eq_false] at this
      rw [List.all_eq_true]
      intro x hx; simpa using this x hx
    rw [h1]
    simp only [PySem.keywordEach, PySem.backToKw, List.map_nil, List.all_nil, Bool.true_and, List.length_nil, List.isEmpty_nil, if_true, decide_eq_true_eq]
    lia
  show (do
    let ov ← PySem.attributeBase o m env (PySem.eval o env)
    PySem.standAt apos.atName
    PySem.methodCall o m apos pos env ov (args.length + ([] : List PySem.Keyword).length) (PySem.backTo pos (PySem.starEach args env)) (PySem.backToKw pos (PySem.keywordEach [] env))) = _
  rw [hbase]
  unfold PySem.methodCall PySem.calleeOf PySem.methodCallPos
  rw [hform]
  simp only [if_true, Bool.not_true, Bool.false_or, hp, pure_bind]
  rfl

theorem mapSeq_get {h : Heap} {a : Addr} {items : Array Value} {n : Nat} (f : Array Value → Array Value) (e : h.get? a = some { cls := .type "list", data := .seq items n }) :
    ∃ n', (h.update a (PySem.Obj.mapSeq f)).get? a = some { cls := .type "list", data := .seq (f items) n' } := ⟨_, PySem.Heap.get?_update_self _ e rfl⟩
/-- a list is changed -/
theorem lst_upd {a : Addr} {vs ws : List V} {n : Nat} {items : Array Value} (r : HR W σ s) (ha : σ a = some (.lst vs)) (e : s.heap.get? a = some { cls := .type "list", data := .seq items n }) (f : Array Value → Array Value) (hl : (f items).size ≤ 1000001) (q : Reps W s.heap ws (f items).toList) (tk : Nat) :
    Step W [] σ s (σ.set a (.lst ws)) { s with heap := s.heap.update a (PySem.Obj.mapSeq f), toks := tk } := by
  obtain ⟨n', e'⟩ := mapSeq_get f e
  have kx := (PySem.Heap.SameBut.update s.heap a (PySem.Obj.mapSeq f)).extBut
  exact r.upd ha kx (.lst hl e' (q.mono (tups_but kx ⟨_, e, notTup_type (by decide)⟩))) tk []

theorem pop_s {a : Addr} {vs : List V} {v : V} {pos : PySem.Pos} (r : HR W σ s) (ha : σ a = some (.lst vs)) (hv : vs.getLast? = some v) (hq : Q v (σ.set a (.lst vs.dropLast))) (hP : Kt W σ s Q P) :
    wpAny (model W.prog W.w) A (PySem.callWith pos (.builtin "list.pop") [.ref a] [] []) P E s := by
  obtain @⟨items, n, z, e, q, l⟩ := r.lst ha
  have hne : vs.length ≠ 0 := fun h0 => by rw [List.eq_nil_of_length_eq_zero h0] at hv; cases hv
  rw [List.getLast?_eq_getElem?, l] at hv
  obtain ⟨y, hy, ry⟩ := q.get hv
  have hlt : items.size - 1 < items.size := Nat.sub_lt (Nat.pos_of_ne_zero (l ▸ hne)) Nat.one_pos
  have ed : (items.eraseIdxIfInBounds (items.size - 1)).toList = items.toList.take (items.size - 1) := by
    unfold Array.eraseIdxIfInBounds
    rw [dif_pos hlt, Array.toList_eraseIdx, List.eraseIdx_eq_dropLast (by simp; (clear hne l z; lia)), List.dropLast_eq_take, Array.length_toList]
  have st : Step W [] σ s (σ.set a (.lst vs.dropLast)) { s with heap := s.heap.update a (PySem.Obj.mapSeq fun xs => xs.eraseIdxIfInBounds (items.size - 1)), toks := s.toks } := by
    refine lst_upd r ha e _ (Nat.le_trans ?_ z) ?_ s.toks
    · show (items.eraseIdxIfInBounds (items.size - 1)).toList.length ≤ _
      rw [ed, List.length_take]; exact Nat.min_le_right _ _
    · rw [ed, List.dropLast_eq_take, l]; exact q.take _
  exact PySem.P.pop_list e (by rwa [← Array.getElem?_toList]) (hP _ _ _ _ hq (ry.mono (st.tup0 r)) st) (fits z)
theorem clear_s {a : Addr} {vs : List V} {pos : PySem.Pos} (r : HR W σ s) (ha : σ a = some (.lst vs)) (hq : Q .none (σ.set a (.lst []))) (hP : Kt W σ s Q P) :
    wpAny (model W.prog W.w) A (PySem.callWith pos (.builtin "list.clear") [.ref a] [] []) P E s := by
  obtain ⟨z, e, q, l⟩ := r.lst ha
  exact PySem.P.clear_list e (hP _ _ _ _ hq .none (lst_upd r ha e _ (Nat.zero_le _) .nil s.toks)) (fits z)
theorem getMethod_lst {a : Addr} {vs : List V} {name : Str} {id : String} {pl : PySem.Sem Bool} {P : Value × List Value → Shared → Prop} (slot : PySem.Slot "list" name id) (hty : PySem.typeOf (.builtin id) = pure (.type "method_descriptor")) (r : HR W σ s) (ha : σ a = some (.lst vs)) (h : P (.builtin id, [.ref a]) s) :
    wpAny (model W.prog W.w) A (PySem.getMethod (.ref a) name pl) P E s := by
  obtain ⟨z, e, q, l⟩ := r.lst ha
  exact PyProof.Rows.getMethod_list_of slot hty ⟨_, e, rfl, _, rfl⟩ ⟨_, e, rfl⟩ h
theorem getMethod_dct {a : Addr} {es : List (List Int × V)} {ep : Nat} {name : Str} {id : String} {pl : PySem.Sem Bool} {P : Value × List Value → Shared → Prop} (slot : PySem.Slot "dict" name id) (hty : PySem.typeOf (.builtin id) = pure (.type "method_descriptor")) (r : HR W σ s) (ha : σ a = some (.dct es ep)) (h : P (.builtin id, [.ref a]) s) :
    wpAny (model W.prog W.w) A (PySem.getMethod (.ref a) name pl) P E s := by
  obtain ⟨z, e, D, _⟩ := r.dct ha
  exact PySem.getMethod_builtin D.typeIs PySem.F.plainAttrs_dict slot hty (PyProof.Rows.dictOfH_noDict D) h

theorem get_s {a : Addr} {es : List (List Int × V)} {ep : Nat} {i : V} {x : Value} {kk : List Int} (hA : Room A k) (hW : WOk W) (r : HR W σ s) (ha : σ a = some (.dct es ep)) (hk : i.key = some kk) (hx : Rep W s.heap i x) (hq : Q ((dget es kk).getD .none) σ) (hP : Kt W σ s Q P) :
    wpAny (model W.prog W.w) A (PySem.call (.builtin "dict.get") [.ref a, x]) P E s := by
  obtain ⟨z, e, D, d, is, n, m, q, rk, l, dl⟩ := r.dct ha
  obtain ⟨b, rfl, kb⟩ := key_tuple hk hx
  refine PySem.call_meetsIn PySem.F.slot_dict_get D.typeIs PySem.F.entry_dict_get (PySem.F.args_dict_get_2 _ _) (PySem.meetsH_dict_get (tk W) a b (r.notSys hW ha)) ⟨hA.kr, kk, _, kb, D, ?_⟩
  rcases dget_at kk m q with ⟨h1, h2⟩ | ⟨v, p, h1, h2, rv⟩
  · rw [h1] at hq; rw [h2]; exact hP _ _ _ _ hq .none (r.tok _ _)
  · rw [h1] at hq; rw [h2]; exact hP _ _ _ _ hq rv (r.tok _ _)
/-- a method of an object -/
theorem sMeth (T : TopOk W) (IE : SE W k cE) {o : Expr} {m : String} {me : Me} {apos pos : PySem.Pos} {args : List Expr} {xo : RS.X} {as : List RS.X} (hme : meStr me = m) (hb : plainBase o = true) (hpos : (apos.endLine == pos.line) = true) (hl : args.length ≤ 20) (hxo : cE ks o = some xo) (has : listX cE ks args = some as)
    (C : Cx W k ks A env ρ σ s) (hw : RS.X.meth xo me as (glb W k) ρ σ Q X) (hE : XH W A env σ s X E) (hP : Kt W σ s Q P) :
    wpAny (model W.prog W.w) A (PySem.eval (.Call (.Attribute o (Str.ofString m) apos) args [] pos) env) P E s := by
  have hst := listX_star has
  subst hme
  rw [meth_eval hb hpos hst hl]
  refine PySem.wpAny_bind (IE ks o xo hxo A env ρ σ s _ X E _ C hw hE fun v σ₁ ov s₁ hw₁ rv st => PySem.wpAny_bind (PySem.wpAny_standAt ?_))
  obtain ⟨hrecv, hw₁⟩ := hw₁
  have hP := hP.step st
  have r := st.hr
  have go := fun (id : String) (first : List Value) (hgo : ∀ vs σ₂ ys s₂, methP (glb W k) σ₂ Q X v me vs → Reps W s₂.heap vs ys → Step W [] σ₁ s₁ σ₂ s₂ → ys.length = args.length → wpAny (model W.prog W.w) A (PySem.call (.builtin id) (first ++ ys) []) P E s₂) =>
    PySem.Calls.callWith_builtin (pos := pos) (id := id) (first := first) (Q := P) (stars (env := env) (pos := pos) hst) (evalArgs_s hst (sEs IE pos args as has σ₁ s₁ _ _ (C.step st) hw₁ (hE.step st) fun vs σ₂ ys s₂ hq rs st₂ hl => hgo vs σ₂ ys s₂ hq rs st₂ hl))
  cases hrecv with
  | append ha =>
    cases rv.ref_inv
    refine PySem.wpAny_bind (PySem.wpAny_holding (getMethod_lst PySem.slot_list_append (by with_unfolding_all rfl) r ha (go _ _ fun ws σ₂ ys s₂ hq rs st₂ _ => ?_)))
    cases hq with
    | append ha' hlen hq =>
      obtain ⟨x, rfl, rx⟩ := rs.one_inv
      obtain @⟨items, nn, z, e, q, l⟩ := st₂.hr.lst ha'
      rw [l] at hlen
      refine PySem.wpAny_list_append_plain (items := items) ⟨nn, e⟩ (fun h₅ hp₅ hs₅ => ?_) (fits z)
      obtain ⟨n₅, hd₅⟩ := hp₅
      have kt := tups_but hs₅.extBut ⟨_, e, notTup_type (by decide)⟩
      refine hP _ _ _ _ hq .none (st₂.trans (st₂.hr.upd ha' hs₅.extBut (.lst ?_ hd₅ ?_) s₂.toks []))
      · rw [Array.size_push]; exact Nat.succ_le_succ hlen
      · rw [Array.toList_push]; exact (q.mono kt).append (.one (rx.mono kt))
  | pop ha =>
    cases rv.ref_inv
    refine PySem.wpAny_bind (PySem.wpAny_holding (getMethod_lst PySem.F.slot_list_pop (by with_unfolding_all rfl) r ha ?_))
    cases args with
    | nil => cases has; cases (show methP (glb W k) σ₁ Q X (.ref _) .pop [] from hw₁) with | pop ha' hu hq => exact pop_s r ha' hu hq hP
    | cons e es => exact go _ _ fun ws σ₂ ys s₂ hq rs st₂ hl => by cases hq; cases rs.nil_inv; cases hl
  | clear ha =>
    cases rv.ref_inv
    refine PySem.wpAny_bind (PySem.wpAny_holding (getMethod_lst PySem.F.slot_list_clear (by with_unfolding_all rfl) r ha ?_))
    cases args with
    | nil => cases has; cases (show methP (glb W k) σ₁ Q X (.ref _) .clear [] from hw₁) with | clear ha' hq => exact clear_s r ha' hq hP
    | cons e es => exact go _ _ fun ws σ₂ ys s₂ hq rs st₂ hl => by cases hq; cases rs.nil_inv; cases hl
  | index ha =>
    cases rv.ref_inv
    refine PySem.wpAny_bind (PySem.wpAny_holding (getMethod_lst PySem.F.slot_list_index (by with_unfolding_all rfl) r ha (go _ _ fun ws σ₂ ys s₂ hq rs st₂ _ => ?_)))
    cases hq with
    | index ha' hd hds hj hq => obtain ⟨x, rfl, rx⟩ := rs.one_inv; exact index_s C.room st₂.hr ha' hd hds hj rx hq (hP.step st₂)
  | get ha =>
    cases rv.ref_inv
    refine PySem.wpAny_bind (PySem.wpAny_holding (getMethod_dct PySem.F.slot_dict_get PySem.F.type_dict_get r ha (go _ _ fun ws σ₂ ys s₂ hq rs st₂ _ => ?_)))
    cases hq with
    | get ha' hk hq => obtain ⟨x, rfl, rx⟩ := rs.one_inv; exact get_s C.room T.toWOk st₂.hr ha' hk rx hq (hP.step st₂)
  | own ha hn hd hl' =>
    cases rv.ref_inv
    obtain ⟨C', _, hc, _⟩ := r.inst ha hd
    obtain ⟨N, mN, K⟩ := T.clsK _ C' hc
    obtain ⟨f, of, fd, hf, hfo, hfc, hfd, hfn⟩ := K.meth _ (.tail _ hn)
    refine PySem.wpAny_bind (PySem.wpAny_holding (method_s K r ha hd hl' hf hfo hfc (meth_type _ hn) ?_))
    refine PySem.Calls.callWith_function (o := of) (fd := fd) (evalArgs_s hst (sEs IE pos args as has σ₁ s₁ _ _ (C.step st) hw₁ (hE.step st) fun vs σ₂ ys s₂ hq rs st₂ _ => ?_))
    cases hq with
    | own hcl =>
      obtain ⟨fa, hfa, hcl⟩ := hcl
      obtain rfl : fa = f := Option.some.inj (hfa.symm.trans hfn)
      exact ⟨⟨st₂.hr.base _ _ hfo, hfd⟩, hcl A s₂ (.ref _ :: ys) _ _ C.room st₂.hr (.cons (.ref _) rs) ((hE.step st).step st₂) (hP.step st₂)⟩
end
end RS

namespace RS
open PySem (Program World Shared Addr Value Obj Heap Str Around wpAny codeAny model Scope NameKind Expr Stmt FuncData cLine recursionLimit sizeLine mainGlobals builtinsNs PyData)

section
variable {W : Wd} {k : Nat} {cE : Ks → Expr → Option RS.X}

theorem dput_length {K : Type} [DecidableEq K] (es : List (K × V)) (k : K) (v : V) : (dput es k v).length ≤ es.length + 1 := by
  unfold dput; split
  · rw [List.length_map]; exact Nat.le_succ _
  · rw [List.length_append]; exact Nat.le_refl _
theorem dput_map {h : Heap} {k : List Int} {v : V} {vv : Value} (hv : Rep W h v vv) : ∀ {es : List (List Int × V)} {xs : List (List Int × Addr × Value)}, es.map (·.1) = xs.map (·.1) → Reps W h (es.map (·.2)) (xs.map (·.2.2)) →
    (es.map fun e => if e.1 = k then (e.1, v) else e).map (·.1) = (xs.map (PySem.putAt k vv)).map (·.1) ∧ Reps W h ((es.map fun e => if e.1 = k then (e.1, v) else e).map (·.2)) ((xs.map (PySem.putAt k vv)).map (·.2.2)) := by
  intro es
  induction es with
  | nil => intro xs e q; cases xs with
    | nil => exact ⟨rfl, .nil⟩
    | cons _ _ => cases e
  | cons y es ih => intro xs e q; cases xs with
    | nil => cases e
    | cons x xs =>
      obtain ⟨k₁, u⟩ := y
      obtain ⟨k₂, p⟩ := x
      obtain ⟨e1, e2⟩ := List.cons.inj e
      obtain rfl : k₁ = k₂ := e1
      obtain ⟨_, _, e', r, q'⟩ := q.cons_inv
      obtain ⟨rfl, rfl⟩ := List.cons.inj e'
      obtain ⟨h1, h2⟩ := ih e2 q'
      simp only [List.map_cons]
      by_cases hk : k₁ = k
      · rw [show (if (k₁, u).1 = k then ((k₁, u).1, v) else (k₁, u)) = (k₁, v) from if_pos hk, show PySem.putAt k vv (k₁, p) = (k₁, p.1, vv) from if_pos hk, h1]
        exact ⟨rfl, .cons hv h2⟩
      · rw [show (if (k₁, u).1 = k then ((k₁, u).1, v) else (k₁, u)) = (k₁, u) from if_neg hk, show PySem.putAt k vv (k₁, p) = (k₁, p) from if_neg hk, h1]
        exact ⟨rfl, .cons r h2⟩
theorem dput_stored {h : Heap} {es : List (List Int × V)} {xs : List (List Int × Addr × Value)} (m : es.map (·.1) = xs.map (·.1)) (q : Reps W h (es.map (·.2)) (xs.map (·.2.2))) (k : List Int) (b : Addr) {v : V} {vv : Value} (hv : Rep W h v vv) :
    (dput es k v).map (·.1) = (PySem.storedH xs k b vv).map (·.1) ∧ Reps W h ((dput es k v).map (·.2)) ((PySem.storedH xs k b vv).map (·.2.2)) := by
  unfold dput PySem.storedH
  rw [dget_isSome m q k]
  split
  · exact dput_map hv m q
  · rw [List.map_append, List.map_append, List.map_append, List.map_append, m]
    exact ⟨rfl, q.append (.one hv)⟩

/-- a dict, with an entry more or another value -/
theorem stored_cell {s : Shared} {h' : Heap} {a : Addr} {es : List (List Int × V)} {xs : List (List Int × Addr × Value)} {kk : List Int} {b : Addr} {v : V} {vv : Value} (m : es.map (·.1) = xs.map (·.1)) (q : Reps W s.heap (es.map (·.2)) (xs.map (·.2.2))) (rk : ∀ x ∈ xs, Rep W s.heap (kv x.1) (.ref x.2.1)) (hl : lenOk es.length)
    (hb : Rep W s.heap (kv kk) (.ref b)) (hv : Rep W s.heap v vv) (kt : TupKeep s.heap h') (hm' : h'.DictOfH (tk W) a (PySem.storedH xs kk b vv)) : ∃ ep', CellR W h' a (.dct (dput es kk v) ep') := by
  obtain ⟨o', des', ep', ho', ⟨c1, c2, c3⟩, hd', dd, is', n'⟩ := hm'
  have ho'' : h'.get? a = some { cls := .type "dict", data := .dict des' ep' } := by
    rw [ho']; cases o'; simp only at c1 c2 c3 hd'; subst c1 c2 c3 hd'; rfl
  obtain ⟨m', q'⟩ := dput_stored m (q.mono kt) kk b (hv.mono kt)
  refine ⟨ep', .dct ?_ ho'' dd is' n' m' q' fun x hx => ?_⟩
  · have : (PySem.storedH xs kk b vv).length = (dput es kk v).length := by have := congrArg List.length m'; rw [List.length_map, List.length_map] at this; exact this.symm
    rw [this]
    exact Nat.le_trans (dput_length es kk v) (Nat.succ_le_succ hl)
  · rcases PyProof.Rows.mem_storedH hx with ⟨y, hy, e1, e2⟩ | ⟨e1, e2⟩
    · rw [e1, e2]; exact (rk y hy).mono kt
    · rw [e1, e2]; exact hb.mono kt

/-- a dict of one entry -/
theorem dict1_s (T : TopOk W) (IE : SE W k cE) {ks : Ks} {kx vx : Expr} {pos : PySem.Pos} {x : RS.X} (h : o2 RS.X.dict1 (cE ks kx) (cE ks vx) = some x) {A : Around} {env : PySem.Env} {ρ : Env} {σ : Hp} {s : Shared} {Q : VP} {X : XP} {E : Value → Shared → Prop} {P : Value → Shared → Prop} (C : Cx W k ks A env ρ σ s) :
    x (glb W k) ρ σ Q X → XH W A env σ s X E → Kt W σ s Q P → wpAny (model W.prog W.w) A (PySem.eval (.Dict [some kx] [vx] pos) env) P E s := by
  refine o2_inv h fun xk xv hk hv hw hE hP => ?_
  have hpush : ∀ b o, s.heap.get? b = some o → (s.heap.push { cls := .type "dict", data := .dict #[] }).get? b = some o := fun b o e => PySem.Heap.get?_push_of_some _ e
  have st0 := C.r.grow hpush s.toks []
  have hD : (s.heap.push { cls := .type "dict", data := .dict #[] }).get? s.heap.objs.size = some { cls := .type "dict", data := .dict #[] } := PySem.Heap.get?_push_size _ rfl
  refine PySem.wpAny_Dict_any rfl rfl (List.cons_ne_nil _ _) (by show 1 ≤ 15; decide) (PySem.pairTrees_cons_walk (IE ks kx xk hk A env ρ σ _ _ X E _ (C.step st0) hw (hE.step st0) fun i σ₁ yk s₁ hw₁ ri st₁ => IE ks vx xv hv A env ρ σ₁ s₁ _ X E _ ((C.step st0).step st₁) hw₁ ((hE.step st0).step st₁) fun v σ₂ yv s₂ hw₂ rv st₂ => PySem.pairTrees_nil_walk ?_))
  have ri := ri.mono (st₂.tup0 st₁.hr)
  have st02 := (st0.trans st₁).trans st₂
  have st12 := st₁.trans st₂
  have hσD := C.r.fresh' (σ := σ)
  have hD2 := st12.exact hD hσD List.not_mem_nil (fun q => absurd (Value.type.inj q) (by decide))
  have nD2 := st12.none_ _ _ hD hσD
  cases hw₂ with
  | dct hk' hn =>
    obtain ⟨b, rfl, kb⟩ := key_tuple hk' ri
    unfold PySem.storeAll
    rw [List.forIn_cons]
    have D0 : s₂.heap.DictOfH (tk W) s.heap.objs.size [] := ⟨_, _, _, hD2, ⟨rfl, rfl, rfl⟩, rfl, rfl, (fun _ h => by cases h), List.nodup_nil⟩
    refine PySem.wpAny_bind (PySem.wpAny_bind (PySem.wpAny_dictSet_heap (knd := tk W) (hsz := Nat.zero_le _) (C.room.u 0 (by decide)) kb D0 fun h' hm' hs' => PySem.wpAny_pure ?_))
    show wpAny _ A (forIn ([] : List (Value × Value)) PUnit.unit _) _ _ _
    rw [List.forIn_nil]
    refine PySem.wpAny_pure ?_
    have hDt : ∃ o, s₂.heap.get? s.heap.objs.size = some o ∧ ¬ isTup o := ⟨_, hD2, notTup_type (by decide)⟩
    have kt : TupKeep s₂.heap h' := tups_but hs'.extBut hDt
    obtain ⟨ep', hc⟩ := stored_cell (es := []) rfl .nil (fun _ h => by cases h) (Nat.zero_le _) (V.key_of hk' ▸ ri) rv kt hm'
    exact hP _ _ _ _ (hn ep' _ nD2) (.ref _) ((st02.over C.r (size_none _) nD2 hDt hs'.extBut _).add C.r (size_none _) hc)
  | @dci kk _ hn =>
    obtain ⟨t, rfl⟩ := ri.int_inv
    unfold PySem.storeAll
    rw [List.forIn_cons]
    have D0 : s₂.heap.DictOf (ik W) s.heap.objs.size [] := ⟨_, _, _, hD2, ⟨rfl, rfl, rfl⟩, rfl, fun e h => (Array.not_mem_empty e h).elim, .nil, List.nodup_nil⟩
    refine PySem.wpAny_bind (PySem.wpAny_bind (PySem.wpAny_dictSet_pairs (knd := ik W) (k := kk) (hsz := Nat.zero_le _) (by simp [PySem.intKind, Value.isInt]) D0 fun h' hm' hs' => PySem.wpAny_pure ?_))
    show wpAny _ A (forIn ([] : List (Value × Value)) PUnit.unit _) _ _ _
    rw [List.forIn_nil]
    refine PySem.wpAny_pure ?_
    have hDt : ∃ o, s₂.heap.get? s.heap.objs.size = some o ∧ ¬ isTup o := ⟨_, hD2, notTup_type (by decide)⟩
    have kt : TupKeep s₂.heap h' := tups_but hs'.extBut hDt
    obtain ⟨ep', hc⟩ := stored_dci (es := []) rfl .nil (Nat.zero_le _) rv kt hm'
    exact hP _ _ _ _ (hn ep' _ nD2) (.ref _) ((st02.over C.r (size_none _) nD2 hDt hs'.extBut _).add C.r (size_none _) hc)

theorem sE_step (T : TopOk W) (IE : SE W k cE) (IT : STr W k cE) : SE W k (stepE cE) := by
  intro ks e x h A env ρ σ s Q X E P C
  cases e with
  | Constant c kk pos =>
    cases c with
    | none => cases h; exact fun hw _ hP => PySem.wpAny_pure (hP _ _ _ _ hw .none (.refl C.r))
    | bool b => cases h; exact fun hw _ hP => PySem.wpAny_pure (hP _ _ _ _ hw (.bool _) (.refl C.r))
    | int i => cases h; exact fun hw _ hP => PySem.wpAny_Constant_int (hP _ _ _ _ hw (.int _ _) (C.r.tok _ _))
    | str t => exact o1_inv h fun a ha hw _ hP => by cases nm_is ha; exact fun _ _ _ => hP _ _ _ _ hw (.str _ _) (C.r.tok _ _)
    | _ => cases h
  | Name id pos =>
    refine oif_inv h fun hd h => ?_
    simp only [Bool.not_eq_true', Bool.or_eq_false_iff] at hd
    by_cases hv : isVar ks id = true
    · rw [if_pos hv] at h
      refine o1_inv h fun a ha hw _ hP => ?_
      cases nm_is ha
      obtain ⟨v, hv', hq⟩ := hw
      exact PySem.wpAny_Name (ld_var C hv hd.1.2 (by simpa using hd.2) hv' hq hP) hd.1.1
    · rw [if_neg hv] at h
      refine oif_inv h fun hg h => o1_inv h fun a ha hw _ hP => ?_
      cases nm_is ha
      obtain ⟨v, hv', hq⟩ := hw
      obtain ⟨y, hy, hr⟩ := T.globV _ _ hv'
      exact PySem.wpAny_Name (ld_glob T C hg hy (hP _ _ _ _ hq (hr _) (.refl C.r))) hd.1.1
  | BinOp l op rr pos =>
    refine o3_inv h fun o xl xr ho hl hr hw hE hP => ?_
    refine PySem.wpAny_BinOp (IE ks l xl hl A env ρ σ s _ X E _ C hw hE fun v σ₁ a s₁ hw₁ rv st => IE ks rr xr hr A env ρ σ₁ s₁ _ X E _ (C.step st) hw₁ (hE.step st) fun w σ₂ b s₂ hw₂ rw' st₂ => ?_)
    rw [opB ho]
    exact bin_sound st₂.hr (rv.mono (st₂.tup0 st.hr)) rw' hw₂ ((hP.step st).step st₂)
  | UnaryOp op a pos =>
    cases op with
    | Not =>
      refine o1_inv h fun xa ha hw hE hP => PyProof.Rows.UnaryOp_ (IE ks a xa ha A env ρ σ s _ X E _ C hw hE fun v σ₁ y s₁ hw₁ rv st => ?_)
      obtain ⟨b, hb, hq⟩ := hw₁
      exact PyProof.Rows.not_of (truthy_sound rv hb (hP _ _ _ _ hq (.bool _) st))
    | USub =>
      refine o1_inv h fun xa ha hw hE hP => PyProof.Rows.UnaryOp_ (IE ks a xa ha A env ρ σ s _ X E _ C hw hE fun v σ₁ y s₁ hw₁ rv st => ?_)
      obtain ⟨i, rfl, hq⟩ := hw₁
      obtain ⟨t, rfl⟩ := rv.int_inv
      exact PyProof.Rows.neg_int (hP _ _ _ _ hq (.int _ _) (st.trans (st.hr.tok _ _)))
    | _ => cases h
  | BoolOp op vs pos =>
    cases vs with
    | nil => cases h
    | cons v vs => cases vs with
      | nil => cases h
      | cons v' vs =>
        refine o1_inv h fun p hp hw hE hP => ?_
        have := sBop IE (op == .And) pos (v' :: vs) v p hp σ s Q P C hw hE hP
        cases op <;> exact this
  | Compare l ops cs pos =>
    cases ops with
    | nil => cases h
    | cons op ops => cases ops with
      | nil => cases cs with
        | nil => cases h
        | cons rr cs => cases cs with
          | cons _ _ => cases h
          | nil =>
            refine oif_inv h fun hset h => o2_inv h fun xl xr hl hr hw hE hP => ?_
            rw [opC op, ← opC op]
            refine PySem.wpAny_Compare1 (IE ks l xl hl A env ρ σ s _ X E _ C hw hE fun v σ₁ a s₁ hw₁ rv st => IE ks rr xr hr A env ρ σ₁ s₁ _ X E _ (C.step st) hw₁ (hE.step st) fun w σ₂ b s₂ hw₂ rw' st₂ => ?_) (beh_of hset)
            rw [opC op]
            exact cmp_sound T.toWOk C.room st₂.hr (rv.mono (st₂.tup0 st.hr)) rw' hw₂ fun b tk hb => hP _ _ _ _ hb (.bool _) ((st.trans st₂).trans (st₂.hr.tok _ _))
      | cons op2 ops => cases ops with
        | cons _ _ => cases cs with
          | nil => cases h
          | cons _ cs => cases cs with
            | nil => cases h
            | cons _ cs => cases cs <;> cases h
        | nil => cases cs with
          | nil => cases h
          | cons rr cs => cases cs with
            | nil => cases h
            | cons r2 cs => cases cs with
              | cons _ _ => cases h
              | nil =>
                refine oif_inv h fun hset h => o3_inv h fun xl xr xr2 hl hr hr2 hw hE hP => ?_
                refine PyProof.Rows.Compare_chain (rs := []) (ops := []) (IE ks l xl hl A env ρ σ s _ X E _ C hw hE fun v σ₁ a s₁ hw₁ rv st => PyProof.Rows.chain_link (IE ks rr xr hr A env ρ σ₁ s₁ _ X E _ (C.step st) hw₁ (hE.step st) fun w σ₂ b s₂ hw₂ rw' st₂ => ?_)) (beh_of hset)
                rw [opC op]
                refine cmp_sound T.toWOk C.room st₂.hr (rv.mono (st₂.tup0 st.hr)) rw' hw₂ fun c tk hc => PySem.wpAny_truthy_bool ?_
                have st3 := (st.trans st₂).trans (st₂.hr.tok tk [])
                cases c with
                | false => exact hP _ _ _ _ hc (.bool _) st3
                | true =>
                  refine PyProof.Rows.chain_last (IE ks r2 xr2 hr2 A env ρ σ₂ _ _ X E _ (C.step st3) hc (hE.step st3) fun u σ₃ b' s₃ hw₃ ru st4 => ?_)
                  rw [opC op2]
                  exact cmp_sound T.toWOk C.room st4.hr ((rw'.mono ((st₂.hr.tok tk []).tup0 st₂.hr)).mono (st4.tup0 st3.hr)) ru hw₃ fun b tk hb => hP _ _ _ _ hb (.bool _) ((st3.trans st4).trans (st4.hr.tok _ _))
  | Call f args kws pos =>
    cases f with
    | Name f p =>
      cases kws with
      | cons _ _ => cases h
      | nil =>
        refine oif_inv h fun hf h1 => ob_inv h1 fun x' hx' h2 => ob_inv h2 fun as has h3 => ?_
        clear h h1 h2
        simp only [Bool.and_eq_true, Bool.not_eq_true'] at hf
        cases nm_is hx'
        have hst := listX_star has
        unfold callX at h3
        split at h3
        · rename_i b hb
          cases h3
          intro hw hE hP
          refine PySem.wpAny_Call_NameR (PySem.wpAny_Name (ld_glob T C hf.1.2 (.inr (T.biB _ _ hb)) ?_) hf.1.1)
          have go : wpAny (model W.prog W.w) A (PySem.spliced (PySem.backTo pos (PySem.starEach args env))) (fun ys s₁ => wpAny (model W.prog W.w) A (PySem.call (biV b) ([] ++ ys) []) P E s₁) E s :=
            sEs IE pos args as has σ s _ _ C hw hE fun vs σ₁ ys s₁ hq rs st _ => bi_sound rfl T.toWOk C.room st.hr rs hq (hP.step st)
          cases b <;> first | exact PySem.Calls.callWith_builtin (stars hst) (evalArgs_s hst go) | exact PySem.callWith_type (stars hst) (evalArgs_s hst go)
        · refine oif_inv h3 fun _ h4 => ?_
          cases h4
          rintro ⟨hhas, hw⟩ hE hP
          obtain ⟨fa, hfa, hmg, hfn⟩ := T.fnF x' (of_decide_eq_true hhas)
          refine PySem.wpAny_Call_NameR (PySem.wpAny_Name (ld_glob T C hf.1.2 (.inl hmg) ?_) hf.1.1)
          rcases hfn with ⟨o, fd, ho, hd⟩ | ⟨N, mN, hcl⟩
          · refine PySem.Calls.callWith_function (o := o) (fd := fd) (evalArgs_s hst (sEs IE pos args as has σ s _ _ C hw hE fun vs σ₁ ys s₁ hq rs st _ => ?_))
            obtain ⟨fa', hfa', hc⟩ := hq
            obtain rfl := Option.some.inj (hfa.symm.trans hfa')
            exact ⟨⟨st.hr.base _ _ ho, hd⟩, hc A s₁ ys _ _ C.room st.hr rs (hE.step st) (hP.step st)⟩
          · cases args with
            | nil => cases hf.2
            | cons e es =>
              refine PyProof.Rows.callWith_cls hcl (sEs IE pos _ as has σ s _ _ C hw hE fun vs σ₁ ys s₁ hq rs st _ => ?_) (starEach_cons es env (hst e (.head _))) (stars fun e' he => hst e' (.tail _ he))
              obtain ⟨fa', hfa', hc⟩ := hq
              obtain rfl := Option.some.inj (hfa.symm.trans hfa')
              exact ⟨st.hr.base, hc A s₁ ys _ _ C.room st.hr rs (hE.step st) (hP.step st)⟩
    | Attribute o m apos =>
      cases kws with
      | cons _ _ => cases h
      | nil =>
        refine oif_inv h fun hf h1 => ob_inv h1 fun m' hm' h2 => oif_inv h2 fun hme h3 => ?_
        clear h h1 h2
        simp only [Bool.and_eq_true, decide_eq_true_eq] at hf
        cases nm_is hm'
        exact o2_inv h3 fun xo as hxo has hw hE hP => sMeth T IE (eq_of_beq hme) hf.1.1 hf.1.2 hf.2 hxo has C hw hE hP
    | _ => cases kws <;> cases h
  | Subscript v sl pos =>
    have idx : o2 RS.X.idx (cE ks v) (cE ks sl) = some x → x (glb W k) ρ σ Q X → XH W A env σ s X E → Kt W σ s Q P → wpAny (model W.prog W.w) A (PySem.eval (.Subscript v sl pos) env) P E s := fun h =>
      o2_inv h fun xv xi hv hi hw hE hP => PyProof.Rows.Subscript_ (IE ks v xv hv A env ρ σ s _ X E _ C hw hE fun o σ₁ a s₁ hw₁ rv st => IE ks sl xi hi A env ρ σ₁ s₁ _ X E _ (C.step st) hw₁ (hE.step st) fun w σ₂ b s₂ hw₂ rw' st₂ =>
        idx_sound rfl T.toWOk C.room st₂.hr (rv.mono (st₂.tup0 st.hr)) rw' hw₂ ((hP.step st).step st₂) (subs_any _ _ _))
    cases sl with
    | Slice l u step p =>
      cases step with
      | some e =>
        cases l with
        | some _ => cases h
        | none => cases u with
          | some _ => cases h
          | none =>
            refine o2_inv h fun xv xe hv he hw hE hP => ?_
            refine PyProof.Rows.Subscript_ (IE ks v xv hv A env ρ σ s _ X E _ C hw hE fun o σ₁ a s₁ hw₁ rv st => PySem.wpAny_Slice (PySem.wpAny_pure (PySem.wpAny_pure (IE ks e xe he A env ρ σ₁ s₁ _ X E _ (C.step st) hw₁ (hE.step st) fun w σ₂ b s₂ hw₂ rw' st₂ => ?_))))
            exact rev_sound st₂.hr (rv.mono (st₂.tup0 st.hr)) rw' hw₂ ((hP.step st).step st₂) fun y => subs_any _ _ _
      | none =>
        refine o3_inv h fun xv xl xu hv hl hu hw hE hP => ?_
        have part : ∀ (o : Option Expr) (x : RS.X) (σ : Hp) (s : Shared) (Q : VP) (P : Value → Shared → Prop), optX cE ks o = some x → Cx W k ks A env ρ σ s → x (glb W k) ρ σ Q X → XH W A env σ s X E → Kt W σ s Q P → wpAny (model W.prog W.w) A (PySem.evalPart o env) P E s := by
          intro o x σ s Q P h C hw hE hP
          cases o with
          | none => cases h; exact PySem.wpAny_pure (hP _ _ _ _ hw .none (.refl C.r))
          | some e => exact IE ks e x h A env ρ σ s Q X E P C hw hE hP
        refine PyProof.Rows.Subscript_ (IE ks v xv hv A env ρ σ s _ X E _ C hw hE fun o σ₁ a s₁ hw₁ rv st => PySem.wpAny_Slice (part l xl σ₁ s₁ _ _ hl (C.step st) hw₁ (hE.step st) fun vl σ₂ yl s₂ hw₂ rl st₂ =>
          part u xu σ₂ s₂ _ _ hu ((C.step st).step st₂) hw₂ ((hE.step st).step st₂) fun vu σ₃ yu s₃ hw₃ ru st₃ => PySem.wpAny_pure ?_))
        have k3 := st₃.tup0 st₂.hr
        exact slice_sound rfl T.toWOk st₃.hr ((rv.mono (st₂.tup0 st.hr)).mono k3) (rl.mono k3) ru hw₃ (((hP.step st).step st₂).step st₃) fun y => subs_any _ _ _
    | _ => exact idx h
  | Attribute o a pos =>
    refine oif_inv h fun hb h => o2_inv h fun xo a' ho ha hw hE hP => ?_
    cases nm_is ha
    obtain ⟨hn, hw⟩ := hw
    refine PyProof.Rows.Attribute_any_ (IE ks o xo ho A env ρ σ s _ X E _ C hw hE fun v σ₁ ov s₁ hw₁ rv st => ?_) (by cases o <;> first | rfl | cases hb)
    cases hw₁ with
    | mk h1 h2 h3 hq =>
      cases rv.ref_inv
      obtain ⟨C', _, hc, _⟩ := st.hr.inst h1 h2
      obtain ⟨N, mN, K⟩ := T.clsK _ C' hc
      exact getattr_s K st.hr h1 h2 h3 (K.attr _ hn) (attr_type _ hn) hq (hP.step st)
  | Tuple es kk pos =>
    refine oif_inv h fun hl h => o1_inv h fun xs hxs hw hE hP => PyProof.Rows.Tuple_ (sEs IE pos es xs hxs σ s _ _ C hw hE fun vs σ₁ ys s₁ hq rs st hl' => ?_)
    have hz : ys.length ≤ 1000001 := by rw [hl']; exact Nat.le_trans (of_decide_eq_true hl) (by decide)
    exact PySem.wpAny_newObj_type (newTuple_s st.hr hz rs hq s₁.toks (hP.step st)) (fits hz)
  | List es pos =>
    refine oif_inv h fun hl h => o1_inv h fun xs hxs hw hE hP => PyProof.Rows.List_ (sEs IE pos es xs hxs σ s _ _ C hw hE fun vs σ₁ ys s₁ hq rs st hl' => ?_)
    have hz : ys.length ≤ 1000001 := by rw [hl']; exact Nat.le_trans (of_decide_eq_true hl) (by decide)
    exact PySem.wpAny_newObj_type (newList_s st.hr hz rs hq s₁.toks (hP.step st)) (fits hz)
  | Dict keys vals pos =>
    cases keys with
    | nil => cases vals with
      | cons _ _ => cases h
      | nil =>
        cases h
        intro hw hE hP
        refine PySem.wpAny_Dict_empty ?_
        rcases hw with hw | hw
        · exact hP _ _ _ _ (hw _ C.r.fresh') (.ref _) (C.r.new (size_none _) (fun b o e => PySem.Heap.get?_push_of_some _ e) (.dct (es := []) (xs := []) (des := #[]) (Nat.zero_le _) (PySem.Heap.get?_push_size _ rfl) rfl (fun _ h => by cases h) List.nodup_nil rfl .nil (fun _ h => by cases h)) s.toks)
        · exact hP _ _ _ _ (hw _ C.r.fresh') (.ref _) (C.r.new (size_none _) (fun b o e => PySem.Heap.get?_push_of_some _ e) (.dci (es := []) (xs := []) (des := #[]) (Nat.zero_le _) (PySem.Heap.get?_push_size _ rfl) (fun e h => (Array.not_mem_empty e h).elim) .nil List.nodup_nil rfl .nil) s.toks)
    | cons kx keys =>
      cases kx with
      | none => cases keys <;> cases vals <;> cases h
      | some kx => cases keys with
        | cons _ _ => cases vals <;> cases h
        | nil => cases vals with
          | nil => cases h
          | cons vx vals => cases vals with
            | cons _ _ => cases h
            | nil => exact dict1_s T IE h C
  | ListComp elt gens sc pos =>
    intro hw hE hP
    rw [PySem.eval_ListComp]
    refine sComp T IE IT h C hw hE (fun vs σ' D C' s' hK at' fD fC hDC => ?_) _
    obtain ⟨m, hns⟩ := at'.ns
    refine ⟨m, hns, fun h' hs => ?_⟩
    have st' := at'.g.over C.r fC at'.nC (ns_notTup hns) hs.extBut s'.toks
    obtain ⟨z, e, q, l⟩ := at'.d.but hs.extBut (ns_notTup hns) hDC
    exact hP _ _ _ _ (hK D at'.nD) (.ref D) (st'.add C.r fD (.lst z e q))
  | _ => cases h
end
end RS

namespace RS
open PySem (Program World Shared Addr Value Obj Heap Str Around wpAny codeAny model Scope NameKind Expr Stmt FuncData cLine recursionLimit sizeLine mainGlobals builtinsNs PyData)

section
variable {W : Wd} {k : Nat} {cE : Ks → Expr → Option RS.X}

theorem sT_step (T : TopOk W) (IE : SE W k cE) (IT : STr W k cE) (IE' : SE W k (stepE cE)) : STr W k (stepE cE) := by
  intro ks e x h A env ρ σ s Q X E P C
  have plain : (PySem.isTrue e env (PySem.eval e env) = (do let v ← PySem.eval e env; PySem.standAt e.pos; PySem.holding [v] (PySem.truthy v))) → x (glb W k) ρ σ Q X → XH W A env σ s X E → (∀ v σ', Q v σ' → (truth v).isSome = true) →
      (∀ v b σ' s', Q v σ' → truth v = some b → Step W [] σ s σ' s' → P b s') → wpAny (model W.prog W.w) A (PySem.isTrue e env (PySem.eval e env)) P E s := fun he hw hE hT hP => by
    refine PyProof.Rows.isTrue_plain (IE' ks e x h A env ρ σ s Q X E _ C hw hE fun v σ₁ y s₁ hq rv st => ?_) he
    obtain ⟨b, hb⟩ := Option.isSome_iff_exists.mp (hT v σ₁ hq)
    exact truthy_sound rv hb (hP v b σ₁ s₁ hq hb st)
  cases e with
  | UnaryOp op a pos =>
    cases op with
    | Not =>
      clear plain
      refine o1_inv h fun xa ha hw hE hT hP => PyProof.Rows.isTrue_not (IT ks a xa ha A env ρ σ s _ X E _ C hw hE (fun v σ' ⟨b, hb, _⟩ => by rw [hb]; rfl) fun v c σ₁ s₁ hw₁ hc st => ?_)
      obtain ⟨b, hb, hq⟩ := hw₁
      obtain rfl : b = c := Option.some.inj (hb.symm.trans hc)
      exact hP _ _ _ _ hq rfl st
    | _ => exact plain rfl
  | BoolOp op vs pos =>
    clear plain
    cases vs with
    | nil => cases h
    | cons v vs => cases vs with
      | nil => cases h
      | cons v' vs =>
        refine o1_inv h fun p hp hw hE hT hP => ?_
        have := sBopT IT (op == .And) pos (PySem.eval (.BoolOp op (v :: v' :: vs) pos) env) (v' :: vs) v p hp σ s Q P C hw hE hT hP
        cases op <;> exact this
  | Compare l ops cs pos =>
    clear plain
    cases ops with
    | nil => cases h
    | cons op ops => cases ops with
      | nil => cases cs with
        | nil => cases h
        | cons rr cs => cases cs with
          | cons _ _ => cases h
          | nil =>
            refine oif_inv h fun hset h => o2_inv h fun xl xr hl hr hw hE hT hP => ?_
            rw [PySem.isTrue_Compare1]
            have hm : PySem.markedBehindIn op rr (PySem.eval rr env) = PySem.eval rr env := by unfold PySem.markedBehindIn; rw [beh_of hset]
            rw [hm]
            refine PySem.wpAny_bind (IE ks l xl hl A env ρ σ s _ X E _ C hw hE fun v σ₁ a s₁ hw₁ rv st => PySem.wpAny_bind (PySem.wpAny_holding (IE ks rr xr hr A env ρ σ₁ s₁ _ X E _ (C.step st) hw₁ (hE.step st) fun w σ₂ b s₂ hw₂ rw' st₂ =>
              PySem.wpAny_bind (PySem.wpAny_standAt (PySem.wpAny_bind (PyProof.Rows.wpAny_operate' ?_))))))
            rw [opC op]
            exact cmp_sound T.toWOk C.room st₂.hr (rv.mono (st₂.tup0 st.hr)) rw' hw₂ fun b tk hb => PySem.wpAny_holding (PySem.wpAny_truthy_bool (hP _ _ _ _ hb rfl ((st.trans st₂).trans (st₂.hr.tok _ _))))
      | cons op2 ops => cases ops with
        | cons _ _ => cases cs with
          | nil => cases h
          | cons _ cs => cases cs with
            | nil => cases h
            | cons _ cs => cases cs <;> cases h
        | nil => cases cs with
          | nil => cases h
          | cons rr cs => cases cs with
            | nil => cases h
            | cons r2 cs => cases cs with
              | cons _ _ => cases h
              | nil =>
                refine oif_inv h fun hset h => o3_inv h fun xl xr xr2 hl hr hr2 hw hE hT hP => ?_
                refine PyProof.Rows.isTrue_chain (rs := []) (ops := []) (IE ks l xl hl A env ρ σ s _ X E _ C hw hE fun v σ₁ a s₁ hw₁ rv st => PyProof.Rows.test_link (IE ks rr xr hr A env ρ σ₁ s₁ _ X E _ (C.step st) hw₁ (hE.step st) fun w σ₂ b s₂ hw₂ rw' st₂ => ?_)) (beh_of hset)
                rw [opC op]
                refine cmp_sound T.toWOk C.room st₂.hr (rv.mono (st₂.tup0 st.hr)) rw' hw₂ fun c tk hc => PySem.wpAny_truthy_bool ?_
                have st3 := (st.trans st₂).trans (st₂.hr.tok tk [])
                cases c with
                | false => exact hP _ _ _ _ hc rfl st3
                | true =>
                  refine PyProof.Rows.test_last (IE ks r2 xr2 hr2 A env ρ σ₂ _ _ X E _ (C.step st3) hc (hE.step st3) fun u σ₃ b' s₃ hw₃ ru st4 => ?_)
                  rw [opC op2]
                  exact cmp_sound T.toWOk C.room st4.hr ((rw'.mono ((st₂.hr.tok tk []).tup0 st₂.hr)).mono (st4.tup0 st3.hr)) ru hw₃ fun b tk hb => PySem.wpAny_truthy_bool (hP _ _ _ _ hb rfl ((st3.trans st4).trans (st4.hr.tok _ _)))
  | IfExp a b c pos => cases h
  | _ => exact plain rfl

theorem sBoth (T : TopOk W) (n : Nat) : SE W k (compE n) ∧ STr W k (compE n) := by
  induction n with
  | zero => exact ⟨fun _ _ _ h => (by cases h), fun _ _ _ h => (by cases h)⟩
  | succ n ih => exact ⟨sE_step T ih.1 ih.2, sT_step T ih.1 ih.2 (sE_step T ih.1 ih.2)⟩

/-! ### frames -/
noncomputable def ownOf (env : PySem.Env) : List Addr := env.locals :: env.cells.filterMap fun x => env.cells.lookup x.1

structure EnvW (W : Wd) (env : PySem.Env) (ρ : Env) (σ : Hp) (s : Shared) : Prop extends EnvR W env ρ σ s.heap where
  ns : ∃ m, s.heap.Ns env.locals m
  cel : ∀ X c, env.cells.lookup X = some c → ∃ v, s.heap.IsCell c v
  own : ∀ b ∈ ownOf env, σ b = none ∧ W.s₀.heap.get? b = none ∧ ∃ o, s.heap.get? b = some o ∧ ¬ isTup o
  apart : ∀ X Y c, env.cells.lookup X = some c → env.cells.lookup Y = some c → X = Y
  neL : ∀ X c, env.cells.lookup X = some c → c ≠ env.locals

section
variable {env : PySem.Env} {ρ : Env} {σ σ' : Hp} {s s' : Shared}
theorem lookup_own {X : Str} {c : Addr} (h : env.cells.lookup X = some c) : c ∈ ownOf env :=
  List.mem_cons_of_mem _ (List.mem_filterMap.mpr ⟨_, PySem.mem_of_lookup h, h⟩)
theorem locals_own : env.locals ∈ ownOf env := List.mem_cons_self
theorem EnvW.owned (x : EnvW W env ρ σ s) : Own (ownOf env) s.heap := fun b hb => (x.own b hb).2.2
theorem EnvW.step (x : EnvW W env ρ σ s) (r : HR W σ s) (st : Step W [] σ s σ' s') : EnvW W env ρ σ' s' where
  toEnvR := x.toEnvR.step r st
  ns := let ⟨m, hn⟩ := x.ns; ⟨m, st.ns hn (x.own _ locals_own).1 List.not_mem_nil⟩
  cel X c h := let ⟨v, hn⟩ := x.cel X c h; ⟨v, st.cell hn (x.own _ (lookup_own h)).1 List.not_mem_nil⟩
  own b hb := by
    obtain ⟨h1, h2, o, ho, hn⟩ := x.own b hb
    obtain ⟨o', ho', hn'⟩ := st.live b o ho
    exact ⟨st.none_ b o ho h1, h2, o', ho', hn' hn⟩
  apart := x.apart
  neL := x.neL
/-- the heap's own names at a place are but one map -/
theorem ns_fun {h : Heap} {a : Addr} {m m' : Str → Option Value} (x : h.Ns a m) (y : h.Ns a m') : m = m' := by
  obtain ⟨o, es, ep, ho, hd, _, hm⟩ := x
  obtain ⟨o', es', ep', ho', hd', _, hm'⟩ := y
  rw [ho] at ho'; cases ho'
  rw [hd] at hd'; cases hd'
  funext z; rw [← hm, ← hm']
theorem cell_notTup {h : Heap} {c : Addr} {v : Option Value} (x : h.IsCell c v) : ∃ o, h.get? c = some o ∧ ¬ isTup o := by
  obtain ⟨o, ho, hd⟩ := x
  exact ⟨o, ho, fun ⟨_, _, _, q⟩ => PySem.Data.noConfusion (hd.symm.trans q)⟩
theorem cell_but {h h' : Heap} {C I : Addr} {v : Option Value} (hn : h.IsCell C v) (k : PySem.Heap.ExtBut I h h') (ne : C ≠ I) : h'.IsCell C v := let ⟨o, ho, q⟩ := hn; ⟨o, k _ _ ne ho, q⟩

/-- one object is changed: none of the frame's own, or one of them with its names told anew -/
theorem EnvW.but {ρ' : Env} {I : Addr} {h' : Heap} (R : EnvW W env ρ σ s) (kx : PySem.Heap.ExtBut I s.heap h') (hI : ∃ o, s.heap.get? I = some o ∧ ¬ isTup o) (hI' : I ∈ ownOf env → ∃ o, h'.get? I = some o ∧ ¬ isTup o)
    (hns : ∃ m, h'.Ns env.locals m) (hcel : ∀ X c, env.cells.lookup X = some c → c = I → ∃ v, h'.IsCell c v)
    (hvar : ∀ x v, ρ' x = some v → Str.ofString x ≠ ".0" → VarAt W env σ h' (Str.ofString x) v) (tk : Nat) : EnvW W env ρ' σ { s with heap := h', toks := tk } where
  kind := R.kind
  glob := R.glob
  blt := R.blt
  cells := R.cells
  var := hvar
  ns := hns
  cel X c hX := by
    by_cases hc : c = I
    · exact hcel X c hX hc
    · obtain ⟨v, hv⟩ := R.cel X c hX; exact ⟨v, cell_but hv kx hc⟩
  own b hb := by
    obtain ⟨h1, h2, o, ho, hn⟩ := R.own b hb
    by_cases hbI : b = I
    · subst hbI; exact ⟨h1, h2, hI' hb⟩
    · exact ⟨h1, h2, o, kx _ _ hbI ho, hn⟩
  apart := R.apart
  neL := R.neL
theorem EnvW.ext {I : Addr} {h' : Heap} (R : EnvW W env ρ σ s) (kx : PySem.Heap.ExtBut I s.heap h') (hI : ∃ o, s.heap.get? I = some o ∧ ¬ isTup o) (hne : I ∉ ownOf env) (tk : Nat) : EnvW W env ρ σ { s with heap := h', toks := tk } := by
  have kt := tups_but kx hI
  have neL : env.locals ≠ I := fun q => hne (q ▸ locals_own)
  refine R.but kx hI (fun h => absurd h hne) (let ⟨m, hm⟩ := R.ns; ⟨m, ns_but hm kx neL⟩) (fun X c hX hc => absurd (hc ▸ lookup_own hX) hne) (fun x v hx h0 => ⟨fun hl => ?_, fun hc => ?_⟩) tk
  · obtain ⟨m, y, hn, hm, hr, hs⟩ := (R.var x v hx h0).1 hl
    exact ⟨m, y, ns_but hn kx neL, hm, hr.mono kt, hs⟩
  · obtain ⟨c, y, hl, hn, hr, hs⟩ := (R.var x v hx h0).2 hc
    exact ⟨c, y, hl, cell_but hn kx (fun q => hne (q ▸ lookup_own hl)), hr.mono kt, hs⟩

/-- a name of the frame's own is stored -/
theorem store_sound {A : Around} {E : Value → Shared → Prop} {x : String} {u : V} {y : Value} {P : Unit → Shared → Prop} (R : EnvW W env ρ σ s) (r : HR W σ s) (hx : isOwn env.scope.names (Str.ofString x) = true) (hu : Rep W s.heap u y)
    (h : ∀ s', EnvW W env (ρ.set x u) σ s' → Step W (ownOf env) σ s σ s' → TupKeep s.heap s'.heap → P () s') : wpAny (model W.prog W.w) A (PySem.storeName env (Str.ofString x) y) P E s := by
  cases hk : env.scope.names.lookup (Str.ofString x) with
  | none => unfold isOwn at hx; rw [hk] at hx; cases hx
  | some kd =>
    cases kd with
    | «local» =>
      obtain ⟨m, hm⟩ := R.ns
      refine PySem.wpAny_storeName_local hk hm (fun h' hn hs => ?_) (by rw [R.kind]; rfl)
      obtain ⟨hσ, hb, oL, eL, nL⟩ := R.own _ locals_own
      have kx := hs.extBut
      have kt := tups_but kx ⟨oL, eL, nL⟩
      obtain ⟨o', eo', no'⟩ := ns_notTup hn
      refine h _ (R.but kx ⟨oL, eL, nL⟩ (fun _ => ⟨o', eo', no'⟩) ⟨_, hn⟩ (fun X c hX hc => absurd hc (R.neL X c hX)) (fun z v hz h0 => ⟨fun hl => ?_, fun hc => ?_⟩) _) (r.mine locals_own R.owned hσ hb kx eo' no' _) kt
      · by_cases hzx : z = x
        · subst hzx
          rw [Env.set_same] at hz; cases hz
          exact ⟨_, y, hn, if_pos rfl, hu.mono kt, hσ⟩
        · rw [Env.set_ne _ _ hzx] at hz
          obtain ⟨m', y', hn', hm', hr', _⟩ := (R.var z v hz h0).1 hl
          have := ns_fun hm hn'; subst this
          exact ⟨_, y', hn, (if_neg fun e => hzx (Str.ofString_inj e)).trans hm', hr'.mono kt, hσ⟩
      · have hzx : z ≠ x := fun e => by subst e; rw [hk] at hc; rcases hc with hc | hc <;> cases hc
        rw [Env.set_ne _ _ hzx] at hz
        obtain ⟨c, y', hl, hn', hr', hs'⟩ := (R.var z v hz h0).2 hc
        exact ⟨c, y', hl, cell_but hn' kx (R.neL _ _ hl), hr'.mono kt, hs'⟩
    | cell =>
      obtain ⟨c, hc⟩ := R.cells _ hk
      obtain ⟨v, hv⟩ := R.cel _ _ hc
      refine PySem.wpAny_storeName_cell R.kind hk hc hv fun h' hn hs => ?_
      have hL : c ∈ ownOf env := lookup_own hc
      obtain ⟨hσ, hb, oL, eL, nL⟩ := R.own _ hL
      have kx := hs.extBut
      have kt := tups_but kx ⟨oL, eL, nL⟩
      obtain ⟨o', eo', no'⟩ := cell_notTup hn
      have hcL : env.locals ≠ c := fun e => R.neL _ _ hc e.symm
      refine h _ (R.but kx ⟨oL, eL, nL⟩ (fun _ => ⟨o', eo', no'⟩) (let ⟨m, hm⟩ := R.ns; ⟨m, ns_but hm kx hcL⟩) (fun X c' hX e => by subst e; exact ⟨_, hn⟩) (fun z v hz h0 => ⟨fun hl => ?_, fun hc' => ?_⟩) s.toks) (r.mine hL R.owned hσ hb kx eo' no' s.toks) kt
      · have hzx : z ≠ x := fun e => by subst e; rw [hk] at hl; cases hl
        rw [Env.set_ne _ _ hzx] at hz
        obtain ⟨m', y', hn', hm', hr', hs'⟩ := (R.var z v hz h0).1 hl
        exact ⟨m', y', ns_but hn' kx hcL, hm', hr'.mono kt, hs'⟩
      · by_cases hzx : z = x
        · subst hzx
          rw [Env.set_same] at hz; cases hz
          exact ⟨c, y, hc, hn, hu.mono kt, hσ⟩
        · rw [Env.set_ne _ _ hzx] at hz
          obtain ⟨c', y', hl, hn', hr', hs'⟩ := (R.var z v hz h0).2 hc'
          have hcc : c' ≠ c := fun e => hzx (Str.ofString_inj (R.apart _ _ _ (e ▸ hl) hc))
          exact ⟨c', y', hl, cell_but hn' kx hcc, hr'.mono kt, hs'⟩
    | _ => unfold isOwn at hx; rw [hk] at hx; cases hx
end
end
end RS

namespace RS
open PySem (Program World Shared Addr Value Obj Heap Str Around wpAny codeAny model Scope NameKind Expr Stmt FuncData cLine recursionLimit sizeLine mainGlobals builtinsNs PyData)

/-- the place at which a statement is read -/
structure CW (W : Wd) (k : Nat) (ks : Ks) (A : Around) (env : PySem.Env) (ρ : Env) (σ : Hp) (s : Shared) : Prop where
  room : Room A k
  names : env.scope.names = ks
  R : EnvW W env ρ σ s
  r : HR W σ s
/-- its exceptions -/
noncomputable def XHS (_W : Wd) (_A : Around) (_env : PySem.Env) (_σ : Hp) (_s : Shared) (X : XPS) (_E : Value → Shared → Prop) : Prop := ∀ c ρ σ', ¬ X c ρ σ'
/-- what comes behind a statement -/
structure KS (W : Wd) (env : PySem.Env) (σ : Hp) (s : Shared) (N : NP) (Rt : VP) (P : PySem.Flow → Shared → Prop) : Prop where
  next : ∀ ρ' σ' s', N ρ' σ' → EnvW W env ρ' σ' s' → Step W (ownOf env) σ s σ' s' → P .next s'
  ret : ∀ u v σ' s', Rt u σ' → Rep W s'.heap u v → Step W (ownOf env) σ s σ' s' → P (.ret v) s'

section
variable {W : Wd} {k : Nat} {ks : Ks} {A : Around} {E : Value → Shared → Prop} {s s' : Shared} {σ σ' : Hp} {env : PySem.Env} {ρ : Env} {X : XPS} {N : NP} {Rt : VP} {P : PySem.Flow → Shared → Prop}
theorem CW.cx (C : CW W k ks A env ρ σ s) : Cx W k ks A env ρ σ s := ⟨C.room, C.names, C.R.toEnvR, C.r⟩
theorem CW.step (C : CW W k ks A env ρ σ s) (st : Step W [] σ s σ' s') : CW W k ks A env ρ σ' s' := ⟨C.room, C.names, C.R.step C.r st, st.hr⟩
theorem CW.to {ρ' : Env} (C : CW W k ks A env ρ σ s) (R : EnvW W env ρ' σ' s') (st : Step W (ownOf env) σ s σ' s') : CW W k ks A env ρ' σ' s' := ⟨C.room, C.names, R, st.hr⟩
theorem XHS.step (h : XHS W A env σ s X E) (_ : Step W (ownOf env) σ s σ' s') : XHS W A env σ' s' X E := h
theorem XHS.ex (h : XHS W A env σ s X E) (ρ : Env) : XH W A env σ s (fun c σ' => X c ρ σ') E := fun c σ' => h c ρ σ'
theorem XHS.own {E' : Value → Shared → Prop} (h : XHS W A env σ s X E) : XHS W A env σ s X E' := h
theorem KS.step (h : KS W env σ s N Rt P) (st : Step W (ownOf env) σ s σ' s') : KS W env σ' s' N Rt P :=
  ⟨fun ρ' τ s'' hN R g => h.next ρ' τ s'' hN R (st.trans g), fun u v τ s'' hR hr g => h.ret u v τ s'' hR hr (st.trans g)⟩
end

noncomputable def SS (W : Wd) (k : Nat) (cS : Ks → Stmt → Option S) : Prop := ∀ ks st x, cS ks st = some x → ∀ A env ρ σ s N Rt X E P, CW W k ks A env ρ σ s → x (glb W k) ρ σ N Rt X → XHS W A env σ s X E → KS W env σ s N Rt P → wpAny (model W.prog W.w) A (PySem.exec st env) P E s

section
variable {W : Wd} {k : Nat} {cS : Ks → Stmt → Option S} {ks : Ks} {A : Around} {env : PySem.Env} {X : XPS}

theorem sSs (IS : SS W k cS) {Rt : VP} {E : Value → Shared → Prop} : ∀ (ss : List Stmt) (xs : List S), optAll (cS ks) ss = some xs → ∀ ρ σ s N P, CW W k ks A env ρ σ s → wpSs xs (glb W k) ρ σ N Rt X → XHS W A env σ s X E → KS W env σ s N Rt P → wpAny (model W.prog W.w) A (PySem.execs ss env) P E s := by
  intro ss
  induction ss with
  | nil => intro xs h ρ σ s N P C hw hX hP; cases h; exact PySem.wpAny_execs_nil (hP.next _ _ _ hw C.R (.refl C.r))
  | cons st ss ih =>
    intro xs h ρ σ s N P C hw hX hP
    obtain ⟨x, xs', hx, hxs, rfl⟩ := optAll_cons h
    refine PySem.wpAny_execs_cons (IS ks st x hx A env ρ σ s _ Rt X E _ C hw hX ⟨fun ρ₁ σ₁ s₁ hw₁ R₁ g => ?_, fun u v σ₁ s₁ hR hr g => hP.ret u v σ₁ s₁ hR hr g⟩)
    exact ih xs' hxs ρ₁ σ₁ s₁ N P (C.to R₁ g) hw₁ (hX.step g) (hP.step g)

theorem CW.noOwn {ρ : Env} {σ : Hp} {s : Shared} (C : CW W k ks A env ρ σ s) {b : Addr} (hb : s.heap.get? b = none) : b ∉ ownOf env := fun q => by obtain ⟨_, _, o, ho, _⟩ := C.R.own b q; exact absurd (ho.symm.trans hb) (Option.some_ne_none _)

/-- in the midst of a loop -/
structure ForAt (W : Wd) (k : Nat) (ks : Ks) (A : Around) (env : PySem.Env) (σ : Hp) (s : Shared) (I : Addr) (St : Nat → Heap → Prop) (i : Nat) (ρ' : Env) (σ' : Hp) (s' : Shared) : Prop where
  c : CW W k ks A env ρ' σ' s'
  g : Step W (ownOf env) σ s σ' s'
  st : St i s'.heap
  nI : σ' I = none

theorem for_sound (IS : SS W k cS) {x : String} {px : PySem.Pos} {body : List Stmt} {xb : List S} {ρ : Env} {σ : Hp} {s s₂ : Shared} {N : NP} {Rt : VP} {σ₁ : Hp} {I : Addr} {items : List V} {chk : Hp → Prop} {St : Nat → Heap → Prop} {E : Value → Shared → Prop} {P : PySem.Flow → Shared → Prop}
    (hcb : optAll (cS ks) body = some xb) (hx : isOwn ks (Str.ofString x) = true) (C : CW W k ks A env ρ σ s) (hX : XHS W A env σ s X E)
    (hit : Iter W A I items chk St) (hst : St 0 s₂.heap) (hσI : σ₁ I = none) (hI : s.heap.get? I = none) (st : Step W [] σ s σ₁ s₂) (hP : KS W env σ s N Rt P)
    (hw : forL (fun v ρ₁ σ₂ N' => wpSs xb (glb W k) (ρ₁.set x v) σ₂ N' Rt X) chk items ρ σ₁ N) :
    codeAny (model W.prog W.w) A (.forLoop (.Name (Str.ofString x) px) (.ref I) body [] env) (fun rr s' => match rr with | .ok f => P f s' | .error e => PySem.cameBackBy (model W.prog W.w) A env E e s') s₂ := by
  have hne : I ∉ ownOf env := C.noOwn hI
  refine PySem.codeAny_forLoop_any (fun q s' => ∃ i ρ' σ', q + i = items.length ∧ ForAt W k ks A env σ s I St i ρ' σ' s' ∧ forL (fun v ρ₁ σ₂ N' => wpSs xb (glb W k) (ρ₁.set x v) σ₂ N' Rt X) chk (items.drop i) ρ' σ' N) ?_ items.length
    ⟨0, ρ, σ₁, rfl, ⟨C.step st, st.weak, hst, hσI⟩, hw⟩
  rintro q s' ⟨i, ρ', σ', hqi, at', hw⟩
  have hIt := hit.nt at'.st
  cases hdr : items.drop i with
  | nil =>
    rw [hdr] at hw
    obtain ⟨hchk, hN⟩ := hw
    have hil' : i = items.length := Nat.le_antisymm (hqi ▸ Nat.le_add_left _ _) (List.drop_eq_nil_iff.mp hdr)
    subst hil'
    exact hit.done s' σ' _ _ at'.st at'.g.hr hchk fun h' tk kx => PySem.wpAny_execs_nil (hP.next _ _ _ hN (at'.c.R.ext kx hIt hne tk) (at'.g.over C.r hI at'.nI hIt kx tk))
  | cons v vs =>
    rw [hdr] at hw
    obtain ⟨hchk, hw⟩ := hw
    have hv : items[i]? = some v := by rw [← List.head?_drop, hdr]; rfl
    have hlt : i < items.length := (List.getElem?_eq_some_iff.mp hv).1
    have hdr' : items.drop (i + 1) = vs := by rw [← List.tail_drop, hdr]; rfl
    obtain ⟨q, rfl⟩ : ∃ q', q = q' + 1 := ⟨q - 1, by lia⟩
    refine hit.item i s' σ' v _ _ hv at'.st at'.g.hr hchk fun xv h₁ tk₁ rx hst₁ kx => ?_
    have g₁ := at'.g.over C.r hI at'.nI hIt kx tk₁
    have R₁ := at'.c.R.ext kx hIt hne tk₁
    refine PySem.wpAny_pure (PySem.wpAny_assign_Name (store_sound R₁ g₁.hr (by rw [C.names]; exact hx) rx fun s₃ R₃ g₃ _ => ?_))
    obtain ⟨hst₃, hσI₃⟩ := hit.step g₃ g₁.hr R₁.owned at'.nI hne hst₁
    have g13 := g₁.trans g₃
    refine sSs IS body xb hcb _ σ' s₃ _ _ ⟨C.room, C.names, R₃, g₃.hr⟩ hw (hX.step g13).own ⟨fun ρ₄ σ₄ s₄ hw₄ R₄ g₄ => ?_, fun u v σ₄ s₄ hR hr g₄ => hP.ret u v σ₄ s₄ hR hr (g13.trans g₄)⟩
    obtain ⟨hst₄, hσI₄⟩ := hit.step g₄ g₃.hr R₃.owned hσI₃ hne hst₃
    exact ⟨q, Nat.lt_succ_self q, i + 1, ρ₄, σ₄, by rw [← hqi, Nat.add_assoc, Nat.add_comm 1 i], ⟨⟨C.room, C.names, R₄, g₄.hr⟩, g13.trans g₄, hst₄, hσI₄⟩, by rw [hdr']; exact hw₄⟩

theorem while_sound {cE : Ks → Expr → Option RS.X} (IT : STr W k cE) (IS : SS W k cS) {test : Expr} {body : List Stmt} {xt : RS.X} {xb : List S} {ρ : Env} {σ : Hp} {s : Shared} {N : NP} {Rt : VP} {E : Value → Shared → Prop} {P : PySem.Flow → Shared → Prop} {fuel : Nat}
    (hct : cE ks test = some xt) (hcb : optAll (cS ks) body = some xb) (C : CW W k ks A env ρ σ s) (hX : XHS W A env σ s X E) (hP : KS W env σ s N Rt P)
    (hw : whileL (fun ρ₁ σ₁ Q => wpT xt (glb W k) ρ₁ σ₁ Q fun x σ' => X x ρ₁ σ') (fun ρ₁ σ₁ N' => wpSs xb (glb W k) ρ₁ σ₁ N' Rt X) fuel ρ σ N) :
    codeAny (model W.prog W.w) A (.whileLoop test body [] env) (fun rr s' => match rr with | .ok f => P f s' | .error e => PySem.cameBackBy (model W.prog W.w) A env E e s') s := by
  refine PySem.codeAny_whileLoop (fun q s' => ∃ ρ' σ', CW W k ks A env ρ' σ' s' ∧ Step W (ownOf env) σ s σ' s' ∧
      whileL (fun ρ₁ σ₁ Q => wpT xt (glb W k) ρ₁ σ₁ Q fun x σ' => X x ρ₁ σ') (fun ρ₁ σ₁ N' => wpSs xb (glb W k) ρ₁ σ₁ N' Rt X) q ρ' σ' N) ?_ fuel ⟨ρ, σ, C, .refl C.r, hw⟩
  rintro q s' ⟨ρ', σ', C', g, hw⟩
  cases q with
  | zero => exact hw.elim
  | succ q =>
    refine IT ks test xt hct A env ρ' σ' s' _ _ _ _ C'.cx hw ((hX.step g).ex ρ').any (fun v σ' ⟨b, hb, _⟩ => by rw [hb]; rfl) fun v b σ₂ s₂ hw₂ hb st => ?_
    obtain ⟨b', hb', hw₂⟩ := hw₂
    obtain rfl : b = b' := Option.some.inj (hb.symm.trans hb')
    have g₂ := g.trans st.weak
    cases b with
    | false => exact PySem.wpAny_execs_nil (hP.next _ _ _ hw₂ (C'.step st).R g₂)
    | true =>
      exact sSs IS body xb hcb ρ' σ₂ s₂ _ _ (C'.step st) hw₂ (hX.step g₂).own ⟨fun ρ₄ σ₄ s₄ hw₄ R₄ g₄ => ⟨q, Nat.lt_succ_self q, ρ₄, σ₄, C'.to R₄ (Step.trans st.weak g₄), g₂.trans g₄, hw₄⟩, fun u v σ₄ s₄ hR hr g₄ => hP.ret u v σ₄ s₄ hR hr (g₂.trans g₄)⟩

theorem swaps_no {value : Expr} {t : Option Expr} {line : Nat} (h : (!isComp value) = true) : PySem.swapsWith value t line env = pure false := by
  cases value <;> first | rfl | cases h
theorem swaps_is (value : Expr) (x : Str) (p : PySem.Pos) (line : Nat) : ∃ b, PySem.swapsWith value (some (.Name x p)) line env = pure b := by
  cases value <;> exact ⟨_, rfl⟩
theorem swaps_sub (value o i : Expr) (p : PySem.Pos) (line : Nat) : PySem.swapsWith value (some (.Subscript o i p)) line env = pure false := by
  cases value <;> rfl
theorem swaps_att (v o : Expr) (a : Str) (p : PySem.Pos) (l : Nat) : PySem.swapsWith v (some (.Attribute o a p)) l env = pure false := by
  cases v <;> rfl

/-- a name is given a value -/
theorem assign_var (T : TopOk W) {n : Nat} {x : String} {px : PySem.Pos} {value : Expr} {pos : PySem.Pos} {xv : RS.X} {ρ : Env} {σ : Hp} {s : Shared} {N : NP} {Rt : VP} {E : Value → Shared → Prop} {P : PySem.Flow → Shared → Prop} (hc : compE n ks value = some xv) (hx : isOwn ks (Str.ofString x) = true) (C : CW W k ks A env ρ σ s)
    (hw : S.assign (.var x) xv (glb W k) ρ σ N Rt X) (hX : XHS W A env σ s X E) (hP : KS W env σ s N Rt P) :
    wpAny (model W.prog W.w) A (PySem.exec (.Assign [.Name (Str.ofString x) px] value pos) env) P E s := by
  have hx' : isOwn env.scope.names (Str.ofString x) = true := by rw [C.names]; exact hx
  have plain : PySem.swapsWith value (some (.Name (Str.ofString x) px)) pos.line env = pure false → wpAny (model W.prog W.w) A (PySem.exec (.Assign [.Name (Str.ofString x) px] value pos) env) P E s := by
    intro hs
    rw [PySem.exec_Assign_Name env _ _ _ _ hs]
    refine PySem.wpAny_bind (PySem.wpAny_standAt (PySem.wpAny_bind ((sBoth T n).1 ks value xv hc A env ρ σ s _ _ E _ C.cx hw (hX.ex ρ) fun v σ₁ y s₁ hN rv st => ?_)))
    exact PySem.wpAny_bind (PySem.wpAny_standAt (PySem.wpAny_bind (PySem.wpAny_bindName (store_sound (C.R.step C.r st) st.hr hx' rv fun s₂ R₂ g₂ _ => PySem.wpAny_pure (hP.next _ _ _ hN R₂ (Step.trans st.weak g₂))))))
  obtain ⟨b, hs⟩ := swaps_is (env := env) value (Str.ofString x) px pos.line
  cases b with
  | false => exact plain hs
  | true =>
    cases value with
    | ListComp elt gens sc cpos =>
      cases n with
      | zero => cases hc
      | succ n =>
      rw [PySem.exec_Assign_Name_used _ _ _ _ hs]
      refine PySem.wpAny_bind (PySem.wpAny_standAt (PySem.wpAny_bind ?_))
      show wpAny _ A (do let _ ← PySem.comprehension (.ListComp elt gens sc cpos) sc env _ (PySem.newList []) (PySem.firstAsync gens) (PySem.firstIter gens env) (some (PySem.assign (.Name (Str.ofString x) px) env))) _ _ s
      refine PySem.wpAny_bind (PySem.wpAny_mono (sComp (Q' := fun _ s' => P .next s') T (sBoth T n).1 (sBoth T n).2 hc C.cx hw (hX.ex ρ) (fun vs σ' D C' s' hK at' fD fC hDC => ?_) _) (fun _ s' hq => PySem.wpAny_pure (PySem.wpAny_pure hq)) fun _ _ e => e)
      obtain ⟨z, e, q, l⟩ := id at'.d
      have st₁ := at'.g.add C.r fD (.lst z e q)
      have R₁ := C.R.step C.r st₁
      show wpAny _ A (PySem.assign (.Name (Str.ofString x) px) env (.ref D)) _ _ _
      refine PySem.wpAny_assign_Name (store_sound R₁ st₁.hr hx' (.ref D) fun s₂ R₂ g₂ _ => ?_)
      obtain ⟨m, hns⟩ := at'.ns
      have hσC₁ : (σ'.set D (.lst vs)) C' = none := (Hp.set_ne _ _ (Ne.symm hDC)).trans at'.nC
      have hn₂ := g₂.ns hns hσC₁ (C.noOwn fC)
      obtain ⟨o, ho⟩ := ns_here hns
      refine ⟨m, hn₂, fun h₃ hs₃ => ?_⟩
      exact hP.next _ _ _ (hK D at'.nD) (R₂.ext hs₃.extBut (ns_notTup hn₂) (C.noOwn fC) s₂.toks) ((Step.trans st₁.weak g₂).over C.r fC (g₂.none_ _ o ho hσC₁) (ns_notTup hn₂) hs₃.extBut s₂.toks)
    | SetComp => cases n <;> cases hc
    | DictComp => cases n <;> cases hc
    | _ => exact plain rfl

/-- two names are given the parts of a pair -/
theorem assign_tup (T : TopOk W) {n : Nat} {x y : String} {px py : PySem.Pos} {kk : Nat} {tpos : PySem.Pos} {value : Expr} {pos : PySem.Pos} {xv : RS.X} {ρ : Env} {σ : Hp} {s : Shared} {N : NP} {Rt : VP} {E : Value → Shared → Prop} {P : PySem.Flow → Shared → Prop} (hcl : isCall value = true) (hc : compE n ks value = some xv) (hx : isOwn ks (Str.ofString x) = true) (hy : isOwn ks (Str.ofString y) = true) (C : CW W k ks A env ρ σ s)
    (hw : S.assign (.tup2 x y) xv (glb W k) ρ σ N Rt X) (hX : XHS W A env σ s X E) (hP : KS W env σ s N Rt P) :
    wpAny (model W.prog W.w) A (PySem.exec (.Assign [.Tuple [.Name (Str.ofString x) px, .Name (Str.ofString y) py] kk tpos] value pos) env) P E s := by
  cases value with
  | Call f args kws cp =>
    refine PyProof.Rows.Assign_Tuple ((sBoth T n).1 ks _ xv hc A env ρ σ s _ _ E _ C.cx hw (hX.ex ρ) fun v σ₁ z s₁ hw₁ rv st => ?_)
    obtain ⟨a, b, rfl, hN⟩ := hw₁
    obtain ⟨t, items, m, rfl, hz, e, q⟩ := rv.tup_inv
    obtain ⟨l⟩ := items
    obtain ⟨x₁, x₂, hl, r₁, r₂⟩ := q.two_inv
    change l = [x₁, x₂] at hl
    subst hl
    refine PySem.wpAny_assign_Tuple C.room.hand ⟨_, e, rfl, m, rfl⟩ rfl rfl fun h' he => ?_
    have kk : ∀ b o, s₁.heap.get? b = some o → h'.get? b = some o := fun b o q => he b o (ne_get q (size_none _)) q
    have st₂ := st.hr.grow kk s₁.toks []
    have R₂ := (C.step st).R.step st.hr st₂
    show wpAny _ A (PySem.assignInOrder [PySem.assign (.Name (Str.ofString x) px) env, PySem.assign (.Name (Str.ofString y) py) env] [x₁, x₂]) _ _ _
    have hnm := C.names
    refine PyProof.Rows.assignInOrder_cons (PySem.wpAny_assign_Name (store_sound R₂ st₂.hr (by rw [hnm]; exact hx) (r₁.mono (.of kk)) fun s₃ R₃ g₃ kt₃ => ?_))
    refine PyProof.Rows.assignInOrder_cons (PySem.wpAny_assign_Name (store_sound R₃ g₃.hr (by rw [hnm]; exact hy) ((r₂.mono (.of kk)).mono kt₃) fun s₄ R₄ g₄ _ => PyProof.Rows.assignInOrder_nil ?_))
    exact hP.next _ _ _ hN R₄ (((Step.trans st.weak st₂.weak).trans g₃).trans g₄)
  | _ => cases hcl
end
end RS

namespace RS
open PySem (Program World Shared Addr Value Obj Heap Str Around wpAny codeAny model Scope NameKind Expr Stmt FuncData cLine recursionLimit sizeLine mainGlobals builtinsNs PyData)

section
variable {W : Wd} {k : Nat}
/-- an item is given a value -/
theorem setItem_sound {A : Around} {E : Value → Shared → Prop} {σ : Hp} {s : Shared} {o i v : V} {ov iv vv : Value} {N : Hp → Prop} {P : Unit → Shared → Prop} (hA : Room A k) (r : HR W σ s) (ho : Rep W s.heap o ov) (hi : Rep W s.heap i iv) (hv : Rep W s.heap v vv) (hw : storeP σ v N o i)
    (h : ∀ σ' s', N σ' → Step W [] σ s σ' s' → P () s') : wpAny (model W.prog W.w) A (PySem.setItem ov iv vv) P E s := by
  cases hw with
  | lst ha h0 h1 hN =>
    cases ho.ref_inv
    obtain ⟨t, rfl⟩ := hi.int_inv
    obtain @⟨items, nn, z, e, q, l⟩ := r.lst ha
    rw [l] at h1
    refine PySem.W.ki_setAt (n := nn) e h0 (by (clear l h0; lia)) (by (clear l z h0; lia)) (h _ _ hN (lst_upd r ha e _ ?_ ?_ s.toks))
    · rw [Array.size_setIfInBounds]; exact z
    · rw [Array.toList_setIfInBounds]; exact q.set hv _
  | @dct a i es ep kk ha hk hl hN =>
    cases ho.ref_inv
    obtain @⟨des, xs, z, e, D, d, is, n, m, q, rk, l, dl⟩ := r.dct ha
    obtain ⟨b, rfl, kb⟩ := key_tuple hk hi
    refine PySem.wpAny_setItem_heap hA.kr kb D (fun h' hm' hs' => ?_) (fits (l ▸ hl.fits))
    have kt : TupKeep s.heap h' := tups_but hs'.extBut ⟨_, e, notTup_type (by decide)⟩
    obtain ⟨ep', hc⟩ := stored_cell m q rk hl (V.key_of hk ▸ hi) hv kt hm'
    exact h _ _ (hN ep') (r.upd ha hs'.extBut hc _ [])
  | dci ha hl hN =>
    cases ho.ref_inv
    obtain ⟨t, rfl⟩ := hi.int_inv
    exact set_dci r ha hl hv hN h

theorem sS_step (T : TopOk W) {n : Nat} {cS : Ks → Stmt → Option S} (IS : SS W k cS) : SS W k (stepS n cS) := by
  have I0 : SE W k (compE n) := (sBoth T n).1
  have IT : STr W k (compE n) := (sBoth T n).2
  intro ks st x h A env ρ σ s N Rt X E P C
  cases st with
  | Return e pos =>
    cases e with
    | none => cases h
    | some e => exact o1_inv h fun xe hxe hw hX hP => PySem.wpAny_Return_some (I0 ks e xe hxe A env ρ σ s _ _ E _ C.cx hw (hX.ex ρ) fun v σ₁ y s₁ hq rv st => hP.ret v y σ₁ s₁ hq rv st.weak)
  | Expr e pos =>
    refine oif_inv h fun hc h => o1_inv h fun xe hxe hw hX hP => ?_
    rw [PySem.exec_Expr env e pos (by unfold PySem.interactive; rw [C.R.kind]; rfl) (swaps_no hc)]
    exact PySem.wpAny_bind (PySem.wpAny_standAt (PySem.wpAny_bind (I0 ks e xe hxe A env ρ σ s _ _ E _ C.cx hw (hX.ex ρ) fun v σ₁ y s₁ hq rv st => PySem.wpAny_dropValue (hP.next ρ σ₁ s₁ hq (C.step st).R st.weak))))
  | Assign ts v pos =>
    cases ts with
    | nil => cases h
    | cons t ts =>
      cases ts with
      | cons _ _ => cases h
      | nil =>
        refine o2_inv h fun xt xv hxt hxv => ?_
        cases t with
        | Name y py =>
          refine oif_inv hxt fun hy hxt => o1_inv hxt fun y' hy' hw hX hP => ?_
          cases nm_is hy'
          exact assign_var T hxv hy C hw hX hP
        | Subscript o i p =>
          refine oif_inv hxt fun hs hxt => o2_inv hxt fun xo xi hxo hxi hw hX hP => ?_
          rw [PySem.exec_Assign_Subscript _ _ _ _ _ (swaps_sub v o i p pos.line)]
          refine PySem.wpAny_bind (PySem.wpAny_standAt (PySem.wpAny_bind (I0 ks v xv hxv A env ρ σ s _ _ E _ C.cx hw (hX.ex ρ) fun u σ₁ vv s₁ hw₁ ru st₁ => ?_)))
          rw [PySem.assign_Subscript]
          have C₁ := C.step st₁
          have hX₁ := (hX.ex ρ).step st₁
          refine PySem.wpAny_bind (PySem.wpAny_bind (PySem.wpAny_holding (I0 ks o xo hxo A env ρ σ₁ s₁ _ _ E _ C₁.cx hw₁ hX₁ fun o' σ₂ ov s₂ hw₂ ro st₂ => PySem.wpAny_bind (PySem.wpAny_holding (I0 ks i xi hxi A env ρ σ₂ s₂ _ _ E _ (C₁.step st₂).cx hw₂ (hX₁.step st₂) fun i' σ₃ iv s₃ hw₃ ri st₃ => ?_)))))
          have k3 := st₃.tup0 st₂.hr
          refine PySem.wpAny_bind (PySem.wpAny_standAt (PySem.wpAny_bind (PySem.wpAny_holding (setItem_sound C.room st₃.hr (ro.mono k3) ri ((ru.mono (st₂.tup0 st₁.hr)).mono k3) hw₃ fun σ₄ s₄ hN st₄ => PyProof.Rows.wpAny_release' (PySem.wpAny_pure ?_)))))
          have stt := ((st₁.trans st₂).trans st₃).trans st₄
          exact hP.next ρ σ₄ s₄ hN (C.step stt).R stt.weak
        | Attribute o an p =>
          refine oif_inv hxt fun hpb hxt => o2_inv hxt fun xo a' hxo ha' hw hX hP => ?_
          cases nm_is ha'
          refine PySem.plainObj_wpAny_Assign_Attribute (I0 ks v xv hxv A env ρ σ s _ _ E _ C.cx hw (hX.ex ρ) fun u σ₁ vv s₁ hw₁ ru st₁ => ?_) (swaps_att v o _ p pos.line)
          obtain ⟨hn, hw₁⟩ := hw₁
          refine I0 ks o xo hxo A env ρ σ₁ s₁ _ _ E _ (C.step st₁).cx hw₁ ((hX.ex ρ).step st₁) fun o' σ₂ ov s₂ hw₂ ro st₂ => ?_
          cases hw₂ with
          | mk h1 h2 hl hN =>
            cases ro.ref_inv
            obtain ⟨C', _, hc, _⟩ := st₂.hr.inst h1 h2
            obtain ⟨Nn, mN, K⟩ := T.clsK _ C' hc
            refine setattr_s K st₂.hr h1 h2 (ru.mono (st₂.tup0 st₁.hr)) hl (K.attr _ hn) (attr_type _ hn) fun s₃ st₃ => ?_
            have stt := (st₁.trans st₂).trans st₃
            exact hP.next ρ _ s₃ hN (C.step stt).R stt.weak
        | Tuple es kk tpos =>
          cases es with
          | nil => cases hxt
          | cons e1 es => cases es with
            | nil => cases hxt
            | cons e2 es => cases es with
              | cons _ _ => cases hxt
              | nil => cases e1 with
                | Name y py => cases e2 with
                  | Name z pz =>
                    refine oif_inv hxt fun hc hxt => o2_inv hxt fun y' z' hy' hz' hw hX hP => ?_
                    cases nm_is hy'
                    cases nm_is hz'
                    simp only [Bool.and_eq_true] at hc
                    exact assign_tup T hc.2 hxv hc.1.1 hc.1.2 C hw hX hP
                  | _ => cases hxt
                | _ => cases hxt
        | _ => cases hxt
  | If t b o pos =>
    refine o3_inv h fun xt xb xo hxt hxb hxo hw hX hP => ?_
    refine PySem.wpAny_If (IT ks t xt hxt A env ρ σ s _ _ E _ C.cx hw (hX.ex ρ) (fun v σ' ⟨b, hb, _⟩ => by rw [hb]; rfl) fun v b σ₂ s₂ hw₂ hb st => ?_)
    obtain ⟨b', hb', hw₂⟩ := hw₂
    obtain rfl : b = b' := Option.some.inj (hb.symm.trans hb')
    cases b with
    | false => exact sSs IS o xo hxo ρ σ₂ s₂ N P (C.step st) hw₂ (hX.step st.weak) (hP.step st.weak)
    | true => exact sSs IS _ xb hxb ρ σ₂ s₂ N P (C.step st) hw₂ (hX.step st.weak) (hP.step st.weak)
  | For t iter b o pos =>
    cases t with
    | Name y py =>
      cases o with
      | cons _ _ => cases h
      | nil =>
        refine oif_inv h fun hy h => o3_inv h fun y' xs xb hy' hxs hxb hw hX hP => ?_
        simp only [Bool.and_eq_true] at hy
        cases nm_is hy'
        exact PySem.wpAny_For (sSrc T I0 hxs C.cx hw (hX.ex ρ) fun I items chk St σ₁ s₂ hit hst hσI hI hK st => for_sound IS hxb hy.1 C hX hit hst hσI hI st hP hK) (folded_id env hy.2)
    | _ => cases h
  | While t b o pos =>
    cases o with
    | cons _ _ => cases h
    | nil =>
      refine o2_inv h fun xt xb hxt hxb hw hX hP => ?_
      obtain ⟨fuel, hw⟩ := hw
      exact PySem.wpAny_While (while_sound IT IS hxt hxb C hX hP hw)
  | Raise e c pos =>
    cases e with
    | none => cases h
    | some e => cases e with
      | Call f as ks' p => cases f with
        | Name c' p' => exact o1_inv h fun c hc hw hX hP => absurd hw (hX _ _ _)
        | _ => cases h
      | _ => cases h
  | Pass pos =>
    cases h
    intro hw hX hP
    rw [PySem.exec_Pass]
    exact PySem.wpAny_bind (PySem.wpAny_standAt (PySem.wpAny_pure (hP.next ρ σ s hw C.R (.refl C.r))))
  | _ => cases h

theorem sS_all (T : TopOk W) (n : Nat) : SS W k (compS n) := by
  induction n with
  | zero => exact fun _ _ _ h => (by cases h)
  | succ n ih => exact sS_step T ih
end
end RS

namespace RS
open PySem (Program World Shared Addr Value Obj Heap Str Around wpAny codeAny model Scope NameKind Expr Stmt FuncData cLine recursionLimit sizeLine mainGlobals builtinsNs PyData)

/-! ### calls -/
/-- a function's data, as it reads -/
structure FdOk (fd : FuncData) (body : List Stmt) (ps : List String) (bs : List S) (n : Nat) : Prop where
  bd : fd.body = .stmts body
  clo : fd.closure = []
  g : fd.globals = mainGlobals
  b : fd.builtins = builtinsNs
  co : fd.scope.isCoroutine = false
  gen : fd.scope.isGenerator = false
  kind : fd.scope.kind = .function
  bind : ∀ xs : List Value, xs.length = ps.length → PySem.bindArgs fd ⟨xs, []⟩ = pure ((ps.map Str.ofString).zip xs)
  comp : compSs n fd.scope.names body = some bs
  own : ∀ p ∈ ps, isOwn fd.scope.names (Str.ofString p) = true
  nd : ps.Nodup
/-- a function of the text, as it lies and as it reads -/
inductive FnOk (W : Wd) (f : String) (ps : List String) (bs : List S) : Prop
  | mk {fa : Addr} {o : Obj} {fd : FuncData} {body : List Stmt} {n : Nat} (at_ : W.fn f = some fa) (o_ : W.s₀.heap.get? fa = some o) (d : o.data = .func fd) (cr : W.s₀.heap.CodeRec fd.code fd.qualname) (ok : FdOk fd body ps bs n)

theorem cellsFrom_lookup : ∀ (names : Ks) (n : Nat) (acc : List (Str × Addr)) (X : Str), ((X, NameKind.cell) ∈ names ∨ (acc.lookup X).isSome = true) → ((PySem.cellsFrom n names acc).lookup X).isSome = true
  | [], _, acc, X, h => h.elim (fun h => by cases h) id
  | (y, kd) :: r, n, acc, X, h => by
    unfold PySem.cellsFrom
    split
    · refine cellsFrom_lookup r _ _ X ?_
      by_cases hX : X = y
      · subst hX; right; simp
      · rcases h with h | h
        · rcases List.mem_cons.mp h with h | h
          · cases h; exact absurd rfl hX
          · exact .inl h
        · right
          have hb : (X == y) = false := by simpa using hX
          rw [List.lookup_cons, hb]; exact h
    · rename_i hk
      refine cellsFrom_lookup r _ _ X ?_
      rcases h with h | h
      · rcases List.mem_cons.mp h with h | h
        · cases h; exact absurd rfl hk
        · exact .inl h
      · exact .inr h

section
variable {W : Wd} {k : Nat}

theorem bindL_notin (kf : Str → Option NameKind) : ∀ (bs : List (Str × Value)) (m : Str → Option Value) (X : Str), X ∉ bs.map (·.1) → PySem.bindL kf bs m X = m X
  | [], _, _, _ => rfl
  | (y, v) :: r, m, X, h => by
    simp only [List.map_cons, List.mem_cons, not_or] at h
    unfold PySem.bindL
    rw [bindL_notin kf r _ X h.2]
    split
    · simp [h.1]
    · rfl
theorem bindC_notin (kf : Str → Option NameKind) : ∀ (bs : List (Str × Value)) (m : Str → Option Value) (X : Str), X ∉ bs.map (·.1) → PySem.bindC kf bs m X = m X
  | [], _, _, _ => rfl
  | (y, v) :: r, m, X, h => by
    simp only [List.map_cons, List.mem_cons, not_or] at h
    unfold PySem.bindC
    rw [bindC_notin kf r _ X h.2]
    split
    · rfl
    · simp [h.1]

theorem notin_zip {ps : List String} {xs : List Value} {x : String} (h : x ∉ ps) : Str.ofString x ∉ ((ps.map Str.ofString).zip xs).map (·.1) := fun q => by
  obtain ⟨⟨y, v⟩, hy, e⟩ := List.mem_map.mp q
  have := (List.of_mem_zip hy).1
  obtain ⟨p, hp, e'⟩ := List.mem_map.mp this
  have : p = x := Str.ofString_inj (e'.trans e)
  exact h (this ▸ hp)

theorem bind_ok (kf : Str → Option NameKind) {h : Heap} (x : String) (v : V) : ∀ (ps : List String) (vs : List V) (xs : List Value) (m cm : Str → Option Value), ps.Nodup → Reps W h vs xs → bindP ps vs x = some v →
    ∃ y, Rep W h v y ∧ (kf (Str.ofString x) = some .local → PySem.bindL kf ((ps.map Str.ofString).zip xs) m (Str.ofString x) = some y) ∧ (kf (Str.ofString x) ≠ some .local → PySem.bindC kf ((ps.map Str.ofString).zip xs) cm (Str.ofString x) = some y) := by
  intro ps
  induction ps with
  | nil => intro vs xs m cm _ _ e; cases vs <;> cases e
  | cons p ps ih =>
    intro vs xs m cm hn q e
    cases vs with
    | nil => cases e
    | cons u vs =>
      obtain ⟨y, xs', rfl, hu, hr⟩ := q.cons_inv
      obtain ⟨hp, hn⟩ := List.nodup_cons.mp hn
      change ((bindP ps vs).set p u) x = some v at e
      rw [List.map_cons, List.zip_cons_cons]
      by_cases hx : x = p
      · subst hx
        rw [Env.set_same] at e; cases e
        refine ⟨y, hu, fun hl => ?_, fun hl => ?_⟩
        · unfold PySem.bindL; rw [bindL_notin _ _ _ _ (notin_zip hp), if_pos hl]; exact if_pos rfl
        · unfold PySem.bindC; rw [bindC_notin _ _ _ _ (notin_zip hp), if_neg hl]; exact if_pos rfl
      · rw [Env.set_ne _ _ hx] at e
        obtain ⟨y', h1, h2, h3⟩ := ih vs xs' _ _ hn hr e
        exact ⟨y', h1, fun hl => by unfold PySem.bindL; exact h2 hl, fun hl => by unfold PySem.bindC; exact h3 hl⟩
theorem bindP_mem {x : String} {v : V} : ∀ (ps : List String) (vs : List V), bindP ps vs x = some v → x ∈ ps := by
  intro ps
  induction ps with
  | nil => intro vs h; cases vs <;> cases h
  | cons p ps ih =>
    intro vs h
    cases vs with
    | nil => cases h
    | cons u vs =>
      by_cases hxp : x = p
      · subst hxp; exact .head _
      · change ((bindP ps vs).set p u) x = some v at h
        rw [Env.set_ne _ _ hxp] at h; exact .tail _ (ih vs h)


theorem isOwn_split {ks : Ks} {s : Str} (h : isOwn ks s = true) : ks.lookup s = some .local ∨ ks.lookup s = some .cell := by
  unfold isOwn at h
  split at h
  · rename_i e; exact .inl e
  · rename_i e; exact .inr e
  · cases h

theorem code_ok (T : TopOk W) {fa : Addr} {o : Obj} {fd : FuncData} {body : List Stmt} {n : Nat} {ps : List String} {bs : List S} (ho : W.s₀.heap.get? fa = some o) (hd : o.data = .func fd) (hcr : W.s₀.heap.CodeRec fd.code fd.qualname) (F : FdOk fd body ps bs n) {vs : List V} {σ : Hp} {Q : VP} {X : XP} (hl : vs.length = ps.length)
    (hw : wpSs bs (glb W k) (bindP ps vs) σ (fun _ σ' => Q .none σ') Q (fun _ _ _ => False)) {A : Around} {s : Shared} {xs : List Value} {P : Value → Shared → Prop} {E : Value → Shared → Prop} (hA : Room A (k + 1)) (r : HR W σ s) (rs : Reps W s.heap vs xs) (hP : Kt W σ s Q P) :
    codeAny (model W.prog W.w) A (.call (.ref fa) ⟨xs, []⟩) (fun r s' => match r with | .ok (.ret v) => P v s' | .ok _ => False | .error e => E e s') s := by
  have hxl : xs.length = ps.length := rs.len.symm.trans hl
  have hA' : A.depth < recursionLimit := Nat.lt_of_le_of_lt (Nat.le_add_right _ _) hA.depth
  have hk2 : ∀ x ∈ (ps.map Str.ofString).zip xs, fd.scope.names.lookup x.1 = some .local ∨ (fd.scope.names.lookup x.1 = some .cell ∧ ((PySem.cellsFrom (s.heap.objs.size + 1) fd.scope.names []).lookup x.1).isSome = true) := by
    intro x hx
    obtain ⟨p, hp, e⟩ := List.mem_map.mp (List.of_mem_zip (a := x.1) (b := x.2) hx).1
    rw [← e]
    exact (isOwn_split (F.own p hp)).imp id fun h => ⟨h, cellsFrom_lookup _ _ _ _ (.inl (PySem.mem_of_lookup h))⟩
  refine PySem.codeAny_call_cells hA' (r.base _ _ ho) hd (T.lim.keeps r.base) (hcr.keeps r.base) F.bd (F.bind xs hxl) F.clo hk2 (fun s₁ C => ?_) F.co F.gen F.kind
  generalize henv : PySem.callEnvC fd s.heap.objs.size fa = env at C ⊢
  have hL : env.locals = s.heap.objs.size := by rw [← henv]; rfl
  have hcells : env.cells = PySem.cellsFrom (s.heap.objs.size + 1) fd.scope.names [] := by rw [← henv]; rfl
  have hsc : env.scope = fd.scope := by rw [← henv]; rfl
  have hRoom : Room (A.deeper env) k := ⟨hA.hand, by have := hA.units; show A.units + 3 + 10 * k + 200 < cLine; lia, by have := hA.depth; show A.depth + 1 + k < recursionLimit; lia⟩
  obtain ⟨⟨h₁, tk, rfl⟩, hns, hkeep, hfresh⟩ := C.toInCall
  have st : Step W [] σ s σ { s with heap := h₁, toks := tk } := r.grow hkeep tk []
  have fresh : ∀ a, s.heap.objs.size ≤ a → s.heap.get? a = none := fun a ha => PySem.Heap.get?_none_of_le ha
  have hown2 : ∀ b ∈ ownOf env, s.heap.get? b = none ∧ ∃ o, h₁.get? b = some o ∧ ¬ isTup o := by
    intro b hb'
    rcases List.mem_cons.mp hb' with e | hb'
    · subst e; exact ⟨fresh _ (by rw [hL]; exact Nat.le_refl _), ns_notTup hns⟩
    · obtain ⟨⟨X, c⟩, hm, e⟩ := List.mem_filterMap.mp hb'
      have hlt := C.above X b (PySem.mem_of_lookup e)
      rw [hL] at hlt
      exact ⟨fresh _ (Nat.le_of_lt hlt), cell_notTup (C.cell X b e)⟩
  have rs₁ : Reps W h₁ vs xs := rs.mono (st.tup0 r)
  have hcell : ∀ X, fd.scope.names.lookup X = some .cell → ∃ c, env.cells.lookup X = some c := fun X hX => by
    rw [hcells]; exact Option.isSome_iff_exists.mp (cellsFrom_lookup _ _ _ _ (.inl (PySem.mem_of_lookup hX)))
  have EW : EnvW W env (bindP ps vs) σ { s with heap := h₁, toks := tk } := {
    kind := by rw [hsc]; exact F.kind
    glob := by rw [← henv]; exact F.g
    blt := by rw [← henv]; exact F.b
    cells := fun X hX => hcell X (by rw [← hsc]; exact hX)
    var := fun x v hx h0 => by
      obtain ⟨y, hy, h1, h2⟩ := bind_ok env.kindOf x v ps vs xs (fun _ => none) (fun _ => none) F.nd rs₁ hx
      refine ⟨fun hl' => ⟨_, y, hns, h1 hl', hy, r.fresh (fresh _ (by rw [hL]; exact Nat.le_refl _))⟩, fun hc => ?_⟩
      have hnl : env.kindOf (Str.ofString x) ≠ some .local := by
        unfold PySem.Env.kindOf
        rcases hc with hc | hc <;> rw [hc] <;> exact fun q => NameKind.noConfusion (Option.some.inj q)
      have hcl : fd.scope.names.lookup (Str.ofString x) = some .cell := by
        rw [hsc] at hc
        refine (isOwn_split (F.own x (bindP_mem ps vs hx))).resolve_left fun q => hnl ?_
        unfold PySem.Env.kindOf; rw [hsc]; exact q
      obtain ⟨c, hc'⟩ := hcell _ hcl
      have := C.cell _ c hc'
      rw [h2 hnl] at this
      exact ⟨c, y, hc', this, hy, r.fresh (hown2 c (lookup_own hc')).1⟩
    ns := ⟨_, hns⟩
    cel := fun X c hX => ⟨_, C.cell X c hX⟩
    own := fun b hb' => ⟨r.fresh (hown2 b hb').1, r.nb (hown2 b hb').1, (hown2 b hb').2⟩
    apart := fun X Y c hX hY => PySem.name_of_addr C.apart (PySem.mem_of_lookup hX) (PySem.mem_of_lookup hY)
    neL := fun X c hX => Nat.ne_of_gt (C.above X c (PySem.mem_of_lookup hX)) }
  have hshr : ∀ {σ' s'}, Step W (ownOf env) σ { s with heap := h₁, toks := tk } σ' s' → Step W [] σ s σ' s' := fun g => st.shrink g fun b hb' => (hown2 b hb').1
  exact sSs (sS_all T n) body bs F.comp (bindP ps vs) σ _ _ _ ⟨hRoom, by rw [hsc], EW, st.hr⟩ hw (fun _ _ _ q => q) ⟨fun ρ' σ' s' hq _ g => hP _ _ _ _ hq .none (hshr g), fun u v σ' s' hq hu g => hP _ _ _ _ hq hu (hshr g)⟩

theorem call_ok (T : TopOk W) {f : String} {ps : List String} {bs : List S} (F : FnOk W f ps bs) {vs : List V} {σ : Hp} {Q : VP} {X : XP} (hl : vs.length = ps.length)
    (hw : wpSs bs (glb W k) (bindP ps vs) σ (fun _ σ' => Q .none σ') Q (fun _ _ _ => False)) : callP W (k + 1) f vs σ Q X := by
  obtain ⟨hfa, ho, hd, hcr, F⟩ := F
  exact ⟨_, hfa, fun A s xs P E hA r rs _ hP => PySem.wpAny_call (code_ok (X := X) T ho hd hcr F hl hw hA r rs hP)⟩

theorem cu_make (a : PySem.Args) : (PySem.Code.builtin "type.__call__" a).cUnits ≤ 9 := by
  show 1 + 3 * (PySem.Code.builtin "type.__call__" a).frames ≤ 9
  have : (PySem.Code.builtin "type.__call__" a).frames = 0 := by kernel_rfl
  rw [this]; decide
theorem roomU {A : Around} (hA : Room A (k + 1)) (C : Addr) (xs : List Value) : (A.under (.builtin "type.__call__" ⟨.ref C :: xs, []⟩)).units + 10 * k + 200 < cLine := by
  have := hA.units
  have e := cu_make ⟨.ref C :: xs, []⟩
  show A.units + (PySem.Code.builtin "type.__call__" ⟨.ref C :: xs, []⟩).cUnits + 10 * k + 200 < cLine
  lia
/-- an object of the class is made -/
theorem new_ok (T : TopOk W) {C : Addr} (hC : W.cls "Sheet" = some C) (hfC : W.fn "Sheet" = some C)
    {vs : List V} {σ : Hp} {Q : VP} {X : XP} (h : ∀ x d, σ x = none → σ d = none → x ≠ d → callP W k "Sheet.__init__" (.ref x :: vs) ((σ.set d (.attrs [])).set x (.inst "Sheet" d)) (fun v σ' => v = .none ∧ Q (.ref x) σ') (fun _ _ => False)) : callP W (k + 1) "Sheet" vs σ Q X := by
  refine ⟨C, hfC, fun A s xs P E hA r rs hX hP => ?_⟩
  obtain ⟨N, mN, K⟩ := T.clsK _ C hC
  obtain ⟨fI, oI, fd, hI, hfI, hfc, hfd, hfn⟩ := K.meth "__init__" (.head _)
  refine new_s K r hI hfI hfc fun s' x dx st nx nd hne => ?_
  obtain ⟨fa, hfa, hc⟩ := h x dx nx nd hne
  obtain rfl : fI = fa := Option.some.inj (hfn.symm.trans hfa)
  refine hc _ s' (.ref x :: xs) _ E ⟨hA.hand, roomU hA _ _, by have := hA.depth; rw [PyProof.Rows.depth_under_make]; lia⟩ st.hr (.cons (.ref x) (rs.mono (st.tup0 r))) (fun _ _ q => q) fun v σ' y s'' hq rv st' => ?_
  obtain ⟨rfl, hq⟩ := hq
  exact ⟨rv.none_inv, hP _ _ _ _ hq (.ref x) (st.trans st')⟩
end
end RS

namespace RS
open PySem (Program World Shared Addr Value Obj Heap Str Around wpAny codeAny model Scope NameKind Expr Stmt FuncData cLine recursionLimit sizeLine mainGlobals builtinsNs PyData)
open PyProof.Rows
open PySem (ExcName startupNames ClsRec)

theorem zip_lookup : ∀ {ns : List Str} {xs : List Value} {n : Str}, ns.length ≤ xs.length → n ∈ ns → ((ns.zip xs).lookup n).isSome = true
  | [], _, _, _, h => by cases h
  | m :: ns, [], _, hl, _ => by simp at hl
  | m :: ns, x :: xs, n, hl, h => by
    simp only [List.zip_cons_cons, List.lookup_cons]
    by_cases hq : n = m
    · subst hq; simp
    · have hb : (n == m) = false := by simpa using hq
      rw [hb]
      rcases List.mem_cons.mp h with h | h
      · exact absurd h hq
      · exact zip_lookup (by simpa using hl) h

theorem fm_congr {α β : Type} {f g : α → Option β} : ∀ {l : List α}, (∀ x ∈ l, f x = g x) → l.filterMap f = l.filterMap g
  | [], _ => rfl
  | a :: l, h => by
    rw [List.filterMap_cons, List.filterMap_cons, h a (by simp), fm_congr fun x hx => h x (by simp [hx])]

theorem zip_filter : ∀ (ns : List Str) (xs : List Value), ns.Nodup → xs.length = ns.length → ns.filterMap (fun n => ((ns.zip xs).lookup n).map (n, ·)) = ns.zip xs
  | [], [], _, _ => rfl
  | [], _ :: _, _, h => by simp at h
  | m :: ns, [], _, h => by simp at h
  | m :: ns, x :: xs, hn, hl => by
    obtain ⟨hm, hn⟩ := List.nodup_cons.mp hn
    have ih := zip_filter ns xs hn (by simpa using hl)
    rw [List.zip_cons_cons, List.filterMap_cons]
    simp only [List.lookup_cons, beq_self_eq_true, Option.map_some]
    congr 1
    rw [← ih]
    refine fm_congr fun n hnm => ?_
    have hb : (n == m) = false := by
      simp only [beq_eq_false_iff_ne, ne_eq]; rintro rfl; exact hm hnm
    rw [hb, ih]

theorem bindArgs_plain {fd : FuncData} {ns : List Str} {xs : List Value} (h1 : fd.params.posonlyargs = []) (h2 : fd.params.args.map (·.arg) = ns) (h3 : fd.params.kwonlyargs = []) (h4 : fd.params.vararg = none) (h5 : fd.params.kwarg = none) (h6 : fd.defaults = .none)
    (hn : ns.Nodup) (hl : xs.length = ns.length) : PySem.bindArgs fd ⟨xs, []⟩ = pure (ns.zip xs) := by
  have hmiss : (ns.filter fun n => ((ns.zip xs).lookup n).isNone) = [] := by
    rw [List.filter_eq_nil_iff]
    intro n hnm
    have := zip_lookup (xs := xs) (by lia) hnm
    cases h : (ns.zip xs).lookup n with
    | none => rw [h] at this; cases this
    | some _ => simp
  have hseq : PySem.seqItems? (Value.none) = pure none := rfl
  unfold PySem.bindArgs
  simp [h1, h2, h3, h4, h5, h6, hseq, hl, hmiss, zip_filter ns xs hn hl]

/-! ### the top -/
noncomputable def refOf (o : Option Value) : Option Addr := match o with | some (.ref a) => some a | _ => none
/-- a function of the text, or a method of its class -/
noncomputable def fnOf (mg : Str → Option Value) (cl : Option (Addr × (Str → Option Value))) (f : String) : Option Addr := match methAll.find? fun n => decide ("Sheet" ++ "." ++ n = f) with
  | some n => cl.bind fun c => refOf (c.2 (Str.ofString n))
  | none => refOf (mg (Str.ofString f))
noncomputable def typNames : List String := ["int", "bool", "str", "tuple", "list"]
noncomputable def biNames : List String := ["len", "min", "max", "sum", "int", "isinstance", "list", "tuple", "dict", "all", "sorted"]
noncomputable def globOf (p : Program) (x : String) : Option V := if x ∈ typNames then some (.typ x) else match valOf p (Str.ofString x) with | some (.int i) => some (.int i) | _ => none
noncomputable def wdOf (prog p : Program) (w : World) (s₁ : Shared) (sa : Addr) (ns : List Int) (names : List String) (mg mb : Str → Option Value) (cl : Option (Addr × (Str → Option Value))) : Wd :=
  ⟨prog, w, s₁, sa, ns, fun c => if c = "Sheet" then cl.map (·.1) else none, globOf p, names, fnOf mg cl, mg, mb⟩

noncomputable def freeB (p : Program) (loose : List Str) (x : Str) : Bool := !(startupNames.contains x) && !(loose.contains x) && !((recsOf p).map (·.name)).contains x && !((litsOf p).map (·.1)).contains x && !((clssOf p loose).map (·.name)).contains x
noncomputable def plainName (f : String) : Bool := methAll.all fun n => !decide ("Sheet" ++ "." ++ n = f)
noncomputable def topChk (p : Program) (loose : List Str) (names : List String) : Bool :=
  importsNone p && (("range" :: (biNames ++ typNames)).all fun x => freeB p loose (Str.ofString x)) && names.all fun f => plainName f && ((recsOf p).any fun d => d.name == Str.ofString f)
noncomputable def clsRec (p : Program) (loose : List Str) : Option ClsRec := (plainsOf p loose).find? fun c => c.name == ("Sheet" : Str)
noncomputable def clsChk (c : ClsRec) : Bool := (attrNames.all fun n => c.statics.contains (Str.ofString n)) && methAll.all fun n => c.meths.any fun m => m.name == Str.ofString n

section
variable {prog p : Program} {w : World} {s₁ : Shared} {sa : Addr} {ns : List Int} {names : List String} {mg mb : Str → Option Value} {loose : List Str} {mean : ExcName → Option Value}

theorem freeB_is (T : Top p loose mean mg mb s₁.heap) {x : Str} (h : freeB p loose x = true) : mg x = none := by
  simp only [freeB, Bool.and_eq_true, Bool.not_eq_true', List.contains_eq_mem, decide_eq_false_iff_not] at h
  exact T.free x h.1.1.1.1 h.1.1.1.2 h.1.1.2 h.1.2 h.2

theorem lookup_mem {x : String} {b : Bi} : ∀ {l : List (String × Bi)}, l.lookup x = some b → (x, b) ∈ l := by
  intro l
  induction l with
  | nil => intro h; cases h
  | cons y l ih =>
    intro h
    obtain ⟨z, c⟩ := y
    rw [List.lookup_cons] at h
    split at h
    · rename_i e; cases h; rw [eq_of_beq e]; exact .head _
    · exact .tail _ (ih h)
theorem biOf_boot {x : String} {b : Bi} (h : biOf x = some b) : x ∈ biNames ∧ PySem.bootBuiltins (Str.ofString x) = some (biV b) ∧ Str.ofString x ≠ "__name__" := by
  unfold biOf at h
  have := lookup_mem h
  simp only [List.mem_cons, Prod.mk.injEq, List.not_mem_nil, or_false] at this
  rcases this with ⟨rfl, rfl⟩ | ⟨rfl, rfl⟩ | ⟨rfl, rfl⟩ | ⟨rfl, rfl⟩ | ⟨rfl, rfl⟩ | ⟨rfl, rfl⟩ | ⟨rfl, rfl⟩ | ⟨rfl, rfl⟩ | ⟨rfl, rfl⟩ | ⟨rfl, rfl⟩ | ⟨rfl, rfl⟩ <;> exact ⟨by decide, by kernel_rfl, by decide⟩

theorem intsAre_reps {W : Wd} {h : Heap} {l : List Value} {ns : List Int} (hi : IntsAre l ns) : Reps W h (ns.map V.int) l := by
  induction hi with
  | nil => exact .nil
  | cons n t hr ih => exact .cons (.int _ _) ih

theorem fnOf_plain {f : String} {cl : Option (Addr × (Str → Option Value))} (h : plainName f = true) : fnOf mg cl f = refOf (mg (Str.ofString f)) := by
  have : methAll.find? (fun n => decide ("Sheet" ++ "." ++ n = f)) = none := List.find?_eq_none.mpr fun n hn q => by
    have := List.all_eq_true.mp h n hn
    rw [q] at this; cases this
  unfold fnOf; rw [this]
theorem fnOf_meth {C : Addr} {mN : Str → Option Value} : ∀ n ∈ methAll, fnOf mg (some (C, mN)) ("Sheet" ++ "." ++ n) = refOf (mN (Str.ofString n)) := by
  intro n hn
  have hu : methAll.find? (fun m => decide ("Sheet" ++ "." ++ m = "Sheet" ++ "." ++ n)) = some n := by
    revert n; decide +kernel
  unfold fnOf; rw [hu]; rfl

/-- the class, as the top leaves it -/
theorem clsIs_of {c : ClsRec} {C N : Addr} {mN : Str → Option Value} (P : PlainAt s₁.heap c.withCmp C N mN) (hc : clsChk c = true) : ClsIs (wdOf prog p w s₁ sa ns names mg mb (some (C, mN))) "Sheet" C N mN := by
  obtain ⟨h1, h2⟩ := Bool.and_eq_true_iff.mp hc
  have qt := fun n (hn : n ∈ (["__setattr__", "__getattribute__", "__getattr__"] : List Str)) => P.quiet n (List.mem_append_left _ hn)
  refine ⟨rfl, P.cls, qt _ (.tail _ (.head _)), qt _ (.tail _ (.tail _ (.head _))), qt _ (.head _), fun n hn => P.quiet _ (List.mem_append_right _ (List.mem_append_left _ ?_)), fun n hn => ?_⟩
  · exact List.contains_iff_mem.mp (List.all_eq_true.mp h1 n hn)
  · obtain ⟨m, hm, e⟩ := List.any_eq_true.mp (List.all_eq_true.mp h2 n hn)
    obtain ⟨f, o, pm, cd, doc, q1, q2, q3, q4, q5⟩ := P.meths m hm
    rw [eq_of_beq e] at q1
    exact ⟨f, o, _, q1, q2, q3, q4, (fnOf_meth n hn).trans (by rw [q1]; rfl)⟩

theorem topOk_of {cl : Option (Addr × (Str → Option Value))} (T : Top p loose mean mg mb s₁.heap) (hc : topChk p loose names = true) (hs : ∃ items n, items.size ≤ 1000001 ∧ s₁.heap.get? sa = some { cls := .type "list", data := .seq items n } ∧ PyProof.Rows.IntsAre items.toList ns)
    (xs : List String) (hxs : ∀ f ∈ xs, f = "Sheet") (hcl : ∀ x, cl = some x → mg "Sheet" = some (.ref x.1) ∧ ∃ N, ClsIs (wdOf prog p w s₁ sa ns (xs ++ names) mg mb cl) "Sheet" x.1 N x.2) (hx : xs ≠ [] → cl ≠ none) :
    TopOk (wdOf prog p w s₁ sa ns (xs ++ names) mg mb cl) := by
  simp only [topChk, Bool.and_eq_true, List.all_eq_true] at hc
  obtain ⟨⟨himp, hfree⟩, hnames⟩ := hc
  have hfree' : ∀ x ∈ ("range" :: (biNames ++ typNames)), mg (Str.ofString x) = none := fun x hx => freeB_is T (hfree x hx)
  refine { sys := ?_, script := ?_, lim := T.nolimit, hg := T.g, hb := T.b, fnF := ?_, globV := ?_, biB := ?_, clsK := ?_, rng := ⟨hfree' "range" (by simp), (T.builtins _ (by decide)).trans (by kernel_rfl)⟩ }
  · obtain ⟨mm, ⟨o, es, ep, ho, _⟩, _⟩ := (T.seer himp).mods
    show s₁.heap.get? PySem.sysModules ≠ none
    rw [ho]; exact Option.some_ne_none _
  · obtain ⟨items, n, z, e, hi⟩ := hs
    exact ⟨items, n, z, e, fun h => intsAre_reps hi⟩
  · intro f hf
    rcases List.mem_append.mp hf with hf | hf
    · cases hxs f hf
      cases hq : cl with
      | none => exact absurd hq (hx fun q => by rw [q] at hf; cases hf)
      | some x =>
        obtain ⟨h1, N, K⟩ := hcl x hq
        refine ⟨x.1, ?_, h1, .inr ⟨N, x.2, K.cls⟩⟩
        show fnOf mg (some x) "Sheet" = some x.1
        rw [fnOf_plain (by decide +kernel), h1]; rfl
    · obtain ⟨h1, h2⟩ := hnames f hf
      obtain ⟨d, hd, he⟩ := List.any_eq_true.mp h2
      obtain ⟨a, o, pm, code, doc, hmg, ho, hdt, hcr⟩ := T.fn d hd
      rw [eq_of_beq he] at hmg
      exact ⟨a, (fnOf_plain h1).trans (by rw [hmg]; rfl), hmg, .inl ⟨o, _, ho, hdt⟩⟩
  · intro x v hx
    have hx : globOf p x = some v := hx
    unfold globOf at hx
    split at hx
    · rename_i ht
      cases hx
      refine ⟨.type x, .inr ⟨hfree' x (List.mem_cons_of_mem _ (List.mem_append_right _ ht)), ?_⟩, fun h => .typ x⟩
      show mb _ = _
      simp only [typNames, List.mem_cons, List.not_mem_nil, or_false] at ht
      rcases ht with rfl | rfl | rfl | rfl | rfl <;> exact (T.builtins _ (by decide)).trans (by kernel_rfl)
    · split at hx
      · rename_i i hv
        cases hx
        obtain ⟨y, hy, hr⟩ := T.const _ _ hv
        have := hr s₁.heap
        cases this
        exact ⟨_, .inl hy, fun h => .int _ _⟩
      · cases hx
  · intro x b hb
    obtain ⟨h1, h2, h3⟩ := biOf_boot hb
    exact ⟨hfree' x (List.mem_cons_of_mem _ (List.mem_append_left _ h1)), (T.builtins _ h3).trans h2⟩
  · intro c C' h
    have h : (if c = "Sheet" then cl.map (·.1) else none) = some C' := h
    by_cases hc : c = "Sheet"
    · subst hc
      rw [if_pos rfl] at h
      obtain ⟨x, hq, rfl⟩ := Option.map_eq_some_iff.mp h
      obtain ⟨_, N, K⟩ := hcl x hq
      exact ⟨N, x.2, K⟩
    · rw [if_neg hc] at h; cases h

theorem typ_of {cl : Option (Addr × (Str → Option Value))} : ∀ t ∈ typNames, (wdOf prog p w s₁ sa ns names mg mb cl).glob t = some (.typ t) := fun t ht => if_pos ht

/-- the text's reading of a function -/
noncomputable def dataOk (params : PySem.Arguments) (scope : Scope) (body : List Stmt) (ps : List String) : Option (List S) :=
  oif (params.posonlyargs.isEmpty && params.kwonlyargs.isEmpty && params.vararg.isNone && params.kwarg.isNone && (params.args.map (·.arg) == ps.map Str.ofString) && scope.kind == .function && !scope.isCoroutine && !scope.isGenerator &&
      (ps.all fun x => isOwn scope.names (Str.ofString x)) && decide ps.Nodup) (compSs 60 scope.names body)
theorem dataOk_is {params : PySem.Arguments} {scope : Scope} {body : List Stmt} {ps : List String} {bs : List S} (h : dataOk params scope body ps = some bs) {fd : FuncData} (e1 : fd.params = params) (e2 : fd.scope = scope) (e3 : fd.body = .stmts body) (e4 : fd.closure = []) (e5 : fd.globals = mainGlobals) (e6 : fd.builtins = builtinsNs) (e7 : fd.defaults = .none) : FdOk fd body ps bs 60 := by
  subst e1 e2
  refine oif_inv h fun hc h => ?_
  simp only [Bool.and_eq_true, Bool.not_eq_true', List.isEmpty_iff, Option.isNone_iff_eq_none, beq_iff_eq, List.all_eq_true, decide_eq_true_eq] at hc
  obtain ⟨⟨⟨⟨⟨⟨⟨⟨⟨h1, h2⟩, h3⟩, h4⟩, h5⟩, h6⟩, h7⟩, h8⟩, h9⟩, h10⟩ := hc
  refine ⟨e3, e4, e5, e6, h7, h8, h6, fun xs hl => ?_, h, h9, h10⟩
  refine bindArgs_plain h1 h5 h2 h3 h4 e7 ?_ (by rw [List.length_map]; exact hl)
  rw [List.Nodup, List.pairwise_map]
  exact h10.imp fun hne he => hne (Str.ofString_inj he)
noncomputable def recOk (p : Program) (f : String) (ps : List String) : Option (List S) :=
  Option.bind ((recsOf p).find? fun d => d.name == Str.ofString f) fun d => oif (plainName f) (dataOk d.params d.scope d.body ps)
theorem fnOk_of {cl : Option (Addr × (Str → Option Value))} (T : Top p loose mean mg mb s₁.heap) {f : String} {ps : List String} {bs : List S} (h : recOk p f ps = some bs) : FnOk (wdOf prog p w s₁ sa ns names mg mb cl) f ps bs := by
  refine ob_inv h fun d hd h => oif_inv h fun hp h => ?_
  obtain ⟨a, o, pm, code, doc, hmg, ho, hdt, hcr⟩ := T.fn d (List.mem_of_find?_eq_some hd)
  have hb := List.find?_some hd
  rw [show d.name = Str.ofString f from eq_of_beq hb] at hmg
  exact ⟨(fnOf_plain hp).trans (by rw [hmg]; rfl), ho, hdt, hcr, dataOk_is h rfl rfl rfl rfl rfl rfl rfl⟩
noncomputable def methOk (c : ClsRec) (n : String) (ps : List String) : Option (List S) :=
  Option.bind (c.meths.find? fun d => d.name == Str.ofString n) fun d => oif (decide (n ∈ methAll)) (dataOk d.params d.scope d.body ps)
theorem methOk_of {c : ClsRec} {C N : Addr} {mN : Str → Option Value} (P : PlainAt s₁.heap c.withCmp C N mN) {n : String} {ps : List String} {bs : List S} (h : methOk c n ps = some bs) : FnOk (wdOf prog p w s₁ sa ns names mg mb (some (C, mN))) ("Sheet" ++ "." ++ n) ps bs := by
  refine ob_inv h fun d hd h => oif_inv h fun hp h => ?_
  obtain ⟨f, o, pm, cd, doc, q1, q2, q3, q4, q5⟩ := P.meths d (List.mem_of_find?_eq_some hd)
  have hb := List.find?_some hd
  rw [show d.name = Str.ofString n from eq_of_beq hb] at q1
  exact ⟨(fnOf_meth n (of_decide_eq_true hp)).trans (by rw [q1]; rfl), q2, q4, q5, dataOk_is h rfl rfl rfl rfl rfl rfl rfl⟩
end

/-! ### the law's call -/
theorem roomCaller : Room PySem.callerA 60 := ⟨rfl, by decide +kernel, by decide +kernel⟩
theorem intsAre_length {l : List Value} {ns : List Int} (h : IntsAre l ns) : l.length = ns.length := by
  induction h with
  | nil => rfl
  | cons _ _ _ ih => exact congrArg (· + 1) ih
theorem script_of {P : PySem.Params} {h : Heap} {sa : Addr} {xs : List PySem.W.WData} {vals : List Value} {ns : List Int} (w1 : PySem.W.Well P h (.ref sa) (.list xs)) (hL : h.IsList sa vals.toArray) (hI : IntsAre vals ns) (hn : ns.length ≤ 1000) :
    ∃ items n, items.size ≤ 1000001 ∧ h.get? sa = some { cls := .type "list", data := .seq items n } ∧ IntsAre items.toList ns := by
  cases w1 with
  | list e _ =>
    obtain ⟨o, ho, _, n, hd⟩ := hL
    rw [e] at ho; cases ho
    injection hd with hd _
    exact ⟨_, _, by have := intsAre_length hI; rw [hd]; simp; lia, e, by rw [hd]; exact hI⟩

section
variable {prog p : Program} {w : World} {s₁ : Shared} {sa fa : Addr} {ns : List Int} {names : List String} {mg mb : Str → Option Value} {cl : Option (Addr × (Str → Option Value))}
theorem law_good {k : Nat} {ps : List String} {bs : List S} {c : PySem.W.ClaimW} {cl' : Str → Option Addr} {mean : ExcName → Option Value} {args : List PySem.W.WData}
    (T : TopOk (wdOf prog p w s₁ sa ns names mg mb cl)) (F : FnOk (wdOf prog p w s₁ sa ns names mg mb cl) "law" ps bs) (hk : k + 1 ≤ 60) (hl : ps.length = 1)
    (hw : wpSs bs (glb (wdOf prog p w s₁ sa ns names mg mb cl) k) (bindP ps [.script]) (fun _ => none) (fun _ _ => V.none = .bool true) (fun v _ => v = .bool true) (fun _ _ _ => False))
    (hmg : mg (Str.ofString "law") = some (.ref fa)) (hgens : s₁.gens = #[]) (hpost : c.post args (.bool true) args = true) (hraise : ∀ cls, c.raises args cls = false) :
    codeAny (model prog w) PySem.callerA (.call (.ref fa) ⟨[.ref sa], []⟩) (PySem.W.GoodW c cl' mean args s₁) s₁ := by
  obtain ⟨hfa, ho, hd, hcr, F⟩ := F
  obtain rfl : _ = fa := by
    have h2 : fnOf mg cl "law" = some fa := by rw [fnOf_plain (by decide +kernel), hmg]; rfl
    exact Option.some.inj (hfa.symm.trans h2)
  have r : HR (wdOf prog p w s₁ sa ns names mg mb cl) (fun _ => none) s₁ := ⟨⟨s₁.heap, s₁.toks, rfl⟩, fun b o e => e, fun _ _ _ => rfl, fun a c h => by cases h⟩
  refine PySem.codeAny_mono (code_ok (X := fun _ _ => False) (Q := fun v _ => v = .bool true) (P := fun x s' => x = .bool true ∧ ∃ σ', Step (wdOf prog p w s₁ sa ns names mg mb cl) [] (fun _ => none) s₁ σ' s') (E := fun _ _ => False) (vs := [.script]) T ho hd hcr F hl.symm ?_ (roomCaller.le hk) r (.one .script) ?_) fun rr s' h => ?_
  · exact hw
  · intro v σ' x s' hq rv st
    subst hq
    exact ⟨rv.bool_inv, σ', st⟩
  · cases rr with
    | error e => exact h.elim
    | ok f =>
      cases f with
      | ret v =>
        obtain ⟨rfl, σ', st⟩ := h
        obtain ⟨h', tk, rfl⟩ := st.hr.same
        exact ⟨.inl ⟨_, .bool true, [], rfl, hraise, .bool true, hpost, fun _ => ⟨List.nodup_nil, fun a ha => by cases ha⟩⟩, fun b o e => st.hr.base b o e, rfl, hgens⟩
      | _ => exact h.elim
end

/-! ## the part of the text that the head looks at: all but the names of its files -/
end RS

namespace RS
open PySem (Program Heap Str Value)
open PyProof.Rows
theorem cls_of {p : Program} {loose : List Str} {mg : Str → Option Value} {h : Heap} (TE : TopE p loose mg h) (hx : (clsRec p loose).isSome = true) : ∃ C N mN, mg "Sheet" = some (.ref C) ∧ PlainAt h ((clsRec p loose).get hx).withCmp C N mN := by
  have e : (plainsOf p loose).find? (fun c => c.name == ("Sheet" : Str)) = some ((clsRec p loose).get hx) := (Option.some_get hx).symm
  obtain ⟨C, N, mN, h1, P⟩ := TE _ (List.mem_of_find?_eq_some e)
  have hb := List.find?_some e
  rw [eq_of_beq hb] at h1
  exact ⟨C, N, mN, h1, P⟩
end RS

namespace RS
open PySem (PyData)

/-! ### rules of a sheet, as data: numbers, cells and sums -/
inductive Rule where
  | num (i : Int)
  | cell (q : Int × Int)
  | add (a b : Rule)
noncomputable def rv (q : Int × Int) : V := .tup [.int q.1, .int q.2, .bool false, .bool true]
noncomputable def Rule.v : Rule → V
  | .num i => .tup [.str "num", .int i]
  | .cell q => .tup [.str "cell", rv q]
  | .add a b => .tup [.str "add", a.v, b.v]
noncomputable def Rule.deep : Rule → Nat
  | .add a b => max a.deep b.deep + 1
  | _ => 1
noncomputable def Rule.size : Rule → Nat
  | .add a b => a.size + b.size + 1
  | _ => 1
noncomputable def Rule.parts : Rule → List Rule
  | .add a b => [a, b]
  | _ => []
noncomputable def Rule.refs : Rule → List (Int × Int)
  | .cell q => [q]
  | _ => []
noncomputable def Rule.has : Rule → Bool
  | .num _ => false
  | .cell _ => true
  | .add a b => a.has || b.has
noncomputable def Rule.At (q : Int × Int) : Rule → Prop
  | .num _ => True
  | .cell p => p = q
  | .add a b => a.At q ∧ b.At q

noncomputable def sd (s : String) : PyData := .str (PySem.Str.ofString s)
theorem snap_str (σ : Hp) (s : String) (n : Nat) : snap σ n (.str s) = some (sd s) := by cases n <;> rfl
theorem snap_int (σ : Hp) (i : Int) (n : Nat) : snap σ n (.int i) = some (.int i) := by cases n <;> rfl
theorem oc {α β : Type} {f : α → Option β} {a : α} {b : β} {l : List α} {s : List β} (h1 : f a = some b) (h2 : optAll f l = some s) : optAll f (a :: l) = some (b :: s) := by
  show (f a).bind (fun b => (optAll f l).map (b :: ·)) = _; rw [h1, Option.bind_some, h2]; rfl
theorem snap_tup {σ : Hp} {n : Nat} {vs : List V} {ds : List PyData} (h : optAll (snap σ n) vs = some ds) : snap σ (n + 1) (.tup vs) = some (.tuple ds) := congrArg (Option.map PyData.tuple) h
theorem snap_lst {σ : Hp} {n a : Nat} {vs : List V} {ds : List PyData} (ha : σ a = some (.lst vs)) (h : optAll (snap σ n) vs = some ds) : snap σ (n + 1) (.ref a) = some (.list ds) := by
  show (match σ a with | some (.lst vs) => (optAll (snap σ n) vs).map PyData.list | _ => none) = _
  rw [ha]; exact congrArg (Option.map PyData.list) h
theorem lt_pred {d n : Nat} (h : d + 1 ≤ n) : ∃ m, n = m + 1 ∧ d ≤ m := by
  cases n with
  | zero => exact absurd h (Nat.not_succ_le_zero _)
  | succ m => exact ⟨m, rfl, Nat.le_of_succ_le_succ h⟩
theorem snap_rv (σ : Hp) (q : Int × Int) (n : Nat) : snap σ (n + 1) (rv q) = some (.tuple [.int q.1, .int q.2, .bool false, .bool true]) := by cases n <;> rfl
theorem snap_rule (σ : Hp) : ∀ (r : Rule) (n : Nat), r.deep + 1 ≤ n → ∃ d, snap σ n r.v = some d := by
  intro r
  induction r with
  | num i => intro n h; obtain ⟨m, rfl, _⟩ := lt_pred h; exact ⟨_, snap_tup (oc (snap_str ..) (oc (snap_int ..) rfl))⟩
  | cell x => intro n h; obtain ⟨m, rfl, h1⟩ := lt_pred h; obtain ⟨m, rfl, _⟩ := lt_pred (d := 0) h1; exact ⟨_, snap_tup (oc (snap_str ..) (oc (snap_rv σ x m) rfl))⟩
  | add a b iha ihb =>
    intro n h
    obtain ⟨m, rfl, h1⟩ := lt_pred h
    have h : max a.deep b.deep + 1 ≤ m := h1
    obtain ⟨da, ea⟩ := iha m (Nat.le_trans (Nat.succ_le_succ (Nat.le_max_left _ _)) h)
    obtain ⟨db, eb⟩ := ihb m (Nat.le_trans (Nat.succ_le_succ (Nat.le_max_right _ _)) h)
    exact ⟨_, snap_tup (oc (snap_str ..) (oc ea (oc eb rfl)))⟩
theorem snap_ex {α β : Type} {f : α → Option β} : ∀ {xs : List α}, (∀ x ∈ xs, ∃ d, f x = some d) → ∃ ds, optAll f xs = some ds
  | [], _ => ⟨[], rfl⟩
  | x :: xs, h => let ⟨_, e⟩ := h x (.head _); let ⟨_, es⟩ := snap_ex (xs := xs) fun y hy => h y (.tail _ hy); ⟨_, oc e es⟩
theorem snap_all {α : Type} {σ : Hp} {n : Nat} (f : α → V) (g : α → PyData) : ∀ (xs : List α), (∀ x ∈ xs, snap σ n (f x) = some (g x)) → optAll (snap σ n) (xs.map f) = some (xs.map g)
  | [], _ => rfl
  | x :: xs, h => oc (h x (.head _)) (snap_all f g xs fun y hy => h y (.tail _ hy))
theorem eqv_nil (ds : List PyData) : PyData.eqv (.list ds) (.list []) = ds.isEmpty := by cases ds <;> rfl
theorem eqP_nil {σ : Hp} {B : Bool → Prop} {a b : Nat} {vs : List V} {ds : List PyData} (ha : σ a = some (.lst vs)) (hb : σ b = some (.lst [])) (hs : optAll (snap σ 49) vs = some ds) (q : B vs.isEmpty) : eqP σ B (.ref a) (.ref b) := by
  refine .gen (snap_lst ha hs) (snap_lst (n := 49) hb rfl) ?_
  rw [eqv_nil]
  have hl := optAll_length hs
  cases vs with
  | nil => cases ds with
    | nil => exact q
    | cons _ _ => cases hl
  | cons v vs => cases ds with
    | nil => cases hl
    | cons _ _ => exact q
theorem s_neL0 {σ : Hp} {B : Bool → Prop} {a b : Nat} {vs : List V} {ds : List PyData} (ha : σ a = some (.lst vs)) (hb : σ b = some (.lst [])) (hs : optAll (snap σ 49) vs = some ds) (q : B (!vs.isEmpty)) : cmpP σ B .ne (.ref a) (.ref b) := .ne (eqP_nil (B := fun b => B (!b)) ha hb hs q)
theorem s_eqL0 {σ : Hp} {B : Bool → Prop} {a b : Nat} {vs : List V} {ds : List PyData} (ha : σ a = some (.lst vs)) (hb : σ b = some (.lst [])) (hs : optAll (snap σ 49) vs = some ds) (q : B vs.isEmpty) : cmpP σ B .eq (.ref a) (.ref b) := .eq (eqP_nil ha hb hs q)

theorem slice_tail (v : V) (vs : List V) : pySlice (v :: vs) (some 1) none = vs := by
  have : List.take vs.length vs = vs := List.take_length
  simp [pySlice, clipLo, clipHi, clip, this]

theorem callP_mono {W : Wd} {k k' : Nat} {f : String} {vs : List V} {σ : Hp} {Q : VP} {X : XP} (h : k ≤ k') (c : callP W k f vs σ Q (fun _ _ => False)) : callP W k' f vs σ Q X := by
  obtain ⟨fa, hfa, hc⟩ := c
  exact ⟨fa, hfa, fun A s xs P E hA r rs _ hP => hc A s xs P E (hA.le h) r rs (fun _ _ q => q) hP⟩
noncomputable def noX : XP := fun _ _ => False
theorem gcall {W : Wd} {n m : Nat} {f : String} {vs : List V} {σ : Hp} {Q : VP} {X : XP} (h : m ≤ n) (c : callP W m f vs σ Q noX) : (glb W n).call f vs σ Q X := callP_mono h c


noncomputable def p_rules_in : List String := ["rule"]
noncomputable def b_rules_in : List S := [
  .ite (.bop false [.cmp (.idx (.var "rule") (.num 0)) .eq (.str "add"), .cmp (.idx (.var "rule") (.num 0)) .eq (.str "sub"), .cmp (.idx (.var "rule") (.num 0)) .eq (.str "mul")] (.cmp (.idx (.var "rule") (.num 0)) .eq (.str "pick"))) [
    .ret (.bi .list [.slice (.var "rule") (.num 1) .none])] [],
  .ite (.cmp (.idx (.var "rule") (.num 0)) .eq (.str "look")) [
    .ret (.lst [.idx (.var "rule") (.num 1), .idx (.var "rule") (.num 4)])] [],
  .ret (.lst [])]

noncomputable def p_references_in : List String := ["rule"]
noncomputable def b_references_in : List S := [
  .ite (.bop false [.cmp (.idx (.var "rule") (.num 0)) .eq (.str "cell"), .cmp (.idx (.var "rule") (.num 0)) .eq (.str "sum")] (.cmp (.idx (.var "rule") (.num 0)) .eq (.str "most"))) [
    .ret (.bi .list [.slice (.var "rule") (.num 1) .none])] [],
  .ite (.cmp (.idx (.var "rule") (.num 0)) .eq (.str "look")) [
    .ret (.lst [.idx (.var "rule") (.num 2), .idx (.var "rule") (.num 3)])] [],
  .ret (.lst [])]

noncomputable def p_all_rules : List String := ["rule"]
noncomputable def b_all_rules : List S := [
  .assign (.var "waiting") (.lst [.tup [.var "rule", .num 1]]),
  .assign (.var "found") (.lst []),
  .while_ (.cmp (.var "waiting") .ne (.lst [])) [
    .assign (.var "pair") (.meth (.var "waiting") .pop []),
    .expr (.meth (.var "found") .append [.var "pair"]),
    .assign (.var "waiting") (.bin .add (.var "waiting") (.comp (.tup [.var "one", .bin .add (.idx (.var "pair") (.num 1)) (.num 1)]) "one" (.of (.call "rules_in" [.idx (.var "pair") (.num 0)])) []))],
  .ret (.var "found")]

noncomputable def p_area : List String := ["one", "two"]
noncomputable def b_area : List S := [
  .assign (.var "left") (.bi .min [.idx (.var "one") (.num 1), .idx (.var "two") (.num 1)]),
  .assign (.var "right") (.bi .max [.idx (.var "one") (.num 1), .idx (.var "two") (.num 1)]),
  .assign (.var "found") (.lst []),
  .for_ "row" (.range2 (.bi .min [.idx (.var "one") (.num 0), .idx (.var "two") (.num 0)]) (.bin .add (.bi .max [.idx (.var "one") (.num 0), .idx (.var "two") (.num 0)]) (.num 1))) [
    .assign (.var "found") (.bin .add (.var "found") (.comp (.tup [.var "row", .var "column"]) "column" (.range2 (.var "left") (.bin .add (.var "right") (.num 1))) []))],
  .ret (.var "found")]

noncomputable def p_deep : List String := ["rule"]
noncomputable def b_deep : List S := [
  .ret (.bi .max [.comp (.idx (.var "pair") (.num 1)) "pair" (.of (.call "all_rules" [.var "rule"])) []])]

noncomputable def p_references : List String := ["rule"]
noncomputable def b_references : List S := [
  .assign (.var "found") (.lst []),
  .for_ "pair" (.of (.call "all_rules" [.var "rule"])) [
    .assign (.var "found") (.bin .add (.var "found") (.call "references_in" [.idx (.var "pair") (.num 0)]))],
  .ret (.var "found")]

noncomputable def p_needed : List String := ["rule"]
noncomputable def b_needed : List S := [
  .assign (.var "found") (.emptyDict),
  .for_ "pair" (.of (.call "all_rules" [.var "rule"])) [
    .assign (.var "some") (.call "references_in" [.idx (.var "pair") (.num 0)]),
    .ite (.cmp (.var "some") .ne (.lst [])) [
      .for_ "place" (.of (.call "area" [.idx (.var "some") (.num 0), .idx (.var "some") (.neg (.num 1))])) [
        .assign (.idx (.var "found") (.var "place")) (.bool true)]] []],
  .ret (.bi .sorted [.var "found"])]

noncomputable def p_told : List String := ["rule", "known"]
noncomputable def b_told : List S := [
  .ite (.cmp (.idx (.var "rule") (.num 0)) .eq (.str "num")) [
    .ret (.bin .mod (.idx (.var "rule") (.num 1)) (.glob "BOUND"))] [],
  .ite (.cmp (.idx (.var "rule") (.num 0)) .eq (.str "cell")) [
    .ret (.idx (.var "known") (.tup [.idx (.idx (.var "rule") (.num 1)) (.num 0), .idx (.idx (.var "rule") (.num 1)) (.num 1)]))] [],
  .ite (.cmp (.idx (.var "rule") (.num 0)) .eq (.str "sum")) [
    .ret (.bin .mod (.bi .sum [.comp (.idx (.var "known") (.var "place")) "place" (.of (.call "area" [.idx (.var "rule") (.num 1), .idx (.var "rule") (.num 2)])) []]) (.glob "BOUND"))] [],
  .ite (.cmp (.idx (.var "rule") (.num 0)) .eq (.str "most")) [
    .ret (.bi .max [.comp (.idx (.var "known") (.var "place")) "place" (.of (.call "area" [.idx (.var "rule") (.num 1), .idx (.var "rule") (.num 2)])) []])] [],
  .ite (.cmp (.idx (.var "rule") (.num 0)) .eq (.str "look")) [
    .assign (.var "other") (.call "told" [.idx (.var "rule") (.num 4), .var "known"]),
    .ret (.call "looked" [.call "told" [.idx (.var "rule") (.num 1), .var "known"], .call "area" [.idx (.var "rule") (.num 2), .idx (.var "rule") (.num 3)], .var "known", .var "other"])] [],
  .assign (.var "one") (.call "told" [.idx (.var "rule") (.num 1), .var "known"]),
  .ite (.cmp (.idx (.var "rule") (.num 0)) .eq (.str "pick")) [
    .ite (.cmp (.var "one") .ne (.num 0)) [
      .ret (.call "told" [.idx (.var "rule") (.num 2), .var "known"])] [],
    .ret (.call "told" [.idx (.var "rule") (.num 3), .var "known"])] [],
  .assign (.var "two") (.call "told" [.idx (.var "rule") (.num 2), .var "known"]),
  .ite (.cmp (.idx (.var "rule") (.num 0)) .eq (.str "add")) [
    .ret (.bin .mod (.bin .add (.var "one") (.var "two")) (.glob "BOUND"))] [],
  .ite (.cmp (.idx (.var "rule") (.num 0)) .eq (.str "sub")) [
    .ret (.bin .mod (.bin .sub (.var "one") (.var "two")) (.glob "BOUND"))] [],
  .ret (.bin .mod (.bin .mul (.var "one") (.var "two")) (.glob "BOUND"))]

noncomputable def p_known_values : List String := ["sheet"]
noncomputable def b_known_values : List S := [
  .assign (.var "left") (.meth (.var "sheet") (.own "places") []),
  .assign (.var "known") (.emptyDict),
  .assign (.var "more") (.bool true),
  .while_ (.var "more") [
    .assign (.var "more") (.bool false),
    .assign (.var "still") (.lst []),
    .for_ "place" (.of (.var "left")) [
      .assign (.var "rule") (.meth (.var "sheet") (.own "rule") [.var "place"]),
      .ite (.bi .all [.comp (.cmp (.var "one") .isIn (.var "known")) "one" (.of (.call "needed" [.var "rule"])) []]) [
        .assign (.idx (.var "known") (.var "place")) (.call "told" [.var "rule", .var "known"]),
        .assign (.var "more") (.bool true)] [
        .expr (.meth (.var "still") .append [.var "place"])]],
    .assign (.var "left") (.var "still")],
  .ret (.var "known")]

noncomputable def p_reckoned : List String := ["sheet"]
noncomputable def b_reckoned : List S := [
  .assign (.var "known") (.call "known_values" [.var "sheet"]),
  .assign (.var "found") (.lst []),
  .for_ "row" (.range1 (.attr (.var "sheet") "high")) [
    .expr (.meth (.var "found") .append [.comp (.meth (.var "known") .get [.tup [.var "row", .var "column"]]) "column" (.range1 (.attr (.var "sheet") "wide")) []])],
  .ret (.var "found")]

noncomputable def p_ring : List String := ["sheet"]
noncomputable def b_ring : List S := [
  .assign (.var "known") (.call "known_values" [.var "sheet"]),
  .assign (.var "left") (.comp (.var "place") "place" (.of (.meth (.var "sheet") (.own "places") [])) [.cmp (.var "place") .notIn (.var "known")]),
  .ite (.cmp (.var "left") .eq (.lst [])) [
    .ret (.none)] [],
  .assign (.var "way") (.lst [.idx (.var "left") (.num 0)]),
  .while_ (.bool true) [
    .assign (.var "place") (.idx (.comp (.var "one") "one" (.of (.call "needed" [.meth (.var "sheet") (.own "rule") [.idx (.var "way") (.neg (.num 1))]])) [.cmp (.var "one") .notIn (.var "known")]) (.num 0)),
    .ite (.cmp (.var "place") .isIn (.var "way")) [
      .ret (.slice (.var "way") (.meth (.var "way") .index [.var "place"]) .none)] [],
    .expr (.meth (.var "way") .append [.var "place"])]]

noncomputable def p_Sheet___init : List String := ["self", "high", "wide"]
noncomputable def b_Sheet___init : List S := [
  .ite (.bop false [.not (.cmp2 (.num 1) .le (.var "high") .le (.glob "MOST"))] (.not (.cmp2 (.num 1) .le (.var "wide") .le (.glob "MOST")))) [
    .raise "BadSize"] [],
  .assign (.attr (.var "self") "high") (.var "high"),
  .assign (.attr (.var "self") "wide") (.var "wide"),
  .assign (.attr (.var "self") "cells") (.emptyDict),
  .for_ "place" (.of (.meth (.var "self") (.own "places") [])) [
    .assign (.idx (.attr (.var "self") "cells") (.var "place")) (.tup [.str "num", .num 0])]]

noncomputable def p_Sheet_places : List String := ["self"]
noncomputable def b_Sheet_places : List S := [
  .ret (.call "area" [.tup [.num 0, .num 0], .tup [.bin .sub (.attr (.var "self") "high") (.num 1), .bin .sub (.attr (.var "self") "wide") (.num 1)]])]

noncomputable def p_Sheet_need_on : List String := ["self", "place"]
noncomputable def b_Sheet_need_on : List S := [
  .ite (.bop false [.not (.cmp2 (.num 0) .le (.idx (.var "place") (.num 0)) .lt (.attr (.var "self") "high"))] (.not (.cmp2 (.num 0) .le (.idx (.var "place") (.num 1)) .lt (.attr (.var "self") "wide")))) [
    .raise "OffSheet"] []]

noncomputable def p_Sheet_need_rule : List String := ["self", "rule"]
noncomputable def b_Sheet_need_rule : List S := [
  .for_ "one" (.of (.call "references" [.var "rule"])) [
    .expr (.meth (.var "self") (.own "need_on") [.var "one"])]]

noncomputable def p_Sheet_rule : List String := ["self", "place"]
noncomputable def b_Sheet_rule : List S := [
  .expr (.meth (.var "self") (.own "need_on") [.var "place"]),
  .ret (.idx (.attr (.var "self") "cells") (.tup [.idx (.var "place") (.num 0), .idx (.var "place") (.num 1)]))]

noncomputable def p_Sheet_put : List String := ["self", "place", "rule"]
noncomputable def b_Sheet_put : List S := [
  .expr (.meth (.var "self") (.own "need_on") [.var "place"]),
  .ite (.cmp (.call "deep" [.var "rule"]) .gt (.glob "MOST_DEEP")) [
    .raise "TooDeep"] [],
  .expr (.meth (.var "self") (.own "need_rule") [.var "rule"]),
  .assign (.idx (.attr (.var "self") "cells") (.tup [.idx (.var "place") (.num 0), .idx (.var "place") (.num 1)])) (.var "rule")]

noncomputable def p_touched : List String := ["sheet", "place"]
noncomputable def b_touched : List S := [
  .expr (.meth (.var "sheet") (.own "rule") [.var "place"]),
  .assign (.var "needs") (.emptyDict),
  .for_ "one" (.of (.meth (.var "sheet") (.own "places") [])) [
    .assign (.idx (.var "needs") (.var "one")) (.call "needed" [.meth (.var "sheet") (.own "rule") [.var "one"]])],
  .assign (.var "found") (.dict1 (.tup [.idx (.var "place") (.num 0), .idx (.var "place") (.num 1)]) (.bool true)),
  .assign (.var "waiting") (.bi .list [.var "found"]),
  .while_ (.cmp (.var "waiting") .ne (.lst [])) [
    .assign (.var "here") (.meth (.var "waiting") .pop []),
    .for_ "one" (.of (.var "needs")) [
      .ite (.bop true [.cmp (.var "one") .notIn (.var "found")] (.cmp (.var "here") .isIn (.idx (.var "needs") (.var "one")))) [
        .assign (.idx (.var "found") (.var "one")) (.bool true),
        .expr (.meth (.var "waiting") .append [.var "one"])] []]],
  .ret (.bi .sorted [.var "found"])]

noncomputable def namesS : List String := ["rules_in", "references_in", "all_rules", "area", "deep", "references", "needed", "told", "known_values", "reckoned", "ring", "touched", "Sheet"]
structure EnvS (W : Wd) : Prop where
  T : TopOk W
  most : W.glob "MOST" = some (.int 12)
  mostD : W.glob "MOST_DEEP" = some (.int 8)
  bound : W.glob "BOUND" = some (.int 1000000000)
  cls : ∃ C, W.cls "Sheet" = some C ∧ W.fn "Sheet" = some C
  rules_in : FnOk W "rules_in" p_rules_in b_rules_in
  references_in : FnOk W "references_in" p_references_in b_references_in
  all_rules : FnOk W "all_rules" p_all_rules b_all_rules
  area : FnOk W "area" p_area b_area
  deep : FnOk W "deep" p_deep b_deep
  references : FnOk W "references" p_references b_references
  needed : FnOk W "needed" p_needed b_needed
  told : FnOk W "told" p_told b_told
  known_values : FnOk W "known_values" p_known_values b_known_values
  reckoned : FnOk W "reckoned" p_reckoned b_reckoned
  ring : FnOk W "ring" p_ring b_ring
  touched : FnOk W "touched" p_touched b_touched
  init : FnOk W "Sheet.__init__" p_Sheet___init b_Sheet___init
  places : FnOk W "Sheet.places" p_Sheet_places b_Sheet_places
  need_on : FnOk W "Sheet.need_on" p_Sheet_need_on b_Sheet_need_on
  need_rule : FnOk W "Sheet.need_rule" p_Sheet_need_rule b_Sheet_need_rule
  rule : FnOk W "Sheet.rule" p_Sheet_rule b_Sheet_rule
  put : FnOk W "Sheet.put" p_Sheet_put b_Sheet_put
  names : ∀ f ∈ namesS, f ∈ W.names

section
variable {W : Wd} {k : Nat}
theorem EnvS.has (E : EnvS W) {k : Nat} {f : String} (h : f ∈ namesS) : (glb W k).has f = true := decide_eq_true (E.names f h)

/-! ### places and areas -/
noncomputable def pv (p : Int × Int) : V := .tup [.int p.1, .int p.2]
noncomputable def areaP (r0 c0 : Int) (w n : Nat) : List (Int × Int) := (List.range n).flatMap fun (i : Nat) => (List.range w).map fun (j : Nat) => (r0 + i, c0 + j)
theorem areaP_succ (r0 c0 : Int) (w n : Nat) : areaP r0 c0 w (n + 1) = areaP r0 c0 w n ++ (List.range w).map fun (j : Nat) => (r0 + n, c0 + j) := by
  simp [areaP, List.range_succ, List.flatMap_append]
theorem areaP_length (r0 c0 : Int) (w n : Nat) : (areaP r0 c0 w n).length = n * w := by
  induction n with
  | zero => simp [areaP]
  | succ n ih => rw [areaP_succ, List.length_append, ih, List.length_map, List.length_range, Nat.succ_mul]
theorem off_nat {a x : Int} {n : Nat} : (∃ i, i < n ∧ a + (i : Int) = x) ↔ a ≤ x ∧ x < a + n := by
  constructor
  · rintro ⟨i, hi, rfl⟩
    exact ⟨Int.le_add_of_nonneg_right (Int.natCast_nonneg i), Int.add_lt_add_left (Int.ofNat_lt.mpr hi) a⟩
  · rintro ⟨h1, h2⟩
    obtain ⟨i, hi⟩ := Int.eq_ofNat_of_zero_le (Int.sub_nonneg_of_le h1)
    have e : a + (i : Int) = x := by rw [← hi, Int.add_comm, Int.sub_add_cancel]
    exact ⟨i, Int.ofNat_lt.mp (Int.lt_of_add_lt_add_left (a := a) (by rw [e]; exact h2)), e⟩
theorem mem_areaP {r0 c0 : Int} {w n : Nat} {p : Int × Int} : p ∈ areaP r0 c0 w n ↔ r0 ≤ p.1 ∧ p.1 < r0 + n ∧ c0 ≤ p.2 ∧ p.2 < c0 + w := by
  rw [← and_assoc, ← off_nat, ← off_nat]
  unfold areaP
  rw [List.mem_flatMap]
  constructor
  · rintro ⟨i, hi, hp⟩
    obtain ⟨j, hj, rfl⟩ := List.mem_map.mp hp
    exact ⟨⟨i, List.mem_range.mp hi, rfl⟩, j, List.mem_range.mp hj, rfl⟩
  · rintro ⟨⟨i, hi, e1⟩, j, hj, e2⟩
    exact ⟨i, List.mem_range.mpr hi, List.mem_map.mpr ⟨j, List.mem_range.mpr hj, Prod.ext e1 e2⟩⟩
noncomputable def boxOf (r1 c1 r2 c2 : Int) : List (Int × Int) := areaP (min r1 r2) (min c1 c2) (max c1 c2 + 1 - min c1 c2).toNat (max r1 r2 + 1 - min r1 r2).toNat
theorem area_ok (E : EnvS W) (r1 c1 r2 c2 : Int) (t1 t2 : List V) (σ : Hp) (Q : VP)
    (hr : max r1 r2 + 1 - min r1 r2 ≤ 100) (hcc : max c1 c2 + 1 - min c1 c2 ≤ 100)
    (h : ∀ a σ', σ a = none → σ.le σ' → σ' a = some (.lst ((boxOf r1 c1 r2 c2).map pv)) → Q (.ref a) σ') :
    callP W 1 "area" [.tup (.int r1 :: .int c1 :: t1), .tup (.int r2 :: .int c2 :: t2)] σ Q noX := by
  have tl : ∀ {x : Int}, x ≤ 100 → x.toNat ≤ 100 := fun hx => Int.toNat_le.mpr hx
  refine call_ok E.T E.area rfl ?_
  dsimp only [b_area, p_area, bindP]
  refine st_cons ?_
  dsimp only [RS.S.ret, RS.S.expr, RS.S.assign, RS.S.ite, RS.S.for_, RS.S.while_, RS.S.raise, RS.S.pass, RS.T.var, RS.T.idx, RS.T.attr, RS.T.tup2, RS.X.none, RS.X.bool, RS.X.num, RS.X.str, RS.X.var, RS.X.glob, RS.X.bin, RS.X.neg, RS.X.not, RS.X.bop, RS.X.cmp, RS.X.cmp2, RS.X.call, RS.X.bi, RS.X.meth, RS.X.idx, RS.X.slice, RS.X.rev, RS.X.attr, RS.X.tup, RS.X.lst, RS.X.emptyDict, RS.X.dict1, RS.X.comp, RS.Src.range1, RS.Src.range2, RS.Src.of, RS.wpT, RS.wpEs, RS.wpBop, RS.wpIfs]
  refine s_get rfl (s_idxT (v := .int c1) rfl (s_get rfl (s_idxT (v := .int c2) rfl (s_min2 (st_cons ?_)))))
  dsimp only [RS.S.ret, RS.S.expr, RS.S.assign, RS.S.ite, RS.S.for_, RS.S.while_, RS.S.raise, RS.S.pass, RS.T.var, RS.T.idx, RS.T.attr, RS.T.tup2, RS.X.none, RS.X.bool, RS.X.num, RS.X.str, RS.X.var, RS.X.glob, RS.X.bin, RS.X.neg, RS.X.not, RS.X.bop, RS.X.cmp, RS.X.cmp2, RS.X.call, RS.X.bi, RS.X.meth, RS.X.idx, RS.X.slice, RS.X.rev, RS.X.attr, RS.X.tup, RS.X.lst, RS.X.emptyDict, RS.X.dict1, RS.X.comp, RS.Src.range1, RS.Src.range2, RS.Src.of, RS.wpT, RS.wpEs, RS.wpBop, RS.wpIfs]
  refine s_get rfl (s_idxT (v := .int c1) rfl (s_get rfl (s_idxT (v := .int c2) rfl (s_max2 (st_cons ?_)))))
  dsimp only [RS.S.ret, RS.S.expr, RS.S.assign, RS.S.ite, RS.S.for_, RS.S.while_, RS.S.raise, RS.S.pass, RS.T.var, RS.T.idx, RS.T.attr, RS.T.tup2, RS.X.none, RS.X.bool, RS.X.num, RS.X.str, RS.X.var, RS.X.glob, RS.X.bin, RS.X.neg, RS.X.not, RS.X.bop, RS.X.cmp, RS.X.cmp2, RS.X.call, RS.X.bi, RS.X.meth, RS.X.idx, RS.X.slice, RS.X.rev, RS.X.attr, RS.X.tup, RS.X.lst, RS.X.emptyDict, RS.X.dict1, RS.X.comp, RS.Src.range1, RS.Src.range2, RS.Src.of, RS.wpT, RS.wpEs, RS.wpBop, RS.wpIfs]
  refine s_newG fun a σ₁ na le₁ ha => st_cons ?_
  dsimp only [RS.S.ret, RS.S.expr, RS.S.assign, RS.S.ite, RS.S.for_, RS.S.while_, RS.S.raise, RS.S.pass, RS.T.var, RS.T.idx, RS.T.attr, RS.T.tup2, RS.X.none, RS.X.bool, RS.X.num, RS.X.str, RS.X.var, RS.X.glob, RS.X.bin, RS.X.neg, RS.X.not, RS.X.bop, RS.X.cmp, RS.X.cmp2, RS.X.call, RS.X.bi, RS.X.meth, RS.X.idx, RS.X.slice, RS.X.rev, RS.X.attr, RS.X.tup, RS.X.lst, RS.X.emptyDict, RS.X.dict1, RS.X.comp, RS.Src.range1, RS.Src.range2, RS.Src.of, RS.wpT, RS.wpEs, RS.wpBop, RS.wpIfs]
  refine s_get rfl (s_idxT (v := .int r1) rfl (s_get rfl (s_idxT (v := .int r2) rfl (s_min2 (s_get rfl (s_idxT (v := .int r1) rfl (s_get rfl (s_idxT (v := .int r2) rfl (s_max2 (s_add (s_range (Nat.le_trans (tl hr) (by decide)) ?_)))))))))))
  refine forL_range (fun i ρ σ' => A4 (ρ "left" = some (.int (min c1 c2))) (ρ "right" = some (.int (max c1 c2))) (σ.le σ') (∃ b, ρ "found" = some (.ref b) ∧ σ b = none ∧ σ' b = some (.lst ((areaP (min r1 r2) (min c1 c2) (max c1 c2 + 1 - min c1 c2).toNat i).map pv))))
    ⟨rfl, rfl, le₁, a, rfl, na, ha⟩ (fun _ => trivial) ?_ ?_
  · rintro i ρ σ' N' hi ⟨hl, hr', hle, b, hf, hb, hb'⟩ hN
    have hi : i < 100 := Int.ofNat_lt.mp (Int.lt_of_lt_of_le (Int.lt_sub_left_of_add_lt hi) hr)
    refine st_cons ?_
    dsimp only [RS.S.ret, RS.S.expr, RS.S.assign, RS.S.ite, RS.S.for_, RS.S.while_, RS.S.raise, RS.S.pass, RS.T.var, RS.T.idx, RS.T.attr, RS.T.tup2, RS.X.none, RS.X.bool, RS.X.num, RS.X.str, RS.X.var, RS.X.glob, RS.X.bin, RS.X.neg, RS.X.not, RS.X.bop, RS.X.cmp, RS.X.cmp2, RS.X.call, RS.X.bi, RS.X.meth, RS.X.idx, RS.X.slice, RS.X.rev, RS.X.attr, RS.X.tup, RS.X.lst, RS.X.emptyDict, RS.X.dict1, RS.X.comp, RS.Src.range1, RS.Src.range2, RS.Src.of, RS.wpT, RS.wpEs, RS.wpBop, RS.wpIfs]
    refine s_get ((Env.set_ne _ _ (by decide)).trans hf) (s_get ((Env.set_ne _ _ (by decide)).trans hl) (s_get ((Env.set_ne _ _ (by decide)).trans hr') (s_add (s_range (Nat.le_trans (tl hcc) (by decide)) ?_))))
    unfold rangeL
    refine compL_lt (fun (j : Nat) => V.int (min c1 c2 + j)) (fun (j : Nat) => pv (min r1 r2 + (i : Int), min c1 c2 + (j : Int))) (fun _ _ => trivial) (by unfold lenOk; rw [List.length_range]; exact Nat.le_trans (tl hcc) (by decide)) (fun j _ σ₂ le₂ K' hK' => ?_) fun σ₂ le₂ => ?_
    · exact s_ifT rfl (s_get ((Env.set_ne _ _ (by decide)).trans (Env.set_same _ _ _)) (s_get (Env.set_same _ _ _) (hK' _ (Hp.le_refl _))))
    refine s_newG fun c σ₃ nc le₃ hc => ?_
    have le23 := Hp.le_trans le₂ le₃
    refine s_lcat (le23 _ _ hb') hc ?_ fun d hd => ?_
    · unfold lenOk
      rw [List.length_map, List.length_map, List.length_range, areaP_length]
      exact Nat.le_trans (Nat.add_le_add (Nat.mul_le_mul (Nat.le_of_lt hi) (tl hcc)) (tl hcc)) (by decide)
    have leA := Hp.le_trans hle le23
    refine st_nil (hN _ _ ⟨(Env.set_ne _ _ (by decide)).trans ((Env.set_ne _ _ (by decide)).trans hl), (Env.set_ne _ _ (by decide)).trans ((Env.set_ne _ _ (by decide)).trans hr'), Hp.le_trans leA (Hp.le_set _ hd), d, Env.set_same _ _ _, Hp.le_none leA hd, ?_⟩)
    rw [Hp.set_same, areaP_succ, List.map_append, List.map_map]; rfl
  · rintro ρ σ' ⟨_, _, hle, b, hf, hb, hb'⟩
    refine st_cons ?_
    dsimp only [RS.S.ret, RS.S.expr, RS.S.assign, RS.S.ite, RS.S.for_, RS.S.while_, RS.S.raise, RS.S.pass, RS.T.var, RS.T.idx, RS.T.attr, RS.T.tup2, RS.X.none, RS.X.bool, RS.X.num, RS.X.str, RS.X.var, RS.X.glob, RS.X.bin, RS.X.neg, RS.X.not, RS.X.bop, RS.X.cmp, RS.X.cmp2, RS.X.call, RS.X.bi, RS.X.meth, RS.X.idx, RS.X.slice, RS.X.rev, RS.X.attr, RS.X.tup, RS.X.lst, RS.X.emptyDict, RS.X.dict1, RS.X.comp, RS.Src.range1, RS.Src.range2, RS.Src.of, RS.wpT, RS.wpEs, RS.wpBop, RS.wpIfs]
    exact s_get hf (h b σ' hb hle hb')

/-! ### the word of a rule -/
theorem tag_no {g : Glb} {ρ : Env} {σ : Hp} {x t s : String} {vs : List V} {ss rest : List S} {N : NP} {R : VP} {X : XPS} (hx : ρ x = some (.tup (.str s :: vs))) (h : s ≠ t) (q : wpSs rest g ρ σ N R X) : wpSs (.ite (.cmp (.idx (.var x) (.num 0)) .eq (.str t)) ss [] :: rest) g ρ σ N R X := by
  refine st_cons ?_
  dsimp only [RS.S.ret, RS.S.expr, RS.S.assign, RS.S.ite, RS.S.for_, RS.S.while_, RS.S.raise, RS.S.pass, RS.T.var, RS.T.idx, RS.T.attr, RS.T.tup2, RS.X.none, RS.X.bool, RS.X.num, RS.X.str, RS.X.var, RS.X.glob, RS.X.bin, RS.X.neg, RS.X.not, RS.X.bop, RS.X.cmp, RS.X.cmp2, RS.X.call, RS.X.bi, RS.X.meth, RS.X.idx, RS.X.slice, RS.X.rev, RS.X.attr, RS.X.tup, RS.X.lst, RS.X.emptyDict, RS.X.dict1, RS.X.comp, RS.Src.range1, RS.Src.range2, RS.Src.of, RS.wpT, RS.wpEs, RS.wpBop, RS.wpIfs]
  exact s_get hx (s_idxT rfl (s_eqS (s_truth rfl (s_ifF (fun e => h (of_decide_eq_true e)) q))))
theorem tag_yes {g : Glb} {ρ : Env} {σ : Hp} {x t : String} {vs : List V} {ss rest : List S} {N : NP} {R : VP} {X : XPS} (hx : ρ x = some (.tup (.str t :: vs))) (q : wpSs ss g ρ σ (fun ρ' σ' => wpSs rest g ρ' σ' N R X) R X) : wpSs (.ite (.cmp (.idx (.var x) (.num 0)) .eq (.str t)) ss [] :: rest) g ρ σ N R X := by
  refine st_cons ?_
  dsimp only [RS.S.ret, RS.S.expr, RS.S.assign, RS.S.ite, RS.S.for_, RS.S.while_, RS.S.raise, RS.S.pass, RS.T.var, RS.T.idx, RS.T.attr, RS.T.tup2, RS.X.none, RS.X.bool, RS.X.num, RS.X.str, RS.X.var, RS.X.glob, RS.X.bin, RS.X.neg, RS.X.not, RS.X.bop, RS.X.cmp, RS.X.cmp2, RS.X.call, RS.X.bi, RS.X.meth, RS.X.idx, RS.X.slice, RS.X.rev, RS.X.attr, RS.X.tup, RS.X.lst, RS.X.emptyDict, RS.X.dict1, RS.X.comp, RS.Src.range1, RS.Src.range2, RS.Src.of, RS.wpT, RS.wpEs, RS.wpBop, RS.wpIfs]
  exact s_get hx (s_idxT rfl (s_eqS (s_truth rfl (s_ifT (decide_eq_true rfl) q))))
noncomputable def tagX (x t : String) : RS.X := .cmp (.idx (.var x) (.num 0)) .eq (.str t)
theorem tagsB {g : Glb} {ρ : Env} {σ : Hp} {x s t : String} {vs : List V} {Q : VP} {X : XP} (hx : ρ x = some (.tup (.str s :: vs))) : ∀ (ts : List String), Q (.bool (decide (s ∈ ts ∨ s = t))) σ → wpBop false (tagX x t) (ts.map (tagX x)) g ρ σ Q X
  | [], q => by
    rw [decide_eq_decide.mpr (show (s ∈ ([] : List String) ∨ s = t) ↔ s = t from ⟨fun h => h.resolve_left List.not_mem_nil, .inr⟩)] at q
    exact s_get hx (s_idxT rfl (s_eqS q))
  | u :: ts, q => by
    refine s_get hx (s_idxT rfl (s_eqS (s_truth rfl ?_)))
    by_cases e : s = u
    · rw [decide_eq_true (.inl (e ▸ .head _))] at q
      rw [decide_eq_true e]
      exact s_ifF (by decide) q
    · rw [decide_eq_false e]
      refine s_ifT rfl (tagsB hx ts ?_)
      rw [decide_eq_decide.mpr (show (s ∈ u :: ts ∨ s = t) ↔ (s ∈ ts ∨ s = t) from ⟨fun h => h.imp (fun h => (List.mem_cons.mp h).resolve_left e) id, fun h => h.imp (.tail _) id⟩)] at q
      exact q
theorem tags {g : Glb} {ρ : Env} {σ : Hp} {x s t : String} {vs : List V} {ss rest : List S} {N : NP} {R : VP} {X : XPS} (ts : List String) (hx : ρ x = some (.tup (.str s :: vs)))
    (q : if (s ∈ ts ∨ s = t) then wpSs ss g ρ σ (fun ρ' σ' => wpSs rest g ρ' σ' N R X) R X else wpSs rest g ρ σ N R X) : wpSs (.ite (.bop false (ts.map (tagX x)) (tagX x t)) ss [] :: rest) g ρ σ N R X := by
  refine st_cons (tagsB (Q := fun v σ₁ => ∃ b, truth v = some b ∧ if b = true then wpSs ss g ρ σ₁ (fun ρ' σ' => wpSs rest g ρ' σ' N R X) R X else wpSs [] g ρ σ₁ (fun ρ' σ' => wpSs rest g ρ' σ' N R X) R X) hx ts ?_)
  refine s_truth rfl ?_
  by_cases e : s ∈ ts ∨ s = t
  · rw [if_pos e] at q; exact s_ifT (decide_eq_true e) q
  · rw [if_neg e] at q; exact s_ifF (fun h => e (of_decide_eq_true h)) q


/-! ### the parts of a rule -/
theorem rules_in_ok (E : EnvS W) (r : Rule) (σ : Hp) (Q : VP) (h : ∀ a σ', σ a = none → σ.le σ' → σ' a = some (.lst (r.parts.map Rule.v)) → Q (.ref a) σ') : callP W 1 "rules_in" [r.v] σ Q noX := by
  refine call_ok E.T E.rules_in rfl ?_
  dsimp only [b_rules_in, p_rules_in, bindP]
  have no : ∀ (s : String) (vs : List V) (N : NP), s ≠ "look" → r.parts = [] → wpSs (b_rules_in.drop 1) (glb W 0) (Env.set (fun _ => none) "rule" (.tup (.str s :: vs))) σ N Q (fun _ _ _ => False) := by
    intro s vs N hs hp
    refine tag_no rfl hs (st_cons ?_)
    dsimp only [RS.S.ret, RS.S.expr, RS.S.assign, RS.S.ite, RS.S.for_, RS.S.while_, RS.S.raise, RS.S.pass, RS.T.var, RS.T.idx, RS.T.attr, RS.T.tup2, RS.X.none, RS.X.bool, RS.X.num, RS.X.str, RS.X.var, RS.X.glob, RS.X.bin, RS.X.neg, RS.X.not, RS.X.bop, RS.X.cmp, RS.X.cmp2, RS.X.call, RS.X.bi, RS.X.meth, RS.X.idx, RS.X.slice, RS.X.rev, RS.X.attr, RS.X.tup, RS.X.lst, RS.X.emptyDict, RS.X.dict1, RS.X.comp, RS.Src.range1, RS.Src.range2, RS.Src.of, RS.wpT, RS.wpEs, RS.wpBop, RS.wpIfs]
    rw [hp] at h
    exact s_newG h
  cases r with
  | add a b =>
    refine tags ["add", "sub", "mul"] rfl (s_ifT (by decide) (st_cons ?_))
    dsimp only [RS.S.ret, RS.S.expr, RS.S.assign, RS.S.ite, RS.S.for_, RS.S.while_, RS.S.raise, RS.S.pass, RS.T.var, RS.T.idx, RS.T.attr, RS.T.tup2, RS.X.none, RS.X.bool, RS.X.num, RS.X.str, RS.X.var, RS.X.glob, RS.X.bin, RS.X.neg, RS.X.not, RS.X.bop, RS.X.cmp, RS.X.cmp2, RS.X.call, RS.X.bi, RS.X.meth, RS.X.idx, RS.X.slice, RS.X.rev, RS.X.attr, RS.X.tup, RS.X.lst, RS.X.emptyDict, RS.X.dict1, RS.X.comp, RS.Src.range1, RS.Src.range2, RS.Src.of, RS.wpT, RS.wpEs, RS.wpBop, RS.wpIfs]
    refine s_get rfl (s_sliceT rfl rfl (s_listT fun c hc => h c _ hc (Hp.le_set _ hc) ?_))
    rw [Hp.set_same, slice_tail]; rfl
  | num i => exact tags ["add", "sub", "mul"] rfl (s_ifF (by decide) (no "num" _ _ (by decide) rfl))
  | cell x => exact tags ["add", "sub", "mul"] rfl (s_ifF (by decide) (no "cell" _ _ (by decide) rfl))
theorem references_in_ok (E : EnvS W) (r : Rule) (σ : Hp) (Q : VP) (h : ∀ a σ', σ a = none → σ.le σ' → σ' a = some (.lst (r.refs.map rv)) → Q (.ref a) σ') : callP W 1 "references_in" [r.v] σ Q noX := by
  refine call_ok E.T E.references_in rfl ?_
  dsimp only [b_references_in, p_references_in, bindP]
  have no : ∀ (s : String) (vs : List V) (N : NP), s ≠ "look" → r.refs = [] → wpSs (b_references_in.drop 1) (glb W 0) (Env.set (fun _ => none) "rule" (.tup (.str s :: vs))) σ N Q (fun _ _ _ => False) := by
    intro s vs N hs hp
    refine tag_no rfl hs (st_cons ?_)
    dsimp only [RS.S.ret, RS.S.expr, RS.S.assign, RS.S.ite, RS.S.for_, RS.S.while_, RS.S.raise, RS.S.pass, RS.T.var, RS.T.idx, RS.T.attr, RS.T.tup2, RS.X.none, RS.X.bool, RS.X.num, RS.X.str, RS.X.var, RS.X.glob, RS.X.bin, RS.X.neg, RS.X.not, RS.X.bop, RS.X.cmp, RS.X.cmp2, RS.X.call, RS.X.bi, RS.X.meth, RS.X.idx, RS.X.slice, RS.X.rev, RS.X.attr, RS.X.tup, RS.X.lst, RS.X.emptyDict, RS.X.dict1, RS.X.comp, RS.Src.range1, RS.Src.range2, RS.Src.of, RS.wpT, RS.wpEs, RS.wpBop, RS.wpIfs]
    rw [hp] at h
    exact s_newG h
  cases r with
  | cell x =>
    refine tags ["cell", "sum"] rfl (s_ifT (by decide) (st_cons ?_))
    dsimp only [RS.S.ret, RS.S.expr, RS.S.assign, RS.S.ite, RS.S.for_, RS.S.while_, RS.S.raise, RS.S.pass, RS.T.var, RS.T.idx, RS.T.attr, RS.T.tup2, RS.X.none, RS.X.bool, RS.X.num, RS.X.str, RS.X.var, RS.X.glob, RS.X.bin, RS.X.neg, RS.X.not, RS.X.bop, RS.X.cmp, RS.X.cmp2, RS.X.call, RS.X.bi, RS.X.meth, RS.X.idx, RS.X.slice, RS.X.rev, RS.X.attr, RS.X.tup, RS.X.lst, RS.X.emptyDict, RS.X.dict1, RS.X.comp, RS.Src.range1, RS.Src.range2, RS.Src.of, RS.wpT, RS.wpEs, RS.wpBop, RS.wpIfs]
    refine s_get rfl (s_sliceT rfl rfl (s_listT fun c hc => h c _ hc (Hp.le_set _ hc) ?_))
    rw [Hp.set_same, slice_tail]; rfl
  | num i => exact tags ["cell", "sum"] rfl (s_ifF (by decide) (no "num" _ _ (by decide) rfl))
  | add a b => exact tags ["cell", "sum"] rfl (s_ifF (by decide) (no "add" _ _ (by decide) rfl))
theorem box_one (q : Int × Int) : boxOf q.1 q.2 q.1 q.2 = [q] := by
  have e : ∀ x : Int, (max x x + 1 - min x x).toNat = 1 := fun x => by rw [Int.max_self, Int.min_self, Int.add_comm, Int.add_sub_cancel]; rfl
  unfold boxOf
  rw [e, e, Int.min_self, Int.min_self]
  show [(q.1 + 0, q.2 + 0)] = [q]
  rw [Int.add_zero, Int.add_zero]
end


section
variable {W : Wd} {k : Nat}
theorem nodup_len {α : Type} [BEq α] [LawfulBEq α] : ∀ {l U : List α}, l.Nodup → (∀ x ∈ l, x ∈ U) → l.length ≤ U.length
  | [], _, _, _ => Nat.zero_le _
  | x :: l, U, hn, hs => by
    have hx := hs x (.head _)
    rw [List.nodup_cons] at hn
    have := nodup_len (l := l) (U := U.erase x) hn.2 fun y hy => (List.mem_erase_of_ne (fun e : y = x => hn.1 (e ▸ hy))).mpr (hs y (.tail _ hy))
    rw [List.length_erase_of_mem hx] at this
    exact Nat.add_le_of_le_sub (List.length_pos_of_mem hx) this
theorem nodup_add {α : Type} {l : List α} {x : α} (h : l.Nodup) (hx : x ∉ l) : (l ++ [x]).Nodup :=
  List.nodup_append.mpr ⟨h, List.nodup_cons.mpr ⟨List.not_mem_nil, List.nodup_nil⟩, fun y hy z hz e => hx (by rw [← List.mem_singleton.mp hz, ← e]; exact hy)⟩
theorem mem_mid {α : Type} {l pre post : List α} {x : α} (e : l = pre ++ x :: post) : x ∈ l := by rw [e]; exact List.mem_append_right _ (.head _)
theorem len_mid {α : Type} {l pre post : List α} {x : α} (e : l = pre ++ x :: post) : pre.length < l.length := by
  rw [e, List.length_append, List.length_cons]; exact Nat.lt_add_of_pos_right (Nat.succ_pos _)

/-! ### a rule and all in it -/
noncomputable def pairV (x : Rule × Nat) : V := .tup [x.1.v, .int x.2]
theorem Rule.size_eq (r : Rule) : r.size = (r.parts.map Rule.size).sum + 1 := by cases r <;> rfl
theorem Rule.has_eq (r : Rule) : r.has = (!r.refs.isEmpty || r.parts.any Rule.has) := by
  cases r with
  | add a b => show (a.has || b.has) = (false || (a.has || (b.has || false))); rw [Bool.or_false, Bool.false_or]
  | _ => rfl
theorem Rule.deep_pos (r : Rule) : 1 ≤ r.deep := by
  cases r with
  | add a b => exact Nat.succ_pos _
  | _ => exact Nat.le_refl _
noncomputable def Ok (q : Int × Int) (x : Rule × Nat) : Prop := x.1.At q ∧ x.1.deep + x.2 ≤ 9
theorem Ok.part {q : Int × Int} {x : Rule × Nat} (o : Ok q x) {p : Rule} (hp : p ∈ x.1.parts) : Ok q (p, x.2 + 1) := by
  obtain ⟨r, n⟩ := x
  cases r with
  | add a b =>
    obtain ⟨⟨o1, o2⟩, o3⟩ := o
    have o3 : max a.deep b.deep + 1 + n ≤ 9 := o3
    have key : ∀ d, d ≤ max a.deep b.deep → d + (n + 1) ≤ 9 := fun d hd => Nat.le_trans (by rw [Nat.add_comm n 1, ← Nat.add_assoc]; exact Nat.add_le_add_right (Nat.succ_le_succ hd) n) o3
    rcases List.mem_cons.mp hp with rfl | hp
    · exact ⟨o1, key _ (Nat.le_max_left _ _)⟩
    · rw [List.mem_singleton.mp hp]; exact ⟨o2, key _ (Nat.le_max_right _ _)⟩
  | num i => exact (List.not_mem_nil hp).elim
  | cell x => exact (List.not_mem_nil hp).elim
noncomputable def sizes (ws : List (Rule × Nat)) : Nat := (ws.map fun x => x.1.size).sum
theorem sizes_app (ws vs : List (Rule × Nat)) : sizes (ws ++ vs) = sizes ws + sizes vs := by unfold sizes; rw [List.map_append, List.sum_append]
theorem sizes_one (x : Rule × Nat) : sizes [x] = sizes (x.1.parts.map fun p => (p, x.2 + 1)) + 1 := by
  unfold sizes; rw [List.map_map]; exact x.1.size_eq
theorem size_pos (r : Rule) : 1 ≤ r.size := by rw [r.size_eq]; exact Nat.succ_pos _
theorem len_sizes : ∀ (ws : List (Rule × Nat)), ws.length ≤ sizes ws
  | [] => Nat.le_refl _
  | w :: ws => by
    show ws.length + 1 ≤ w.1.size + sizes ws
    rw [Nat.add_comm]; exact Nat.add_le_add (size_pos w.1) (len_sizes ws)
theorem snap_pairs {σ : Hp} {q : Int × Int} {ws : List (Rule × Nat)} (h : ∀ x ∈ ws, Ok q x) : ∃ ds, optAll (snap σ 49) (ws.map pairV) = some ds := by
  refine snap_ex fun v hv => ?_
  obtain ⟨x, hx, rfl⟩ := List.mem_map.mp hv
  obtain ⟨d, e⟩ := snap_rule σ x.1 48 (Nat.le_trans (Nat.succ_le_succ (Nat.le_trans (Nat.le_add_right _ _) (h x hx).2)) (by decide))
  exact ⟨_, snap_tup (oc e (oc (snap_int ..) rfl))⟩
noncomputable def hasC (x : Rule × Nat) : Bool := !x.1.refs.isEmpty
noncomputable def hasR (x : Rule × Nat) : Bool := x.1.has
theorem or_move (a b c d : Bool) : ((a || c) || (b || d)) = (a || (b || (c || d))) := by cases a <;> cases b <;> cases c <;> rfl
theorem has_step (ps ws : List (Rule × Nat)) (x : Rule × Nat) : ((ps ++ [x]).any hasC || (ws ++ x.1.parts.map fun p => (p, x.2 + 1)).any hasR) = (ps.any hasC || (ws ++ [x]).any hasR) := by
  rw [List.any_append, List.any_append, List.any_append, List.any_map]
  show ((_ || (hasC x || false)) || (_ || x.1.parts.any Rule.has)) = (_ || (_ || (x.1.has || false)))
  rw [Bool.or_false, Bool.or_false, or_move, x.1.has_eq]; rfl

theorem all_rules_ok (E : EnvS W) {q : Int × Int} {r : Rule} (ha : r.At q) (hd : r.deep ≤ 8) (hs : r.size ≤ 100) (σ : Hp) (Q : VP)
    (h : ∀ (ps : List (Rule × Nat)) (a : Nat) σ', σ a = none → σ.le σ' → σ' a = some (.lst (ps.map pairV)) → ps.length ≤ 100 → ps ≠ [] → (∀ x ∈ ps, Ok q x) → ps.any hasC = r.has → Q (.ref a) σ') : callP W 2 "all_rules" [r.v] σ Q noX := by
  have n1 : (glb W 1).has "rules_in" = true := E.has (by decide)
  refine call_ok E.T E.all_rules rfl ?_
  dsimp only [b_all_rules, p_all_rules, bindP]
  refine st_cons ?_
  dsimp only [RS.S.ret, RS.S.expr, RS.S.assign, RS.S.ite, RS.S.for_, RS.S.while_, RS.S.raise, RS.S.pass, RS.T.var, RS.T.idx, RS.T.attr, RS.T.tup2, RS.X.none, RS.X.bool, RS.X.num, RS.X.str, RS.X.var, RS.X.glob, RS.X.bin, RS.X.neg, RS.X.not, RS.X.bop, RS.X.cmp, RS.X.cmp2, RS.X.call, RS.X.bi, RS.X.meth, RS.X.idx, RS.X.slice, RS.X.rev, RS.X.attr, RS.X.tup, RS.X.lst, RS.X.emptyDict, RS.X.dict1, RS.X.comp, RS.Src.range1, RS.Src.range2, RS.Src.of, RS.wpT, RS.wpEs, RS.wpBop, RS.wpIfs]
  refine s_get rfl (s_newG fun wa σ₁ nwa le₁ hwa => ?_)
  refine st_cons ?_
  dsimp only [RS.S.ret, RS.S.expr, RS.S.assign, RS.S.ite, RS.S.for_, RS.S.while_, RS.S.raise, RS.S.pass, RS.T.var, RS.T.idx, RS.T.attr, RS.T.tup2, RS.X.none, RS.X.bool, RS.X.num, RS.X.str, RS.X.var, RS.X.glob, RS.X.bin, RS.X.neg, RS.X.not, RS.X.bop, RS.X.cmp, RS.X.cmp2, RS.X.call, RS.X.bi, RS.X.meth, RS.X.idx, RS.X.slice, RS.X.rev, RS.X.attr, RS.X.tup, RS.X.lst, RS.X.emptyDict, RS.X.dict1, RS.X.comp, RS.Src.range1, RS.Src.range2, RS.Src.of, RS.wpT, RS.wpEs, RS.wpBop, RS.wpIfs]
  refine s_newG fun fo σ₂ nfo le₂ hfo => ?_
  have hwf : wa ≠ fo := fun e => by rw [e, nfo] at hwa; cases hwa
  have nfσ : σ fo = none := Hp.le_none le₁ nfo
  refine st_cons ?_
  dsimp only [RS.S.ret, RS.S.expr, RS.S.assign, RS.S.ite, RS.S.for_, RS.S.while_, RS.S.raise, RS.S.pass, RS.T.var, RS.T.idx, RS.T.attr, RS.T.tup2, RS.X.none, RS.X.bool, RS.X.num, RS.X.str, RS.X.var, RS.X.glob, RS.X.bin, RS.X.neg, RS.X.not, RS.X.bop, RS.X.cmp, RS.X.cmp2, RS.X.call, RS.X.bi, RS.X.meth, RS.X.idx, RS.X.slice, RS.X.rev, RS.X.attr, RS.X.tup, RS.X.lst, RS.X.emptyDict, RS.X.dict1, RS.X.comp, RS.Src.range1, RS.Src.range2, RS.Src.of, RS.wpT, RS.wpEs, RS.wpBop, RS.wpIfs]
  refine whileL_inv (fun m ρ σ' => Ex3 fun (ws ps : List (Rule × Nat)) (wb : Nat) => A12 (σ.le σ') (ρ "found" = some (.ref fo)) (wb ≠ fo) (σ wb = none) (ρ "waiting" = some (.ref wb)) (σ' wb = some (.lst (ws.map pairV))) (σ' fo = some (.lst (ps.map pairV))) (∀ x ∈ ws, Ok q x) (∀ x ∈ ps, Ok q x) ((ps.any hasC || ws.any hasR) = r.has) (ps.length + sizes ws = r.size) (m = sizes ws)) ?_ (m := r.size)
    ⟨[(r, 1)], [], wa, Hp.le_trans le₁ le₂, Env.set_same _ _ _, hwf, nwa, (Env.set_ne _ _ (by decide)).trans (Env.set_same _ _ _), le₂ _ _ hwa, hfo,
      fun x hx => by rw [List.mem_singleton.mp hx]; exact ⟨ha, Nat.succ_le_succ hd⟩, fun _ hx => (List.not_mem_nil hx).elim, Bool.or_false _, Nat.zero_add _, rfl⟩
  rintro m ρ σ' K ⟨ws, ps, wb, le, ef, hbf, nwb, ew, hw, hf, okw, okp, hhas, hsz, hm⟩ hK
  refine s_get ew (s_newG fun z σ₃ nz le₃ hz => ?_)
  obtain ⟨ds, hds⟩ := snap_pairs (σ := σ₃) okw
  have hw3 := le₃ _ _ hw
  have hf3 := le₃ _ _ hf
  refine s_neL0 hw3 hz hds (s_truth rfl ?_)
  clear hds hwa hfo
  rcases List.eq_nil_or_concat ws with rfl | ⟨ws, x, rfl⟩
  · refine s_ifF Bool.false_ne_true (st_cons ?_)
    dsimp only [RS.S.ret, RS.S.expr, RS.S.assign, RS.S.ite, RS.S.for_, RS.S.while_, RS.S.raise, RS.S.pass, RS.T.var, RS.T.idx, RS.T.attr, RS.T.tup2, RS.X.none, RS.X.bool, RS.X.num, RS.X.str, RS.X.var, RS.X.glob, RS.X.bin, RS.X.neg, RS.X.not, RS.X.bop, RS.X.cmp, RS.X.cmp2, RS.X.call, RS.X.bi, RS.X.meth, RS.X.idx, RS.X.slice, RS.X.rev, RS.X.attr, RS.X.tup, RS.X.lst, RS.X.emptyDict, RS.X.dict1, RS.X.comp, RS.Src.range1, RS.Src.range2, RS.Src.of, RS.wpT, RS.wpEs, RS.wpBop, RS.wpIfs]
    have hsz : ps.length = r.size := hsz
    refine s_get ef (h ps fo σ₃ nfσ (Hp.le_trans le le₃) hf3 (hsz ▸ hs) (fun e => ?_) okp ((Bool.or_false _).symm.trans hhas))
    rw [e] at hsz
    exact absurd (hsz ▸ size_pos r) (by decide)
  · rw [List.concat_eq_append] at *
    refine s_ifT (by rw [List.map_append]; cases ws <;> rfl) (st_cons ?_)
    dsimp only [RS.S.ret, RS.S.expr, RS.S.assign, RS.S.ite, RS.S.for_, RS.S.while_, RS.S.raise, RS.S.pass, RS.T.var, RS.T.idx, RS.T.attr, RS.T.tup2, RS.X.none, RS.X.bool, RS.X.num, RS.X.str, RS.X.var, RS.X.glob, RS.X.bin, RS.X.neg, RS.X.not, RS.X.bop, RS.X.cmp, RS.X.cmp2, RS.X.call, RS.X.bi, RS.X.meth, RS.X.idx, RS.X.slice, RS.X.rev, RS.X.attr, RS.X.tup, RS.X.lst, RS.X.emptyDict, RS.X.dict1, RS.X.comp, RS.Src.range1, RS.Src.range2, RS.Src.of, RS.wpT, RS.wpEs, RS.wpBop, RS.wpIfs]
    rw [List.map_append, List.map_singleton] at hw3
    refine s_get ew (s_recv (s_recvL hw3 (.inr (.inl rfl))) (s_pop hw3 (v := pairV x) (List.getLast?_concat ..) ?_))
    rw [List.dropLast_concat]
    have hw4 := Hp.set_same σ₃ wb (.lst (ws.map pairV))
    have hf4 := (Hp.set_ne σ₃ (.lst (ws.map pairV)) hbf.symm).trans hf3
    have le4 := Hp.le_upd (.lst (ws.map pairV)) (Hp.le_trans le le₃) nwb
    generalize σ₃.set wb (.lst (ws.map pairV)) = σ₄ at *
    have ew := (Env.set_ne ρ (pairV x) (by decide : "waiting" ≠ "pair")).trans ew
    have ef := (Env.set_ne ρ (pairV x) (by decide : "found" ≠ "pair")).trans ef
    have ep := Env.set_same ρ "pair" (pairV x)
    generalize ρ.set "pair" (pairV x) = ρ₁ at *
    have hlen : ps.length + (ws.length + 1) ≤ 100 := by
      have := len_sizes (ws ++ [x])
      rw [List.length_append] at this
      exact Nat.le_trans (Nat.add_le_add_left this _) (hsz ▸ hs)
    have lok : ∀ n, n ≤ 100 + 100 → lenOk n := fun n hn => Nat.le_trans hn (by decide)
    refine st_cons ?_
    dsimp only [RS.S.ret, RS.S.expr, RS.S.assign, RS.S.ite, RS.S.for_, RS.S.while_, RS.S.raise, RS.S.pass, RS.T.var, RS.T.idx, RS.T.attr, RS.T.tup2, RS.X.none, RS.X.bool, RS.X.num, RS.X.str, RS.X.var, RS.X.glob, RS.X.bin, RS.X.neg, RS.X.not, RS.X.bop, RS.X.cmp, RS.X.cmp2, RS.X.call, RS.X.bi, RS.X.meth, RS.X.idx, RS.X.slice, RS.X.rev, RS.X.attr, RS.X.tup, RS.X.lst, RS.X.emptyDict, RS.X.dict1, RS.X.comp, RS.Src.range1, RS.Src.range2, RS.Src.of, RS.wpT, RS.wpEs, RS.wpBop, RS.wpIfs]
    refine s_get ef (s_recv (s_recvL hf4 (.inl rfl)) (s_get ep (s_appendG hf4 (lok _ (by rw [List.length_map]; exact Nat.le_trans (Nat.le_add_right _ _) (Nat.le_trans hlen (by decide)))) fun σ₅ but hf5 => ?_)))
    have hw5 := (but wb hbf).trans hw4
    have le5 := Hp.le_but le4 nfσ but
    refine st_cons ?_
    dsimp only [RS.S.ret, RS.S.expr, RS.S.assign, RS.S.ite, RS.S.for_, RS.S.while_, RS.S.raise, RS.S.pass, RS.T.var, RS.T.idx, RS.T.attr, RS.T.tup2, RS.X.none, RS.X.bool, RS.X.num, RS.X.str, RS.X.var, RS.X.glob, RS.X.bin, RS.X.neg, RS.X.not, RS.X.bop, RS.X.cmp, RS.X.cmp2, RS.X.call, RS.X.bi, RS.X.meth, RS.X.idx, RS.X.slice, RS.X.rev, RS.X.attr, RS.X.tup, RS.X.lst, RS.X.emptyDict, RS.X.dict1, RS.X.comp, RS.Src.range1, RS.Src.range2, RS.Src.of, RS.wpT, RS.wpEs, RS.wpBop, RS.wpIfs]
    refine s_get ew (s_call n1 (s_get ep (s_idxT (v := x.1.v) rfl ?_)))
    refine gcall (m := 1) (by decide) (rules_in_ok E x.1 σ₅ _ fun a σ₆ na le₆ ha₆ => s_srcL ha₆ ?_)
    have hpl : x.1.parts.length ≤ 2 := by cases x.1 <;> first | exact Nat.le_refl _ | exact Nat.zero_le _
    refine compL_lt Rule.v (fun p => pairV (p, x.2 + 1)) (fun σ' l => l _ _ ha₆) (lok _ (Nat.le_trans hpl (by decide))) (fun p hp σ₇ le₇ K' hK' => ?_) fun σ₇ le₇ => ?_
    · exact s_ifT rfl (s_get (Env.set_same _ _ _) (s_get ((Env.set_ne _ _ (by decide)).trans ep) (s_idxT (v := .int x.2) rfl (s_add (hK' _ (Hp.le_refl _))))))
    refine s_newG fun b σ₈ nb le₈ hb => ?_
    have le68 := Hp.le_trans le₆ (Hp.le_trans le₇ le₈)
    refine s_lcat (le68 _ _ hw5) hb (lok _ (by rw [List.length_map, List.length_map]; exact Nat.add_le_add (Nat.le_trans (Nat.le_trans (Nat.le_succ _) (Nat.le_add_left _ _)) hlen) (Nat.le_trans hpl (by decide)))) fun c nc => st_nil ?_
    have hf8 := le68 _ _ hf5
    have hcf : c ≠ fo := fun e => by rw [e, hf8] at nc; cases nc
    rw [sizes_app, sizes_one] at hsz hm
    refine hK (sizes (ws ++ x.1.parts.map fun p => (p, x.2 + 1))) _ _ (by rw [hm, sizes_app]; exact Nat.lt_succ_self _) ⟨ws ++ x.1.parts.map (fun p => (p, x.2 + 1)), ps ++ [x], c, Hp.le_trans le5 (Hp.le_trans le68 (Hp.le_set _ nc)), (Env.set_ne _ _ (by decide)).trans ef, hcf, Hp.le_none (Hp.le_trans le5 le68) nc, Env.set_same _ _ _, ?_, ?_, ?_, ?_, (has_step ps ws x).trans hhas, ?_, rfl⟩
    · rw [Hp.set_same, List.map_append, List.map_map]; rfl
    · rw [Hp.set_ne _ _ hcf.symm, hf8, List.map_append]; rfl
    · intro y hy
      rcases List.mem_append.mp hy with hy | hy
      · exact okw y (List.mem_append_left _ hy)
      · obtain ⟨p, hp, rfl⟩ := List.mem_map.mp hy
        exact (okw x (List.mem_append_right _ (.head _))).part hp
    · intro y hy
      rcases List.mem_append.mp hy with hy | hy
      · exact okp y hy
      · exact okw y (List.mem_append_right _ hy)
    · rw [List.length_append, List.length_singleton, sizes_app, ← hsz, Nat.add_assoc, Nat.add_comm 1, Nat.add_assoc]

theorem ints_of_map {α : Type} (f : α → Int) : ∀ l : List α, V.ints (l.map fun x => V.int (f x)) = some (l.map f)
  | [] => rfl
  | a :: l => by show (V.ints (l.map fun x => V.int (f x))).map (f a :: ·) = _; rw [ints_of_map f l]; rfl
theorem deep_ok (E : EnvS W) {q : Int × Int} {r : Rule} (ha : r.At q) (hd : r.deep ≤ 8) (hs : r.size ≤ 100) (σ : Hp) (Q : VP)
    (h : ∀ (m : Int) σ', m ≤ 8 → σ.le σ' → Q (.int m) σ') : callP W 3 "deep" [r.v] σ Q noX := by
  have n1 : (glb W 2).has "all_rules" = true := E.has (by decide)
  refine call_ok E.T E.deep rfl ?_
  dsimp only [b_deep, p_deep, bindP]
  refine st_cons ?_
  dsimp only [RS.S.ret, RS.S.expr, RS.S.assign, RS.S.ite, RS.S.for_, RS.S.while_, RS.S.raise, RS.S.pass, RS.T.var, RS.T.idx, RS.T.attr, RS.T.tup2, RS.X.none, RS.X.bool, RS.X.num, RS.X.str, RS.X.var, RS.X.glob, RS.X.bin, RS.X.neg, RS.X.not, RS.X.bop, RS.X.cmp, RS.X.cmp2, RS.X.call, RS.X.bi, RS.X.meth, RS.X.idx, RS.X.slice, RS.X.rev, RS.X.attr, RS.X.tup, RS.X.lst, RS.X.emptyDict, RS.X.dict1, RS.X.comp, RS.Src.range1, RS.Src.range2, RS.Src.of, RS.wpT, RS.wpEs, RS.wpBop, RS.wpIfs]
  refine s_call n1 (s_get rfl ?_)
  refine gcall (m := 2) (by decide) (all_rules_ok E ha hd hs σ _ fun ps a σ₁ na le₁ h₁ hl hn hok hh => s_srcL h₁ ?_)
  refine compL_lt pairV (fun x => .int x.2) (fun σ' le => le _ _ h₁) (Nat.le_trans hl (by decide)) (fun x hx σ₂ le₂ K' hK' => s_ifT rfl (s_get (Env.set_same _ _ _) (s_idxT rfl (hK' _ (Hp.le_refl _))))) fun σ₂ le₂ => ?_
  refine s_newG fun b σ₃ nb le₃ hb => ?_
  refine s_maxL hb (ints_of_map (fun x : Rule × Nat => (x.2 : Int)) ps) (fun e => hn (List.map_eq_nil_iff.mp e)) fun m hm1 _ => h m σ₃ ?_ (Hp.le_trans le₁ (Hp.le_trans le₂ le₃))
  obtain ⟨x, hx, rfl⟩ := List.mem_map.mp hm1
  exact Int.ofNat_le.mpr (Nat.le_of_succ_le_succ (Nat.le_trans (by rw [Nat.succ_eq_one_add]; exact Nat.add_le_add_right x.1.deep_pos _) (hok x hx).2))

theorem refs_at {q : Int × Int} {r : Rule} (h : r.At q) : r.refs = if r.refs.isEmpty then [] else [q] := by
  cases r with
  | cell p => have h : p = q := h; rw [h]; rfl
  | _ => rfl
theorem references_ok (E : EnvS W) {q : Int × Int} {r : Rule} (ha : r.At q) (hd : r.deep ≤ 8) (hs : r.size ≤ 100) (σ : Hp) (Q : VP)
    (hQ : ∀ (xs : List (Int × Int)) (a : Nat) σ', σ.le σ' → σ' a = some (.lst (xs.map rv)) → (∀ x ∈ xs, x = q) → Q (.ref a) σ') : callP W 3 "references" [r.v] σ Q noX := by
  have n1 : (glb W 2).has "all_rules" = true := E.has (by decide)
  have n2 : (glb W 2).has "references_in" = true := E.has (by decide)
  refine call_ok E.T E.references rfl ?_
  dsimp only [b_references, p_references, bindP]
  refine st_cons ?_
  dsimp only [RS.S.ret, RS.S.expr, RS.S.assign, RS.S.ite, RS.S.for_, RS.S.while_, RS.S.raise, RS.S.pass, RS.T.var, RS.T.idx, RS.T.attr, RS.T.tup2, RS.X.none, RS.X.bool, RS.X.num, RS.X.str, RS.X.var, RS.X.glob, RS.X.bin, RS.X.neg, RS.X.not, RS.X.bop, RS.X.cmp, RS.X.cmp2, RS.X.call, RS.X.bi, RS.X.meth, RS.X.idx, RS.X.slice, RS.X.rev, RS.X.attr, RS.X.tup, RS.X.lst, RS.X.emptyDict, RS.X.dict1, RS.X.comp, RS.Src.range1, RS.Src.range2, RS.Src.of, RS.wpT, RS.wpEs, RS.wpBop, RS.wpIfs]
  refine s_newG fun b σ₁ nb le₁ hb => st_cons ?_
  dsimp only [RS.S.ret, RS.S.expr, RS.S.assign, RS.S.ite, RS.S.for_, RS.S.while_, RS.S.raise, RS.S.pass, RS.T.var, RS.T.idx, RS.T.attr, RS.T.tup2, RS.X.none, RS.X.bool, RS.X.num, RS.X.str, RS.X.var, RS.X.glob, RS.X.bin, RS.X.neg, RS.X.not, RS.X.bop, RS.X.cmp, RS.X.cmp2, RS.X.call, RS.X.bi, RS.X.meth, RS.X.idx, RS.X.slice, RS.X.rev, RS.X.attr, RS.X.tup, RS.X.lst, RS.X.emptyDict, RS.X.dict1, RS.X.comp, RS.Src.range1, RS.Src.range2, RS.Src.of, RS.wpT, RS.wpEs, RS.wpBop, RS.wpIfs]
  refine s_call n1 (s_get rfl ?_)
  refine gcall (m := 2) (by decide) (all_rules_ok E ha hd hs σ₁ _ fun ps a σ₂ na le₂ h₂ hl hn hok hh => s_srcL h₂ ?_)
  refine forL_data pairV (fun pre ρ σ' => Ex2 fun (xs : List (Int × Int)) (b : Nat) => A5 (ρ "found" = some (.ref b)) (σ₂.le σ') (σ' b = some (.lst (xs.map rv))) (∀ x ∈ xs, x = q) (xs.length ≤ pre.length)) ?_ ?_ ?_ ?_
  · exact ⟨[], b, rfl, Hp.le_refl _, le₂ _ _ hb, fun x hx => (List.not_mem_nil hx).elim, Nat.zero_le _⟩
  · rintro pre ρ σ' ⟨_, _, _, le, _⟩; exact le _ _ h₂
  · rintro pre x post ρ σ' N' hsp ⟨xs, b, ef, le, hb, hon, hlen⟩ hN
    have hpl := len_mid hsp
    have rf := refs_at (hok x (mem_mid hsp)).1
    refine st_cons ?_
    dsimp only [RS.S.ret, RS.S.expr, RS.S.assign, RS.S.ite, RS.S.for_, RS.S.while_, RS.S.raise, RS.S.pass, RS.T.var, RS.T.idx, RS.T.attr, RS.T.tup2, RS.X.none, RS.X.bool, RS.X.num, RS.X.str, RS.X.var, RS.X.glob, RS.X.bin, RS.X.neg, RS.X.not, RS.X.bop, RS.X.cmp, RS.X.cmp2, RS.X.call, RS.X.bi, RS.X.meth, RS.X.idx, RS.X.slice, RS.X.rev, RS.X.attr, RS.X.tup, RS.X.lst, RS.X.emptyDict, RS.X.dict1, RS.X.comp, RS.Src.range1, RS.Src.range2, RS.Src.of, RS.wpT, RS.wpEs, RS.wpBop, RS.wpIfs]
    refine s_get ((Env.set_ne _ _ (by decide)).trans ef) (s_call n2 (s_get (Env.set_same _ _ _) (s_idxT (v := x.1.v) rfl ?_)))
    refine gcall (m := 1) (by decide) (references_in_ok E x.1 σ' _ fun d σ₃ nd le₃ h₃ => ?_)
    have hrl : x.1.refs.length ≤ 1 ∧ ∀ y ∈ x.1.refs, y = q := by
      rw [rf]
      cases x.1.refs.isEmpty
      · exact ⟨Nat.le_refl _, fun y hy => List.mem_singleton.mp hy⟩
      · exact ⟨Nat.zero_le _, fun y hy => (List.not_mem_nil hy).elim⟩
    refine s_lcat (le₃ _ _ hb) h₃ ?_ fun e he => ?_
    · unfold lenOk; rw [List.length_map, List.length_map]
      exact Nat.le_trans (Nat.add_le_add (Nat.le_trans hlen (Nat.le_trans (Nat.le_of_lt hpl) hl)) hrl.1) (by decide)
    refine st_nil (hN _ _ ⟨xs ++ x.1.refs, e, Env.set_same _ _ _, Hp.le_trans (Hp.le_trans le le₃) (Hp.le_set _ he), ?_, ?_, ?_⟩)
    · rw [Hp.set_same, List.map_append]
    · intro y hy; exact (List.mem_append.mp hy).elim (hon y) (hrl.2 y)
    · rw [List.length_append, List.length_append]; exact Nat.add_le_add hlen hrl.1
  · rintro ρ σ' ⟨xs, b, ef, le, hb, hon, _⟩
    refine st_cons ?_
    dsimp only [RS.S.ret, RS.S.expr, RS.S.assign, RS.S.ite, RS.S.for_, RS.S.while_, RS.S.raise, RS.S.pass, RS.T.var, RS.T.idx, RS.T.attr, RS.T.tup2, RS.X.none, RS.X.bool, RS.X.num, RS.X.str, RS.X.var, RS.X.glob, RS.X.bin, RS.X.neg, RS.X.not, RS.X.bop, RS.X.cmp, RS.X.cmp2, RS.X.call, RS.X.bi, RS.X.meth, RS.X.idx, RS.X.slice, RS.X.rev, RS.X.attr, RS.X.tup, RS.X.lst, RS.X.emptyDict, RS.X.dict1, RS.X.comp, RS.Src.range1, RS.Src.range2, RS.Src.of, RS.wpT, RS.wpEs, RS.wpBop, RS.wpIfs]
    exact s_get ef (hQ xs b σ' (Hp.le_trans le₁ (Hp.le_trans le₂ le)) hb hon)

/-! ### what a rule needs -/
noncomputable def pk (p : Int × Int) : List Int := [p.1, p.2]
noncomputable def plt (p q : Int × Int) : Prop := ltL (pk p) (pk q) = true
theorem pk_inj {p q : Int × Int} (h : pk p = pk q) : p = q := by
  have h1 : some p.1 = some q.1 := congrArg (fun l => l[0]?) h
  have h2 : some p.2 = some q.2 := congrArg (fun l => l[1]?) h
  exact Prod.ext (Option.some.inj h1) (Option.some.inj h2)
theorem dput_self (k : List Int) (v w : V) : dput [(k, v)] k w = [(k, w)] := by
  unfold dput dget
  rw [List.find?_cons_of_pos (by exact decide_eq_true rfl)]
  show (if true = true then [if k = k then (k, w) else (k, v)] else _) = _
  rw [if_pos rfl, if_pos rfl]
/-- the dict of what is needed: nothing, or one place -/
noncomputable def ned (q : Int × Int) (b : Bool) : List (List Int × V) := if b = true then [(pk q, .bool true)] else []
theorem ned_put (q : Int × Int) (b : Bool) : dput (ned q b) (pk q) (.bool true) = ned q true := by
  cases b with
  | false => rfl
  | true => exact dput_self _ _ _
theorem ned_len (q : Int × Int) (b : Bool) : (ned q b).length ≤ 1 := by cases b <;> first | exact Nat.le_refl _ | exact Nat.zero_le _
theorem any_mid {α : Type} (f : α → Bool) (l : List α) (x : α) : (l ++ [x]).any f = (l.any f || f x) := by
  rw [List.any_append]; show (_ || (f x || false)) = _; rw [Bool.or_false]
theorem needed_ok (E : EnvS W) {q : Int × Int} {r : Rule} (ha : r.At q) (hd : r.deep ≤ 8) (hs : r.size ≤ 100) (σ : Hp) (Q : VP)
    (h : ∀ (a : Nat) σ', σ a = none → σ.le σ' → σ' a = some (.lst ((if r.has = true then [q] else []).map pv)) → Q (.ref a) σ') : callP W 3 "needed" [r.v] σ Q noX := by
  have n1 : (glb W 2).has "all_rules" = true := E.has (by decide)
  have n2 : (glb W 2).has "references_in" = true := E.has (by decide)
  have n3 : (glb W 2).has "area" = true := E.has (by decide)
  refine call_ok E.T E.needed rfl ?_
  dsimp only [b_needed, p_needed, bindP]
  refine st_cons ?_
  dsimp only [RS.S.ret, RS.S.expr, RS.S.assign, RS.S.ite, RS.S.for_, RS.S.while_, RS.S.raise, RS.S.pass, RS.T.var, RS.T.idx, RS.T.attr, RS.T.tup2, RS.X.none, RS.X.bool, RS.X.num, RS.X.str, RS.X.var, RS.X.glob, RS.X.bin, RS.X.neg, RS.X.not, RS.X.bop, RS.X.cmp, RS.X.cmp2, RS.X.call, RS.X.bi, RS.X.meth, RS.X.idx, RS.X.slice, RS.X.rev, RS.X.attr, RS.X.tup, RS.X.lst, RS.X.emptyDict, RS.X.dict1, RS.X.comp, RS.Src.range1, RS.Src.range2, RS.Src.of, RS.wpT, RS.wpEs, RS.wpBop, RS.wpIfs]
  refine .inl (s_newG fun d σ₁ nd le₁ h₁ => st_cons ?_)
  dsimp only [RS.S.ret, RS.S.expr, RS.S.assign, RS.S.ite, RS.S.for_, RS.S.while_, RS.S.raise, RS.S.pass, RS.T.var, RS.T.idx, RS.T.attr, RS.T.tup2, RS.X.none, RS.X.bool, RS.X.num, RS.X.str, RS.X.var, RS.X.glob, RS.X.bin, RS.X.neg, RS.X.not, RS.X.bop, RS.X.cmp, RS.X.cmp2, RS.X.call, RS.X.bi, RS.X.meth, RS.X.idx, RS.X.slice, RS.X.rev, RS.X.attr, RS.X.tup, RS.X.lst, RS.X.emptyDict, RS.X.dict1, RS.X.comp, RS.Src.range1, RS.Src.range2, RS.Src.of, RS.wpT, RS.wpEs, RS.wpBop, RS.wpIfs]
  refine s_call n1 (s_get rfl ?_)
  refine gcall (m := 2) (by decide) (all_rules_ok E ha hd hs σ₁ _ fun ps a σ₂ na le₂ h₂ hl hn hok hh => s_srcL h₂ ?_)
  have had : a ≠ d := (Hp.ne_of h₁ na).symm
  refine forL_data pairV (fun pre ρ σ' => ∃ ep : Nat, A4 (σ' d = some (.dct (ned q (pre.any hasC)) ep)) (σ.le σ') (σ' a = some (.lst (ps.map pairV))) (ρ "found" = some (.ref d))) ?_ ?_ ?_ ?_
  · exact ⟨0, le₂ _ _ h₁, Hp.le_trans le₁ le₂, h₂, rfl⟩
  · rintro pre ρ σ' ⟨_, _, _, hc, _⟩; exact hc
  · rintro pre x post ρ σ' N' hsp ⟨ep, hdd, le, haa, ef⟩ hN
    have rf := refs_at (hok x (mem_mid hsp)).1
    refine st_cons ?_
    dsimp only [RS.S.ret, RS.S.expr, RS.S.assign, RS.S.ite, RS.S.for_, RS.S.while_, RS.S.raise, RS.S.pass, RS.T.var, RS.T.idx, RS.T.attr, RS.T.tup2, RS.X.none, RS.X.bool, RS.X.num, RS.X.str, RS.X.var, RS.X.glob, RS.X.bin, RS.X.neg, RS.X.not, RS.X.bop, RS.X.cmp, RS.X.cmp2, RS.X.call, RS.X.bi, RS.X.meth, RS.X.idx, RS.X.slice, RS.X.rev, RS.X.attr, RS.X.tup, RS.X.lst, RS.X.emptyDict, RS.X.dict1, RS.X.comp, RS.Src.range1, RS.Src.range2, RS.Src.of, RS.wpT, RS.wpEs, RS.wpBop, RS.wpIfs]
    refine s_call n2 (s_get (Env.set_same _ _ _) (s_idxT (v := x.1.v) rfl ?_))
    refine gcall (m := 1) (by decide) (references_in_ok E x.1 σ' _ fun b σ₃ nb le₃ hb => ?_)
    have f1 := (Env.set_ne (ρ.set "pair" (pairV x)) (.ref b) (by decide : "found" ≠ "some")).trans ((Env.set_ne _ _ (by decide)).trans ef)
    have f2 := Env.set_same (ρ.set "pair" (pairV x)) "some" (.ref b)
    generalize (ρ.set "pair" (pairV x)).set "some" (.ref b) = ρ₁ at *
    refine st_cons ?_
    dsimp only [RS.S.ret, RS.S.expr, RS.S.assign, RS.S.ite, RS.S.for_, RS.S.while_, RS.S.raise, RS.S.pass, RS.T.var, RS.T.idx, RS.T.attr, RS.T.tup2, RS.X.none, RS.X.bool, RS.X.num, RS.X.str, RS.X.var, RS.X.glob, RS.X.bin, RS.X.neg, RS.X.not, RS.X.bop, RS.X.cmp, RS.X.cmp2, RS.X.call, RS.X.bi, RS.X.meth, RS.X.idx, RS.X.slice, RS.X.rev, RS.X.attr, RS.X.tup, RS.X.lst, RS.X.emptyDict, RS.X.dict1, RS.X.comp, RS.Src.range1, RS.Src.range2, RS.Src.of, RS.wpT, RS.wpEs, RS.wpBop, RS.wpIfs]
    refine s_get f2 (s_newG fun c σ₄ nc le₄ hc => ?_)
    obtain ⟨ds, hds⟩ := snap_ex (f := snap σ₄ 49) (xs := x.1.refs.map rv) fun v hv => by
      obtain ⟨y, _, rfl⟩ := List.mem_map.mp hv; exact ⟨_, snap_rv σ₄ y 48⟩
    have hb4 := le₄ _ _ hb
    refine s_neL0 hb4 hc hds (s_truth rfl ?_)
    have le34 := Hp.le_trans le₃ le₄
    have e0 : (x.1.refs.map rv).isEmpty = x.1.refs.isEmpty := by cases x.1.refs <;> rfl
    rw [e0]
    have hst : (pre ++ [x]).any hasC = (pre.any hasC || !x.1.refs.isEmpty) := any_mid hasC pre x
    cases e : x.1.refs.isEmpty with
    | true =>
      rw [e] at hst
      refine s_ifF Bool.false_ne_true (st_nil (st_nil (hN _ _ ⟨ep, ?_, Hp.le_trans le le34, le34 _ _ haa, f1⟩)))
      rw [hst, Bool.not_true, Bool.or_false]; exact le34 _ _ hdd
    | false =>
      rw [e] at rf hst
      rw [rf] at hb4
      refine s_ifT rfl (st_cons ?_)
      dsimp only [RS.S.ret, RS.S.expr, RS.S.assign, RS.S.ite, RS.S.for_, RS.S.while_, RS.S.raise, RS.S.pass, RS.T.var, RS.T.idx, RS.T.attr, RS.T.tup2, RS.X.none, RS.X.bool, RS.X.num, RS.X.str, RS.X.var, RS.X.glob, RS.X.bin, RS.X.neg, RS.X.not, RS.X.bop, RS.X.cmp, RS.X.cmp2, RS.X.call, RS.X.bi, RS.X.meth, RS.X.idx, RS.X.slice, RS.X.rev, RS.X.attr, RS.X.tup, RS.X.lst, RS.X.emptyDict, RS.X.dict1, RS.X.comp, RS.Src.range1, RS.Src.range2, RS.Src.of, RS.wpT, RS.wpEs, RS.wpBop, RS.wpIfs]
      refine s_call n3 (s_get f2 (s_idxL hb4 (v := rv q) rfl (s_get f2 (s_neg (s_idxL hb4 (v := rv q) rfl ?_)))))
      refine gcall (m := 1) (by decide) (area_ok E q.1 q.2 q.1 q.2 _ _ σ₄ _ (by rw [Int.max_self, Int.min_self, Int.add_comm, Int.add_sub_cancel]; decide) (by rw [Int.max_self, Int.min_self, Int.add_comm, Int.add_sub_cancel]; decide) fun u σ₅ nu le₅ hu => s_srcL hu ?_)
      rw [box_one] at hu ⊢
      have hd5 := le₅ _ _ (le34 _ _ hdd)
      have hud : u ≠ d := fun e => by rw [e, le34 _ _ hdd] at nu; cases nu
      refine ⟨hu, st_cons ?_⟩
      dsimp only [RS.S.ret, RS.S.expr, RS.S.assign, RS.S.ite, RS.S.for_, RS.S.while_, RS.S.raise, RS.S.pass, RS.T.var, RS.T.idx, RS.T.attr, RS.T.tup2, RS.X.none, RS.X.bool, RS.X.num, RS.X.str, RS.X.var, RS.X.glob, RS.X.bin, RS.X.neg, RS.X.not, RS.X.bop, RS.X.cmp, RS.X.cmp2, RS.X.call, RS.X.bi, RS.X.meth, RS.X.idx, RS.X.slice, RS.X.rev, RS.X.attr, RS.X.tup, RS.X.lst, RS.X.emptyDict, RS.X.dict1, RS.X.comp, RS.Src.range1, RS.Src.range2, RS.Src.of, RS.wpT, RS.wpEs, RS.wpBop, RS.wpIfs]
      refine s_get ((Env.set_ne _ _ (by decide)).trans f1) (s_get (Env.set_same _ _ _) (s_storeD hd5 (k := pk q) rfl (Nat.le_trans (ned_len q _) (by decide)) fun ep' => st_nil ⟨(Hp.set_ne _ _ hud).trans hu, st_nil (st_nil (hN _ _ ⟨ep', ?_, Hp.le_upd _ (Hp.le_trans le (Hp.le_trans le34 le₅)) nd, (Hp.set_ne _ _ had).trans (le₅ _ _ (le34 _ _ haa)), (Env.set_ne _ _ (by decide)).trans f1⟩))⟩))
      rw [Hp.set_same, ned_put, hst, Bool.not_false, Bool.or_true]
  · rintro ρ σ' ⟨ep, hdd, le, haa, ef⟩
    refine st_cons ?_
    dsimp only [RS.S.ret, RS.S.expr, RS.S.assign, RS.S.ite, RS.S.for_, RS.S.while_, RS.S.raise, RS.S.pass, RS.T.var, RS.T.idx, RS.T.attr, RS.T.tup2, RS.X.none, RS.X.bool, RS.X.num, RS.X.str, RS.X.var, RS.X.glob, RS.X.bin, RS.X.neg, RS.X.not, RS.X.bop, RS.X.cmp, RS.X.cmp2, RS.X.call, RS.X.bi, RS.X.meth, RS.X.idx, RS.X.slice, RS.X.rev, RS.X.attr, RS.X.tup, RS.X.lst, RS.X.emptyDict, RS.X.dict1, RS.X.comp, RS.Src.range1, RS.Src.range2, RS.Src.of, RS.wpT, RS.wpEs, RS.wpBop, RS.wpIfs]
    rw [hh] at hdd
    refine s_get ef (s_sortD hdd ?_ ?_ ?_ fun ys hp _ => s_newG fun b σ₃ nb le₃ hb => h b σ₃ (Hp.le_none le nb) (Hp.le_trans le le₃) ?_)
    · unfold ned; split
      · exact List.nodup_cons.mpr ⟨List.not_mem_nil, List.nodup_nil⟩
      · exact List.nodup_nil
    · exact Nat.le_trans (ned_len q _) (by decide)
    · unfold ned; split
      · intro k hk; rw [List.mem_singleton.mp hk]; exact List.cons_ne_nil _ _
      · intro k hk; cases hk
    · rw [hb]
      unfold ned at hp
      by_cases e : r.has = true
      · rw [if_pos e] at hp ⊢; rw [List.perm_singleton.mp hp]; rfl
      · rw [if_neg e] at hp ⊢; rw [List.perm_nil.mp hp]; rfl
end


/-! ### lists of places, compared -/
noncomputable def pd (p : Int × Int) : PyData := .tuple [.int p.1, .int p.2]
theorem snap_pv (σ : Hp) (n : Nat) (p : Int × Int) : snap σ (n + 1) (pv p) = some (pd p) := by cases n <;> rfl
theorem snap_pvs (σ : Hp) (n : Nat) (ps : List (Int × Int)) : optAll (snap σ (n + 1)) (ps.map pv) = some (ps.map pd) := snap_all pv pd ps fun p _ => snap_pv σ n p
theorem eqv_pd (p q : Int × Int) : PyData.eqv (pd p) (pd q) = decide (p = q) := by
  show ((p.1 == q.1) && ((p.2 == q.2) && true)) = _
  rw [Bool.and_true, Bool.eq_iff_iff, Bool.and_eq_true, beq_iff_eq, beq_iff_eq, decide_eq_true_iff]
  exact Prod.ext_iff.symm
theorem eqvAll_pds : ∀ ps qs : List (Int × Int), PyData.eqvAll (ps.map pd) (qs.map pd) = decide (ps = qs)
  | [], [] => rfl
  | [], _ :: _ => rfl
  | _ :: _, [] => rfl
  | p :: ps, q :: qs => by
    show (PyData.eqv (pd p) (pd q) && PyData.eqvAll (ps.map pd) (qs.map pd)) = _
    rw [eqv_pd, eqvAll_pds ps qs, Bool.eq_iff_iff, Bool.and_eq_true, decide_eq_true_iff, decide_eq_true_iff, decide_eq_true_iff, List.cons.injEq]
theorem eqP_pvs {σ : Hp} {B : Bool → Prop} {a b : Nat} {ps qs : List (Int × Int)} (ha : σ a = some (.lst (ps.map pv))) (hb : σ b = some (.lst (qs.map pv))) (q : B (decide (ps = qs))) : eqP σ B (.ref a) (.ref b) :=
  .gen (snap_lst ha (snap_pvs σ 48 ps)) (snap_lst hb (snap_pvs σ 48 qs)) (by show B (PyData.eqvAll (ps.map pd) (qs.map pd)); rw [eqvAll_pds]; exact q)
theorem eqP_pv {σ : Hp} {B : Bool → Prop} {p q : Int × Int} (h : B (decide (p = q))) : eqP σ B (pv p) (pv q) := .gen (snap_pv σ 49 p) (snap_pv σ 49 q) (by rw [eqv_pd]; exact h)
theorem any_pd (p : Int × Int) : ∀ ps : List (Int × Int), ((ps.map pd).any fun e => PyData.eqv e (pd p)) = decide (p ∈ ps)
  | [] => rfl
  | q :: ps => by
    show (PyData.eqv (pd q) (pd p) || (ps.map pd).any _) = _
    rw [eqv_pd, any_pd p ps]
    by_cases h1 : q = p
    · rw [decide_eq_true h1, decide_eq_true (show p ∈ q :: ps by rw [h1]; exact .head _)]; rfl
    · rw [decide_eq_false h1, Bool.false_or, decide_eq_decide]
      exact ⟨.tail _, fun h => (List.mem_cons.mp h).resolve_left fun e => h1 e.symm⟩
theorem inP_pvs {σ : Hp} {B : Bool → Prop} {a : Nat} {p : Int × Int} {ps : List (Int × Int)} (ha : σ a = some (.lst (ps.map pv))) (q : B (decide (p ∈ ps))) : inP σ B (pv p) (.ref a) := .lst ha (snap_pv σ 39 p) (snap_pvs σ 39 ps) (by rw [any_pd]; exact q)

/-! ### dicts by places -/
theorem dget_iff {es : List (List Int × V)} {k : List Int} : (dget es k).isSome = true ↔ k ∈ es.map (·.1) := by
  unfold dget
  rw [Option.isSome_map, List.find?_isSome, List.mem_map]
  exact ⟨fun ⟨x, h, e⟩ => ⟨x, h, of_decide_eq_true e⟩, fun ⟨x, h, e⟩ => ⟨x, h, decide_eq_true e⟩⟩
noncomputable def mapD (ps : List (Int × Int)) (g : Int × Int → V) : List (List Int × V) := ps.map fun p => (pk p, g p)
noncomputable def updF {α : Type} (g : Int × Int → α) (p : Int × Int) (v : α) : Int × Int → α := fun q => if q = p then v else g q
theorem updF_same {α : Type} (g : Int × Int → α) (p : Int × Int) (v : α) : updF g p v p = v := if_pos rfl
theorem updF_ne {α : Type} (g : Int × Int → α) {p q : Int × Int} (v : α) (h : q ≠ p) : updF g p v q = g q := if_neg h
theorem updF_id {α : Type} (g : Int × Int → α) (p : Int × Int) : updF g p (g p) = g := funext fun q => by
  by_cases e : q = p
  · rw [e, updF_same]
  · exact updF_ne g _ e
theorem updF_comp {α β : Type} (F : α → β) (g : Int × Int → α) (p : Int × Int) (v : α) : updF (fun q => F (g q)) p (F v) = fun q => F (updF g p v q) := funext fun q => (apply_ite F (q = p) v (g q)).symm
theorem mapD_keys (ps : List (Int × Int)) (g : Int × Int → V) : (mapD ps g).map (·.1) = ps.map pk := by unfold mapD; rw [List.map_map]; rfl
theorem mapD_kv (ps : List (Int × Int)) (g : Int × Int → V) : (mapD ps g).map (fun e => kv e.1) = ps.map pv := by unfold mapD; rw [List.map_map]; rfl
theorem mapD_length (ps : List (Int × Int)) (g : Int × Int → V) : (mapD ps g).length = ps.length := List.length_map _
theorem dget_mapD {g : Int × Int → V} {p : Int × Int} : ∀ {ps : List (Int × Int)}, p ∈ ps → dget (mapD ps g) (pk p) = some (g p)
  | q :: ps, h => by
    by_cases e : q = p
    · subst e
      unfold dget mapD
      rw [List.map_cons, List.find?_cons_of_pos (by exact decide_eq_true rfl)]; rfl
    · have := dget_mapD (g := g) ((List.mem_cons.mp h).resolve_left (fun e' => e e'.symm))
      unfold dget mapD at this ⊢
      rw [List.map_cons, List.find?_cons_of_neg (by intro q'; exact e (pk_inj (of_decide_eq_true q')))]; exact this
theorem dget_mapD_some {g : Int × Int → V} {p : Int × Int} {ps : List (Int × Int)} : (dget (mapD ps g) (pk p)).isSome = decide (p ∈ ps) := by
  rw [Bool.eq_iff_iff, dget_iff, mapD_keys, decide_eq_true_eq, List.mem_map]
  exact ⟨fun ⟨q, hq, e⟩ => pk_inj e ▸ hq, fun h => ⟨p, h, rfl⟩⟩
theorem dput_mapD {g : Int × Int → V} {p : Int × Int} {v : V} {ps : List (Int × Int)} (h : p ∈ ps) : dput (mapD ps g) (pk p) v = mapD ps (updF g p v) := by
  unfold dput
  rw [dget_mapD_some, if_pos (decide_eq_true h)]
  unfold mapD
  rw [List.map_map]
  apply List.map_congr_left
  intro q _
  by_cases e : q = p
  · subst e; show (if pk q = pk q then _ else _) = _; rw [if_pos rfl, updF_same]
  · show (if pk q = pk p then _ else _) = _; rw [if_neg (fun e' => e (pk_inj e')), updF_ne g v e]
theorem dput_mapD_not {g : Int × Int → V} {p : Int × Int} {v : V} {ps : List (Int × Int)} (h : p ∉ ps) : dput (mapD ps g) (pk p) v = mapD (ps ++ [p]) (updF g p v) := by
  unfold dput
  rw [dget_mapD_some, if_neg (fun e => h (of_decide_eq_true e))]
  unfold mapD
  rw [List.map_append, List.map_singleton, updF_same]
  congr 1
  apply List.map_congr_left
  intro q hq
  rw [updF_ne (p := p) (q := q) g v (fun e => by subst e; exact h hq)]

/-! ### the places of a sheet -/
noncomputable def G (h w : Nat) : List (Int × Int) := areaP 0 0 w h
theorem mem_G {h w : Nat} {p : Int × Int} : p ∈ G h w ↔ 0 ≤ p.1 ∧ p.1 < h ∧ 0 ≤ p.2 ∧ p.2 < w := by
  unfold G; rw [mem_areaP, Int.zero_add, Int.zero_add]
theorem G_length (h w : Nat) : (G h w).length = h * w := areaP_length 0 0 w h
theorem G_nodup (w : Nat) : ∀ h, (G h w).Nodup
  | 0 => List.nodup_nil
  | h + 1 => by
    unfold G
    rw [areaP_succ]
    refine List.nodup_append.mpr ⟨G_nodup w h, ?_, fun x hx y hy e => ?_⟩
    · rw [List.Nodup, List.pairwise_map]
      exact List.pairwise_lt_range.imp fun {i j} hij e => by
        have e : (0 : Int) + i = 0 + j := congrArg Prod.snd e
        rw [Int.zero_add, Int.zero_add] at e
        exact Nat.lt_irrefl j (Int.ofNat.inj e ▸ hij)
    · obtain ⟨j, _, rfl⟩ := List.mem_map.mp hy
      have := (mem_G.mp hx).2.1
      rw [e] at this
      have this : (0 : Int) + h < h := this
      rw [Int.zero_add] at this
      exact Int.lt_irrefl _ this
theorem box_G (h w : Nat) (hh : 0 < h) (hw : 0 < w) : boxOf 0 0 ((h : Int) - 1) ((w : Int) - 1) = G h w := by
  have key : ∀ n : Nat, 0 < n → min 0 ((n : Int) - 1) = 0 ∧ (max 0 ((n : Int) - 1) + 1 - 0).toNat = n := fun n hn => by
    have h0 : (0 : Int) ≤ (n : Int) - 1 := Int.sub_nonneg_of_le (Int.ofNat_le.mpr hn)
    rw [Int.min_eq_left h0, Int.max_eq_right h0, Int.sub_add_cancel, Int.sub_zero, Int.toNat_natCast]
    exact ⟨rfl, rfl⟩
  unfold boxOf G
  rw [(key h hh).1, (key w hw).1, (key h hh).2, (key w hw).2]
theorem nodup_mid {α : Type} {l pre post : List α} {x : α} (hn : l.Nodup) (e : l = pre ++ x :: post) : x ∉ pre := by
  subst e
  intro h
  exact (List.nodup_append.mp hn).2.2 x h x (.head _) rfl

/-- a sheet in the heap -/
structure SheetAt (σ : Hp) (a d c : Nat) (h w : Nat) (f : Int × Int → Rule) : Prop where
  ia : σ a = some (.inst "Sheet" d)
  id : σ d = some (.attrs [("cells", .ref c), ("wide", .int w), ("high", .int h)])
  ic : ∃ ep, σ c = some (.dct (mapD (G h w) fun p => (f p).v) ep)
theorem SheetAt.le {σ σ' : Hp} {a d c h w : Nat} {f : Int × Int → Rule} (s : SheetAt σ a d c h w f) (l : σ.le σ') : SheetAt σ' a d c h w f :=
  ⟨l _ _ s.ia, l _ _ s.id, s.ic.imp fun _ e => l _ _ e⟩
theorem s_ownF {g : Glb} {σ : Hp} {Q : VP} {v : V} {m f : String} {args : List V} {X : XP} (h : "Sheet." ++ m = f) (q : g.call f (v :: args) σ Q X) : methP g σ Q X v (.own m) args := .own (h ▸ q)
/-- sizes of sheets -/
structure Sz (h w : Nat) : Prop where
  h0 : 0 < h
  w0 : 0 < w
  h1 : h ≤ 12
  w1 : w ≤ 12
theorem Sz.len {h w : Nat} (s : Sz h w) : (G h w).length ≤ 144 := by rw [G_length]; exact Nat.mul_le_mul s.h1 s.w1
theorem side_ok {n : Nat} (h : n ≤ 12) (h0 : 0 < n) : max 0 ((n : Int) - 1) + 1 - min 0 ((n : Int) - 1) ≤ 100 := by
  have h0 : (0 : Int) ≤ (n : Int) - 1 := Int.sub_nonneg_of_le (Int.ofNat_le.mpr h0)
  rw [Int.min_eq_left h0, Int.max_eq_right h0, Int.sub_add_cancel, Int.sub_zero]
  exact Int.ofNat_le.mpr (Nat.le_trans h (by decide))

section
variable {W : Wd} {k : Nat}
theorem places_ok (E : EnvS W) {a d c h w : Nat} (s : Sz h w) {σ : Hp} (ia : σ a = some (.inst "Sheet" d)) (id : σ d = some (.attrs [("cells", .ref c), ("wide", .int w), ("high", .int h)])) (Q : VP)
    (hQ : ∀ b σ', σ b = none → σ.le σ' → σ' b = some (.lst ((G h w).map pv)) → Q (.ref b) σ') : callP W 2 "Sheet.places" [.ref a] σ Q noX := by
  have n1 : (glb W 1).has "area" = true := E.has (by decide)
  refine call_ok E.T E.places rfl ?_
  dsimp only [b_Sheet_places, p_Sheet_places, bindP]
  refine st_cons ?_
  dsimp only [RS.S.ret, RS.S.expr, RS.S.assign, RS.S.ite, RS.S.for_, RS.S.while_, RS.S.raise, RS.S.pass, RS.T.var, RS.T.idx, RS.T.attr, RS.T.tup2, RS.X.none, RS.X.bool, RS.X.num, RS.X.str, RS.X.var, RS.X.glob, RS.X.bin, RS.X.neg, RS.X.not, RS.X.bop, RS.X.cmp, RS.X.cmp2, RS.X.call, RS.X.bi, RS.X.meth, RS.X.idx, RS.X.slice, RS.X.rev, RS.X.attr, RS.X.tup, RS.X.lst, RS.X.emptyDict, RS.X.dict1, RS.X.comp, RS.Src.range1, RS.Src.range2, RS.Src.of, RS.wpT, RS.wpEs, RS.wpBop, RS.wpIfs]
  refine s_call n1 ⟨by decide, s_get rfl (s_attr ia id rfl (s_sub ⟨by decide, s_get rfl (s_attr ia id rfl (s_sub ?_))⟩))⟩
  refine gcall (m := 1) (by decide) (area_ok E _ _ _ _ [] [] σ _ (side_ok s.h1 s.h0) (side_ok s.w1 s.w0) fun b σ' nb le hb => hQ b σ' nb le ?_)
  rw [box_G h w s.h0 s.w0] at hb; exact hb

theorem need_on_ok (E : EnvS W) {a d c h w : Nat} {σ : Hp} (ia : σ a = some (.inst "Sheet" d)) (id : σ d = some (.attrs [("cells", .ref c), ("wide", .int w), ("high", .int h)])) {p : Int × Int} (hp : p ∈ G h w) (t : List V) (Q : VP)
    (hQ : Q .none σ) : callP W 1 "Sheet.need_on" [.ref a, .tup (.int p.1 :: .int p.2 :: t)] σ Q noX := by
  obtain ⟨h1, h2, h3, h4⟩ := mem_G.mp hp
  refine call_ok E.T E.need_on rfl ?_
  dsimp only [b_Sheet_need_on, p_Sheet_need_on, bindP]
  refine st_cons ?_
  dsimp only [RS.S.ret, RS.S.expr, RS.S.assign, RS.S.ite, RS.S.for_, RS.S.while_, RS.S.raise, RS.S.pass, RS.T.var, RS.T.idx, RS.T.attr, RS.T.tup2, RS.X.none, RS.X.bool, RS.X.num, RS.X.str, RS.X.var, RS.X.glob, RS.X.bin, RS.X.neg, RS.X.not, RS.X.bop, RS.X.cmp, RS.X.cmp2, RS.X.call, RS.X.bi, RS.X.meth, RS.X.idx, RS.X.slice, RS.X.rev, RS.X.attr, RS.X.tup, RS.X.lst, RS.X.emptyDict, RS.X.dict1, RS.X.comp, RS.Src.range1, RS.Src.range2, RS.Src.of, RS.wpT, RS.wpEs, RS.wpBop, RS.wpIfs]
  refine s_get rfl (s_idxT rfl (s_le (s_ifT (decide_eq_true h1) ⟨by decide, s_get rfl (s_attr ia id rfl (s_lt ?_))⟩)))
  rw [decide_eq_true h2]
  refine s_truth rfl (s_truth rfl (s_ifT rfl ?_))
  refine s_get rfl (s_idxT rfl (s_le (s_ifT (decide_eq_true h3) ⟨by decide, s_get rfl (s_attr ia id rfl (s_lt ?_))⟩)))
  rw [decide_eq_true h4]
  exact s_truth rfl (s_truth rfl (s_ifF Bool.false_ne_true (st_nil (st_nil hQ))))

theorem rule_ok (E : EnvS W) {a d c h w : Nat} {f : Int × Int → Rule} {σ : Hp} (S : SheetAt σ a d c h w f) {p : Int × Int} (hp : p ∈ G h w) (Q : VP)
    (hQ : Q (f p).v σ) : callP W 2 "Sheet.rule" [.ref a, pv p] σ Q noX := by
  obtain ⟨ep, ic⟩ := S.ic
  refine call_ok E.T E.rule rfl ?_
  dsimp only [b_Sheet_rule, p_Sheet_rule, bindP]
  refine st_cons ?_
  dsimp only [RS.S.ret, RS.S.expr, RS.S.assign, RS.S.ite, RS.S.for_, RS.S.while_, RS.S.raise, RS.S.pass, RS.T.var, RS.T.idx, RS.T.attr, RS.T.tup2, RS.X.none, RS.X.bool, RS.X.num, RS.X.str, RS.X.var, RS.X.glob, RS.X.bin, RS.X.neg, RS.X.not, RS.X.bop, RS.X.cmp, RS.X.cmp2, RS.X.call, RS.X.bi, RS.X.meth, RS.X.idx, RS.X.slice, RS.X.rev, RS.X.attr, RS.X.tup, RS.X.lst, RS.X.emptyDict, RS.X.dict1, RS.X.comp, RS.Src.range1, RS.Src.range2, RS.Src.of, RS.wpT, RS.wpEs, RS.wpBop, RS.wpIfs]
  refine s_get rfl (s_recv (s_recvI S.ia (by decide) S.id rfl) (s_get rfl (s_ownF (f := "Sheet.need_on") rfl ?_)))
  refine gcall (m := 1) (by decide) (need_on_ok E S.ia S.id hp [] _ ?_)
  refine st_cons ?_
  dsimp only [RS.S.ret, RS.S.expr, RS.S.assign, RS.S.ite, RS.S.for_, RS.S.while_, RS.S.raise, RS.S.pass, RS.T.var, RS.T.idx, RS.T.attr, RS.T.tup2, RS.X.none, RS.X.bool, RS.X.num, RS.X.str, RS.X.var, RS.X.glob, RS.X.bin, RS.X.neg, RS.X.not, RS.X.bop, RS.X.cmp, RS.X.cmp2, RS.X.call, RS.X.bi, RS.X.meth, RS.X.idx, RS.X.slice, RS.X.rev, RS.X.attr, RS.X.tup, RS.X.lst, RS.X.emptyDict, RS.X.dict1, RS.X.comp, RS.Src.range1, RS.Src.range2, RS.Src.of, RS.wpT, RS.wpEs, RS.wpBop, RS.wpIfs]
  exact ⟨by decide, s_get rfl (s_attr S.ia S.id rfl (s_get rfl (s_idxT rfl (s_get rfl (s_idxT rfl (s_idxD ic (k := pk p) rfl (dget_mapD hp) hQ))))))⟩

theorem need_rule_ok (E : EnvS W) {a d c h w : Nat} {f : Int × Int → Rule} {σ : Hp} (S : SheetAt σ a d c h w f) {q : Int × Int} {r : Rule} (hq : q ∈ G h w) (ha : r.At q) (hd : r.deep ≤ 8) (hs : r.size ≤ 100) (Q : VP)
    (hQ : ∀ σ', σ.le σ' → Q .none σ') : callP W 4 "Sheet.need_rule" [.ref a, r.v] σ Q noX := by
  have n1 : (glb W 3).has "references" = true := E.has (by decide)
  refine call_ok E.T E.need_rule rfl ?_
  dsimp only [b_Sheet_need_rule, p_Sheet_need_rule, bindP]
  refine st_cons ?_
  dsimp only [RS.S.ret, RS.S.expr, RS.S.assign, RS.S.ite, RS.S.for_, RS.S.while_, RS.S.raise, RS.S.pass, RS.T.var, RS.T.idx, RS.T.attr, RS.T.tup2, RS.X.none, RS.X.bool, RS.X.num, RS.X.str, RS.X.var, RS.X.glob, RS.X.bin, RS.X.neg, RS.X.not, RS.X.bop, RS.X.cmp, RS.X.cmp2, RS.X.call, RS.X.bi, RS.X.meth, RS.X.idx, RS.X.slice, RS.X.rev, RS.X.attr, RS.X.tup, RS.X.lst, RS.X.emptyDict, RS.X.dict1, RS.X.comp, RS.Src.range1, RS.Src.range2, RS.Src.of, RS.wpT, RS.wpEs, RS.wpBop, RS.wpIfs]
  refine s_call n1 (s_get rfl ?_)
  refine gcall (m := 3) (by decide) (references_ok E ha hd hs σ _ fun xs b σ₁ le hb hon => ?_)
  refine s_srcL hb ?_
  refine forL_data rv (fun _ ρ σ' => ρ "self" = some (.ref a) ∧ σ' = σ₁) ⟨rfl, rfl⟩ (fun _ _ _ h => h.2 ▸ hb) ?_ ?_
  · rintro pre x post ρ σ' N' hsp ⟨e, rfl⟩ hN
    have S' := S.le le
    have hx : x ∈ G h w := by rw [hon x (mem_mid hsp)]; exact hq
    refine st_cons ?_
    dsimp only [RS.S.ret, RS.S.expr, RS.S.assign, RS.S.ite, RS.S.for_, RS.S.while_, RS.S.raise, RS.S.pass, RS.T.var, RS.T.idx, RS.T.attr, RS.T.tup2, RS.X.none, RS.X.bool, RS.X.num, RS.X.str, RS.X.var, RS.X.glob, RS.X.bin, RS.X.neg, RS.X.not, RS.X.bop, RS.X.cmp, RS.X.cmp2, RS.X.call, RS.X.bi, RS.X.meth, RS.X.idx, RS.X.slice, RS.X.rev, RS.X.attr, RS.X.tup, RS.X.lst, RS.X.emptyDict, RS.X.dict1, RS.X.comp, RS.Src.range1, RS.Src.range2, RS.Src.of, RS.wpT, RS.wpEs, RS.wpBop, RS.wpIfs]
    refine s_get ((Env.set_ne _ _ (by decide)).trans e) (s_recv (s_recvI S'.ia (by decide) S'.id rfl) (s_get (Env.set_same _ _ _) (s_ownF (f := "Sheet.need_on") rfl ?_)))
    exact gcall (m := 1) (by decide) (need_on_ok E S'.ia S'.id hx [.bool false, .bool true] _ (st_nil (hN _ _ ⟨(Env.set_ne _ _ (by decide)).trans e, rfl⟩)))
  · rintro ρ σ' ⟨_, rfl⟩
    exact st_nil (hQ _ le)

theorem put_ok (E : EnvS W) {a d c h w : Nat} (s : Sz h w) {f : Int × Int → Rule} {σ : Hp} (S : SheetAt σ a d c h w f) {p : Int × Int} (hp : p ∈ G h w) {q : Int × Int} {r : Rule} (hq : q ∈ G h w) (ha : r.At q) (hd : r.deep ≤ 8) (hs : r.size ≤ 100) (Q : VP)
    (hQ : ∀ σ', (∀ b x, b ≠ c → σ b = some x → σ' b = some x) → SheetAt σ' a d c h w (updF f p r) → Q .none σ') : callP W 5 "Sheet.put" [.ref a, pv p, r.v] σ Q noX := by
  have n1 : (glb W 4).has "deep" = true := E.has (by decide)
  have gm : (glb W 4).glob "MOST_DEEP" = some (.int 8) := E.mostD
  refine call_ok E.T E.put rfl ?_
  dsimp only [b_Sheet_put, p_Sheet_put, bindP]
  refine st_cons ?_
  dsimp only [RS.S.ret, RS.S.expr, RS.S.assign, RS.S.ite, RS.S.for_, RS.S.while_, RS.S.raise, RS.S.pass, RS.T.var, RS.T.idx, RS.T.attr, RS.T.tup2, RS.X.none, RS.X.bool, RS.X.num, RS.X.str, RS.X.var, RS.X.glob, RS.X.bin, RS.X.neg, RS.X.not, RS.X.bop, RS.X.cmp, RS.X.cmp2, RS.X.call, RS.X.bi, RS.X.meth, RS.X.idx, RS.X.slice, RS.X.rev, RS.X.attr, RS.X.tup, RS.X.lst, RS.X.emptyDict, RS.X.dict1, RS.X.comp, RS.Src.range1, RS.Src.range2, RS.Src.of, RS.wpT, RS.wpEs, RS.wpBop, RS.wpIfs]
  refine s_get rfl (s_recv (s_recvI S.ia (by decide) S.id rfl) (s_get rfl (s_ownF (f := "Sheet.need_on") rfl ?_)))
  refine gcall (m := 1) (by decide) (need_on_ok E S.ia S.id hp [] _ ?_)
  refine st_cons ?_
  dsimp only [RS.S.ret, RS.S.expr, RS.S.assign, RS.S.ite, RS.S.for_, RS.S.while_, RS.S.raise, RS.S.pass, RS.T.var, RS.T.idx, RS.T.attr, RS.T.tup2, RS.X.none, RS.X.bool, RS.X.num, RS.X.str, RS.X.var, RS.X.glob, RS.X.bin, RS.X.neg, RS.X.not, RS.X.bop, RS.X.cmp, RS.X.cmp2, RS.X.call, RS.X.bi, RS.X.meth, RS.X.idx, RS.X.slice, RS.X.rev, RS.X.attr, RS.X.tup, RS.X.lst, RS.X.emptyDict, RS.X.dict1, RS.X.comp, RS.Src.range1, RS.Src.range2, RS.Src.of, RS.wpT, RS.wpEs, RS.wpBop, RS.wpIfs]
  refine s_call n1 (s_get rfl ?_)
  refine gcall (m := 3) (by decide) (deep_ok E ha hd hs σ _ fun m σ₁ hm le₁ => ?_)
  refine s_get gm (s_gt (s_truth rfl (s_ifF (fun e => Int.not_lt.mpr hm (of_decide_eq_true e)) (st_nil ?_))))
  have S1 := S.le le₁
  refine st_cons ?_
  dsimp only [RS.S.ret, RS.S.expr, RS.S.assign, RS.S.ite, RS.S.for_, RS.S.while_, RS.S.raise, RS.S.pass, RS.T.var, RS.T.idx, RS.T.attr, RS.T.tup2, RS.X.none, RS.X.bool, RS.X.num, RS.X.str, RS.X.var, RS.X.glob, RS.X.bin, RS.X.neg, RS.X.not, RS.X.bop, RS.X.cmp, RS.X.cmp2, RS.X.call, RS.X.bi, RS.X.meth, RS.X.idx, RS.X.slice, RS.X.rev, RS.X.attr, RS.X.tup, RS.X.lst, RS.X.emptyDict, RS.X.dict1, RS.X.comp, RS.Src.range1, RS.Src.range2, RS.Src.of, RS.wpT, RS.wpEs, RS.wpBop, RS.wpIfs]
  refine s_get rfl (s_recv (s_recvI S1.ia (by decide) S1.id rfl) (s_get rfl (s_ownF (f := "Sheet.need_rule") rfl ?_)))
  refine gcall (m := 4) (by decide) (need_rule_ok E S1 hq ha hd hs _ fun σ₂ le₂ => ?_)
  have S2 := S1.le le₂
  obtain ⟨ep, ic⟩ := S2.ic
  refine st_cons ?_
  dsimp only [RS.S.ret, RS.S.expr, RS.S.assign, RS.S.ite, RS.S.for_, RS.S.while_, RS.S.raise, RS.S.pass, RS.T.var, RS.T.idx, RS.T.attr, RS.T.tup2, RS.X.none, RS.X.bool, RS.X.num, RS.X.str, RS.X.var, RS.X.glob, RS.X.bin, RS.X.neg, RS.X.not, RS.X.bop, RS.X.cmp, RS.X.cmp2, RS.X.call, RS.X.bi, RS.X.meth, RS.X.idx, RS.X.slice, RS.X.rev, RS.X.attr, RS.X.tup, RS.X.lst, RS.X.emptyDict, RS.X.dict1, RS.X.comp, RS.Src.range1, RS.Src.range2, RS.Src.of, RS.wpT, RS.wpEs, RS.wpBop, RS.wpIfs]
  refine s_get rfl ⟨by decide, s_get rfl (s_attr S2.ia S2.id rfl (s_get rfl (s_idxT rfl (s_get rfl (s_idxT rfl (s_storeD ic (k := pk p) rfl (by unfold lenOk; rw [mapD_length]; exact Nat.le_trans s.len (by decide)) fun ep' => st_nil ?_))))))⟩
  have hac : a ≠ c := fun e => by have := S2.ia; rw [e, ic] at this; cases this
  have hdc : d ≠ c := fun e => by have := S2.id; rw [e, ic] at this; cases this
  refine hQ _ (fun b x hb hx => (Hp.set_ne _ _ hb).trans (le₂ _ _ (le₁ _ _ hx))) ⟨(Hp.set_ne _ _ hac).trans S2.ia, (Hp.set_ne _ _ hdc).trans S2.id, ep', ?_⟩
  rw [Hp.set_same, dput_mapD hp, updF_comp Rule.v]

theorem make_ok (E : EnvS W) {h w : Nat} (s : Sz h w) (σ : Hp) (Q : VP)
    (hQ : ∀ a d c σ', σ.le σ' → σ a = none → σ d = none → σ c = none → SheetAt σ' a d c h w (fun _ => .num 0) → Q (.ref a) σ') : callP W 4 "Sheet" [.int h, .int w] σ Q noX := by
  obtain ⟨C, hC, hfC⟩ := E.cls
  have gm : (glb W 2).glob "MOST" = some (.int 12) := E.most
  refine new_ok E.T hC hfC fun a d na nd hne => ?_
  refine call_ok E.T E.init rfl ?_
  dsimp only [b_Sheet___init, p_Sheet___init, bindP]
  have le₁ : σ.le ((σ.set d (.attrs [])).set a (.inst "Sheet" d)) := Hp.le_upd _ (Hp.le_set _ nd) na
  have ia : ((σ.set d (.attrs [])).set a (.inst "Sheet" d)) a = some (.inst "Sheet" d) := Hp.set_same _ _ _
  have id : ((σ.set d (.attrs [])).set a (.inst "Sheet" d)) d = some (.attrs []) := (Hp.set_ne _ _ hne.symm).trans (Hp.set_same _ _ _)
  generalize (σ.set d (.attrs [])).set a (.inst "Sheet" d) = σ₁ at *
  have up : ∀ {n : Nat}, n ≤ 12 → (n : Int) ≤ 12 := fun h => Int.ofNat_le.mpr h
  have lo : ∀ {n : Nat}, 0 < n → (1 : Int) ≤ n := fun h => Int.ofNat_le.mpr h
  refine st_cons ?_
  dsimp only [RS.S.ret, RS.S.expr, RS.S.assign, RS.S.ite, RS.S.for_, RS.S.while_, RS.S.raise, RS.S.pass, RS.T.var, RS.T.idx, RS.T.attr, RS.T.tup2, RS.X.none, RS.X.bool, RS.X.num, RS.X.str, RS.X.var, RS.X.glob, RS.X.bin, RS.X.neg, RS.X.not, RS.X.bop, RS.X.cmp, RS.X.cmp2, RS.X.call, RS.X.bi, RS.X.meth, RS.X.idx, RS.X.slice, RS.X.rev, RS.X.attr, RS.X.tup, RS.X.lst, RS.X.emptyDict, RS.X.dict1, RS.X.comp, RS.Src.range1, RS.Src.range2, RS.Src.of, RS.wpT, RS.wpEs, RS.wpBop, RS.wpIfs]
  refine s_get rfl (s_le (s_ifT (decide_eq_true (lo s.h0)) (s_get gm (s_le ?_))))
  rw [decide_eq_true (up s.h1)]
  refine s_truth rfl (s_truth rfl (s_ifT rfl ?_))
  refine s_get rfl (s_le (s_ifT (decide_eq_true (lo s.w0)) (s_get gm (s_le ?_))))
  rw [decide_eq_true (up s.w1)]
  refine s_truth rfl (s_truth rfl (s_ifF Bool.false_ne_true (st_nil ?_)))
  refine st_cons ?_
  dsimp only [RS.S.ret, RS.S.expr, RS.S.assign, RS.S.ite, RS.S.for_, RS.S.while_, RS.S.raise, RS.S.pass, RS.T.var, RS.T.idx, RS.T.attr, RS.T.tup2, RS.X.none, RS.X.bool, RS.X.num, RS.X.str, RS.X.var, RS.X.glob, RS.X.bin, RS.X.neg, RS.X.not, RS.X.bop, RS.X.cmp, RS.X.cmp2, RS.X.call, RS.X.bi, RS.X.meth, RS.X.idx, RS.X.slice, RS.X.rev, RS.X.attr, RS.X.tup, RS.X.lst, RS.X.emptyDict, RS.X.dict1, RS.X.comp, RS.Src.range1, RS.Src.range2, RS.Src.of, RS.wpT, RS.wpEs, RS.wpBop, RS.wpIfs]
  refine s_get rfl ⟨by decide, s_get rfl (.mk ia id (by decide) ?_)⟩
  refine st_cons ?_
  dsimp only [RS.S.ret, RS.S.expr, RS.S.assign, RS.S.ite, RS.S.for_, RS.S.while_, RS.S.raise, RS.S.pass, RS.T.var, RS.T.idx, RS.T.attr, RS.T.tup2, RS.X.none, RS.X.bool, RS.X.num, RS.X.str, RS.X.var, RS.X.glob, RS.X.bin, RS.X.neg, RS.X.not, RS.X.bop, RS.X.cmp, RS.X.cmp2, RS.X.call, RS.X.bi, RS.X.meth, RS.X.idx, RS.X.slice, RS.X.rev, RS.X.attr, RS.X.tup, RS.X.lst, RS.X.emptyDict, RS.X.dict1, RS.X.comp, RS.Src.range1, RS.Src.range2, RS.Src.of, RS.wpT, RS.wpEs, RS.wpBop, RS.wpIfs]
  have ia2 := (Hp.set_ne σ₁ (.attrs (aset [] "high" (.int h))) hne).trans ia
  refine s_get rfl ⟨by decide, s_get rfl (.mk ia2 (Hp.set_same _ _ _) (by show 1 ≤ 1000; decide) ?_)⟩
  refine st_cons ?_
  dsimp only [RS.S.ret, RS.S.expr, RS.S.assign, RS.S.ite, RS.S.for_, RS.S.while_, RS.S.raise, RS.S.pass, RS.T.var, RS.T.idx, RS.T.attr, RS.T.tup2, RS.X.none, RS.X.bool, RS.X.num, RS.X.str, RS.X.var, RS.X.glob, RS.X.bin, RS.X.neg, RS.X.not, RS.X.bop, RS.X.cmp, RS.X.cmp2, RS.X.call, RS.X.bi, RS.X.meth, RS.X.idx, RS.X.slice, RS.X.rev, RS.X.attr, RS.X.tup, RS.X.lst, RS.X.emptyDict, RS.X.dict1, RS.X.comp, RS.Src.range1, RS.Src.range2, RS.Src.of, RS.wpT, RS.wpEs, RS.wpBop, RS.wpIfs]
  refine .inl (s_newG fun c σ₃ nc le₃ hc => ⟨by decide, s_get rfl ?_⟩)
  have ia3 : σ₃ a = _ := le₃ _ _ ((Hp.set_ne _ (.attrs (aset (aset [] "high" (.int h)) "wide" (.int w))) hne).trans ia2)
  have id3 : σ₃ d = _ := le₃ _ _ (Hp.set_same _ _ _)
  have leA : σ.le σ₃ := Hp.le_trans (Hp.le_upd _ (Hp.le_upd _ le₁ nd) nd) le₃
  have nc' : σ c = none := Hp.le_none (Hp.le_upd _ (Hp.le_upd _ le₁ nd) nd) nc
  have hcd : c ≠ d := fun e => by rw [e, id3] at hc; cases hc
  have hca : c ≠ a := fun e => by rw [e, ia3] at hc; cases hc
  refine .mk ia3 id3 (by show 2 ≤ 1000; decide) ?_
  have ia4 := (Hp.set_ne σ₃ (.attrs (aset (aset (aset [] "high" (.int h)) "wide" (.int w)) "cells" (.ref c))) hne).trans ia3
  have id4 : (σ₃.set d (.attrs (aset (aset (aset [] "high" (.int h)) "wide" (.int w)) "cells" (.ref c)))) d = some (.attrs [("cells", .ref c), ("wide", .int w), ("high", .int h)]) := Hp.set_same _ _ _
  have hc4 := (Hp.set_ne σ₃ (.attrs (aset (aset (aset [] "high" (.int h)) "wide" (.int w)) "cells" (.ref c))) hcd).trans hc
  have leB := Hp.le_upd (.attrs (aset (aset (aset [] "high" (.int h)) "wide" (.int w)) "cells" (.ref c))) leA nd
  generalize σ₃.set d (.attrs (aset (aset (aset [] "high" (.int h)) "wide" (.int w)) "cells" (.ref c))) = σ₄ at *
  refine st_cons ?_
  dsimp only [RS.S.ret, RS.S.expr, RS.S.assign, RS.S.ite, RS.S.for_, RS.S.while_, RS.S.raise, RS.S.pass, RS.T.var, RS.T.idx, RS.T.attr, RS.T.tup2, RS.X.none, RS.X.bool, RS.X.num, RS.X.str, RS.X.var, RS.X.glob, RS.X.bin, RS.X.neg, RS.X.not, RS.X.bop, RS.X.cmp, RS.X.cmp2, RS.X.call, RS.X.bi, RS.X.meth, RS.X.idx, RS.X.slice, RS.X.rev, RS.X.attr, RS.X.tup, RS.X.lst, RS.X.emptyDict, RS.X.dict1, RS.X.comp, RS.Src.range1, RS.Src.range2, RS.Src.of, RS.wpT, RS.wpEs, RS.wpBop, RS.wpIfs]
  refine s_get rfl (s_recv (s_recvI ia4 (by decide) id4 rfl) (s_ownF (f := "Sheet.places") rfl ?_))
  refine gcall (m := 2) (by decide) (places_ok E s ia4 id4 _ fun b σ₅ nb le₅ hb => ?_)
  refine s_srcL hb ?_
  have hbc : b ≠ c := fun e => by rw [e, hc4] at nb; cases nb
  refine forL_data pv (fun pre ρ σ' => A6 (ρ "self" = some (.ref a)) (σ.le σ') (σ' a = some (.inst "Sheet" d)) (σ' d = some (.attrs [("cells", .ref c), ("wide", .int w), ("high", .int h)])) (σ' b = some (.lst ((G h w).map pv))) (∃ ep, σ' c = some (.dct (mapD pre fun p => (Rule.num 0).v) ep))) ?_ ?_ ?_ ?_
  · exact ⟨rfl, Hp.le_trans leB le₅, le₅ _ _ ia4, le₅ _ _ id4, hb, 0, le₅ _ _ hc4⟩
  · rintro pre ρ σ' ⟨_, _, _, _, hb, _⟩; exact hb
  · rintro pre p post ρ σ' N' hsp ⟨es, le, ia, id, hb, ep, hc⟩ hN
    refine st_cons ?_
    dsimp only [RS.S.ret, RS.S.expr, RS.S.assign, RS.S.ite, RS.S.for_, RS.S.while_, RS.S.raise, RS.S.pass, RS.T.var, RS.T.idx, RS.T.attr, RS.T.tup2, RS.X.none, RS.X.bool, RS.X.num, RS.X.str, RS.X.var, RS.X.glob, RS.X.bin, RS.X.neg, RS.X.not, RS.X.bop, RS.X.cmp, RS.X.cmp2, RS.X.call, RS.X.bi, RS.X.meth, RS.X.idx, RS.X.slice, RS.X.rev, RS.X.attr, RS.X.tup, RS.X.lst, RS.X.emptyDict, RS.X.dict1, RS.X.comp, RS.Src.range1, RS.Src.range2, RS.Src.of, RS.wpT, RS.wpEs, RS.wpBop, RS.wpIfs]
    refine ⟨by decide, s_get ((Env.set_ne _ _ (by decide)).trans es) (s_attr ia id rfl (s_get (Env.set_same _ _ _) (s_storeD hc (k := pk p) rfl (by unfold lenOk; rw [mapD_length]; exact Nat.le_trans (Nat.le_of_lt (len_mid hsp)) (Nat.le_trans s.len (by decide))) fun ep' => st_nil ?_)))⟩
    refine hN _ _ ⟨(Env.set_ne _ _ (by decide)).trans es, Hp.le_upd _ le nc', (Hp.set_ne _ _ hca.symm).trans ia, (Hp.set_ne _ _ hcd.symm).trans id, (Hp.set_ne _ _ hbc).trans hb, ep', ?_⟩
    rw [Hp.set_same, dput_mapD_not (nodup_mid (G_nodup w h) hsp)]
    exact congrArg (fun g => some (Cell.dct (mapD (pre ++ [p]) g) ep')) (updF_id (fun _ => (Rule.num 0).v) p)
  · rintro ρ σ' ⟨_, le, ia, id, _, ic⟩
    exact st_nil ⟨rfl, hQ a d c σ' le na nd nc' ⟨ia, id, ic⟩⟩

/-! ### what a rule tells -/
noncomputable def B9 : Int := 1000000000
noncomputable def Rule.ev (v : Int × Int → Int) : Rule → Int
  | .num i => i % B9
  | .cell q => v q
  | .add a b => (a.ev v + b.ev v) % B9
theorem told_ok (E : EnvS W) {q : Int × Int} {v : Int × Int → Int} {es : List (List Int × V)} {ep kn : Nat} {σ : Hp} (hk : σ kn = some (.dct es ep)) :
    ∀ (r : Rule), r.At q → (r.has = true → dget es (pk q) = some (.int (v q))) → ∀ (Q : VP), Q (.int (r.ev v)) σ → callP W r.deep "told" [r.v, .ref kn] σ Q noX := by
  have gb : ∀ k, (glb W k).glob "BOUND" = some (.int 1000000000) := fun _ => E.bound
  have n1 : ∀ k, (glb W k).has "told" = true := fun k => E.has (by decide)
  intro r
  induction r with
  | num i =>
    intro _ _ Q h
    refine call_ok E.T E.told rfl (tag_yes rfl (st_cons ?_))
    dsimp only [RS.S.ret, RS.S.expr, RS.S.assign, RS.S.ite, RS.S.for_, RS.S.while_, RS.S.raise, RS.S.pass, RS.T.var, RS.T.idx, RS.T.attr, RS.T.tup2, RS.X.none, RS.X.bool, RS.X.num, RS.X.str, RS.X.var, RS.X.glob, RS.X.bin, RS.X.neg, RS.X.not, RS.X.bop, RS.X.cmp, RS.X.cmp2, RS.X.call, RS.X.bi, RS.X.meth, RS.X.idx, RS.X.slice, RS.X.rev, RS.X.attr, RS.X.tup, RS.X.lst, RS.X.emptyDict, RS.X.dict1, RS.X.comp, RS.Src.range1, RS.Src.range2, RS.Src.of, RS.wpT, RS.wpEs, RS.wpBop, RS.wpIfs]
    exact s_get rfl (s_idxT (v := .int i) rfl (s_get (gb _) (s_mod (by decide) h)))
  | cell p =>
    intro ha hh Q h
    have ha : p = q := ha
    subst ha
    refine call_ok E.T E.told rfl (tag_no rfl (by decide) (tag_yes rfl (st_cons ?_)))
    dsimp only [RS.S.ret, RS.S.expr, RS.S.assign, RS.S.ite, RS.S.for_, RS.S.while_, RS.S.raise, RS.S.pass, RS.T.var, RS.T.idx, RS.T.attr, RS.T.tup2, RS.X.none, RS.X.bool, RS.X.num, RS.X.str, RS.X.var, RS.X.glob, RS.X.bin, RS.X.neg, RS.X.not, RS.X.bop, RS.X.cmp, RS.X.cmp2, RS.X.call, RS.X.bi, RS.X.meth, RS.X.idx, RS.X.slice, RS.X.rev, RS.X.attr, RS.X.tup, RS.X.lst, RS.X.emptyDict, RS.X.dict1, RS.X.comp, RS.Src.range1, RS.Src.range2, RS.Src.of, RS.wpT, RS.wpEs, RS.wpBop, RS.wpIfs]
    exact s_get rfl (s_get rfl (s_idxT (v := rv p) rfl (s_idxT (v := .int p.1) rfl (s_get rfl (s_idxT (v := rv p) rfl (s_idxT (v := .int p.2) rfl (s_idxD hk (k := pk p) rfl (hh rfl) h)))))))
  | add a b iha ihb =>
    intro ha hh Q h
    refine call_ok E.T E.told rfl (tag_no rfl (by decide) (tag_no rfl (by decide) (tag_no rfl (by decide) (tag_no rfl (by decide) (tag_no rfl (by decide) (st_cons ?_))))))
    dsimp only [RS.S.ret, RS.S.expr, RS.S.assign, RS.S.ite, RS.S.for_, RS.S.while_, RS.S.raise, RS.S.pass, RS.T.var, RS.T.idx, RS.T.attr, RS.T.tup2, RS.X.none, RS.X.bool, RS.X.num, RS.X.str, RS.X.var, RS.X.glob, RS.X.bin, RS.X.neg, RS.X.not, RS.X.bop, RS.X.cmp, RS.X.cmp2, RS.X.call, RS.X.bi, RS.X.meth, RS.X.idx, RS.X.slice, RS.X.rev, RS.X.attr, RS.X.tup, RS.X.lst, RS.X.emptyDict, RS.X.dict1, RS.X.comp, RS.Src.range1, RS.Src.range2, RS.Src.of, RS.wpT, RS.wpEs, RS.wpBop, RS.wpIfs]
    refine s_call (n1 _) (s_get rfl (s_idxT (v := a.v) rfl (s_get rfl ?_)))
    refine gcall (Nat.le_max_left _ _) (iha ha.1 (fun e => hh (by show (a.has || b.has) = true; rw [e]; rfl)) _ ?_)
    refine tag_no rfl (by decide) (st_cons ?_)
    dsimp only [RS.S.ret, RS.S.expr, RS.S.assign, RS.S.ite, RS.S.for_, RS.S.while_, RS.S.raise, RS.S.pass, RS.T.var, RS.T.idx, RS.T.attr, RS.T.tup2, RS.X.none, RS.X.bool, RS.X.num, RS.X.str, RS.X.var, RS.X.glob, RS.X.bin, RS.X.neg, RS.X.not, RS.X.bop, RS.X.cmp, RS.X.cmp2, RS.X.call, RS.X.bi, RS.X.meth, RS.X.idx, RS.X.slice, RS.X.rev, RS.X.attr, RS.X.tup, RS.X.lst, RS.X.emptyDict, RS.X.dict1, RS.X.comp, RS.Src.range1, RS.Src.range2, RS.Src.of, RS.wpT, RS.wpEs, RS.wpBop, RS.wpIfs]
    refine s_call (n1 _) (s_get rfl (s_idxT (v := b.v) rfl (s_get rfl ?_)))
    refine gcall (Nat.le_max_right _ _) (ihb ha.2 (fun e => hh (by show (a.has || b.has) = true; rw [e]; exact Bool.or_true _)) _ ?_)
    refine tag_yes rfl (st_cons ?_)
    dsimp only [RS.S.ret, RS.S.expr, RS.S.assign, RS.S.ite, RS.S.for_, RS.S.while_, RS.S.raise, RS.S.pass, RS.T.var, RS.T.idx, RS.T.attr, RS.T.tup2, RS.X.none, RS.X.bool, RS.X.num, RS.X.str, RS.X.var, RS.X.glob, RS.X.bin, RS.X.neg, RS.X.not, RS.X.bop, RS.X.cmp, RS.X.cmp2, RS.X.call, RS.X.bi, RS.X.meth, RS.X.idx, RS.X.slice, RS.X.rev, RS.X.attr, RS.X.tup, RS.X.lst, RS.X.emptyDict, RS.X.dict1, RS.X.comp, RS.Src.range1, RS.Src.range2, RS.Src.of, RS.wpT, RS.wpEs, RS.wpBop, RS.wpIfs]
    exact s_get rfl (s_get rfl (s_add (s_get (gb _) (s_mod (by decide) h))))
end


/-! ### sheets whose rules need one place at most -/
abbrev Pl := Int × Int
noncomputable def GoodR (f : Pl → Rule) (ps : List Pl) (nx : Pl → Option Pl) : Prop := ∀ p ∈ ps, ∃ q ∈ ps, (f p).At q ∧ (f p).deep ≤ 8 ∧ (f p).size ≤ 100 ∧ nx p = if (f p).has = true then some q else none
theorem GoodR.on {f : Pl → Rule} {ps : List Pl} {nx : Pl → Option Pl} (g : GoodR f ps nx) {p q : Pl} (hp : p ∈ ps) (e : nx p = some q) : q ∈ ps := by
  obtain ⟨q', hq, _, _, _, e'⟩ := g p hp
  rw [e'] at e
  by_cases h : (f p).has = true
  · rw [if_pos h] at e; exact Option.some.inj e ▸ hq
  · rw [if_neg h] at e; cases e
/-- what becomes known -/
structure Sol (f : Pl → Rule) (ps : List Pl) (nx : Pl → Option Pl) (D : Pl → Option Int) : Prop where
  good : GoodR f ps nx
  ev : ∀ p ∈ ps, ∀ v : Pl → Int, (∀ q, nx p = some q → D q = some (v q)) → D p = some ((f p).ev v)
  no : ∀ p ∈ ps, ∀ q, nx p = some q → D q = none → D p = none
  rk : ∃ rk : Pl → Nat, ∀ p ∈ ps, ∀ q, nx p = some q → D p ≠ none → rk q < rk p
noncomputable def dv (D : Pl → Option Int) (p : Pl) : V := match D p with
  | some x => .int x
  | none => .none
theorem dv_some {D : Pl → Option Int} {p : Pl} {x : Int} (h : D p = some x) : dv D p = .int x := by unfold dv; rw [h]
theorem dv_none {D : Pl → Option Int} {p : Pl} (h : D p = none) : dv D p = .none := by unfold dv; rw [h]
theorem all_nx {o : Option Pl} {ks : List Pl} : ((o.toList.map fun q => decide (q ∈ ks)).all id) = true ↔ ∀ q, o = some q → q ∈ ks := by
  cases o with
  | none => exact ⟨fun _ q e => (by cases e), fun _ => rfl⟩
  | some p =>
    show (decide (p ∈ ks) && true) = true ↔ _
    rw [Bool.and_true, decide_eq_true_iff]
    exact ⟨fun h q e => Option.some.inj e ▸ h, fun h => h p rfl⟩

/-- the places that are known already -/
structure KnS (ps ks : List Pl) (D : Pl → Option Int) : Prop where
  nd : ks.Nodup
  kn : ∀ p ∈ ks, p ∈ ps ∧ D p ≠ none
theorem KnS.add {ps ks : List Pl} {D : Pl → Option Int} (K : KnS ps ks D) {p : Pl} (h1 : p ∉ ks) (h2 : p ∈ ps) (h3 : D p ≠ none) : KnS ps (ks ++ [p]) D :=
  ⟨nodup_add K.nd h1, fun q hq => (List.mem_append.mp hq).elim (K.kn q) fun e => by rw [List.mem_singleton.mp e]; exact ⟨h2, h3⟩⟩
/-- one round over what is left -/
structure KV2 (nx : Pl → Option Pl) (D : Pl → Option Int) (ps ks0 pre ss ks : List Pl) (mo : Bool) : Prop where
  K : KnS ps ks D
  nd : ss.Nodup
  a1 : ∀ p ∈ ss, p ∈ pre ∧ p ∉ ks
  a2 : ∀ p ∈ pre, p ∈ ks ∨ p ∈ ss
  a3 : ∀ p ∈ ks, p ∈ ks0 ∨ p ∈ pre
  a4 : ∀ p ∈ ks0, p ∈ ks
  le : ss.length + mo.toNat ≤ pre.length
  st : mo = false → ks = ks0 ∧ ∀ p ∈ ss, ∃ q, nx p = some q ∧ q ∉ ks0
section
variable {nx : Pl → Option Pl} {D : Pl → Option Int} {ps ks0 pre ss ks : List Pl} {mo : Bool}
theorem KV2.add (H : KV2 nx D ps ks0 pre ss ks mo) {p : Pl} (h0 : p ∉ pre) (h1 : p ∉ ks0) (h2 : p ∈ ps) (h3 : D p ≠ none) :
    p ∉ ks ∧ KV2 nx D ps ks0 (pre ++ [p]) ss (ks ++ [p]) true := by
  have hk : p ∉ ks := fun h => (H.a3 p h).elim h1 h0
  refine ⟨hk, H.K.add hk h2 h3, H.nd, fun q hq => ⟨List.mem_append_left _ (H.a1 q hq).1, fun h => ?_⟩, fun q hq => ?_, fun q hq => ?_, fun q hq => List.mem_append_left _ (H.a4 q hq), ?_, fun h => by cases h⟩
  · rcases List.mem_append.mp h with h | h
    · exact (H.a1 q hq).2 h
    · rw [List.mem_singleton.mp h] at hq; exact h0 (H.a1 p hq).1
  · exact (List.mem_append.mp hq).elim (fun h => (H.a2 q h).imp (List.mem_append_left _) id) fun h => .inl (List.mem_append_right _ h)
  · exact (List.mem_append.mp hq).elim (fun h => (H.a3 q h).imp id (List.mem_append_left _)) fun h => .inr (List.mem_append_right _ h)
  · rw [List.length_append]; exact Nat.add_le_add_right (Nat.le_trans (Nat.le_add_right _ _) H.le) 1
theorem KV2.skip (H : KV2 nx D ps ks0 pre ss ks mo) {p q : Pl} (h0 : p ∉ pre) (h1 : p ∉ ks0) (h3 : nx p = some q) (h4 : q ∉ ks) :
    KV2 nx D ps ks0 (pre ++ [p]) (ss ++ [p]) ks mo := by
  have hk : p ∉ ks := fun h => (H.a3 p h).elim h1 h0
  refine ⟨H.K, nodup_add H.nd fun h => h0 (H.a1 p h).1, fun q hq => ?_, fun q hq => ?_, fun q hq => (H.a3 q hq).imp id (List.mem_append_left _), H.a4, ?_, fun e => ⟨(H.st e).1, fun r hr => ?_⟩⟩
  · rcases List.mem_append.mp hq with h | h
    · exact ⟨List.mem_append_left _ (H.a1 q h).1, (H.a1 q h).2⟩
    · exact ⟨List.mem_append_right _ h, by rw [List.mem_singleton.mp h]; exact hk⟩
  · exact (List.mem_append.mp hq).elim (fun h => (H.a2 q h).imp id (List.mem_append_left _)) fun h => .inr (List.mem_append_right _ h)
  · rw [List.length_append, List.length_append, Nat.add_right_comm]; exact Nat.add_le_add_right H.le 1
  · rcases List.mem_append.mp hr with h | h
    · exact (H.st e).2 r h
    · rw [List.mem_singleton.mp h]; exact ⟨q, h3, (H.st e).1 ▸ h4⟩
theorem Sol.done {f : Pl → Rule} (s : Sol f ps nx D) (h : ∀ p ∈ ps, p ∉ ks → ∃ q, nx p = some q ∧ q ∉ ks) : ∀ p ∈ ps, D p ≠ none → p ∈ ks := by
  obtain ⟨rk, hr⟩ := s.rk
  suffices H : ∀ n p, rk p < n → p ∈ ps → D p ≠ none → p ∈ ks from fun p => H _ p (Nat.lt_succ_self _)
  intro n
  induction n with
  | zero => exact fun p h => (Nat.not_lt_zero _ h).elim
  | succ n ih =>
    intro p hp hps hd
    refine Classical.byContradiction fun hn => ?_
    obtain ⟨q, h1, h2⟩ := h p hps hn
    exact h2 (ih q (Nat.lt_of_lt_of_le (hr p hps q h1 hd) (Nat.le_of_lt_succ hp)) (s.good.on hps h1) fun e => hd (s.no p hps q h1 e))
end

section
variable {W : Wd} {k : Nat}
theorem need_at (E : EnvS W) {f : Pl → Rule} {ps : List Pl} {nx : Pl → Option Pl} (g : GoodR f ps nx) {p : Pl} (hp : p ∈ ps) (σ : Hp) (Q : VP)
    (h : ∀ (a : Nat) σ', σ a = none → σ.le σ' → σ' a = some (.lst ((nx p).toList.map pv)) → Q (.ref a) σ') : callP W 3 "needed" [(f p).v] σ Q noX := by
  obtain ⟨q, _, h1, h2, h3, e⟩ := g p hp
  refine needed_ok E h1 h2 h3 σ Q fun a σ' na le ha => h a σ' na le ?_
  rw [ha, e]; cases (f p).has <;> rfl
theorem len_nx {o : Option Pl} : o.toList.length ≤ 1 := by cases o <;> first | exact Nat.le_refl _ | exact Nat.zero_le _
theorem s_inD' {σ : Hp} {B : Bool → Prop} {a ep : Nat} {ks : List Pl} {g : Pl → V} {q : Pl} (ha : σ a = some (.dct (mapD ks g) ep)) (h : B (decide (q ∈ ks))) : inP σ B (pv q) (.ref a) := .dct ha (k := pk q) rfl (by rw [dget_mapD_some]; exact h)
theorem known_ok (E : EnvS W) {a d c h w : Nat} (z : Sz h w) {f : Pl → Rule} (σ : Hp) (S : SheetAt σ a d c h w f) {nx : Pl → Option Pl} {D : Pl → Option Int} (s : Sol f (G h w) nx D) (Q : VP)
    (hQ : ∀ (ks : List Pl) (b ep : Nat) σ', σ b = none → σ.le σ' → σ' b = some (.dct (mapD ks (dv D)) ep) → KnS (G h w) ks D → (∀ p ∈ G h w, D p ≠ none → p ∈ ks) → Q (.ref b) σ') : callP W 10 "known_values" [.ref a] σ Q noX := by
  have n1 : (glb W 9).has "needed" = true := E.has (by decide)
  have n2 : (glb W 9).has "told" = true := E.has (by decide)
  have lok : ∀ n, n ≤ 144 → lenOk n := fun n hn => Nat.le_trans hn (by decide)
  refine call_ok E.T E.known_values rfl ?_
  dsimp only [b_known_values, p_known_values, bindP]
  refine st_cons ?_
  dsimp only [RS.S.ret, RS.S.expr, RS.S.assign, RS.S.ite, RS.S.for_, RS.S.while_, RS.S.raise, RS.S.pass, RS.T.var, RS.T.idx, RS.T.attr, RS.T.tup2, RS.X.none, RS.X.bool, RS.X.num, RS.X.str, RS.X.var, RS.X.glob, RS.X.bin, RS.X.neg, RS.X.not, RS.X.bop, RS.X.cmp, RS.X.cmp2, RS.X.call, RS.X.bi, RS.X.meth, RS.X.idx, RS.X.slice, RS.X.rev, RS.X.attr, RS.X.tup, RS.X.lst, RS.X.emptyDict, RS.X.dict1, RS.X.comp, RS.Src.range1, RS.Src.range2, RS.Src.of, RS.wpT, RS.wpEs, RS.wpBop, RS.wpIfs]
  refine s_get rfl (s_recv (s_recvI S.ia (by decide) S.id rfl) (s_ownF (f := "Sheet.places") rfl ?_))
  refine gcall (m := 2) (by decide) (places_ok E z S.ia S.id _ fun lf σ₁ nl le₁ hl => ?_)
  refine st_cons ?_
  dsimp only [RS.S.ret, RS.S.expr, RS.S.assign, RS.S.ite, RS.S.for_, RS.S.while_, RS.S.raise, RS.S.pass, RS.T.var, RS.T.idx, RS.T.attr, RS.T.tup2, RS.X.none, RS.X.bool, RS.X.num, RS.X.str, RS.X.var, RS.X.glob, RS.X.bin, RS.X.neg, RS.X.not, RS.X.bop, RS.X.cmp, RS.X.cmp2, RS.X.call, RS.X.bi, RS.X.meth, RS.X.idx, RS.X.slice, RS.X.rev, RS.X.attr, RS.X.tup, RS.X.lst, RS.X.emptyDict, RS.X.dict1, RS.X.comp, RS.Src.range1, RS.Src.range2, RS.Src.of, RS.wpT, RS.wpEs, RS.wpBop, RS.wpIfs]
  refine .inl (s_newG fun kn σ₂ nk le₂ hk => ?_)
  have nk' : σ kn = none := Hp.le_none le₁ nk
  refine st_cons ?_
  dsimp only [RS.S.ret, RS.S.expr, RS.S.assign, RS.S.ite, RS.S.for_, RS.S.while_, RS.S.raise, RS.S.pass, RS.T.var, RS.T.idx, RS.T.attr, RS.T.tup2, RS.X.none, RS.X.bool, RS.X.num, RS.X.str, RS.X.var, RS.X.glob, RS.X.bin, RS.X.neg, RS.X.not, RS.X.bop, RS.X.cmp, RS.X.cmp2, RS.X.call, RS.X.bi, RS.X.meth, RS.X.idx, RS.X.slice, RS.X.rev, RS.X.attr, RS.X.tup, RS.X.lst, RS.X.emptyDict, RS.X.dict1, RS.X.comp, RS.Src.range1, RS.Src.range2, RS.Src.of, RS.wpT, RS.wpEs, RS.wpBop, RS.wpIfs]
  refine st_cons ?_
  dsimp only [RS.S.ret, RS.S.expr, RS.S.assign, RS.S.ite, RS.S.for_, RS.S.while_, RS.S.raise, RS.S.pass, RS.T.var, RS.T.idx, RS.T.attr, RS.T.tup2, RS.X.none, RS.X.bool, RS.X.num, RS.X.str, RS.X.var, RS.X.glob, RS.X.bin, RS.X.neg, RS.X.not, RS.X.bop, RS.X.cmp, RS.X.cmp2, RS.X.call, RS.X.bi, RS.X.meth, RS.X.idx, RS.X.slice, RS.X.rev, RS.X.attr, RS.X.tup, RS.X.lst, RS.X.emptyDict, RS.X.dict1, RS.X.comp, RS.Src.range1, RS.Src.range2, RS.Src.of, RS.wpT, RS.wpEs, RS.wpBop, RS.wpIfs]
  refine whileL_inv (fun m ρ σ' => Ex5 fun (ls ks : List Pl) (lf ep : Nat) (mo : Bool) => A12 (ρ "sheet" = some (.ref a)) (ρ "left" = some (.ref lf)) (ρ "known" = some (.ref kn)) (ρ "more" = some (.bool mo)) (σ.le σ') (σ' lf = some (.lst (ls.map pv))) (σ' kn = some (.dct (mapD ks (dv D)) ep)) (KnS (G h w) ks D) (ls.Nodup) (∀ p, p ∈ ls ↔ p ∈ G h w ∧ p ∉ ks) (mo = false → ∀ p ∈ ls, ∃ q, nx p = some q ∧ q ∉ ks) (m = ls.length + mo.toNat)) ?_
    ⟨G h w, [], lf, 0, true, rfl, rfl, rfl, rfl, Hp.le_trans le₁ le₂, le₂ _ _ hl, hk, ⟨List.nodup_nil, fun _ h => (List.not_mem_nil h).elim⟩, G_nodup w h, fun p => ⟨fun hp => ⟨hp, List.not_mem_nil⟩, fun hp => hp.1⟩, (fun e => by cases e), rfl⟩
  clear hk hl nl nk le₁ le₂ σ₁ σ₂
  rintro m ρ σ' K ⟨ls, ks, lf, ep, mo, e1, e2, e3, e4, le, hl, hk, H, hnd, hls, hst, hm⟩ hK
  refine s_get e4 (s_truth rfl (s_ifB (fun hmo => ?_) fun hmo => ?_))
  · have hll : ls.length ≤ 144 := Nat.le_trans (nodup_len hnd fun p hp => ((hls p).mp hp).1) z.len
    refine st_cons ?_
    dsimp only [RS.S.ret, RS.S.expr, RS.S.assign, RS.S.ite, RS.S.for_, RS.S.while_, RS.S.raise, RS.S.pass, RS.T.var, RS.T.idx, RS.T.attr, RS.T.tup2, RS.X.none, RS.X.bool, RS.X.num, RS.X.str, RS.X.var, RS.X.glob, RS.X.bin, RS.X.neg, RS.X.not, RS.X.bop, RS.X.cmp, RS.X.cmp2, RS.X.call, RS.X.bi, RS.X.meth, RS.X.idx, RS.X.slice, RS.X.rev, RS.X.attr, RS.X.tup, RS.X.lst, RS.X.emptyDict, RS.X.dict1, RS.X.comp, RS.Src.range1, RS.Src.range2, RS.Src.of, RS.wpT, RS.wpEs, RS.wpBop, RS.wpIfs]
    refine st_cons ?_
    dsimp only [RS.S.ret, RS.S.expr, RS.S.assign, RS.S.ite, RS.S.for_, RS.S.while_, RS.S.raise, RS.S.pass, RS.T.var, RS.T.idx, RS.T.attr, RS.T.tup2, RS.X.none, RS.X.bool, RS.X.num, RS.X.str, RS.X.var, RS.X.glob, RS.X.bin, RS.X.neg, RS.X.not, RS.X.bop, RS.X.cmp, RS.X.cmp2, RS.X.call, RS.X.bi, RS.X.meth, RS.X.idx, RS.X.slice, RS.X.rev, RS.X.attr, RS.X.tup, RS.X.lst, RS.X.emptyDict, RS.X.dict1, RS.X.comp, RS.Src.range1, RS.Src.range2, RS.Src.of, RS.wpT, RS.wpEs, RS.wpBop, RS.wpIfs]
    refine s_newG fun st σ₁ ns le₁ hs => ?_
    have ns' : σ st = none := Hp.le_none le ns
    have hsl : lf ≠ st := fun e => by rw [e, ns] at hl; cases hl
    refine st_cons ?_
    dsimp only [RS.S.ret, RS.S.expr, RS.S.assign, RS.S.ite, RS.S.for_, RS.S.while_, RS.S.raise, RS.S.pass, RS.T.var, RS.T.idx, RS.T.attr, RS.T.tup2, RS.X.none, RS.X.bool, RS.X.num, RS.X.str, RS.X.var, RS.X.glob, RS.X.bin, RS.X.neg, RS.X.not, RS.X.bop, RS.X.cmp, RS.X.cmp2, RS.X.call, RS.X.bi, RS.X.meth, RS.X.idx, RS.X.slice, RS.X.rev, RS.X.attr, RS.X.tup, RS.X.lst, RS.X.emptyDict, RS.X.dict1, RS.X.comp, RS.Src.range1, RS.Src.range2, RS.Src.of, RS.wpT, RS.wpEs, RS.wpBop, RS.wpIfs]
    refine s_get ((Env.set_ne _ _ (by decide)).trans ((Env.set_ne _ _ (by decide)).trans e2)) (s_srcL (le₁ _ _ hl) ?_)
    refine forL_data pv (fun pre ρ σ'' => Ex4 fun (ss ks' : List Pl) (ep : Nat) (mo : Bool) => A9 (ρ "sheet" = some (.ref a)) (ρ "still" = some (.ref st)) (ρ "known" = some (.ref kn)) (ρ "more" = some (.bool mo)) (σ.le σ'') (σ'' lf = some (.lst (ls.map pv))) (σ'' st = some (.lst (ss.map pv))) (σ'' kn = some (.dct (mapD ks' (dv D)) ep)) (KV2 nx D (G h w) ks pre ss ks' mo)) ?_ ?_ ?_ ?_
    · exact ⟨[], ks, ep, false, (Env.set_ne _ _ (by decide)).trans ((Env.set_ne _ _ (by decide)).trans e1), Env.set_same _ _ _, (Env.set_ne _ _ (by decide)).trans ((Env.set_ne _ _ (by decide)).trans e3), (Env.set_ne _ _ (by decide)).trans (Env.set_same _ _ _), Hp.le_trans le le₁, le₁ _ _ hl, hs, le₁ _ _ hk,
        H, List.nodup_nil, fun _ h => (List.not_mem_nil h).elim, fun _ h => (List.not_mem_nil h).elim, fun _ h => .inl h, fun _ h => h, Nat.le_refl _, fun _ => ⟨rfl, fun _ h => (List.not_mem_nil h).elim⟩⟩
    · rintro pre ρ σ'' ⟨_, _, _, _, _, _, _, _, _, hl, _⟩; exact hl
    · clear e1 e2 e3 e4 hk hs H
      rintro pre p post ρ σ'' N' hsp ⟨ss, ks', ep, mo', e1, e2, e3, e4, le, hl, hs, hk, H⟩ hN
      have hnp : p ∉ pre := nodup_mid hnd hsp
      obtain ⟨hp, hpk⟩ := (hls p).mp (mem_mid hsp)
      have S' := S.le le
      have hkl : ks'.length ≤ 144 := Nat.le_trans (nodup_len H.K.nd fun p hp => (H.K.kn p hp).1) z.len
      have hsl64 : ss.length ≤ 144 := Nat.le_trans (Nat.le_trans (Nat.le_add_right _ _) H.le) (Nat.le_trans (Nat.le_of_lt (len_mid hsp)) hll)
      refine st_cons ?_
      dsimp only [RS.S.ret, RS.S.expr, RS.S.assign, RS.S.ite, RS.S.for_, RS.S.while_, RS.S.raise, RS.S.pass, RS.T.var, RS.T.idx, RS.T.attr, RS.T.tup2, RS.X.none, RS.X.bool, RS.X.num, RS.X.str, RS.X.var, RS.X.glob, RS.X.bin, RS.X.neg, RS.X.not, RS.X.bop, RS.X.cmp, RS.X.cmp2, RS.X.call, RS.X.bi, RS.X.meth, RS.X.idx, RS.X.slice, RS.X.rev, RS.X.attr, RS.X.tup, RS.X.lst, RS.X.emptyDict, RS.X.dict1, RS.X.comp, RS.Src.range1, RS.Src.range2, RS.Src.of, RS.wpT, RS.wpEs, RS.wpBop, RS.wpIfs]
      refine s_get ((Env.set_ne _ _ (by decide)).trans e1) (s_recv (s_recvI S'.ia (by decide) S'.id rfl) (s_get (Env.set_same _ _ _) (s_ownF (f := "Sheet.rule") rfl ?_)))
      refine gcall (m := 2) (by decide) (rule_ok E S' hp _ ?_)
      have g1 := (Env.set_ne (ρ.set "place" (pv p)) (f p).v (by decide : "sheet" ≠ "rule")).trans ((Env.set_ne _ _ (by decide)).trans e1)
      have g2 := (Env.set_ne (ρ.set "place" (pv p)) (f p).v (by decide : "still" ≠ "rule")).trans ((Env.set_ne _ _ (by decide)).trans e2)
      have g3 := (Env.set_ne (ρ.set "place" (pv p)) (f p).v (by decide : "known" ≠ "rule")).trans ((Env.set_ne _ _ (by decide)).trans e3)
      have g4 := (Env.set_ne (ρ.set "place" (pv p)) (f p).v (by decide : "more" ≠ "rule")).trans ((Env.set_ne _ _ (by decide)).trans e4)
      have g5 := (Env.set_ne (ρ.set "place" (pv p)) (f p).v (by decide : "place" ≠ "rule")).trans (Env.set_same _ _ _)
      have g6 := Env.set_same (ρ.set "place" (pv p)) "rule" (f p).v
      generalize (ρ.set "place" (pv p)).set "rule" (f p).v = ρ₁ at *
      refine st_cons ?_
      dsimp only [RS.S.ret, RS.S.expr, RS.S.assign, RS.S.ite, RS.S.for_, RS.S.while_, RS.S.raise, RS.S.pass, RS.T.var, RS.T.idx, RS.T.attr, RS.T.tup2, RS.X.none, RS.X.bool, RS.X.num, RS.X.str, RS.X.var, RS.X.glob, RS.X.bin, RS.X.neg, RS.X.not, RS.X.bop, RS.X.cmp, RS.X.cmp2, RS.X.call, RS.X.bi, RS.X.meth, RS.X.idx, RS.X.slice, RS.X.rev, RS.X.attr, RS.X.tup, RS.X.lst, RS.X.emptyDict, RS.X.dict1, RS.X.comp, RS.Src.range1, RS.Src.range2, RS.Src.of, RS.wpT, RS.wpEs, RS.wpBop, RS.wpIfs]
      refine s_call n1 (s_get g6 ?_)
      refine gcall (m := 3) (by decide) (need_at E s.good hp σ'' _ fun l σ₃ nl₃ le₃ hl₃ => s_srcL hl₃ ?_)
      have hk3 := le₃ _ _ hk
      refine compL_lt pv (fun q => .bool (decide (q ∈ ks'))) (fun σ' l => l _ _ hl₃) (Nat.le_trans len_nx (by decide)) (fun q hq σ₄ le₄ K' hK' => ?_) fun σ₄ le₄ => ?_
      · exact s_ifT rfl (s_get (Env.set_same _ _ _) (s_get ((Env.set_ne _ _ (by decide)).trans g3) (.isIn (s_inD' (le₄ _ _ hk3) (hK' _ (Hp.le_refl _))))))
      refine s_newG fun bl σ₅ nbl le₅ hbl => ?_
      have eb : (nx p).toList.map (fun q => V.bool (decide (q ∈ ks'))) = ((nx p).toList.map fun q => decide (q ∈ ks')).map V.bool := by rw [List.map_map]; rfl
      rw [eb] at hbl
      have leA := Hp.le_trans le₃ (Hp.le_trans le₄ le₅)
      have hk5 := leA _ _ hk
      have hs5 := leA _ _ hs
      have hl5 := leA _ _ hl
      have hks : st ≠ kn := fun e => by rw [e, hk] at hs; cases hs
      have hkl' : lf ≠ kn := fun e => by rw [e, hk] at hl; cases hl
      refine s_all hbl (s_truth rfl (s_ifB (fun hall => ?_) fun hall => ?_))
      · have hin := all_nx.mp hall
        have hdq : ∀ q, nx p = some q → D q = some ((D q).getD 0) := fun q hq => by
          cases e : D q with
          | none => exact absurd e (H.K.kn q (hin q hq)).2
          | some x => rfl
        have hdp := s.ev p hp (fun q => (D q).getD 0) hdq
        obtain ⟨hpk', H'⟩ := H.add hnp hpk hp (by rw [hdp]; exact Option.some_ne_none _)
        obtain ⟨q, _, at', dp, _, ex⟩ := s.good p hp
        refine st_cons ?_
        dsimp only [RS.S.ret, RS.S.expr, RS.S.assign, RS.S.ite, RS.S.for_, RS.S.while_, RS.S.raise, RS.S.pass, RS.T.var, RS.T.idx, RS.T.attr, RS.T.tup2, RS.X.none, RS.X.bool, RS.X.num, RS.X.str, RS.X.var, RS.X.glob, RS.X.bin, RS.X.neg, RS.X.not, RS.X.bop, RS.X.cmp, RS.X.cmp2, RS.X.call, RS.X.bi, RS.X.meth, RS.X.idx, RS.X.slice, RS.X.rev, RS.X.attr, RS.X.tup, RS.X.lst, RS.X.emptyDict, RS.X.dict1, RS.X.comp, RS.Src.range1, RS.Src.range2, RS.Src.of, RS.wpT, RS.wpEs, RS.wpBop, RS.wpIfs]
        refine s_call n2 (s_get g6 (s_get g3 ?_))
        refine gcall (Nat.le_trans dp (by decide)) (told_ok E (v := fun q => (D q).getD 0) hk5 (f p) at' (fun hh => ?_) _ ?_)
        · rw [if_pos hh] at ex
          rw [dget_mapD (hin q ex), dv_some (hdq q ex)]
        rw [← dv_some hdp]
        refine s_get g3 (s_get g5 (s_storeD hk5 (k := pk p) rfl (lok _ (by rw [mapD_length]; exact hkl)) fun ep' => ?_))
        rw [dput_mapD_not hpk', updF_id]
        refine st_cons ?_
        dsimp only [RS.S.ret, RS.S.expr, RS.S.assign, RS.S.ite, RS.S.for_, RS.S.while_, RS.S.raise, RS.S.pass, RS.T.var, RS.T.idx, RS.T.attr, RS.T.tup2, RS.X.none, RS.X.bool, RS.X.num, RS.X.str, RS.X.var, RS.X.glob, RS.X.bin, RS.X.neg, RS.X.not, RS.X.bop, RS.X.cmp, RS.X.cmp2, RS.X.call, RS.X.bi, RS.X.meth, RS.X.idx, RS.X.slice, RS.X.rev, RS.X.attr, RS.X.tup, RS.X.lst, RS.X.emptyDict, RS.X.dict1, RS.X.comp, RS.Src.range1, RS.Src.range2, RS.Src.of, RS.wpT, RS.wpEs, RS.wpBop, RS.wpIfs]
        exact st_nil (st_nil (hN _ _ ⟨ss, ks' ++ [p], ep', true, (Env.set_ne _ _ (by decide)).trans g1, (Env.set_ne _ _ (by decide)).trans g2, (Env.set_ne _ _ (by decide)).trans g3, Env.set_same _ _ _, Hp.le_upd _ (Hp.le_trans le leA) nk', (Hp.set_ne _ _ hkl').trans hl5, (Hp.set_ne _ _ hks).trans hs5, Hp.set_same _ _ _, H'⟩))
      · obtain ⟨q, hq, hqk⟩ : ∃ q, nx p = some q ∧ q ∉ ks' := Classical.byContradiction fun hn => by
          rw [all_nx.mpr fun q hq => Classical.byContradiction fun h => hn ⟨q, hq, h⟩] at hall; cases hall
        refine st_cons ?_
        dsimp only [RS.S.ret, RS.S.expr, RS.S.assign, RS.S.ite, RS.S.for_, RS.S.while_, RS.S.raise, RS.S.pass, RS.T.var, RS.T.idx, RS.T.attr, RS.T.tup2, RS.X.none, RS.X.bool, RS.X.num, RS.X.str, RS.X.var, RS.X.glob, RS.X.bin, RS.X.neg, RS.X.not, RS.X.bop, RS.X.cmp, RS.X.cmp2, RS.X.call, RS.X.bi, RS.X.meth, RS.X.idx, RS.X.slice, RS.X.rev, RS.X.attr, RS.X.tup, RS.X.lst, RS.X.emptyDict, RS.X.dict1, RS.X.comp, RS.Src.range1, RS.Src.range2, RS.Src.of, RS.wpT, RS.wpEs, RS.wpBop, RS.wpIfs]
        refine s_get g2 (s_recv (s_recvL hs5 (.inl rfl)) (s_get g5 (s_appendG hs5 (lok _ (by rw [List.length_map]; exact hsl64)) fun σ₆ but hs6 => st_nil (st_nil ?_))))
        exact hN _ _ ⟨ss ++ [p], ks', ep, mo', g1, g2, g3, g4, Hp.le_but (Hp.le_trans le leA) ns' but, (but lf hsl).trans hl5, by rw [hs6, List.map_append]; rfl, (but kn hks.symm).trans hk5, H.skip hnp hpk hq hqk⟩
    · clear e1 e2 e3 e4 hk hs H
      rintro ρ σ'' ⟨ss, ks', ep, mo', e1, e2, e3, e4, le, _, hs, hk, H⟩
      refine st_cons ?_
      dsimp only [RS.S.ret, RS.S.expr, RS.S.assign, RS.S.ite, RS.S.for_, RS.S.while_, RS.S.raise, RS.S.pass, RS.T.var, RS.T.idx, RS.T.attr, RS.T.tup2, RS.X.none, RS.X.bool, RS.X.num, RS.X.str, RS.X.var, RS.X.glob, RS.X.bin, RS.X.neg, RS.X.not, RS.X.bop, RS.X.cmp, RS.X.cmp2, RS.X.call, RS.X.bi, RS.X.meth, RS.X.idx, RS.X.slice, RS.X.rev, RS.X.attr, RS.X.tup, RS.X.lst, RS.X.emptyDict, RS.X.dict1, RS.X.comp, RS.Src.range1, RS.Src.range2, RS.Src.of, RS.wpT, RS.wpEs, RS.wpBop, RS.wpIfs]
      refine s_get e2 (st_nil (hK _ _ _ ?_ ⟨ss, ks', st, ep, mo', (Env.set_ne _ _ (by decide)).trans e1, Env.set_same _ _ _, (Env.set_ne _ _ (by decide)).trans e3, (Env.set_ne _ _ (by decide)).trans e4, le, hs, hk, H.K, H.nd, fun p => ⟨fun hp => ?_, fun hp => ?_⟩, fun e p hp => ?_, rfl⟩))
      · rw [hm, hmo]; exact Nat.lt_succ_of_le H.le
      · obtain ⟨h1, h2⟩ := H.a1 p hp
        exact ⟨((hls p).mp h1).1, h2⟩
      · exact (H.a2 p ((hls p).mpr ⟨hp.1, fun h => hp.2 (H.a4 p h)⟩)).resolve_left hp.2
      · rw [(H.st e).1]; exact (H.st e).2 p hp
  · refine st_cons ?_
    dsimp only [RS.S.ret, RS.S.expr, RS.S.assign, RS.S.ite, RS.S.for_, RS.S.while_, RS.S.raise, RS.S.pass, RS.T.var, RS.T.idx, RS.T.attr, RS.T.tup2, RS.X.none, RS.X.bool, RS.X.num, RS.X.str, RS.X.var, RS.X.glob, RS.X.bin, RS.X.neg, RS.X.not, RS.X.bop, RS.X.cmp, RS.X.cmp2, RS.X.call, RS.X.bi, RS.X.meth, RS.X.idx, RS.X.slice, RS.X.rev, RS.X.attr, RS.X.tup, RS.X.lst, RS.X.emptyDict, RS.X.dict1, RS.X.comp, RS.Src.range1, RS.Src.range2, RS.Src.of, RS.wpT, RS.wpEs, RS.wpBop, RS.wpIfs]
    refine s_get e3 (hQ ks kn ep σ' nk' le hk H (s.done fun p hp hn => hst hmo p ((hls p).mpr ⟨hp, hn⟩)))

/-! ### a table of values -/
theorem get_dv {ps ks : List Pl} {D : Pl → Option Int} (K : KnS ps ks D) (hK : ∀ p ∈ ps, D p ≠ none → p ∈ ks) {p : Pl} (hp : p ∈ ps) : (dget (mapD ks (dv D)) (pk p)).getD .none = dv D p := by
  by_cases h : p ∈ ks
  · rw [dget_mapD h]; rfl
  · have := dget_mapD_some (g := dv D) (p := p) (ps := ks)
    rw [decide_eq_false h] at this
    have hn : dget (mapD ks (dv D)) (pk p) = none := Option.not_isSome_iff_eq_none.mp (by rw [this]; exact Bool.false_ne_true)
    rw [hn]
    exact (dv_none (Classical.byContradiction fun e => h (hK p hp e))).symm
noncomputable def rowV (w : Nat) (D : Pl → Option Int) (i : Nat) : List V := (List.range w).map fun (j : Nat) => dv D ((i : Int), (j : Int))
/-- rows, each a list of its own -/
structure TabAt (σ : Hp) (b : Nat) (as : List Nat) (rows : List (List V)) : Prop where
  hb : σ b = some (.lst (as.map .ref))
  ln : as.length = rows.length
  row : ∀ i (h : i < as.length) (h' : i < rows.length), as[i] ≠ b ∧ σ as[i] = some (.lst rows[i])
theorem TabAt.le {σ σ' : Hp} {b : Nat} {as : List Nat} {rows : List (List V)} (t : TabAt σ b as rows) (l : σ.le σ') : TabAt σ' b as rows :=
  ⟨l _ _ t.hb, t.ln, fun i h h' => ⟨(t.row i h h').1, l _ _ (t.row i h h').2⟩⟩
/-- a row more -/
theorem TabAt.add {σ σ' : Hp} {b a : Nat} {as : List Nat} {rows : List (List V)} {r : List V} (t : TabAt σ b as rows) (ha : σ a = some (.lst r)) (hab : a ≠ b) (but : Hp.but b σ σ') (hb : σ' b = some (.lst (as.map .ref ++ [.ref a]))) : TabAt σ' b (as ++ [a]) (rows ++ [r]) where
  hb := by rw [hb, List.map_append]; rfl
  ln := by rw [List.length_append, List.length_append, t.ln]; rfl
  row := fun i h h' => by
    by_cases e : i < as.length
    · rw [List.getElem_append_left e, List.getElem_append_left (t.ln ▸ e)]
      obtain ⟨h1, h2⟩ := t.row i e (t.ln ▸ e)
      exact ⟨h1, (but _ h1).trans h2⟩
    · have hi : i = as.length := Nat.le_antisymm (Nat.le_of_lt_succ (by rw [List.length_append] at h; exact h)) (Nat.not_lt.mp e)
      subst hi
      have hrl := t.ln
      rw [List.getElem_append_right (Nat.le_refl _), List.getElem_append_right (Nat.le_of_eq hrl.symm)]
      simp only [Nat.sub_self, List.getElem_singleton]
      exact ⟨hab, (but a hab).trans ha⟩
theorem reckoned_ok (E : EnvS W) {a d c h w : Nat} (z : Sz h w) {f : Pl → Rule} (σ : Hp) (S : SheetAt σ a d c h w f) {nx : Pl → Option Pl} {D : Pl → Option Int} (s : Sol f (G h w) nx D) (Q : VP)
    (hQ : ∀ (b : Nat) (as : List Nat) σ', σ.le σ' → TabAt σ' b as ((List.range h).map (rowV w D)) → Q (.ref b) σ') : callP W 11 "reckoned" [.ref a] σ Q noX := by
  have n2 : (glb W 10).has "known_values" = true := E.has (by decide)
  have lok : ∀ {n : Nat}, n ≤ 12 → lenOk ((n : Int) - 0).toNat := fun {n} hn => by rw [Int.sub_zero, Int.toNat_natCast]; exact Nat.le_trans hn (by decide)
  refine call_ok E.T E.reckoned rfl ?_
  dsimp only [b_reckoned, p_reckoned, bindP]
  refine st_cons ?_
  dsimp only [RS.S.ret, RS.S.expr, RS.S.assign, RS.S.ite, RS.S.for_, RS.S.while_, RS.S.raise, RS.S.pass, RS.T.var, RS.T.idx, RS.T.attr, RS.T.tup2, RS.X.none, RS.X.bool, RS.X.num, RS.X.str, RS.X.var, RS.X.glob, RS.X.bin, RS.X.neg, RS.X.not, RS.X.bop, RS.X.cmp, RS.X.cmp2, RS.X.call, RS.X.bi, RS.X.meth, RS.X.idx, RS.X.slice, RS.X.rev, RS.X.attr, RS.X.tup, RS.X.lst, RS.X.emptyDict, RS.X.dict1, RS.X.comp, RS.Src.range1, RS.Src.range2, RS.Src.of, RS.wpT, RS.wpEs, RS.wpBop, RS.wpIfs]
  refine s_call n2 (s_get rfl ?_)
  refine gcall (m := 10) (by decide) (known_ok E z σ S s _ fun ks kn ep σ₁ nkn le₁ hk K hK => ?_)
  have S1 := S.le le₁
  refine st_cons ?_
  dsimp only [RS.S.ret, RS.S.expr, RS.S.assign, RS.S.ite, RS.S.for_, RS.S.while_, RS.S.raise, RS.S.pass, RS.T.var, RS.T.idx, RS.T.attr, RS.T.tup2, RS.X.none, RS.X.bool, RS.X.num, RS.X.str, RS.X.var, RS.X.glob, RS.X.bin, RS.X.neg, RS.X.not, RS.X.bop, RS.X.cmp, RS.X.cmp2, RS.X.call, RS.X.bi, RS.X.meth, RS.X.idx, RS.X.slice, RS.X.rev, RS.X.attr, RS.X.tup, RS.X.lst, RS.X.emptyDict, RS.X.dict1, RS.X.comp, RS.Src.range1, RS.Src.range2, RS.Src.of, RS.wpT, RS.wpEs, RS.wpBop, RS.wpIfs]
  refine s_newG fun fo σ₂ nfo le₂ hfo => ?_
  have S2 := S1.le le₂
  refine st_cons ?_
  dsimp only [RS.S.ret, RS.S.expr, RS.S.assign, RS.S.ite, RS.S.for_, RS.S.while_, RS.S.raise, RS.S.pass, RS.T.var, RS.T.idx, RS.T.attr, RS.T.tup2, RS.X.none, RS.X.bool, RS.X.num, RS.X.str, RS.X.var, RS.X.glob, RS.X.bin, RS.X.neg, RS.X.not, RS.X.bop, RS.X.cmp, RS.X.cmp2, RS.X.call, RS.X.bi, RS.X.meth, RS.X.idx, RS.X.slice, RS.X.rev, RS.X.attr, RS.X.tup, RS.X.lst, RS.X.emptyDict, RS.X.dict1, RS.X.comp, RS.Src.range1, RS.Src.range2, RS.Src.of, RS.wpT, RS.wpEs, RS.wpBop, RS.wpIfs]
  refine ⟨by decide, s_get rfl (s_attr S2.ia S2.id rfl (s_range (lok z.h1) ?_))⟩
  refine forL_range (fun i ρ σ' => A5 (ρ "sheet" = some (.ref a)) (ρ "known" = some (.ref kn)) (ρ "found" = some (.ref fo)) (σ₁.le σ') (∃ as, TabAt σ' fo as ((List.range i).map (rowV w D)))) ?_ (fun _ => trivial) ?_ ?_
  · exact ⟨rfl, rfl, rfl, le₂, [], hfo, rfl, fun i h => (Nat.not_lt_zero _ h).elim⟩
  · rintro i ρ σ' N' hi ⟨e1, e2, e3, le, as, t⟩ hN
    rw [Int.zero_add] at hi
    have hi : i < h := Int.ofNat_lt.mp hi
    have f1 := (Env.set_ne ρ (.int (0 + i)) (by decide : "sheet" ≠ "row")).trans e1
    have f2 := (Env.set_ne ρ (.int (0 + i)) (by decide : "known" ≠ "row")).trans e2
    have f3 := (Env.set_ne ρ (.int (0 + i)) (by decide : "found" ≠ "row")).trans e3
    have f4 : (ρ.set "row" (.int (0 + i))) "row" = some (.int i) := by rw [Env.set_same, Int.zero_add]
    generalize ρ.set "row" (.int (0 + i)) = ρ₁ at *
    have S' := S1.le le
    refine st_cons ?_
    dsimp only [RS.S.ret, RS.S.expr, RS.S.assign, RS.S.ite, RS.S.for_, RS.S.while_, RS.S.raise, RS.S.pass, RS.T.var, RS.T.idx, RS.T.attr, RS.T.tup2, RS.X.none, RS.X.bool, RS.X.num, RS.X.str, RS.X.var, RS.X.glob, RS.X.bin, RS.X.neg, RS.X.not, RS.X.bop, RS.X.cmp, RS.X.cmp2, RS.X.call, RS.X.bi, RS.X.meth, RS.X.idx, RS.X.slice, RS.X.rev, RS.X.attr, RS.X.tup, RS.X.lst, RS.X.emptyDict, RS.X.dict1, RS.X.comp, RS.Src.range1, RS.Src.range2, RS.Src.of, RS.wpT, RS.wpEs, RS.wpBop, RS.wpIfs]
    refine s_get f3 (s_recv (s_recvL t.hb (.inl rfl)) ⟨by decide, s_get f1 (s_attr S'.ia S'.id rfl (s_range (lok z.w1) ?_))⟩)
    unfold rangeL
    rw [Int.sub_zero, Int.toNat_natCast]
    refine compL_lt (fun (j : Nat) => V.int (0 + j)) (fun (j : Nat) => dv D ((i : Int), (j : Int))) (fun _ _ => trivial) (by unfold lenOk; rw [List.length_range]; exact Nat.le_trans z.w1 (by decide)) (fun j hj σ₃ le₃ K' hK' => ?_) fun σ₃ le₃ => ?_
    · rw [Int.zero_add]
      have hk3 := le₃ _ _ (le _ _ hk)
      have hp : ((i : Int), (j : Int)) ∈ G h w := mem_G.mpr ⟨Int.natCast_nonneg _, Int.ofNat_lt.mpr hi, Int.natCast_nonneg _, Int.ofNat_lt.mpr (List.mem_range.mp hj)⟩
      refine s_ifT rfl (s_get ((Env.set_ne _ _ (by decide)).trans f2) (s_recv (.get hk3) (s_get ((Env.set_ne _ _ (by decide)).trans f4) (s_get (Env.set_same _ _ _) (.get hk3 (k := pk ((i : Int), (j : Int))) rfl ?_)))))
      rw [get_dv K hK hp]
      exact hK' _ (Hp.le_refl _)
    refine s_newG fun ra σ₄ nra le₄ hra => ?_
    have t4 := t.le (Hp.le_trans le₃ le₄)
    have hfr : ra ≠ fo := fun e => by rw [e, le₃ _ _ t.hb] at nra; cases nra
    refine s_appendG t4.hb (by unfold lenOk; rw [List.length_map, t.ln, List.length_map, List.length_range]; exact Nat.le_trans (Nat.le_of_lt hi) (Nat.le_trans z.h1 (by decide))) fun σ₅ but hb5 => st_nil ?_
    refine hN _ _ ⟨f1, f2, f3, Hp.le_but (Hp.le_trans le (Hp.le_trans le₃ le₄)) nfo but, as ++ [ra], ?_⟩
    rw [List.range_succ, List.map_append]
    exact t4.add hra hfr but hb5
  · rintro ρ σ' ⟨_, _, e3, le, as, t⟩
    rw [Int.sub_zero, Int.toNat_natCast] at t
    refine st_cons ?_
    dsimp only [RS.S.ret, RS.S.expr, RS.S.assign, RS.S.ite, RS.S.for_, RS.S.while_, RS.S.raise, RS.S.pass, RS.T.var, RS.T.idx, RS.T.attr, RS.T.tup2, RS.X.none, RS.X.bool, RS.X.num, RS.X.str, RS.X.var, RS.X.glob, RS.X.bin, RS.X.neg, RS.X.not, RS.X.bop, RS.X.cmp, RS.X.cmp2, RS.X.call, RS.X.bi, RS.X.meth, RS.X.idx, RS.X.slice, RS.X.rev, RS.X.attr, RS.X.tup, RS.X.lst, RS.X.emptyDict, RS.X.dict1, RS.X.comp, RS.Src.range1, RS.Src.range2, RS.Src.of, RS.wpT, RS.wpEs, RS.wpBop, RS.wpIfs]
    exact s_get e3 (hQ fo as σ' (Hp.le_trans le₁ le) t)
theorem get_nat {α : Type} {l : List α} {n : Nat} (h : n < l.length) : pyGet l (n : Int) = some l[n] := by
  unfold pyGet; rw [if_pos (Int.natCast_nonneg _), Int.toNat_natCast, List.getElem?_eq_getElem h]
/-- the value of a place in the table -/
theorem tab_at {σ : Hp} {b h w : Nat} {as : List Nat} {D : Pl → Option Int} (t : TabAt σ b as ((List.range h).map (rowV w D))) {p : Pl} (hp : p ∈ G h w) :
    ∃ ra r, pyGet (as.map V.ref) p.1 = some (.ref ra) ∧ σ ra = some (.lst r) ∧ pyGet r p.2 = some (dv D p) := by
  obtain ⟨p1, p2⟩ := p
  obtain ⟨h1, h2, h3, h4⟩ := mem_G.mp hp
  obtain ⟨i, rfl⟩ := Int.eq_ofNat_of_zero_le h1
  obtain ⟨j, rfl⟩ := Int.eq_ofNat_of_zero_le h3
  have hih : i < h := Int.ofNat_lt.mp h2
  have hjw : j < w := Int.ofNat_lt.mp h4
  have hl : as.length = h := by rw [t.ln, List.length_map, List.length_range]
  have hia : i < as.length := hl ▸ hih
  refine ⟨as[i], _, ?_, (t.row i hia (t.ln ▸ hia)).2, ?_⟩
  · rw [get_nat (by rw [List.length_map]; exact hia), List.getElem_map]
  · rw [List.getElem_map, List.getElem_range]
    unfold rowV
    rw [get_nat (by rw [List.length_map, List.length_range]; exact hjw), List.getElem_map, List.getElem_range]
end


/-! ### a ring -/
theorem get_last {α : Type} (pre : List α) (x : α) : pyGet (pre ++ [x]) (-1) = some x := by
  unfold pyGet
  rw [if_neg (by decide), List.length_append, List.length_singleton, if_pos (by lia), show ((-1 : Int) + ((pre.length + 1 : Nat) : Int)).toNat = pre.length by lia, List.getElem?_concat_length]
noncomputable def Chain (nx : Pl → Option Pl) (ws : List Pl) : Prop := ∀ i (h : i + 1 < ws.length), nx (ws[i]'(Nat.lt_of_succ_lt h)) = some ws[i + 1]
structure Cyc (nx : Pl → Option Pl) (ps c : List Pl) : Prop where
  nd : c.Nodup
  on : ∀ p ∈ c, p ∈ ps
  ch : Chain nx c
  lp : ∃ (l q : Pl) (c' : List Pl), c = c' ++ [l] ∧ c[0]? = some q ∧ nx l = some q
theorem chain_add {nx : Pl → Option Pl} {ws : List Pl} {l q : Pl} (h : Chain nx (ws ++ [l])) (hq : nx l = some q) : Chain nx (ws ++ [l] ++ [q]) := by
  intro i hi
  by_cases e : i + 1 < (ws ++ [l]).length
  · rw [List.getElem_append_left (Nat.lt_of_succ_lt e), List.getElem_append_left e]; exact h i e
  · have hi' : i = ws.length := by
      rw [List.length_append] at hi
      rw [List.length_append] at hi e
      exact Nat.le_antisymm (Nat.le_of_lt_succ (Nat.lt_of_succ_lt_succ hi)) (Nat.le_of_succ_le_succ (Nat.not_lt.mp e))
    subst hi'
    simp only [List.getElem_append_right (Nat.le_refl _), List.append_assoc, List.getElem_append_right (Nat.le_add_right _ _)]
    simpa using hq
theorem cyc_of {nx : Pl → Option Pl} {ps ws : List Pl} {l q : Pl} {j : Nat} (h : Chain nx (ws ++ [l])) (hn : (ws ++ [l]).Nodup) (hp : ∀ p ∈ ws ++ [l], p ∈ ps) (hq : nx l = some q) (hj : (ws ++ [l])[j]? = some q) : Cyc nx ps ((ws ++ [l]).drop j) := by
  obtain ⟨hjl, hjq⟩ := List.getElem?_eq_some_iff.mp hj
  refine ⟨hn.sublist (List.drop_sublist _ _), fun p hp' => hp p (List.mem_of_mem_drop hp'), fun i hi => ?_, l, q, ws.drop j, ?_, ?_, hq⟩
  · rw [List.getElem_drop, List.getElem_drop]
    exact h (j + i) (by rw [List.length_drop] at hi; rw [Nat.add_assoc]; exact Nat.add_lt_of_lt_sub' hi)
  · rw [List.length_append] at hjl
    exact List.drop_append_of_le_length (Nat.le_of_lt_succ hjl)
  · rw [List.getElem?_drop, Nat.add_zero]; exact hj
theorem find_pd {q : Pl} {ws : List Pl} (h : q ∈ ws) : ∃ j, (ws.map pd).findIdx? (fun e => PyData.eqv e (pd q)) = some j ∧ ws[j]? = some q := by
  cases e : (ws.map pd).findIdx? (fun e => PyData.eqv e (pd q)) with
  | none =>
    have := List.findIdx?_eq_none_iff.mp e (pd q) (List.mem_map.mpr ⟨q, h, rfl⟩)
    rw [eqv_pd, decide_eq_true rfl] at this; cases this
  | some j =>
    obtain ⟨hj, h1, _⟩ := List.findIdx?_eq_some_iff_getElem.mp e
    refine ⟨j, rfl, ?_⟩
    rw [List.length_map] at hj
    rw [List.getElem_map, eqv_pd, decide_eq_true_eq] at h1
    rw [List.getElem?_eq_getElem hj, h1]
theorem slice_from {α : Type} (vs : List α) {j : Nat} (h : j ≤ vs.length) : pySlice vs (some j) none = vs.drop j := by
  show List.drop (clip vs.length (j : Int)) (List.take vs.length vs) = _
  unfold clip
  rw [if_pos (Int.natCast_nonneg _), List.take_length, Int.toNat_natCast, Nat.min_eq_left h]
theorem Sol.stuck {f : Pl → Rule} {ps : List Pl} {nx : Pl → Option Pl} {D : Pl → Option Int} (s : Sol f ps nx D) {p : Pl} (hp : p ∈ ps) (h : D p = none) : ∃ q, nx p = some q ∧ D q = none := by
  cases e : nx p with
  | none =>
    have := s.ev p hp (fun _ => 0) fun q e' => by rw [e] at e'; cases e'
    rw [h] at this; cases this
  | some q =>
    refine ⟨q, rfl, ?_⟩
    cases e2 : D q with
    | none => rfl
    | some x =>
      have := s.ev p hp (fun _ => x) fun q' e' => by rw [e] at e'; rw [← Option.some.inj e', e2]
      rw [h] at this; cases this

section
variable {W : Wd} {k : Nat}
theorem ring_ok (E : EnvS W) {a d c h w : Nat} (z : Sz h w) {f : Pl → Rule} (σ : Hp) (S : SheetAt σ a d c h w f) {nx : Pl → Option Pl} {D : Pl → Option Int} (s : Sol f (G h w) nx D) (Q : VP)
    (hQ1 : (∀ p ∈ G h w, D p ≠ none) → ∀ σ', σ.le σ' → Q .none σ')
    (hQ2 : (¬ ∀ p ∈ G h w, D p ≠ none) → ∀ (cs : List Pl) (b : Nat) σ', σ.le σ' → σ' b = some (.lst (cs.map pv)) → Cyc nx (G h w) cs → Q (.ref b) σ') : callP W 11 "ring" [.ref a] σ Q noX := by
  have n1 : (glb W 10).has "needed" = true := E.has (by decide)
  have n2 : (glb W 10).has "known_values" = true := E.has (by decide)
  have lok : ∀ n, n ≤ 144 → lenOk n := fun n hn => Nat.le_trans hn (by decide)
  refine call_ok E.T E.ring rfl ?_
  dsimp only [b_ring, p_ring, bindP]
  refine st_cons ?_
  dsimp only [RS.S.ret, RS.S.expr, RS.S.assign, RS.S.ite, RS.S.for_, RS.S.while_, RS.S.raise, RS.S.pass, RS.T.var, RS.T.idx, RS.T.attr, RS.T.tup2, RS.X.none, RS.X.bool, RS.X.num, RS.X.str, RS.X.var, RS.X.glob, RS.X.bin, RS.X.neg, RS.X.not, RS.X.bop, RS.X.cmp, RS.X.cmp2, RS.X.call, RS.X.bi, RS.X.meth, RS.X.idx, RS.X.slice, RS.X.rev, RS.X.attr, RS.X.tup, RS.X.lst, RS.X.emptyDict, RS.X.dict1, RS.X.comp, RS.Src.range1, RS.Src.range2, RS.Src.of, RS.wpT, RS.wpEs, RS.wpBop, RS.wpIfs]
  refine s_call n2 (s_get rfl ?_)
  refine gcall (m := 10) (by decide) (known_ok E z σ S s _ fun ks kn ep σ₁ nkn le₁ hk K hK => ?_)
  have hD : ∀ p ∈ G h w, p ∉ ks → D p = none := fun p hp hn => Classical.byContradiction fun e => hn (hK p hp e)
  have S1 := S.le le₁
  refine st_cons ?_
  dsimp only [RS.S.ret, RS.S.expr, RS.S.assign, RS.S.ite, RS.S.for_, RS.S.while_, RS.S.raise, RS.S.pass, RS.T.var, RS.T.idx, RS.T.attr, RS.T.tup2, RS.X.none, RS.X.bool, RS.X.num, RS.X.str, RS.X.var, RS.X.glob, RS.X.bin, RS.X.neg, RS.X.not, RS.X.bop, RS.X.cmp, RS.X.cmp2, RS.X.call, RS.X.bi, RS.X.meth, RS.X.idx, RS.X.slice, RS.X.rev, RS.X.attr, RS.X.tup, RS.X.lst, RS.X.emptyDict, RS.X.dict1, RS.X.comp, RS.Src.range1, RS.Src.range2, RS.Src.of, RS.wpT, RS.wpEs, RS.wpBop, RS.wpIfs]
  refine s_get rfl (s_recv (s_recvI S1.ia (by decide) S1.id rfl) (s_ownF (f := "Sheet.places") rfl ?_))
  refine gcall (m := 2) (by decide) (places_ok E z S1.ia S1.id _ fun b σ₂ nb le₂ hb => s_srcL hb ?_)
  refine compL_fl pv pv (fun p => !decide (p ∈ ks)) (fun σ'' l => l _ _ hb) (lok _ z.len) ?_ ?_
  · intro x hx σ₃ le₃ K' hK'
    have := hK' σ₃ (Hp.le_refl _)
    refine s_get (Env.set_same _ _ _) (s_get rfl (.notIn (s_inD' (le₃ _ _ (le₂ _ _ hk)) (s_truth rfl ?_))))
    refine s_ifB (fun e => s_ifT rfl (s_get (Env.set_same _ _ _) ?_)) (fun e => s_ifF Bool.false_ne_true ?_)
    · rw [e] at this; exact this
    · rw [e] at this; exact this
  intro σ₃ le₃
  refine s_newG fun lf σ₄ nlf le₄ hlf => ?_
  refine st_cons ?_
  dsimp only [RS.S.ret, RS.S.expr, RS.S.assign, RS.S.ite, RS.S.for_, RS.S.while_, RS.S.raise, RS.S.pass, RS.T.var, RS.T.idx, RS.T.attr, RS.T.tup2, RS.X.none, RS.X.bool, RS.X.num, RS.X.str, RS.X.var, RS.X.glob, RS.X.bin, RS.X.neg, RS.X.not, RS.X.bop, RS.X.cmp, RS.X.cmp2, RS.X.call, RS.X.bi, RS.X.meth, RS.X.idx, RS.X.slice, RS.X.rev, RS.X.attr, RS.X.tup, RS.X.lst, RS.X.emptyDict, RS.X.dict1, RS.X.comp, RS.Src.range1, RS.Src.range2, RS.Src.of, RS.wpT, RS.wpEs, RS.wpBop, RS.wpIfs]
  refine s_get rfl (s_newG fun z₁ σ₅ nz le₅ hz => s_eqL0 (le₅ _ _ hlf) hz (snap_pvs σ₅ 48 _) (s_truth rfl ?_))
  have le15 : σ₁.le σ₅ := Hp.le_trans le₂ (Hp.le_trans le₃ (Hp.le_trans le₄ le₅))
  have leA := Hp.le_trans le₁ le15
  have hk5 := le15 _ _ hk
  have hlf5 := le₅ _ _ hlf
  have hmem : ∀ p, p ∈ (G h w).filter (fun p => !decide (p ∈ ks)) ↔ p ∈ G h w ∧ p ∉ ks := fun p => by
    rw [List.mem_filter, Bool.not_eq_true', decide_eq_false_iff_not]
  generalize (G h w).filter (fun p => !decide (p ∈ ks)) = ls at *
  cases ls with
  | nil =>
    refine s_ifT rfl (st_cons ?_)
    dsimp only [RS.S.ret, RS.S.expr, RS.S.assign, RS.S.ite, RS.S.for_, RS.S.while_, RS.S.raise, RS.S.pass, RS.T.var, RS.T.idx, RS.T.attr, RS.T.tup2, RS.X.none, RS.X.bool, RS.X.num, RS.X.str, RS.X.var, RS.X.glob, RS.X.bin, RS.X.neg, RS.X.not, RS.X.bop, RS.X.cmp, RS.X.cmp2, RS.X.call, RS.X.bi, RS.X.meth, RS.X.idx, RS.X.slice, RS.X.rev, RS.X.attr, RS.X.tup, RS.X.lst, RS.X.emptyDict, RS.X.dict1, RS.X.comp, RS.Src.range1, RS.Src.range2, RS.Src.of, RS.wpT, RS.wpEs, RS.wpBop, RS.wpIfs]
    exact hQ1 (fun p hp => (K.kn p (Classical.byContradiction fun hn => List.not_mem_nil ((hmem p).mpr ⟨hp, hn⟩))).2) σ₅ leA
  | cons p₀ ls =>
    refine s_ifF Bool.false_ne_true (st_nil ?_)
    obtain ⟨hp₀, hn₀⟩ := (hmem p₀).mp (.head _)
    have hQ2 := hQ2 fun hall => hall p₀ hp₀ (hD p₀ hp₀ hn₀)
    refine st_cons ?_
    dsimp only [RS.S.ret, RS.S.expr, RS.S.assign, RS.S.ite, RS.S.for_, RS.S.while_, RS.S.raise, RS.S.pass, RS.T.var, RS.T.idx, RS.T.attr, RS.T.tup2, RS.X.none, RS.X.bool, RS.X.num, RS.X.str, RS.X.var, RS.X.glob, RS.X.bin, RS.X.neg, RS.X.not, RS.X.bop, RS.X.cmp, RS.X.cmp2, RS.X.call, RS.X.bi, RS.X.meth, RS.X.idx, RS.X.slice, RS.X.rev, RS.X.attr, RS.X.tup, RS.X.lst, RS.X.emptyDict, RS.X.dict1, RS.X.comp, RS.Src.range1, RS.Src.range2, RS.Src.of, RS.wpT, RS.wpEs, RS.wpBop, RS.wpIfs]
    refine s_get rfl (s_idxL hlf5 rfl (s_newG fun wy σ₆ nwy le₆ hwy => ?_))
    refine st_cons ?_
    dsimp only [RS.S.ret, RS.S.expr, RS.S.assign, RS.S.ite, RS.S.for_, RS.S.while_, RS.S.raise, RS.S.pass, RS.T.var, RS.T.idx, RS.T.attr, RS.T.tup2, RS.X.none, RS.X.bool, RS.X.num, RS.X.str, RS.X.var, RS.X.glob, RS.X.bin, RS.X.neg, RS.X.not, RS.X.bop, RS.X.cmp, RS.X.cmp2, RS.X.call, RS.X.bi, RS.X.meth, RS.X.idx, RS.X.slice, RS.X.rev, RS.X.attr, RS.X.tup, RS.X.lst, RS.X.emptyDict, RS.X.dict1, RS.X.comp, RS.Src.range1, RS.Src.range2, RS.Src.of, RS.wpT, RS.wpEs, RS.wpBop, RS.wpIfs]
    refine whileL_inv (fun m ρ σ' => Ex2 fun (ws : List Pl) (l : Pl) => A9 (ρ "sheet" = some (.ref a)) (ρ "known" = some (.ref kn)) (ρ "way" = some (.ref wy)) (σ₅.le σ') (σ' wy = some (.lst ((ws ++ [l]).map pv))) (Chain nx (ws ++ [l])) ((ws ++ [l]).Nodup) (∀ p ∈ ws ++ [l], p ∈ G h w ∧ D p = none) (m + (ws ++ [l]).length = 144)) ?_ (m := 143)
      ⟨[], p₀, rfl, rfl, rfl, le₆, hwy, fun i hi => (Nat.not_succ_le_zero _ (Nat.le_of_succ_le_succ hi)).elim, List.nodup_cons.mpr ⟨List.not_mem_nil, List.nodup_nil⟩, fun p hp => by rw [List.mem_singleton.mp hp]; exact ⟨hp₀, hD p₀ hp₀ hn₀⟩, rfl⟩
    rintro m ρ σ' K' ⟨ws, l, e1, e2, e3, le, hwy, hch, hnd, hon, hm⟩ hK'
    refine s_truth rfl (s_ifT rfl ?_)
    obtain ⟨hl, hlk⟩ := hon l (List.mem_append_right _ (.head _))
    have hwl : (ws ++ [l]).length ≤ 144 := hm ▸ Nat.le_add_left _ _
    obtain ⟨q, hq, hqD⟩ := s.stuck hl hlk
    have hqk : q ∉ ks := fun e => (K.kn q e).2 hqD
    have S' := S.le (Hp.le_trans leA le)
    have gl : pyGet ((ws ++ [l]).map pv) (-1) = some (pv l) := by rw [List.map_append]; exact get_last _ _
    refine st_cons ?_
    dsimp only [RS.S.ret, RS.S.expr, RS.S.assign, RS.S.ite, RS.S.for_, RS.S.while_, RS.S.raise, RS.S.pass, RS.T.var, RS.T.idx, RS.T.attr, RS.T.tup2, RS.X.none, RS.X.bool, RS.X.num, RS.X.str, RS.X.var, RS.X.glob, RS.X.bin, RS.X.neg, RS.X.not, RS.X.bop, RS.X.cmp, RS.X.cmp2, RS.X.call, RS.X.bi, RS.X.meth, RS.X.idx, RS.X.slice, RS.X.rev, RS.X.attr, RS.X.tup, RS.X.lst, RS.X.emptyDict, RS.X.dict1, RS.X.comp, RS.Src.range1, RS.Src.range2, RS.Src.of, RS.wpT, RS.wpEs, RS.wpBop, RS.wpIfs]
    refine s_call n1 (s_get e1 (s_recv (s_recvI S'.ia (by decide) S'.id rfl) (s_get e3 (s_neg (s_idxL hwy gl (s_ownF (f := "Sheet.rule") rfl ?_))))))
    refine gcall (m := 2) (by decide) (rule_ok E S' hl _ ?_)
    refine gcall (m := 3) (by decide) (need_at E s.good hl σ' _ fun b₂ σ₇ nb₂ le₇ hb₂ => s_srcL hb₂ ?_)
    rw [hq] at hb₂ ⊢
    have hk7 := le₇ _ _ (le _ _ hk5)
    refine ⟨hb₂, Nat.zero_le _, s_get (Env.set_same _ _ _) (s_get ((Env.set_ne _ _ (by decide)).trans e2) (.notIn (s_inD' hk7 (s_truth rfl ?_))))⟩
    refine s_ifT (by rw [decide_eq_false hqk]; rfl) (s_ifT rfl (s_get (Env.set_same _ _ _) ⟨hb₂, s_newG fun b₃ σ₉ nb₃ le₉ hb₃ => s_idxL hb₃ (v := pv q) rfl ?_⟩))
    have leB := Hp.le_trans le₇ le₉
    have hwy9 := leB _ _ hwy
    have g1 := (Env.set_ne ρ (pv q) (by decide : "sheet" ≠ "place")).trans e1
    have g2 := (Env.set_ne ρ (pv q) (by decide : "known" ≠ "place")).trans e2
    have g3 := (Env.set_ne ρ (pv q) (by decide : "way" ≠ "place")).trans e3
    have g4 := Env.set_same ρ "place" (pv q)
    generalize ρ.set "place" (pv q) = ρ₁ at *
    refine st_cons ?_
    dsimp only [RS.S.ret, RS.S.expr, RS.S.assign, RS.S.ite, RS.S.for_, RS.S.while_, RS.S.raise, RS.S.pass, RS.T.var, RS.T.idx, RS.T.attr, RS.T.tup2, RS.X.none, RS.X.bool, RS.X.num, RS.X.str, RS.X.var, RS.X.glob, RS.X.bin, RS.X.neg, RS.X.not, RS.X.bop, RS.X.cmp, RS.X.cmp2, RS.X.call, RS.X.bi, RS.X.meth, RS.X.idx, RS.X.slice, RS.X.rev, RS.X.attr, RS.X.tup, RS.X.lst, RS.X.emptyDict, RS.X.dict1, RS.X.comp, RS.Src.range1, RS.Src.range2, RS.Src.of, RS.wpT, RS.wpEs, RS.wpBop, RS.wpIfs]
    refine s_get g4 (s_get g3 (.isIn (inP_pvs hwy9 (s_truth rfl ?_))))
    by_cases hqw : q ∈ ws ++ [l]
    · refine s_ifT (decide_eq_true hqw) (st_cons ?_)
      dsimp only [RS.S.ret, RS.S.expr, RS.S.assign, RS.S.ite, RS.S.for_, RS.S.while_, RS.S.raise, RS.S.pass, RS.T.var, RS.T.idx, RS.T.attr, RS.T.tup2, RS.X.none, RS.X.bool, RS.X.num, RS.X.str, RS.X.var, RS.X.glob, RS.X.bin, RS.X.neg, RS.X.not, RS.X.bop, RS.X.cmp, RS.X.cmp2, RS.X.call, RS.X.bi, RS.X.meth, RS.X.idx, RS.X.slice, RS.X.rev, RS.X.attr, RS.X.tup, RS.X.lst, RS.X.emptyDict, RS.X.dict1, RS.X.comp, RS.Src.range1, RS.Src.range2, RS.Src.of, RS.wpT, RS.wpEs, RS.wpBop, RS.wpIfs]
      obtain ⟨j, hj1, hj2⟩ := find_pd hqw
      have hjl := (List.getElem?_eq_some_iff.mp hj2).1
      refine s_get g3 (s_get g3 (s_recv (.index hwy9) (s_get g4 (.index hwy9 (snap_pv σ₉ 39 q) (snap_pvs σ₉ 39 _) hj1 (s_sliceL hwy9 rfl rfl fun b₄ nb₄ => ?_)))))
      rw [slice_from _ (by rw [List.length_map]; exact Nat.le_of_lt hjl), ← List.map_drop]
      exact hQ2 _ b₄ _ (Hp.le_trans (Hp.le_trans leA (Hp.le_trans le leB)) (Hp.le_set _ nb₄)) (Hp.set_same _ _ _) (cyc_of hch hnd (fun p hp => (hon p hp).1) hq hj2)
    · refine s_ifF (fun e => hqw (of_decide_eq_true e)) (st_nil (st_cons ?_))
      dsimp only [RS.S.ret, RS.S.expr, RS.S.assign, RS.S.ite, RS.S.for_, RS.S.while_, RS.S.raise, RS.S.pass, RS.T.var, RS.T.idx, RS.T.attr, RS.T.tup2, RS.X.none, RS.X.bool, RS.X.num, RS.X.str, RS.X.var, RS.X.glob, RS.X.bin, RS.X.neg, RS.X.not, RS.X.bop, RS.X.cmp, RS.X.cmp2, RS.X.call, RS.X.bi, RS.X.meth, RS.X.idx, RS.X.slice, RS.X.rev, RS.X.attr, RS.X.tup, RS.X.lst, RS.X.emptyDict, RS.X.dict1, RS.X.comp, RS.Src.range1, RS.Src.range2, RS.Src.of, RS.wpT, RS.wpEs, RS.wpBop, RS.wpIfs]
      refine s_get g3 (s_recv (s_recvL hwy9 (.inl rfl)) (s_get g4 (s_appendG hwy9 (lok _ (by rw [List.length_map]; exact hwl)) fun σ₁₀ but hwy10 => st_nil ?_)))
      have hnd' := nodup_add hnd hqw
      have hon' : ∀ p ∈ ws ++ [l] ++ [q], p ∈ G h w ∧ D p = none := fun p hp => by
        rcases List.mem_append.mp hp with hp | hp
        · exact hon p hp
        · rw [List.mem_singleton.mp hp]; exact ⟨s.good.on hl hq, hqD⟩
      have hl2 := Nat.le_trans (nodup_len hnd' fun p hp => (hon' p hp).1) z.len
      rw [List.length_append (as := ws ++ [l]), List.length_singleton] at hl2
      cases m with
      | zero => rw [Nat.zero_add] at hm; exact absurd (hm ▸ hl2) (by decide)
      | succ m =>
        exact hK' m _ _ (Nat.lt_succ_self _) ⟨ws ++ [l], q, g1, g2, g3, Hp.le_but (Hp.le_trans le leB) nwy but, by rw [hwy10, List.map_append (l₁ := ws ++ [l])]; rfl, chain_add hch hq, hnd', hon', by rw [List.length_append (as := ws ++ [l]), List.length_singleton, Nat.add_comm _ 1, ← Nat.add_assoc]; exact hm⟩
end

/-! ### what hangs on a place -/
inductive Reach (nx : Pl → Option Pl) (ps : List Pl) (s : Pl) : Pl → Prop
  | start : Reach nx ps s s
  | step {p q : Pl} : Reach nx ps s q → p ∈ ps → nx p = some q → Reach nx ps s p
structure Hang (nx : Pl → Option Pl) (ps : List Pl) (s : Pl) (ws fs : List Pl) : Prop where
  nd : fs.Nodup
  on : ∀ p ∈ fs, p ∈ ps ∧ Reach nx ps s p
  sub : ∀ p ∈ ws, p ∈ fs
  st : s ∈ fs
  cl : ∀ q ∈ fs, q ∉ ws → ∀ p ∈ ps, nx p = some q → p ∈ fs
structure Hang2 (nx : Pl → Option Pl) (ps : List Pl) (s here : Pl) (ws fs pre : List Pl) : Prop where
  nd : fs.Nodup
  on : ∀ p ∈ fs, p ∈ ps ∧ Reach nx ps s p
  sub : ∀ p ∈ ws, p ∈ fs
  st : s ∈ fs
  hin : here ∈ fs
  cl : ∀ q ∈ fs, q ∉ ws → q ≠ here → ∀ p ∈ ps, nx p = some q → p ∈ fs
  hr : ∀ p ∈ pre, nx p = some here → p ∈ fs
section
variable {nx : Pl → Option Pl} {ps : List Pl} {s here : Pl} {ws fs pre : List Pl}
theorem Hang.pop (H : Hang nx ps s (ws ++ [here]) fs) : Hang2 nx ps s here ws fs [] where
  nd := H.nd
  on := H.on
  sub := fun p hp => H.sub p (List.mem_append_left _ hp)
  st := H.st
  hin := H.sub here (List.mem_append_right _ (.head _))
  cl := fun q hq h1 h2 => H.cl q hq fun h => (List.mem_append.mp h).elim h1 fun h => h2 (List.mem_singleton.mp h)
  hr := fun p hp => (List.not_mem_nil hp).elim
theorem Hang2.skip (H : Hang2 nx ps s here ws fs pre) {p : Pl} (h : nx p = some here → p ∈ fs) : Hang2 nx ps s here ws fs (pre ++ [p]) :=
  { H with hr := fun q hq => (List.mem_append.mp hq).elim (H.hr q) fun e => by rw [List.mem_singleton.mp e]; exact h }
theorem Hang2.add (H : Hang2 nx ps s here ws fs pre) {p : Pl} (h1 : p ∉ fs) (h2 : p ∈ ps) (h3 : nx p = some here) : Hang2 nx ps s here (ws ++ [p]) (fs ++ [p]) (pre ++ [p]) where
  nd := nodup_add H.nd h1
  on := fun q hq => (List.mem_append.mp hq).elim (H.on q) fun e => by rw [List.mem_singleton.mp e]; exact ⟨h2, .step (H.on here H.hin).2 h2 h3⟩
  sub := fun q hq => (List.mem_append.mp hq).elim (fun h => List.mem_append_left _ (H.sub q h)) fun h => List.mem_append_right _ h
  st := List.mem_append_left _ H.st
  hin := List.mem_append_left _ H.hin
  cl := fun q hq h4 h5 p' hp' hn => List.mem_append_left _ (H.cl q ((List.mem_append.mp hq).elim id fun h => (h4 (List.mem_append_right _ h)).elim) (fun h => h4 (List.mem_append_left _ h)) h5 p' hp' hn)
  hr := fun q hq hn => (List.mem_append.mp hq).elim (fun h => List.mem_append_left _ (H.hr q h hn)) fun h => List.mem_append_right _ h
theorem Hang2.done (H : Hang2 nx ps s here ws fs ps) : Hang nx ps s ws fs where
  nd := H.nd
  on := H.on
  sub := H.sub
  st := H.st
  cl := fun q hq h1 p hp hn => if e : q = here then H.hr p hp (e ▸ hn) else H.cl q hq h1 e p hp hn
theorem Hang.done (H : Hang nx ps s [] fs) (p : Pl) : p ∈ fs ↔ Reach nx ps s p := by
  refine ⟨fun h => (H.on p h).2, fun h => ?_⟩
  induction h with
  | start => exact H.st
  | step _ hp hn ih => exact H.cl _ ih List.not_mem_nil _ hp hn
end
/-- places in order -/
noncomputable def kp (k : List Int) : Pl := (k.getD 0 0, k.getD 1 0)
theorem sortP {fs : List Pl} {ys : List (List Int)} (hp : ys.Perm (fs.map pk)) (hs : ys.Pairwise fun x y => ltL x y = true) : ∃ zs : List Pl, ys = zs.map pk ∧ zs.Pairwise plt ∧ ∀ p, p ∈ zs ↔ p ∈ fs := by
  have hys : ys = (ys.map kp).map pk := by
    rw [List.map_map]
    conv => lhs; rw [← List.map_id ys]
    apply List.map_congr_left
    intro k hk
    obtain ⟨p, _, rfl⟩ := List.mem_map.mp (hp.mem_iff.mp hk)
    rfl
  generalize ys.map kp = zs at hys
  subst hys
  refine ⟨zs, rfl, by rw [List.pairwise_map] at hs; exact hs, fun p => ?_⟩
  have mm : ∀ l : List Pl, pk p ∈ l.map pk ↔ p ∈ l := fun l => ⟨fun h => by obtain ⟨p', hp', e⟩ := List.mem_map.mp h; rw [← pk_inj e]; exact hp', fun h => List.mem_map.mpr ⟨p, h, rfl⟩⟩
  rw [← mm zs, ← mm fs]; exact hp.mem_iff
theorem nodup_pk {fs : List Pl} (h : fs.Nodup) : (fs.map pk).Nodup := List.pairwise_map.mpr (h.imp fun hne e => hne (pk_inj e))
theorem pk_ne {fs : List Pl} : ∀ k ∈ fs.map pk, k ≠ [] := fun k hk => by
  obtain ⟨p, _, rfl⟩ := List.mem_map.mp hk
  exact List.cons_ne_nil _ _

theorem pop_lt {x y u v : Nat} (h1 : u ≤ 144) (h2 : v + x = u + y) (h3 : x ≤ u) (h4 : y + 1 ≤ x) : 2 * (144 - u) + v < 2 * (144 - x) + (y + 1) ∧ v ≤ u := by lia
section
variable {W : Wd} {k : Nat}
theorem touched_ok (E : EnvS W) {a d c h w : Nat} (z : Sz h w) {f : Pl → Rule} (σ : Hp) (S : SheetAt σ a d c h w f) {nx : Pl → Option Pl} (gd : GoodR f (G h w) nx) {s : Pl} (hs : s ∈ G h w) (Q : VP)
    (hQ : ∀ (ys : List Pl) (b : Nat) σ', σ.le σ' → σ' b = some (.lst (ys.map pv)) → ys.Pairwise plt → (∀ p, p ∈ ys ↔ Reach nx (G h w) s p) → Q (.ref b) σ') : callP W 4 "touched" [.ref a, pv s] σ Q noX := by
  have n1 : (glb W 3).has "needed" = true := E.has (by decide)
  have lok : ∀ n, n ≤ 144 → lenOk n := fun n hn => Nat.le_trans hn (by decide)
  refine call_ok E.T E.touched rfl ?_
  dsimp only [b_touched, p_touched, bindP]
  refine st_cons ?_
  dsimp only [RS.S.ret, RS.S.expr, RS.S.assign, RS.S.ite, RS.S.for_, RS.S.while_, RS.S.raise, RS.S.pass, RS.T.var, RS.T.idx, RS.T.attr, RS.T.tup2, RS.X.none, RS.X.bool, RS.X.num, RS.X.str, RS.X.var, RS.X.glob, RS.X.bin, RS.X.neg, RS.X.not, RS.X.bop, RS.X.cmp, RS.X.cmp2, RS.X.call, RS.X.bi, RS.X.meth, RS.X.idx, RS.X.slice, RS.X.rev, RS.X.attr, RS.X.tup, RS.X.lst, RS.X.emptyDict, RS.X.dict1, RS.X.comp, RS.Src.range1, RS.Src.range2, RS.Src.of, RS.wpT, RS.wpEs, RS.wpBop, RS.wpIfs]
  refine s_get rfl (s_recv (s_recvI S.ia (by decide) S.id rfl) (s_get rfl (s_ownF (f := "Sheet.rule") rfl ?_)))
  refine gcall (m := 2) (by decide) (rule_ok E S hs _ ?_)
  refine st_cons ?_
  dsimp only [RS.S.ret, RS.S.expr, RS.S.assign, RS.S.ite, RS.S.for_, RS.S.while_, RS.S.raise, RS.S.pass, RS.T.var, RS.T.idx, RS.T.attr, RS.T.tup2, RS.X.none, RS.X.bool, RS.X.num, RS.X.str, RS.X.var, RS.X.glob, RS.X.bin, RS.X.neg, RS.X.not, RS.X.bop, RS.X.cmp, RS.X.cmp2, RS.X.call, RS.X.bi, RS.X.meth, RS.X.idx, RS.X.slice, RS.X.rev, RS.X.attr, RS.X.tup, RS.X.lst, RS.X.emptyDict, RS.X.dict1, RS.X.comp, RS.Src.range1, RS.Src.range2, RS.Src.of, RS.wpT, RS.wpEs, RS.wpBop, RS.wpIfs]
  refine .inl (s_newG fun n σ₁ nn le₁ hn => ?_)
  have S1 := S.le le₁
  refine st_cons ?_
  dsimp only [RS.S.ret, RS.S.expr, RS.S.assign, RS.S.ite, RS.S.for_, RS.S.while_, RS.S.raise, RS.S.pass, RS.T.var, RS.T.idx, RS.T.attr, RS.T.tup2, RS.X.none, RS.X.bool, RS.X.num, RS.X.str, RS.X.var, RS.X.glob, RS.X.bin, RS.X.neg, RS.X.not, RS.X.bop, RS.X.cmp, RS.X.cmp2, RS.X.call, RS.X.bi, RS.X.meth, RS.X.idx, RS.X.slice, RS.X.rev, RS.X.attr, RS.X.tup, RS.X.lst, RS.X.emptyDict, RS.X.dict1, RS.X.comp, RS.Src.range1, RS.Src.range2, RS.Src.of, RS.wpT, RS.wpEs, RS.wpBop, RS.wpIfs]
  refine s_get rfl (s_recv (s_recvI S1.ia (by decide) S1.id rfl) (s_ownF (f := "Sheet.places") rfl ?_))
  refine gcall (m := 2) (by decide) (places_ok E z S1.ia S1.id _ fun b σ₂ nb le₂ hb => ?_)
  refine s_srcL hb ?_
  have hbn : b ≠ n := fun e => by rw [e, hn] at nb; cases nb
  refine forL_data pv (fun pre ρ σ' => A6 (ρ "sheet" = some (.ref a)) (ρ "place" = some (pv s)) (ρ "needs" = some (.ref n)) (σ.le σ') (σ' b = some (.lst ((G h w).map pv))) (∃ (ep : Nat) (g : Pl → V), σ' n = some (.dct (mapD pre g) ep) ∧ ∀ p ∈ pre, ∃ l : Nat, g p = .ref l ∧ σ' l = some (.lst ((nx p).toList.map pv)))) ?_ ?_ ?_ ?_
  · exact ⟨rfl, rfl, rfl, Hp.le_trans le₁ le₂, hb, 0, fun _ => .none, le₂ _ _ hn, fun p hp => (List.not_mem_nil hp).elim⟩
  · rintro pre ρ σ' ⟨_, _, _, _, hb, _⟩; exact hb
  · rintro pre p post ρ σ' N' hsp ⟨e1, e2, e3, le, hb, ep, g, hn, hg⟩ hN
    have hp := mem_mid hsp
    have hnp : p ∉ pre := nodup_mid (G_nodup w h) hsp
    have S' := S.le le
    refine st_cons ?_
    dsimp only [RS.S.ret, RS.S.expr, RS.S.assign, RS.S.ite, RS.S.for_, RS.S.while_, RS.S.raise, RS.S.pass, RS.T.var, RS.T.idx, RS.T.attr, RS.T.tup2, RS.X.none, RS.X.bool, RS.X.num, RS.X.str, RS.X.var, RS.X.glob, RS.X.bin, RS.X.neg, RS.X.not, RS.X.bop, RS.X.cmp, RS.X.cmp2, RS.X.call, RS.X.bi, RS.X.meth, RS.X.idx, RS.X.slice, RS.X.rev, RS.X.attr, RS.X.tup, RS.X.lst, RS.X.emptyDict, RS.X.dict1, RS.X.comp, RS.Src.range1, RS.Src.range2, RS.Src.of, RS.wpT, RS.wpEs, RS.wpBop, RS.wpIfs]
    refine s_call n1 (s_get ((Env.set_ne _ _ (by decide)).trans e1) (s_recv (s_recvI S'.ia (by decide) S'.id rfl) (s_get (Env.set_same _ _ _) (s_ownF (f := "Sheet.rule") rfl ?_))))
    refine gcall (m := 2) (by decide) (rule_ok E S' hp _ ?_)
    refine gcall (m := 3) (by decide) (need_at E gd hp σ' _ fun l σ₃ nl le₃ hl => ?_)
    have hn3 := le₃ _ _ hn
    refine s_get ((Env.set_ne _ _ (by decide)).trans e3) (s_get (Env.set_same _ _ _) (s_storeD hn3 (k := pk p) rfl (lok _ (by rw [mapD_length]; exact Nat.le_trans (Nat.le_of_lt (len_mid hsp)) z.len)) fun ep' => st_nil ?_))
    have ne : ∀ {l' : Nat} {vs : List V}, σ₃ l' = some (.lst vs) → l' ≠ n := fun q e => by rw [e, hn3] at q; cases q
    refine hN _ _ ⟨(Env.set_ne _ _ (by decide)).trans e1, (Env.set_ne _ _ (by decide)).trans e2, (Env.set_ne _ _ (by decide)).trans e3, Hp.le_upd _ (Hp.le_trans le le₃) nn, (Hp.set_ne _ _ hbn).trans (le₃ _ _ hb), ep', updF g p (.ref l), by rw [Hp.set_same, dput_mapD_not hnp], fun q hq => ?_⟩
    rcases List.mem_append.mp hq with hq' | hq
    · obtain ⟨l', h1, h2⟩ := hg q hq'
      have h2' := le₃ _ _ h2
      exact ⟨l', (updF_ne (p := p) (q := q) g _ (fun e => by subst e; exact hnp hq')).trans h1, (Hp.set_ne _ _ (ne h2')).trans h2'⟩
    · rw [List.mem_singleton.mp hq]
      exact ⟨l, updF_same g p _, (Hp.set_ne _ _ (ne hl)).trans hl⟩
  · rintro ρ σ₃ ⟨e1, e2, e3, le, _, ep, g, hn, hg⟩
    refine st_cons ?_
    dsimp only [RS.S.ret, RS.S.expr, RS.S.assign, RS.S.ite, RS.S.for_, RS.S.while_, RS.S.raise, RS.S.pass, RS.T.var, RS.T.idx, RS.T.attr, RS.T.tup2, RS.X.none, RS.X.bool, RS.X.num, RS.X.str, RS.X.var, RS.X.glob, RS.X.bin, RS.X.neg, RS.X.not, RS.X.bop, RS.X.cmp, RS.X.cmp2, RS.X.call, RS.X.bi, RS.X.meth, RS.X.idx, RS.X.slice, RS.X.rev, RS.X.attr, RS.X.tup, RS.X.lst, RS.X.emptyDict, RS.X.dict1, RS.X.comp, RS.Src.range1, RS.Src.range2, RS.Src.of, RS.wpT, RS.wpEs, RS.wpBop, RS.wpIfs]
    refine s_get e2 (s_idxT rfl (s_get e2 (s_idxT rfl (.dct (k := pk s) rfl fun ep₁ => s_newG fun fo σ₄ nf le₄ hfo => ?_))))
    refine st_cons ?_
    dsimp only [RS.S.ret, RS.S.expr, RS.S.assign, RS.S.ite, RS.S.for_, RS.S.while_, RS.S.raise, RS.S.pass, RS.T.var, RS.T.idx, RS.T.attr, RS.T.tup2, RS.X.none, RS.X.bool, RS.X.num, RS.X.str, RS.X.var, RS.X.glob, RS.X.bin, RS.X.neg, RS.X.not, RS.X.bop, RS.X.cmp, RS.X.cmp2, RS.X.call, RS.X.bi, RS.X.meth, RS.X.idx, RS.X.slice, RS.X.rev, RS.X.attr, RS.X.tup, RS.X.lst, RS.X.emptyDict, RS.X.dict1, RS.X.comp, RS.Src.range1, RS.Src.range2, RS.Src.of, RS.wpT, RS.wpEs, RS.wpBop, RS.wpIfs]
    refine s_get (Env.set_same _ _ _) (s_listD hfo fun wa nw => ?_)
    have hwa := Hp.set_same σ₄ wa (.lst ([(pk s, V.bool true)].map fun e => kv e.1))
    have le₅ := Hp.le_set (.lst ([(pk s, V.bool true)].map fun e => kv e.1)) nw
    generalize σ₄.set wa (.lst ([(pk s, V.bool true)].map fun e => kv e.1)) = σ₅ at *
    have nw3 : σ₃ wa = none := Hp.le_none le₄ nw
    have hwf : wa ≠ fo := fun e => by rw [e, hfo] at nw; cases nw
    refine st_cons ?_
    dsimp only [RS.S.ret, RS.S.expr, RS.S.assign, RS.S.ite, RS.S.for_, RS.S.while_, RS.S.raise, RS.S.pass, RS.T.var, RS.T.idx, RS.T.attr, RS.T.tup2, RS.X.none, RS.X.bool, RS.X.num, RS.X.str, RS.X.var, RS.X.glob, RS.X.bin, RS.X.neg, RS.X.not, RS.X.bop, RS.X.cmp, RS.X.cmp2, RS.X.call, RS.X.bi, RS.X.meth, RS.X.idx, RS.X.slice, RS.X.rev, RS.X.attr, RS.X.tup, RS.X.lst, RS.X.emptyDict, RS.X.dict1, RS.X.comp, RS.Src.range1, RS.Src.range2, RS.Src.of, RS.wpT, RS.wpEs, RS.wpBop, RS.wpIfs]
    refine whileL_inv (fun m ρ σ' => Ex3 fun (ws fs : List Pl) (ep : Nat) => A9 (ρ "waiting" = some (.ref wa)) (ρ "found" = some (.ref fo)) (ρ "needs" = some (.ref n)) (σ₃.le σ') (σ' wa = some (.lst (ws.map pv))) (σ' fo = some (.dct (mapD fs fun _ => .bool true) ep)) (Hang nx (G h w) s ws fs) (ws.length ≤ fs.length) (m = 2 * (144 - fs.length) + ws.length)) ?_ (m := 2 * (144 - 1) + 1)
      ⟨[s], [s], ep₁, Env.set_same _ _ _, (Env.set_ne _ _ (by decide)).trans (Env.set_same _ _ _), (Env.set_ne _ _ (by decide)).trans ((Env.set_ne _ _ (by decide)).trans e3), Hp.le_trans le₄ le₅, hwa, le₅ _ _ hfo, ?_, Nat.le_refl _, rfl⟩
    rotate_left
    · refine ⟨List.nodup_cons.mpr ⟨List.not_mem_nil, List.nodup_nil⟩, fun p hp => ?_, fun p hp => hp, .head _, fun q hq h => (h hq).elim⟩
      rw [List.mem_singleton.mp hp]; exact ⟨hs, .start⟩
    clear e1 e2 e3 hwa hfo ep₁
    rintro m ρ σ' K ⟨ws, fs, ep₁, ew, ef, en, le', hwa, hfo, H, hwl, hm⟩ hK
    refine s_get ew (s_newG fun z₁ σ₆ nz le₆ hz => ?_)
    have hwa6 := le₆ _ _ hwa
    have hfo6 := le₆ _ _ hfo
    refine s_neL0 hwa6 hz (snap_pvs σ₆ 48 ws) (s_truth rfl ?_)
    have hfl : fs.length ≤ 144 := Nat.le_trans (nodup_len H.nd fun p hp => (H.on p hp).1) z.len
    rcases List.eq_nil_or_concat ws with rfl | ⟨ws, q, rfl⟩
    · refine s_ifF Bool.false_ne_true (st_cons ?_)
      dsimp only [RS.S.ret, RS.S.expr, RS.S.assign, RS.S.ite, RS.S.for_, RS.S.while_, RS.S.raise, RS.S.pass, RS.T.var, RS.T.idx, RS.T.attr, RS.T.tup2, RS.X.none, RS.X.bool, RS.X.num, RS.X.str, RS.X.var, RS.X.glob, RS.X.bin, RS.X.neg, RS.X.not, RS.X.bop, RS.X.cmp, RS.X.cmp2, RS.X.call, RS.X.bi, RS.X.meth, RS.X.idx, RS.X.slice, RS.X.rev, RS.X.attr, RS.X.tup, RS.X.lst, RS.X.emptyDict, RS.X.dict1, RS.X.comp, RS.Src.range1, RS.Src.range2, RS.Src.of, RS.wpT, RS.wpEs, RS.wpBop, RS.wpIfs]
      refine s_get ef (s_sortD hfo6 (by rw [mapD_keys]; exact nodup_pk H.nd) (by rw [mapD_length]; exact Nat.le_trans hfl (by decide)) (by rw [mapD_keys]; exact pk_ne) fun ys hperm hsort => ?_)
      rw [mapD_keys] at hperm
      obtain ⟨zs, rfl, hz1, hz2⟩ := sortP hperm hsort
      refine s_newG fun b₂ σ₇ nb₂ le₇ hb₂ => ?_
      refine hQ zs b₂ σ₇ (Hp.le_trans (Hp.le_trans le (Hp.le_trans le' le₆)) le₇) (by rw [hb₂, List.map_map]; rfl) hz1 fun p => (hz2 p).trans (H.done p)
    · rw [List.concat_eq_append] at H hwl hwa6 hm
      refine s_ifT (by rw [List.concat_eq_append, List.map_append]; cases ws <;> rfl) (st_cons ?_)
      dsimp only [RS.S.ret, RS.S.expr, RS.S.assign, RS.S.ite, RS.S.for_, RS.S.while_, RS.S.raise, RS.S.pass, RS.T.var, RS.T.idx, RS.T.attr, RS.T.tup2, RS.X.none, RS.X.bool, RS.X.num, RS.X.str, RS.X.var, RS.X.glob, RS.X.bin, RS.X.neg, RS.X.not, RS.X.bop, RS.X.cmp, RS.X.cmp2, RS.X.call, RS.X.bi, RS.X.meth, RS.X.idx, RS.X.slice, RS.X.rev, RS.X.attr, RS.X.tup, RS.X.lst, RS.X.emptyDict, RS.X.dict1, RS.X.comp, RS.Src.range1, RS.Src.range2, RS.Src.of, RS.wpT, RS.wpEs, RS.wpBop, RS.wpIfs]
      rw [List.map_append, List.map_singleton] at hwa6
      refine s_get ew (s_recv (s_recvL hwa6 (.inr (.inl rfl))) (s_pop hwa6 (v := pv q) (List.getLast?_concat ..) ?_))
      rw [List.dropLast_concat]
      have hwa7 := Hp.set_same σ₆ wa (.lst (ws.map pv))
      have hfo7 := (Hp.set_ne σ₆ (.lst (ws.map pv)) hwf.symm).trans hfo6
      have le7 := Hp.le_upd (.lst (ws.map pv)) (Hp.le_trans le' le₆) nw3
      generalize σ₆.set wa (.lst (ws.map pv)) = σ₇ at *
      refine st_cons ?_
      dsimp only [RS.S.ret, RS.S.expr, RS.S.assign, RS.S.ite, RS.S.for_, RS.S.while_, RS.S.raise, RS.S.pass, RS.T.var, RS.T.idx, RS.T.attr, RS.T.tup2, RS.X.none, RS.X.bool, RS.X.num, RS.X.str, RS.X.var, RS.X.glob, RS.X.bin, RS.X.neg, RS.X.not, RS.X.bop, RS.X.cmp, RS.X.cmp2, RS.X.call, RS.X.bi, RS.X.meth, RS.X.idx, RS.X.slice, RS.X.rev, RS.X.attr, RS.X.tup, RS.X.lst, RS.X.emptyDict, RS.X.dict1, RS.X.comp, RS.Src.range1, RS.Src.range2, RS.Src.of, RS.wpT, RS.wpEs, RS.wpBop, RS.wpIfs]
      refine s_get ((Env.set_ne _ _ (by decide)).trans en) (s_srcD (le7 _ _ hn) ?_)
      rw [mapD_kv]
      rw [List.length_append, List.length_singleton] at hwl hm
      refine forL_data pv (fun pre ρ σ'' => Ex3 fun (ws' fs' : List Pl) (ep : Nat) => A10 (ρ "waiting" = some (.ref wa)) (ρ "found" = some (.ref fo)) (ρ "needs" = some (.ref n)) (ρ "here" = some (pv q)) (σ₃.le σ'') (σ'' wa = some (.lst (ws'.map pv))) (σ'' fo = some (.dct (mapD fs' fun _ => .bool true) ep)) (Hang2 nx (G h w) s q ws' fs' pre) (ws'.length + fs.length = fs'.length + ws.length) (fs.length ≤ fs'.length)) ?_ ?_ ?_ ?_
      · exact ⟨ws, fs, ep₁, (Env.set_ne _ _ (by decide)).trans ew, (Env.set_ne _ _ (by decide)).trans ef, (Env.set_ne _ _ (by decide)).trans en, Env.set_same _ _ _, le7, hwa7, hfo7, H.pop, Nat.add_comm _ _, Nat.le_refl _⟩
      · rintro pre ρ σ'' ⟨_, _, _, _, _, _, _, le, _⟩; exact le _ _ hn
      · rintro pre p post ρ σ'' N' hsp ⟨ws', fs', ep₂, ew, ef, en, eh, leL, hwa', hfo', H2, hlen, hge⟩ hN
        have hp := mem_mid hsp
        have hfl' : fs'.length ≤ 144 := Nat.le_trans (nodup_len H2.nd fun p hp => (H2.on p hp).1) z.len
        have ew' := (Env.set_ne ρ (pv p) (by decide : "waiting" ≠ "one")).trans ew
        have ef' := (Env.set_ne ρ (pv p) (by decide : "found" ≠ "one")).trans ef
        have en' := (Env.set_ne ρ (pv p) (by decide : "needs" ≠ "one")).trans en
        have eh' := (Env.set_ne ρ (pv p) (by decide : "here" ≠ "one")).trans eh
        have eo := Env.set_same ρ "one" (pv p)
        generalize ρ.set "one" (pv p) = ρ' at *
        refine st_cons ?_
        dsimp only [RS.S.ret, RS.S.expr, RS.S.assign, RS.S.ite, RS.S.for_, RS.S.while_, RS.S.raise, RS.S.pass, RS.T.var, RS.T.idx, RS.T.attr, RS.T.tup2, RS.X.none, RS.X.bool, RS.X.num, RS.X.str, RS.X.var, RS.X.glob, RS.X.bin, RS.X.neg, RS.X.not, RS.X.bop, RS.X.cmp, RS.X.cmp2, RS.X.call, RS.X.bi, RS.X.meth, RS.X.idx, RS.X.slice, RS.X.rev, RS.X.attr, RS.X.tup, RS.X.lst, RS.X.emptyDict, RS.X.dict1, RS.X.comp, RS.Src.range1, RS.Src.range2, RS.Src.of, RS.wpT, RS.wpEs, RS.wpBop, RS.wpIfs]
        refine s_get eo (s_get ef' (.notIn (s_inD' hfo' (s_truth rfl ?_))))
        by_cases hpf : p ∈ fs'
        · rw [decide_eq_true hpf]
          refine s_ifF Bool.false_ne_true (s_truth rfl (s_ifF Bool.false_ne_true (st_nil (st_nil ?_))))
          exact hN _ _ ⟨ws', fs', ep₂, ew', ef', en', eh', leL, hwa', hfo', H2.skip fun _ => hpf, hlen, hge⟩
        · rw [decide_eq_false hpf]
          obtain ⟨l, g1, g2⟩ := hg p hp
          refine s_ifT rfl (s_get eh' (s_get en' (s_get eo (s_idxD (leL _ _ hn) (k := pk p) rfl (dget_mapD hp) ?_))))
          rw [g1]
          refine .isIn (inP_pvs (leL _ _ g2) (s_truth rfl ?_))
          by_cases hq : q ∈ (nx p).toList
          · rw [decide_eq_true hq]
            refine s_ifT rfl (st_cons ?_)
            dsimp only [RS.S.ret, RS.S.expr, RS.S.assign, RS.S.ite, RS.S.for_, RS.S.while_, RS.S.raise, RS.S.pass, RS.T.var, RS.T.idx, RS.T.attr, RS.T.tup2, RS.X.none, RS.X.bool, RS.X.num, RS.X.str, RS.X.var, RS.X.glob, RS.X.bin, RS.X.neg, RS.X.not, RS.X.bop, RS.X.cmp, RS.X.cmp2, RS.X.call, RS.X.bi, RS.X.meth, RS.X.idx, RS.X.slice, RS.X.rev, RS.X.attr, RS.X.tup, RS.X.lst, RS.X.emptyDict, RS.X.dict1, RS.X.comp, RS.Src.range1, RS.Src.range2, RS.Src.of, RS.wpT, RS.wpEs, RS.wpBop, RS.wpIfs]
            refine s_get ef' (s_get eo (s_storeD hfo' (k := pk p) rfl (lok _ (by rw [mapD_length]; exact hfl')) fun ep₃ => ?_))
            rw [dput_mapD_not hpf, updF_id (fun _ => V.bool true) p]
            have hfo8 := Hp.set_same σ'' fo (.dct (mapD (fs' ++ [p]) fun _ => V.bool true) ep₃)
            have hwa8 := (Hp.set_ne σ'' (.dct (mapD (fs' ++ [p]) fun _ => V.bool true) ep₃) hwf).trans hwa'
            have le8 := Hp.le_upd (.dct (mapD (fs' ++ [p]) fun _ => V.bool true) ep₃) leL nf
            generalize σ''.set fo (.dct (mapD (fs' ++ [p]) fun _ => V.bool true) ep₃) = σ₈ at *
            have hwl' : ws'.length ≤ 144 + 144 := by
              have : ws'.length ≤ fs'.length + ws.length := hlen ▸ Nat.le_add_right _ _
              exact Nat.le_trans this (Nat.add_le_add hfl' (Nat.le_trans (Nat.le_of_succ_le hwl) hfl))
            refine st_cons ?_
            dsimp only [RS.S.ret, RS.S.expr, RS.S.assign, RS.S.ite, RS.S.for_, RS.S.while_, RS.S.raise, RS.S.pass, RS.T.var, RS.T.idx, RS.T.attr, RS.T.tup2, RS.X.none, RS.X.bool, RS.X.num, RS.X.str, RS.X.var, RS.X.glob, RS.X.bin, RS.X.neg, RS.X.not, RS.X.bop, RS.X.cmp, RS.X.cmp2, RS.X.call, RS.X.bi, RS.X.meth, RS.X.idx, RS.X.slice, RS.X.rev, RS.X.attr, RS.X.tup, RS.X.lst, RS.X.emptyDict, RS.X.dict1, RS.X.comp, RS.Src.range1, RS.Src.range2, RS.Src.of, RS.wpT, RS.wpEs, RS.wpBop, RS.wpIfs]
            refine s_get ew' (s_recv (s_recvL hwa8 (.inl rfl)) (s_get eo (s_appendG hwa8 (by unfold lenOk; rw [List.length_map]; exact Nat.le_trans hwl' (by decide)) fun σ₉ hbut hwa9 => st_nil (st_nil ?_))))
            refine hN _ _ ⟨ws' ++ [p], fs' ++ [p], ep₃, ew', ef', en', eh', Hp.le_but le8 nw3 hbut, by rw [hwa9, List.map_append]; rfl, (hbut fo hwf.symm).trans hfo8, H2.add hpf hp (Option.mem_toList.mp hq), ?_, ?_⟩
            · rw [List.length_append, List.length_append, List.length_singleton, Nat.add_right_comm, hlen, Nat.add_right_comm]
            · rw [List.length_append]; exact Nat.le_trans hge (Nat.le_add_right _ _)
          · rw [decide_eq_false hq]
            exact s_ifF Bool.false_ne_true (st_nil (st_nil (hN _ _ ⟨ws', fs', ep₂, ew', ef', en', eh', leL, hwa', hfo', H2.skip fun hn => (hq (Option.mem_toList.mpr hn)).elim, hlen, hge⟩)))
      · rintro ρ' σ'' ⟨ws', fs', ep₂, ew, ef, en, eh, leL, hwa', hfo', H2, hlen, hge⟩
        have hfl' : fs'.length ≤ 144 := Nat.le_trans (nodup_len H2.nd fun p hp => (H2.on p hp).1) z.len
        have ar := pop_lt hfl' hlen hge hwl
        exact st_nil (hK _ _ _ (hm ▸ ar.1) ⟨ws', fs', ep₂, ew, ef, en, leL, hwa', hfo', H2.done, ar.2, rfl⟩)
end


/-! ### the plain law: places in a row, each with the one ahead of it -/
/-- the places of a sheet in a row -/
structure Row (h w : Nat) (row : List Pl) : Prop where
  nd : row.Nodup
  on : ∀ p ∈ row, p ∈ G h w
  all : ∀ p ∈ G h w, p ∈ row
  n0 : 0 < row.length
  n1 : row.length ≤ 144
noncomputable def ix (row : List Pl) (p : Pl) : Nat := row.findIdx fun q => decide (q = p)
theorem ix_lt {row : List Pl} {p : Pl} (h : p ∈ row) : ix row p < row.length := List.findIdx_lt_length_of_exists ⟨p, h, decide_eq_true rfl⟩
theorem ix_get {row : List Pl} {p : Pl} (h : ix row p < row.length) : row[ix row p] = p := of_decide_eq_true (List.findIdx_getElem (w := h))
theorem inj_get {α : Type} {l : List α} (hn : l.Nodup) {i j : Nat} {hi : i < l.length} {hj : j < l.length} (e : l[i] = l[j]) : i = j := (List.getElem_inj hn).mp e
theorem ix_row {row : List Pl} (hn : row.Nodup) {k : Nat} (h : k < row.length) : ix row row[k] = k := inj_get hn (ix_get (ix_lt (List.getElem_mem h)))
theorem row_at {row : List Pl} {p : Pl} (h : p ∈ row) : ∃ k, ∃ hk : k < row.length, row[k] = p := ⟨_, ix_lt h, ix_get (ix_lt h)⟩

/-- what stands at the start, or a number later on, carried on -/
noncomputable def A (H : Nat → Option Int) (s : Int) : Nat → Option Int
  | 0 => H 0
  | k + 1 => match H (k + 1) with
    | some x => some x
    | none => (A H s k).map (· + s)
noncomputable def Dk (H : Nat → Option Int) (s : Int) (back : Option Nat) (k : Nat) : Option Int := match A H s k with
  | some x => some x
  | none => back.bind fun b => (A H s b).map fun x => x + s * ((k : Int) + 1)
noncomputable def Nk (H : Nat → Option Int) (back : Option Nat) : Nat → Option Nat
  | 0 => match H 0 with
    | some _ => none
    | none => back
  | k + 1 => match H (k + 1) with
    | some _ => none
    | none => some k
section
variable {H : Nat → Option Int} {s : Int} {back : Option Nat}
theorem A_head {k : Nat} {x : Int} (h : H k = some x) : A H s k = some x := by
  cases k with
  | zero => exact h
  | succ k => unfold A; rw [h]
theorem A_next {k : Nat} (h : H (k + 1) = none) : A H s (k + 1) = (A H s k).map (· + s) := by rw [A]; rw [h]
theorem A_none : ∀ {k : Nat}, A H s k = none ↔ ∀ j, j ≤ k → H j = none
  | 0 => ⟨fun h j hj => Nat.le_zero.mp hj ▸ h, fun h => h 0 (Nat.le_refl _)⟩
  | k + 1 => by
    constructor
    · intro h j hj
      have h1 : H (k + 1) = none := by
        cases e : H (k + 1) with
        | none => rfl
        | some x => rw [A_head e] at h; cases h
      rw [A_next h1, Option.map_eq_none_iff] at h
      rcases Nat.lt_or_eq_of_le hj with hj | rfl
      · exact A_none.mp h j (Nat.le_of_lt_succ hj)
      · exact h1
    · intro h
      rw [A_next (h _ (Nat.le_refl _)), A_none.mpr fun j hj => h j (Nat.le_succ_of_le hj)]; rfl
theorem D_some {k : Nat} {x : Int} (h : A H s k = some x) : Dk H s back k = some x := by unfold Dk; rw [h]
theorem D_none {k : Nat} (h : A H s k = none) : Dk H s back k = back.bind fun b => (A H s b).map fun x => x + s * ((k : Int) + 1) := by unfold Dk; rw [h]
theorem D_back {b : Nat} : Dk H s (some b) b = A H s b := by
  cases e : A H s b with
  | some x => exact D_some e
  | none => rw [D_none e]; show (A H s b).map _ = none; rw [e]; rfl
theorem N_zero (h : H 0 = none) : Nk H back 0 = back := by simp only [Nk, h]
theorem N_succ {k : Nat} (h : H (k + 1) = none) : Nk H back (k + 1) = some k := by simp only [Nk, h]
theorem N_head {k : Nat} {x : Int} (h : H k = some x) : Nk H back k = none := by cases k <;> simp only [Nk, h]
theorem N_free {k j : Nat} (h : Nk H back k = some j) : H k = none := by
  cases e : H k with
  | none => rfl
  | some x => rw [N_head e] at h; cases h
theorem N_cases {k j : Nat} (h : Nk H back k = some j) : (k = 0 ∧ back = some j) ∨ k = j + 1 := by
  have h0 := N_free h
  cases k with
  | zero => rw [N_zero h0] at h; exact .inl ⟨rfl, h⟩
  | succ k => rw [N_succ h0] at h; exact .inr (congrArg (· + 1) (Option.some.inj h))
theorem D_step {k j : Nat} (h : Nk H back k = some j) : Dk H s back k = (Dk H s back j).map (· + s) := by
  have h0 := N_free h
  rcases N_cases h with ⟨rfl, rfl⟩ | rfl
  · rw [D_back, D_none (k := 0) h0]
    show (A H s j).map _ = _
    congr 1
    funext x
    show x + s * (0 + 1) = x + s
    rw [Int.zero_add, Int.mul_one]
  · have hA := A_next (s := s) h0
    cases e : A H s j with
    | some x => rw [e] at hA; rw [D_some hA, D_some e]; rfl
    | none =>
      rw [e] at hA
      rw [D_none hA, D_none e]
      cases back with
      | none => rfl
      | some b =>
        show (A H s b).map _ = ((A H s b).map _).map _
        rw [Option.map_map]
        congr 1
        funext x
        show x + s * (((j + 1 : Nat) : Int) + 1) = x + s * ((j : Int) + 1) + s
        rw [Int.natCast_succ, Int.mul_add s ((j : Int) + 1) 1, Int.mul_one, Int.add_assoc]
noncomputable def rkk (H : Nat → Option Int) (s : Int) (n k : Nat) : Nat := match A H s k with
  | some _ => k
  | none => n + k + 1
theorem rk_step {n k j : Nat} (hj : j < n) (h : Nk H back k = some j) (hd : Dk H s back k ≠ none) : rkk H s n j < rkk H s n k := by
  have h0 := N_free h
  rcases N_cases h with ⟨rfl, rfl⟩ | rfl
  · have e0 : A H s 0 = none := h0
    rw [D_step h, D_back] at hd
    unfold rkk
    rw [e0]
    cases e : A H s j with
    | some x => exact Nat.lt_succ_of_lt hj
    | none => rw [e] at hd; exact absurd rfl hd
  · have hA := A_next (s := s) h0
    unfold rkk
    cases e : A H s j with
    | some x => rw [hA, e]; exact Nat.lt_succ_self _
    | none => rw [hA, e]; exact Nat.lt_succ_self _
theorem A_bd (hs : 1 ≤ s ∧ s ≤ 9) (hH : ∀ k x, H k = some x → 0 ≤ x ∧ x < 1000) : ∀ {k : Nat} {x : Int}, A H s k = some x → 0 ≤ x ∧ x < 1000 + 9 * k
  | 0, x, h => by have := hH 0 x h; lia
  | k + 1, x, h => by
    cases e : H (k + 1) with
    | some y =>
      rw [A_head e] at h
      have := hH _ _ (e.trans h); lia
    | none =>
      rw [A_next e] at h
      obtain ⟨y, hy, rfl⟩ := Option.map_eq_some_iff.mp h
      have := A_bd hs hH hy; lia
theorem D_bd (hs : 1 ≤ s ∧ s ≤ 9) (hH : ∀ k x, H k = some x → 0 ≤ x ∧ x < 1000) {n k : Nat} (hn : n ≤ 144) (hk : k < n) (hb : ∀ b, back = some b → b < n) {x : Int} (h : Dk H s back k = some x) : 0 ≤ x ∧ x + s < 10000 := by
  cases e : A H s k with
  | some y =>
    rw [D_some e] at h
    have := A_bd hs hH (e.trans h); lia
  | none =>
    rw [D_none e] at h
    cases back with
    | none => cases h
    | some b =>
      have hb := hb b rfl
      obtain ⟨y, hy, rfl⟩ := Option.map_eq_some_iff.mp h
      have h1 := A_bd hs hH hy
      have h2 : s * ((k : Int) + 1) ≤ 9 * ((k : Int) + 1) := Int.mul_le_mul_of_nonneg_right hs.2 (by clear hy h e; lia)
      have h3 : 0 ≤ s * ((k : Int) + 1) := Int.mul_nonneg (by clear hy h e h2; lia) (by clear hy h e h2; omega)
      generalize s * ((k : Int) + 1) = t at *
      clear hy h e
      lia
end

/-! ### the rules of the row -/
noncomputable def wrap : Nat → Rule → Rule
  | 0, r => r
  | m + 1, r => if m % 2 = 0 then .add (wrap m r) (.num 0) else .add (.num 0) (wrap m r)
noncomputable def link (m : Nat) (s : Int) (q : Pl) : Rule := wrap m (.add (.cell q) (.num s))
theorem wrap_ind {P : Nat → Rule → Prop} {r : Rule} (h0 : P 0 r) (hs : ∀ m r', P m r' → P (m + 1) (.add r' (.num 0)) ∧ P (m + 1) (.add (.num 0) r')) : ∀ m, P m (wrap m r)
  | 0 => h0
  | m + 1 => by
    have := hs m _ (wrap_ind h0 hs m)
    unfold wrap
    split
    · exact this.1
    · exact this.2
theorem link_ok (m : Nat) (s : Int) (q : Pl) : (link m s q).At q ∧ (link m s q).has = true ∧ (link m s q).deep = m + 2 ∧ (link m s q).size = 2 * m + 3 ∧ ∀ v, (link m s q).ev v = (v q + s % B9) % B9 := by
  refine wrap_ind (r := .add (.cell q) (.num s)) (P := fun m r => r.At q ∧ r.has = true ∧ r.deep = m + 2 ∧ r.size = 2 * m + 3 ∧ ∀ v, r.ev v = (v q + s % B9) % B9) ⟨⟨rfl, trivial⟩, rfl, rfl, rfl, fun v => rfl⟩ (fun m r ⟨h1, h2, h3, h4, h5⟩ => ?_) m
  have key : ∀ x : Int, (x % B9 + 0) % B9 = x % B9 := fun x => by rw [Int.add_zero, Int.emod_emod]
  refine ⟨⟨⟨h1, trivial⟩, by show (r.has || false) = true; rw [h2]; rfl, ?_, ?_, fun v => ?_⟩, ⟨trivial, h1⟩, by show (false || r.has) = true; rw [h2]; rfl, ?_, ?_, fun v => ?_⟩
  · show max r.deep 1 + 1 = _; rw [h3, Nat.max_eq_left (Nat.le_add_left 1 (m + 1))]
  · show r.size + 1 + 1 = _; rw [h4, Nat.mul_add]
  · show (r.ev v + 0) % B9 = _; rw [h5, key]
  · show max 1 r.deep + 1 = _; rw [h3, Nat.max_eq_right (Nat.le_add_left 1 (m + 1))]
  · show 1 + r.size + 1 = _; rw [h4, Nat.mul_add, Nat.add_comm 1]
  · show (0 + r.ev v) % B9 = _; rw [Int.add_comm, h5, key]

/-- the sheet, as the law has it -/
structure Fit (h w : Nat) (row : List Pl) (H : Nat → Option Int) (s : Int) (back : Option Nat) (m : Nat) (f : Pl → Rule) : Prop where
  R : Row h w row
  hs : 1 ≤ s ∧ s ≤ 9
  hm : m ≤ 4
  hH : ∀ k x, H k = some x → 0 ≤ x ∧ x < 1000
  hn : ∀ k x, H k = some x → k < row.length
  hb : ∀ b, back = some b → b < row.length
  h0 : back = none → ∃ x, H 0 = some x
  num : ∀ k (hk : k < row.length) x, H k = some x → f row[k] = .num x
  lnk : ∀ k (hk : k < row.length) j (hj : j < row.length), Nk H back k = some j → f row[k] = link m s row[j]
noncomputable def nxP (row : List Pl) (H : Nat → Option Int) (back : Option Nat) (p : Pl) : Option Pl := (Nk H back (ix row p)).bind fun j => row[j]?
noncomputable def DP (row : List Pl) (H : Nat → Option Int) (s : Int) (back : Option Nat) (p : Pl) : Option Int := Dk H s back (ix row p)
section
variable {h w : Nat} {row : List Pl} {H : Nat → Option Int} {s : Int} {back : Option Nat} {m : Nat} {f : Pl → Rule}
theorem Fit.next (F : Fit h w row H s back m f) {k : Nat} (hk : k < row.length) (e : H k = none) : ∃ j, j < row.length ∧ Nk H back k = some j := by
  cases k with
  | zero =>
    rw [N_zero e]
    cases eb : back with
    | none => obtain ⟨x, hx⟩ := F.h0 eb; rw [e] at hx; cases hx
    | some b => exact ⟨b, F.hb b eb, rfl⟩
  | succ k => exact ⟨k, Nat.lt_of_succ_lt hk, N_succ e⟩
theorem nx_row (R : Row h w row) {k : Nat} (hk : k < row.length) {j : Nat} (hj : j < row.length) (e : Nk H back k = some j) : nxP row H back row[k] = some row[j] := by
  unfold nxP; rw [ix_row R.nd hk, e]; exact List.getElem?_eq_getElem hj
theorem nx_inv (F : Fit h w row H s back m f) {k : Nat} (hk : k < row.length) {q : Pl} (e : nxP row H back row[k] = some q) : ∃ j, ∃ hj : j < row.length, row[j] = q ∧ Nk H back k = some j := by
  unfold nxP at e
  rw [ix_row F.R.nd hk] at e
  cases eh : H k with
  | some x => rw [N_head eh] at e; cases e
  | none =>
    obtain ⟨j, hj, ej⟩ := F.next hk eh
    rw [ej] at e
    have e : row[j]? = some q := e
    rw [List.getElem?_eq_getElem hj] at e
    exact ⟨j, hj, Option.some.inj e, ej⟩
theorem Fit.sol (F : Fit h w row H s back m f) : Sol f (G h w) (nxP row H back) (DP row H s back) where
  good := fun p hp => by
    obtain ⟨k, hk, rfl⟩ := row_at (F.R.all p hp)
    cases e : H k with
    | some x =>
      rw [F.num k hk x e]
      refine ⟨row[k], hp, trivial, (by decide : 1 ≤ 8), (by decide : 1 ≤ 100), ?_⟩
      unfold nxP; rw [ix_row F.R.nd hk, N_head e]; rfl
    | none =>
      obtain ⟨j, hj, ej⟩ := F.next hk e
      obtain ⟨h1, h2, h3, h4, _⟩ := link_ok m s row[j]
      rw [F.lnk k hk j hj ej]
      refine ⟨row[j], F.R.on _ (List.getElem_mem hj), h1, h3 ▸ Nat.le_trans (Nat.add_le_add_right F.hm 2) (by decide), h4 ▸ Nat.le_trans (Nat.add_le_add_right (Nat.mul_le_mul_left 2 F.hm) 3) (by decide), ?_⟩
      rw [if_pos h2]; exact nx_row F.R hk hj ej
  ev := fun p hp v hv => by
    obtain ⟨k, hk, rfl⟩ := row_at (F.R.all p hp)
    show Dk H s back (ix row row[k]) = _
    rw [ix_row F.R.nd hk]
    cases e : H k with
    | some x =>
      rw [F.num k hk x e, D_some (A_head e)]
      have := F.hH k x e
      show some x = some (x % B9)
      rw [Int.emod_eq_of_lt this.1 (Int.lt_trans this.2 (by decide))]
    | none =>
      obtain ⟨j, hj, ej⟩ := F.next hk e
      have hd : Dk H s back (ix row row[j]) = _ := hv _ (nx_row F.R hk hj ej)
      rw [ix_row F.R.nd hj] at hd
      have bd := D_bd F.hs F.hH F.R.n1 hj F.hb hd
      rw [F.lnk k hk j hj ej, D_step ej, hd, (link_ok m s row[j]).2.2.2.2 v]
      have h9 : s % B9 = s := Int.emod_eq_of_lt (Int.le_trans (by decide) F.hs.1) (Int.lt_of_le_of_lt F.hs.2 (by decide))
      rw [h9, Int.emod_eq_of_lt (Int.add_nonneg bd.1 (Int.le_trans (by decide) F.hs.1)) (Int.lt_trans bd.2 (by decide))]
      rfl
  no := fun p hp q hq hd => by
    obtain ⟨k, hk, rfl⟩ := row_at (F.R.all p hp)
    obtain ⟨j, hj, rfl, ej⟩ := nx_inv F hk hq
    unfold DP at hd ⊢
    rw [ix_row F.R.nd hj] at hd
    rw [ix_row F.R.nd hk, D_step ej, hd]; rfl
  rk := ⟨fun p => rkk H s row.length (ix row p), fun p hp q hq hd => by
    obtain ⟨k, hk, rfl⟩ := row_at (F.R.all p hp)
    obtain ⟨j, hj, rfl, ej⟩ := nx_inv F hk hq
    unfold DP at hd
    rw [ix_row F.R.nd hk] at hd
    show rkk H s row.length (ix row row[j]) < rkk H s row.length (ix row row[k])
    rw [ix_row F.R.nd hj, ix_row F.R.nd hk]
    exact rk_step hj ej hd⟩
theorem DP_row (R : Row h w row) {k : Nat} (hk : k < row.length) : DP row H s back row[k] = Dk H s back k := by unfold DP; rw [ix_row R.nd hk]
/-- all is known where a number stands in the way round, or there is none -/
theorem Fit.known (F : Fit h w row H s back m f) (hb : back = none ∨ ∃ b, back = some b ∧ ∃ j, j ≤ b ∧ H j ≠ none) : ∀ p ∈ G h w, DP row H s back p ≠ none := fun p hp => by
  obtain ⟨k, hk, rfl⟩ := row_at (F.R.all p hp)
  rw [DP_row F.R hk]
  cases e : A H s k with
  | some x => rw [D_some e]; exact Option.some_ne_none _
  | none =>
    rcases hb with hb | ⟨b, rfl, j, hj, hn⟩
    · obtain ⟨x, hx⟩ := F.h0 hb
      rw [A_none.mp e 0 (Nat.zero_le _)] at hx; cases hx
    · rw [D_none e]
      show (A H s b).map _ ≠ none
      cases eb : A H s b with
      | some x => exact Option.some_ne_none _
      | none => exact absurd (A_none.mp eb j hj) hn
theorem Fit.stuck {b : Nat} (F : Fit h w row H s (some b) m f) (hn : ∀ j, j ≤ b → H j = none) : ¬ ∀ p ∈ G h w, DP row H s (some b) p ≠ none := fun hall => by
  have h0 := F.R.n0
  refine hall row[0] (F.R.on _ (List.getElem_mem h0)) ?_
  rw [DP_row F.R F.R.n0, D_step (N_zero (hn 0 (Nat.zero_le _))), D_back, A_none.mpr hn]; rfl
/-- the ring is the start of the row -/
theorem Cyc.next {nx : Pl → Option Pl} {ps c : List Pl} (C : Cyc nx ps c) {x : Pl} (hx : x ∈ c) : ∃ y ∈ c, nx x = some y := by
  obtain ⟨i, hi, rfl⟩ := List.getElem_of_mem hx
  by_cases e : i + 1 < c.length
  · exact ⟨_, List.getElem_mem e, C.ch i e⟩
  · obtain ⟨l, q, c', hc, hq, hl⟩ := C.lp
    have : c[i] = l := by
      subst hc
      rw [List.length_append] at hi e
      have : i = c'.length := Nat.le_antisymm (Nat.le_of_lt_succ hi) (Nat.le_of_succ_le_succ (Nat.not_lt.mp e))
      simp only [this, List.getElem_concat_length]
    exact ⟨q, List.mem_of_getElem? hq, this ▸ hl⟩
theorem Cyc.pred {nx : Pl → Option Pl} {ps c : List Pl} (C : Cyc nx ps c) {y : Pl} (hy : y ∈ c) : ∃ x ∈ c, nx x = some y := by
  obtain ⟨i, hi, rfl⟩ := List.getElem_of_mem hy
  cases i with
  | zero =>
    obtain ⟨l, q, c', hc, hq, hl⟩ := C.lp
    rw [List.getElem?_eq_getElem hi] at hq
    exact ⟨l, by rw [hc]; exact List.mem_append_right _ (.head _), hl.trans hq.symm⟩
  | succ i => exact ⟨_, List.getElem_mem (Nat.lt_of_succ_lt hi), C.ch i hi⟩
theorem Fit.ring {b : Nat} (F : Fit h w row H s (some b) m f) {cs : List Pl} (C : Cyc (nxP row H (some b)) (G h w) cs) (k : Nat) (hk : k < row.length) : row[k] ∈ cs ↔ k ≤ b := by
  have down : ∀ k (hk : k < row.length), row[k] ∈ cs → ∀ j (hj : j ≤ k), row[j]'(Nat.lt_of_le_of_lt hj hk) ∈ cs := by
    intro k
    induction k with
    | zero => intro hk hm j hj; cases Nat.le_zero.mp hj; exact hm
    | succ k ih =>
      intro hk hm j hj
      rcases Nat.lt_or_eq_of_le hj with hj | rfl
      · obtain ⟨y, hy, e⟩ := C.next hm
        obtain ⟨i, hi, rfl, ei⟩ := nx_inv F hk e
        rcases N_cases ei with ⟨e0, _⟩ | e0
        · cases e0
        · cases e0; exact ih _ hy j (Nat.le_of_lt_succ hj)
      · exact hm
  have up : ∀ n k (hk : k < row.length), row.length - k ≤ n → b < k → row[k] ∉ cs := by
    intro n
    induction n with
    | zero => intro k hk hn; exact absurd hk (Nat.not_lt.mpr (Nat.sub_eq_zero_iff_le.mp (Nat.le_zero.mp hn)))
    | succ n ih =>
      intro k hk hn hb hm
      obtain ⟨x, hx, e⟩ := C.pred hm
      obtain ⟨i, hi, rfl⟩ := row_at (F.R.all x (C.on x hx))
      obtain ⟨j, hj, ej, en⟩ := nx_inv F hi e
      have := inj_get F.R.nd ej
      subst this
      rcases N_cases en with ⟨_, e0⟩ | rfl
      · exact absurd (Option.some.inj e0) (Nat.ne_of_lt hb)
      · exact ih (j + 1) hi (Nat.sub_le_of_le_add (by rw [← Nat.add_assoc, Nat.add_right_comm]; exact Nat.sub_le_iff_le_add.mp hn)) (Nat.lt_succ_of_lt hb) hx
  refine ⟨fun hm => Nat.not_lt.mp fun hb => up _ k hk (Nat.le_refl _) hb hm, fun hkb => ?_⟩
  obtain ⟨l, q, c', hc, hq, hl⟩ := C.lp
  have hlm : l ∈ cs := by rw [hc]; exact List.mem_append_right _ (.head _)
  obtain ⟨i, hi, rfl⟩ := row_at (F.R.all l (C.on l hlm))
  have h0 := down i hi hlm 0 (Nat.zero_le _)
  obtain ⟨y, hy, e⟩ := C.next h0
  obtain ⟨j, hj, rfl, ej⟩ := nx_inv F F.R.n0 e
  rcases N_cases ej with ⟨_, e0⟩ | e0
  · cases Option.some.inj e0
    exact down _ hj hy k hkb
  · cases e0
/-- what hangs on the first place -/
theorem Fit.reach (F : Fit h w row H s back m f) {n : Nat} (n0 : 0 < n) (h1 : n = row.length ∨ H n ≠ none) (h2 : ∀ k, 0 < k → k < n → H k = none) (k : Nat) (hk : k < row.length) : Reach (nxP row H back) (G h w) (row[0]'F.R.n0) row[k] ↔ k < n := by
  constructor
  · suffices Hh : ∀ p, Reach (nxP row H back) (G h w) (row[0]'F.R.n0) p → ix row p < n from fun hr => by have := Hh _ hr; rwa [ix_row F.R.nd hk] at this
    intro p hr
    induction hr with
    | start => rw [ix_row F.R.nd F.R.n0]; exact n0
    | step hq hp e ih =>
      obtain ⟨k, hk, rfl⟩ := row_at (F.R.all _ hp)
      obtain ⟨j, hj, rfl, ej⟩ := nx_inv F hk e
      rw [ix_row F.R.nd hj] at ih
      rw [ix_row F.R.nd hk]
      rcases N_cases ej with ⟨rfl, _⟩ | rfl
      · exact n0
      · refine Nat.lt_of_le_of_ne ih fun e => ?_
        rcases h1 with h1 | h1
        · exact absurd (e.trans h1) (Nat.ne_of_lt hk)
        · exact h1 (e ▸ N_free ej)
  · intro hkn
    induction k with
    | zero => exact .start
    | succ k ih =>
      have hk' := Nat.lt_of_succ_lt hk
      exact .step (ih hk' (Nat.lt_of_succ_lt hkn)) (F.R.on _ (List.getElem_mem hk)) (nx_row F.R hk hk' (N_succ (h2 (k + 1) (Nat.succ_pos _) hkn)))
end


noncomputable def p_law_cell_at : List String := ["_law_script", "_law_k"]
noncomputable def b_law_cell_at : List S := [
  .ite (.cmp (.var "_law_k") .lt (.bi .len [.var "_law_script"])) [
    .ret (.bin .add (.idx (.var "_law_script") (.var "_law_k")) (.bin .mul (.bin .mod (.idx (.var "_law_script") (.var "_law_k")) (.num 251)) (.num 381840)))] [],
  .ret (.num 0)]

noncomputable def p_law_sizes : List String := ["_law_cell"]
noncomputable def b_law_sizes : List S := [
  .ite (.cmp (.bin .mod (.bin .fdiv (.var "_law_cell") (.num 36)) (.num 16)) .eq (.num 1)) [
    .ret (.tup [.bin .add (.num 7) (.bin .mod (.bin .fdiv (.var "_law_cell") (.num 576)) (.num 6)), .bin .add (.num 7) (.bin .mod (.bin .fdiv (.var "_law_cell") (.num 3456)) (.num 6))])] [],
  .ret (.tup [.bin .add (.num 1) (.bin .mod (.var "_law_cell") (.num 6)), .bin .add (.num 1) (.bin .mod (.bin .fdiv (.var "_law_cell") (.num 6)) (.num 6))])]

noncomputable def p_law_row : List String := ["_law_high", "_law_wide", "_law_cell"]
noncomputable def b_law_row : List S := [
  .ite (.cmp (.bin .mod (.var "_law_cell") (.num 2)) .eq (.num 0)) [
    .assign (.var "_law_row_here") (.comp (.tup [.bin .fdiv (.var "_law_k") (.var "_law_wide"), .bin .mod (.var "_law_k") (.var "_law_wide")]) "_law_k" (.range1 (.bin .mul (.var "_law_high") (.var "_law_wide"))) [])] [
    .assign (.var "_law_row_here") (.comp (.tup [.bin .mod (.var "_law_k") (.var "_law_high"), .bin .fdiv (.var "_law_k") (.var "_law_high")]) "_law_k" (.range1 (.bin .mul (.var "_law_high") (.var "_law_wide"))) [])],
  .ite (.cmp (.bin .mod (.bin .fdiv (.var "_law_cell") (.num 2)) (.num 2)) .eq (.num 1)) [
    .assign (.var "_law_row_here") (.rev (.var "_law_row_here") (.neg (.num 1)))] [],
  .ret (.var "_law_row_here")]

noncomputable def p_law_rule : List String := ["_law_place", "_law_step", "_law_many"]
noncomputable def b_law_rule : List S := [
  .assign (.var "_law_rule_here") (.tup [.str "add", .tup [.str "cell", .tup [.idx (.var "_law_place") (.num 0), .idx (.var "_law_place") (.num 1), .bool false, .bool true]], .tup [.str "num", .var "_law_step"]]),
  .for_ "_law_k" (.range1 (.var "_law_many")) [
    .assign (.var "_law_rule_here") (.idx (.lst [.tup [.str "add", .var "_law_rule_here", .tup [.str "num", .num 0]], .tup [.str "add", .tup [.str "num", .num 0], .var "_law_rule_here"]]) (.bin .mod (.var "_law_k") (.num 2)))],
  .ret (.var "_law_rule_here")]

noncomputable def p_law_due : List String := ["_law_row_here", "_law_step", "_law_heads", "_law_back"]
noncomputable def b_law_due : List S := [
  .assign (.var "_law_found") (.emptyDict),
  .assign (.var "_law_value") (.none),
  .for_ "_law_k" (.range1 (.bi .len [.var "_law_row_here"])) [
    .ite (.cmp (.var "_law_k") .isIn (.var "_law_heads")) [
      .assign (.var "_law_value") (.idx (.var "_law_heads") (.var "_law_k"))] [
      .ite (.cmp (.var "_law_k") .eq (.num 0)) [
        .assign (.var "_law_value") (.none)] [
        .ite (.cmp (.var "_law_value") .isNot (.none)) [
          .assign (.var "_law_value") (.bin .add (.var "_law_value") (.var "_law_step"))] []]],
    .assign (.idx (.var "_law_found") (.idx (.var "_law_row_here") (.var "_law_k"))) (.var "_law_value")],
  .ite (.bop true [.cmp (.var "_law_back") .ge (.num 0)] (.cmp (.num 0) .notIn (.var "_law_heads"))) [
    .assign (.var "_law_end") (.idx (.var "_law_found") (.idx (.var "_law_row_here") (.var "_law_back"))),
    .for_ "_law_k" (.range1 (.bi .len [.var "_law_row_here"])) [
      .ite (.bop false [.cmp (.var "_law_k") .isIn (.var "_law_heads")] (.cmp (.var "_law_end") .is (.none))) [
        .ret (.var "_law_found")] [],
      .assign (.idx (.var "_law_found") (.idx (.var "_law_row_here") (.var "_law_k"))) (.bin .add (.var "_law_end") (.bin .mul (.var "_law_step") (.bin .add (.var "_law_k") (.num 1))))]] [],
  .ret (.var "_law_found")]

noncomputable def p_law_values : List String := ["_law_sheet", "_law_due_here"]
noncomputable def b_law_values : List S := [
  .assign (.var "_law_found") (.call "reckoned" [.var "_law_sheet"]),
  .for_ "_law_place" (.of (.var "_law_due_here")) [
    .ite (.bop false [.cmp (.idx (.idx (.var "_law_found") (.idx (.var "_law_place") (.num 0))) (.idx (.var "_law_place") (.num 1))) .ne (.idx (.var "_law_due_here") (.var "_law_place"))] (.bi .isinstance [.idx (.idx (.var "_law_found") (.idx (.var "_law_place") (.num 0))) (.idx (.var "_law_place") (.num 1)), .glob "bool"])) [
      .ret (.bool false)] []],
  .ret (.cmp (.bi .len [.var "_law_found"]) .eq (.attr (.var "_law_sheet") "high"))]

noncomputable def p_law_round : List String := ["_law_sheet", "_law_row_here", "_law_heads", "_law_back"]
noncomputable def b_law_round : List S := [
  .assign (.var "_law_found") (.call "ring" [.var "_law_sheet"]),
  .ite (.bop false [.cmp (.var "_law_back") .lt (.num 0)] (.cmp (.comp (.var "_law_k") "_law_k" (.range1 (.bin .add (.var "_law_back") (.num 1))) [.cmp (.var "_law_k") .isIn (.var "_law_heads")]) .ne (.lst []))) [
    .ret (.cmp (.var "_law_found") .is (.none))] [],
  .ite (.bop false [.not (.bi .isinstance [.var "_law_found", .glob "list"])] (.cmp (.bi .sorted [.var "_law_found"]) .ne (.bi .sorted [.slice (.var "_law_row_here") .none (.bin .add (.var "_law_back") (.num 1))]))) [
    .ret (.bool false)] [],
  .assign (.var "_law_ahead") (.emptyDict),
  .for_ "_law_k" (.range2 (.num 1) (.bin .add (.var "_law_back") (.num 1))) [
    .assign (.idx (.var "_law_ahead") (.idx (.var "_law_row_here") (.var "_law_k"))) (.idx (.var "_law_row_here") (.bin .sub (.var "_law_k") (.num 1)))],
  .assign (.idx (.var "_law_ahead") (.idx (.var "_law_row_here") (.num 0))) (.idx (.var "_law_row_here") (.var "_law_back")),
  .ret (.cmp (.comp (.var "_law_k") "_law_k" (.range1 (.bi .len [.var "_law_found"])) [.cmp (.idx (.var "_law_ahead") (.idx (.var "_law_found") (.bin .sub (.var "_law_k") (.num 1)))) .ne (.idx (.var "_law_found") (.var "_law_k"))]) .eq (.lst []))]

noncomputable def p_law_touches : List String := ["_law_sheet", "_law_row_here", "_law_heads"]
noncomputable def b_law_touches : List S := [
  .assign (.var "_law_end") (.bi .min [.bin .add (.comp (.var "_law_k") "_law_k" (.of (.var "_law_heads")) [.cmp (.var "_law_k") .gt (.num 0)]) (.lst [.bi .len [.var "_law_row_here"]])]),
  .ret (.cmp (.call "touched" [.var "_law_sheet", .idx (.var "_law_row_here") (.num 0)]) .eq (.bi .sorted [.slice (.var "_law_row_here") .none (.var "_law_end")]))]

noncomputable def p_law_right : List String := ["_law_sheet", "_law_row_here", "_law_step", "_law_heads", "_law_back", "_law_way"]
noncomputable def b_law_right : List S := [
  .ite (.cmp (.var "_law_way") .eq (.num 0)) [
    .ret (.call "_law_values" [.var "_law_sheet", .call "_law_due" [.var "_law_row_here", .var "_law_step", .var "_law_heads", .var "_law_back"]])] [],
  .ite (.cmp (.var "_law_way") .eq (.num 1)) [
    .ret (.call "_law_round" [.var "_law_sheet", .var "_law_row_here", .var "_law_heads", .var "_law_back"])] [],
  .ret (.call "_law_touches" [.var "_law_sheet", .var "_law_row_here", .var "_law_heads"])]

noncomputable def p_law : List String := ["_law_script"]
noncomputable def b_law : List S := [
  .assign (.tup2 "_law_high" "_law_wide") (.call "_law_sizes" [.call "_law_cell_at" [.var "_law_script", .num 0]]),
  .assign (.var "_law_cell") (.call "_law_cell_at" [.var "_law_script", .num 1]),
  .assign (.var "_law_row_here") (.call "_law_row" [.var "_law_high", .var "_law_wide", .var "_law_cell"]),
  .assign (.var "_law_step") (.bin .add (.num 1) (.bin .mod (.bin .fdiv (.var "_law_cell") (.num 4)) (.num 9))),
  .assign (.var "_law_many") (.bin .mod (.bin .fdiv (.var "_law_cell") (.num 36)) (.num 5)),
  .assign (.var "_law_way") (.bin .mod (.bin .fdiv (.var "_law_cell") (.num 180)) (.num 3)),
  .assign (.var "_law_sheet") (.call "Sheet" [.var "_law_high", .var "_law_wide"]),
  .for_ "_law_k" (.range2 (.num 1) (.bi .len [.var "_law_row_here"])) [
    .expr (.meth (.var "_law_sheet") (.own "put") [.idx (.var "_law_row_here") (.var "_law_k"), .call "_law_rule" [.idx (.var "_law_row_here") (.bin .sub (.var "_law_k") (.num 1)), .var "_law_step", .var "_law_many"]])],
  .assign (.var "_law_back") (.neg (.num 1)),
  .assign (.var "_law_heads") (.dict1 (.num 0) (.bin .mod (.call "_law_cell_at" [.var "_law_script", .num 2]) (.num 1000))),
  .ite (.cmp (.bin .mod (.bin .fdiv (.var "_law_cell") (.num 540)) (.num 3)) .eq (.num 1)) [
    .assign (.var "_law_back") (.bin .sub (.bin .sub (.bi .len [.var "_law_row_here"]) (.num 1)) (.bin .mod (.call "_law_cell_at" [.var "_law_script", .num 2]) (.bi .len [.var "_law_row_here"]))),
    .assign (.var "_law_heads") (.emptyDict),
    .expr (.meth (.var "_law_sheet") (.own "put") [.idx (.var "_law_row_here") (.num 0), .call "_law_rule" [.idx (.var "_law_row_here") (.var "_law_back"), .var "_law_step", .var "_law_many"]])] [
    .expr (.meth (.var "_law_sheet") (.own "put") [.idx (.var "_law_row_here") (.num 0), .tup [.str "num", .idx (.var "_law_heads") (.num 0)]])],
  .ite (.not (.call "_law_right" [.var "_law_sheet", .var "_law_row_here", .var "_law_step", .var "_law_heads", .var "_law_back", .var "_law_way"])) [
    .ret (.bool false)] [],
  .assign (.var "_law_at") (.bin .mod (.call "_law_cell_at" [.var "_law_script", .num 3]) (.bi .len [.var "_law_row_here"])),
  .assign (.idx (.var "_law_heads") (.var "_law_at")) (.bin .mod (.bin .fdiv (.call "_law_cell_at" [.var "_law_script", .num 3]) (.bi .len [.var "_law_row_here"])) (.num 1000)),
  .expr (.meth (.var "_law_sheet") (.own "put") [.idx (.var "_law_row_here") (.var "_law_at"), .tup [.str "num", .idx (.var "_law_heads") (.var "_law_at")]]),
  .ret (.call "_law_right" [.var "_law_sheet", .var "_law_row_here", .var "_law_step", .var "_law_heads", .var "_law_back", .var "_law_way"])]


noncomputable def names14 : List String := ["_law_cell_at", "_law_sizes", "_law_row", "_law_rule", "_law_due", "_law_values", "_law_round", "_law_touches", "_law_right"]
structure Env14 (W : Wd) : Prop where
  S : EnvS W
  typ : ∀ t ∈ ["bool", "list"], W.glob t = some (.typ t)
  cell : FnOk W "_law_cell_at" p_law_cell_at b_law_cell_at
  sizes : FnOk W "_law_sizes" p_law_sizes b_law_sizes
  row : FnOk W "_law_row" p_law_row b_law_row
  rule : FnOk W "_law_rule" p_law_rule b_law_rule
  due : FnOk W "_law_due" p_law_due b_law_due
  values : FnOk W "_law_values" p_law_values b_law_values
  round : FnOk W "_law_round" p_law_round b_law_round
  touches : FnOk W "_law_touches" p_law_touches b_law_touches
  right : FnOk W "_law_right" p_law_right b_law_right
  law : FnOk W "law" p_law b_law
  names : ∀ f ∈ names14, f ∈ W.names
section
variable {W : Wd} {k : Nat}
theorem Env14.has (E : Env14 W) {k : Nat} {f : String} (h : f ∈ names14) : (glb W k).has f = true := decide_eq_true (E.names f h)
theorem Env14.glob (E : Env14 W) {k : Nat} {t : String} (h : t ∈ ["bool", "list"]) : (glb W k).glob t = some (.typ t) := E.typ t h
theorem sm (n : Nat) (h : n ≤ 1000000) (h0 : 0 < n) : (0 : Int) < n ∧ small n := ⟨Int.ofNat_lt.mpr h0, Int.le_trans (by decide) (Int.natCast_nonneg n), Int.lt_of_le_of_lt (Int.ofNat_le.mpr h) (by decide)⟩

theorem cell_at_ok (E : Env14 W) (i : Nat) (σ : Hp) (Q : VP) (h : ∀ n, Q (.int n) σ) : callP W 1 "_law_cell_at" [.script, .int i] σ Q noX := by
  refine call_ok E.S.T E.cell rfl ?_
  dsimp only [b_law_cell_at, p_law_cell_at, bindP]
  refine st_cons ?_
  dsimp only [RS.S.ret, RS.S.expr, RS.S.assign, RS.S.ite, RS.S.for_, RS.S.while_, RS.S.raise, RS.S.pass, RS.T.var, RS.T.idx, RS.T.attr, RS.T.tup2, RS.X.none, RS.X.bool, RS.X.num, RS.X.str, RS.X.var, RS.X.glob, RS.X.bin, RS.X.neg, RS.X.not, RS.X.bop, RS.X.cmp, RS.X.cmp2, RS.X.call, RS.X.bi, RS.X.meth, RS.X.idx, RS.X.slice, RS.X.rev, RS.X.attr, RS.X.tup, RS.X.lst, RS.X.emptyDict, RS.X.dict1, RS.X.comp, RS.Src.range1, RS.Src.range2, RS.Src.of, RS.wpT, RS.wpEs, RS.wpBop, RS.wpIfs]
  refine s_get rfl (s_get rfl (s_lenS (s_lt (s_truth rfl (s_if (fun hl => ?_) fun _ => ?_)))))
  · have hg := get_nat (l := (glb W 0).ns) (Int.ofNat_lt.mp (of_decide_eq_true hl))
    refine st_cons ?_
    dsimp only [RS.S.ret, RS.S.expr, RS.S.assign, RS.S.ite, RS.S.for_, RS.S.while_, RS.S.raise, RS.S.pass, RS.T.var, RS.T.idx, RS.T.attr, RS.T.tup2, RS.X.none, RS.X.bool, RS.X.num, RS.X.str, RS.X.var, RS.X.glob, RS.X.bin, RS.X.neg, RS.X.not, RS.X.bop, RS.X.cmp, RS.X.cmp2, RS.X.call, RS.X.bi, RS.X.meth, RS.X.idx, RS.X.slice, RS.X.rev, RS.X.attr, RS.X.tup, RS.X.lst, RS.X.emptyDict, RS.X.dict1, RS.X.comp, RS.Src.range1, RS.Src.range2, RS.Src.of, RS.wpT, RS.wpEs, RS.wpBop, RS.wpIfs]
    exact s_get rfl (s_get rfl (s_idxS hg (s_get rfl (s_get rfl (s_idxS hg (s_mod (by decide) (s_mul (.inr (by unfold small; decide)) (s_add (h _)))))))))
  · refine st_nil (st_cons ?_)
    dsimp only [RS.S.ret, RS.S.expr, RS.S.assign, RS.S.ite, RS.S.for_, RS.S.while_, RS.S.raise, RS.S.pass, RS.T.var, RS.T.idx, RS.T.attr, RS.T.tup2, RS.X.none, RS.X.bool, RS.X.num, RS.X.str, RS.X.var, RS.X.glob, RS.X.bin, RS.X.neg, RS.X.not, RS.X.bop, RS.X.cmp, RS.X.cmp2, RS.X.call, RS.X.bi, RS.X.meth, RS.X.idx, RS.X.slice, RS.X.rev, RS.X.attr, RS.X.tup, RS.X.lst, RS.X.emptyDict, RS.X.dict1, RS.X.comp, RS.Src.range1, RS.Src.range2, RS.Src.of, RS.wpT, RS.wpEs, RS.wpBop, RS.wpIfs]
    exact h _
theorem mod_nat (c : Int) {n : Nat} (h : 0 < n) : ∃ i : Nat, c % n = i ∧ i < n := by
  have h1 := Int.emod_nonneg c (Int.ofNat_ne_zero.mpr (Nat.pos_iff_ne_zero.mp h))
  have h2 := Int.emod_lt_of_pos c (Int.ofNat_lt.mpr h)
  obtain ⟨i, e⟩ := Int.eq_ofNat_of_zero_le h1
  exact ⟨i, e, Int.ofNat_lt.mp (e ▸ h2)⟩
theorem sizes_ok (E : Env14 W) (c : Int) (σ : Hp) (Q : VP) (h : ∀ hi wi : Nat, Sz hi wi → Q (.tup [.int hi, .int wi]) σ) : callP W 1 "_law_sizes" [.int c] σ Q noX := by
  refine call_ok E.S.T E.sizes rfl ?_
  dsimp only [b_law_sizes, p_law_sizes, bindP]
  have sz : ∀ b : Nat, b ≤ 7 → 0 < b → ∀ x y : Int, ∃ i j : Nat, (b : Int) + x % 6 = i ∧ (b : Int) + y % 6 = j ∧ Sz i j := fun b hb hb0 x y => by
    obtain ⟨i, ei, hi⟩ := mod_nat x (n := 6) (by decide)
    obtain ⟨j, ej, hj⟩ := mod_nat y (n := 6) (by decide)
    have ei : x % 6 = i := ei
    have ej : y % 6 = j := ej
    rw [ei, ej]
    exact ⟨b + i, b + j, rfl, rfl, Nat.add_pos_left hb0 _, Nat.add_pos_left hb0 _, Nat.add_le_add hb (Nat.le_of_lt_succ hi), Nat.add_le_add hb (Nat.le_of_lt_succ hj)⟩
  refine st_cons ?_
  dsimp only [RS.S.ret, RS.S.expr, RS.S.assign, RS.S.ite, RS.S.for_, RS.S.while_, RS.S.raise, RS.S.pass, RS.T.var, RS.T.idx, RS.T.attr, RS.T.tup2, RS.X.none, RS.X.bool, RS.X.num, RS.X.str, RS.X.var, RS.X.glob, RS.X.bin, RS.X.neg, RS.X.not, RS.X.bop, RS.X.cmp, RS.X.cmp2, RS.X.call, RS.X.bi, RS.X.meth, RS.X.idx, RS.X.slice, RS.X.rev, RS.X.attr, RS.X.tup, RS.X.lst, RS.X.emptyDict, RS.X.dict1, RS.X.comp, RS.Src.range1, RS.Src.range2, RS.Src.of, RS.wpT, RS.wpEs, RS.wpBop, RS.wpIfs]
  refine s_get rfl (s_fdiv (sm 36 (by decide) (by decide)) (s_mod (by decide) (s_eqI (s_truth rfl (s_if (fun _ => ?_) fun _ => ?_)))))
  · refine st_cons ?_
    dsimp only [RS.S.ret, RS.S.expr, RS.S.assign, RS.S.ite, RS.S.for_, RS.S.while_, RS.S.raise, RS.S.pass, RS.T.var, RS.T.idx, RS.T.attr, RS.T.tup2, RS.X.none, RS.X.bool, RS.X.num, RS.X.str, RS.X.var, RS.X.glob, RS.X.bin, RS.X.neg, RS.X.not, RS.X.bop, RS.X.cmp, RS.X.cmp2, RS.X.call, RS.X.bi, RS.X.meth, RS.X.idx, RS.X.slice, RS.X.rev, RS.X.attr, RS.X.tup, RS.X.lst, RS.X.emptyDict, RS.X.dict1, RS.X.comp, RS.Src.range1, RS.Src.range2, RS.Src.of, RS.wpT, RS.wpEs, RS.wpBop, RS.wpIfs]
    refine s_get rfl (s_fdiv (sm 576 (by decide) (by decide)) (s_mod (by decide) (s_add (s_get rfl (s_fdiv (sm 3456 (by decide) (by decide)) (s_mod (by decide) (s_add ?_)))))))
    obtain ⟨i, j, e1, e2, z⟩ := sz 7 (by decide) (by decide) (c / 576) (c / 3456)
    have := h i j z
    rw [← e1, ← e2] at this; exact this
  · refine st_nil (st_cons ?_)
    dsimp only [RS.S.ret, RS.S.expr, RS.S.assign, RS.S.ite, RS.S.for_, RS.S.while_, RS.S.raise, RS.S.pass, RS.T.var, RS.T.idx, RS.T.attr, RS.T.tup2, RS.X.none, RS.X.bool, RS.X.num, RS.X.str, RS.X.var, RS.X.glob, RS.X.bin, RS.X.neg, RS.X.not, RS.X.bop, RS.X.cmp, RS.X.cmp2, RS.X.call, RS.X.bi, RS.X.meth, RS.X.idx, RS.X.slice, RS.X.rev, RS.X.attr, RS.X.tup, RS.X.lst, RS.X.emptyDict, RS.X.dict1, RS.X.comp, RS.Src.range1, RS.Src.range2, RS.Src.of, RS.wpT, RS.wpEs, RS.wpBop, RS.wpIfs]
    refine s_get rfl (s_mod (by decide) (s_add (s_get rfl (s_fdiv (sm 6 (by decide) (by decide)) (s_mod (by decide) (s_add ?_))))))
    obtain ⟨i, j, e1, e2, z⟩ := sz 1 (by decide) (by decide) c (c / 6)
    have := h i j z
    rw [← e1, ← e2] at this; exact this

/-! ### the row -/
noncomputable def rowA (h w : Nat) : List Pl := (List.range (h * w)).map fun (k : Nat) => ((k / w : Nat), (k % w : Nat))
noncomputable def rowB (h w : Nat) : List Pl := (List.range (h * w)).map fun (k : Nat) => ((k % h : Nat), (k / h : Nat))
theorem row_all {h w : Nat} {row : List Pl} (hn : row.Nodup) (ho : ∀ p ∈ row, p ∈ G h w) (hl : row.length = h * w) (p : Pl) (hp : p ∈ G h w) : p ∈ row := Classical.byContradiction fun hx => by
  have := nodup_len (nodup_add hn hx) fun q hq => (List.mem_append.mp hq).elim (ho q) fun e => by rw [List.mem_singleton.mp e]; exact hp
  rw [G_length, List.length_append, hl] at this
  exact Nat.not_succ_le_self _ this
theorem row_of {h w : Nat} (z : Sz h w) {g : Nat → Pl} (hg : ∀ i j, g i = g j → i = j) (ho : ∀ k, k < h * w → g k ∈ G h w) : Row h w ((List.range (h * w)).map g) := by
  have hl : ((List.range (h * w)).map g).length = h * w := by rw [List.length_map, List.length_range]
  have hn : ((List.range (h * w)).map g).Nodup := List.pairwise_map.mpr (List.pairwise_lt_range.imp fun {i j} hij e => Nat.ne_of_lt hij (hg i j e))
  have ho' : ∀ p ∈ (List.range (h * w)).map g, p ∈ G h w := fun p hp => by
    obtain ⟨k, hk, rfl⟩ := List.mem_map.mp hp
    exact ho k (List.mem_range.mp hk)
  exact ⟨hn, ho', row_all hn ho' hl, by rw [hl]; exact Nat.mul_pos z.h0 z.w0, by rw [hl]; exact Nat.mul_le_mul z.h1 z.w1⟩
theorem dm_inj {n i j : Nat} (h1 : i / n = j / n) (h2 : i % n = j % n) : i = j := by rw [← Nat.div_add_mod i n, ← Nat.div_add_mod j n, h1, h2]
theorem rowA_ok {h w : Nat} (z : Sz h w) : Row h w (rowA h w) := row_of z
  (fun _ _ e => dm_inj (Int.ofNat.inj (congrArg Prod.fst e)) (Int.ofNat.inj (congrArg Prod.snd e)))
  fun k hk => mem_G.mpr ⟨Int.natCast_nonneg _, Int.ofNat_lt.mpr (Nat.div_lt_of_lt_mul (by rw [Nat.mul_comm]; exact hk)), Int.natCast_nonneg _, Int.ofNat_lt.mpr (Nat.mod_lt _ z.w0)⟩
theorem rowB_ok {h w : Nat} (z : Sz h w) : Row h w (rowB h w) := row_of z
  (fun _ _ e => dm_inj (Int.ofNat.inj (congrArg Prod.snd e)) (Int.ofNat.inj (congrArg Prod.fst e)))
  fun k hk => mem_G.mpr ⟨Int.natCast_nonneg _, Int.ofNat_lt.mpr (Nat.mod_lt _ z.h0), Int.natCast_nonneg _, Int.ofNat_lt.mpr (Nat.div_lt_of_lt_mul hk)⟩
theorem Row.rev {h w : Nat} {row : List Pl} (R : Row h w row) : Row h w row.reverse :=
  ⟨List.pairwise_reverse.mpr (R.nd.imp Ne.symm), fun p hp => R.on p (List.mem_reverse.mp hp), fun p hp => List.mem_reverse.mpr (R.all p hp), by rw [List.length_reverse]; exact R.n0, by rw [List.length_reverse]; exact R.n1⟩
theorem row_ok (E : Env14 W) {h w : Nat} (z : Sz h w) (c : Int) (σ : Hp) (Q : VP) (hQ : ∀ (row : List Pl) (a : Nat) σ', σ.le σ' → σ' a = some (.lst (row.map pv)) → Row h w row → Q (.ref a) σ') : callP W 1 "_law_row" [.int h, .int w, .int c] σ Q noX := by
  refine call_ok E.S.T E.row rfl ?_
  dsimp only [b_law_row, p_law_row, bindP]
  have hl : lenOk ((((h * w : Nat) : Int)) - 0).toNat := by rw [Int.sub_zero, Int.toNat_natCast]; exact Nat.le_trans (Nat.mul_le_mul z.h1 z.w1) (by decide)
  have hl2 : lenOk (List.range (h * w)).length := by rw [List.length_range]; exact Nat.le_trans (Nat.mul_le_mul z.h1 z.w1) (by decide)
  have sm1 : ∀ {n : Nat}, n ≤ 12 → 0 < n → (0 : Int) < n ∧ small n := fun h h0 => sm _ (Nat.le_trans h (by decide)) h0
  have rest : ∀ (row : List Pl) (a : Nat) (σ₁ : Hp) (ρ : Env) (N : NP), ρ "_law_cell" = some (.int c) → ρ "_law_row_here" = some (.ref a) → σ.le σ₁ → σ₁ a = some (.lst (row.map pv)) → Row h w row → wpSs (b_law_row.drop 1) (glb W 0) ρ σ₁ N Q (fun _ _ _ => False) := by
    intro row a σ₁ ρ N e1 e2 le ha R
    refine st_cons ?_
    dsimp only [RS.S.ret, RS.S.expr, RS.S.assign, RS.S.ite, RS.S.for_, RS.S.while_, RS.S.raise, RS.S.pass, RS.T.var, RS.T.idx, RS.T.attr, RS.T.tup2, RS.X.none, RS.X.bool, RS.X.num, RS.X.str, RS.X.var, RS.X.glob, RS.X.bin, RS.X.neg, RS.X.not, RS.X.bop, RS.X.cmp, RS.X.cmp2, RS.X.call, RS.X.bi, RS.X.meth, RS.X.idx, RS.X.slice, RS.X.rev, RS.X.attr, RS.X.tup, RS.X.lst, RS.X.emptyDict, RS.X.dict1, RS.X.comp, RS.Src.range1, RS.Src.range2, RS.Src.of, RS.wpT, RS.wpEs, RS.wpBop, RS.wpIfs]
    refine s_get e1 (s_fdiv (sm 2 (by decide) (by decide)) (s_mod (by decide) (s_eqI (s_truth rfl (s_if (fun _ => ?_) fun _ => ?_)))))
    · refine st_cons ?_
      dsimp only [RS.S.ret, RS.S.expr, RS.S.assign, RS.S.ite, RS.S.for_, RS.S.while_, RS.S.raise, RS.S.pass, RS.T.var, RS.T.idx, RS.T.attr, RS.T.tup2, RS.X.none, RS.X.bool, RS.X.num, RS.X.str, RS.X.var, RS.X.glob, RS.X.bin, RS.X.neg, RS.X.not, RS.X.bop, RS.X.cmp, RS.X.cmp2, RS.X.call, RS.X.bi, RS.X.meth, RS.X.idx, RS.X.slice, RS.X.rev, RS.X.attr, RS.X.tup, RS.X.lst, RS.X.emptyDict, RS.X.dict1, RS.X.comp, RS.Src.range1, RS.Src.range2, RS.Src.of, RS.wpT, RS.wpEs, RS.wpBop, RS.wpIfs]
      refine s_get e2 (s_neg (.mk ha (s_newG fun b σ₂ nb le₂ hb => st_nil (st_cons ?_))))
      dsimp only [RS.S.ret, RS.S.expr, RS.S.assign, RS.S.ite, RS.S.for_, RS.S.while_, RS.S.raise, RS.S.pass, RS.T.var, RS.T.idx, RS.T.attr, RS.T.tup2, RS.X.none, RS.X.bool, RS.X.num, RS.X.str, RS.X.var, RS.X.glob, RS.X.bin, RS.X.neg, RS.X.not, RS.X.bop, RS.X.cmp, RS.X.cmp2, RS.X.call, RS.X.bi, RS.X.meth, RS.X.idx, RS.X.slice, RS.X.rev, RS.X.attr, RS.X.tup, RS.X.lst, RS.X.emptyDict, RS.X.dict1, RS.X.comp, RS.Src.range1, RS.Src.range2, RS.Src.of, RS.wpT, RS.wpEs, RS.wpBop, RS.wpIfs]
      refine s_get (Env.set_same _ _ _) (hQ row.reverse b σ₂ (Hp.le_trans le le₂) (by rw [hb, List.map_reverse]) R.rev)
    · refine st_nil (st_cons ?_)
      dsimp only [RS.S.ret, RS.S.expr, RS.S.assign, RS.S.ite, RS.S.for_, RS.S.while_, RS.S.raise, RS.S.pass, RS.T.var, RS.T.idx, RS.T.attr, RS.T.tup2, RS.X.none, RS.X.bool, RS.X.num, RS.X.str, RS.X.var, RS.X.glob, RS.X.bin, RS.X.neg, RS.X.not, RS.X.bop, RS.X.cmp, RS.X.cmp2, RS.X.call, RS.X.bi, RS.X.meth, RS.X.idx, RS.X.slice, RS.X.rev, RS.X.attr, RS.X.tup, RS.X.lst, RS.X.emptyDict, RS.X.dict1, RS.X.comp, RS.Src.range1, RS.Src.range2, RS.Src.of, RS.wpT, RS.wpEs, RS.wpBop, RS.wpIfs]
      exact s_get e2 (hQ row a σ₁ le ha R)
  refine st_cons ?_
  dsimp only [RS.S.ret, RS.S.expr, RS.S.assign, RS.S.ite, RS.S.for_, RS.S.while_, RS.S.raise, RS.S.pass, RS.T.var, RS.T.idx, RS.T.attr, RS.T.tup2, RS.X.none, RS.X.bool, RS.X.num, RS.X.str, RS.X.var, RS.X.glob, RS.X.bin, RS.X.neg, RS.X.not, RS.X.bop, RS.X.cmp, RS.X.cmp2, RS.X.call, RS.X.bi, RS.X.meth, RS.X.idx, RS.X.slice, RS.X.rev, RS.X.attr, RS.X.tup, RS.X.lst, RS.X.emptyDict, RS.X.dict1, RS.X.comp, RS.Src.range1, RS.Src.range2, RS.Src.of, RS.wpT, RS.wpEs, RS.wpBop, RS.wpIfs]
  refine s_get rfl (s_mod (by decide) (s_eqI (s_truth rfl (s_if (fun _ => ?_) fun _ => ?_))))
  · refine st_cons ?_
    dsimp only [RS.S.ret, RS.S.expr, RS.S.assign, RS.S.ite, RS.S.for_, RS.S.while_, RS.S.raise, RS.S.pass, RS.T.var, RS.T.idx, RS.T.attr, RS.T.tup2, RS.X.none, RS.X.bool, RS.X.num, RS.X.str, RS.X.var, RS.X.glob, RS.X.bin, RS.X.neg, RS.X.not, RS.X.bop, RS.X.cmp, RS.X.cmp2, RS.X.call, RS.X.bi, RS.X.meth, RS.X.idx, RS.X.slice, RS.X.rev, RS.X.attr, RS.X.tup, RS.X.lst, RS.X.emptyDict, RS.X.dict1, RS.X.comp, RS.Src.range1, RS.Src.range2, RS.Src.of, RS.wpT, RS.wpEs, RS.wpBop, RS.wpIfs]
    refine s_get rfl (s_get rfl (s_mul (.inr (sm1 z.w1 z.w0).2) (s_range hl ?_)))
    unfold rangeL
    rw [← Int.natCast_mul, Int.sub_zero, Int.toNat_natCast]
    refine compL_lt (fun (k : Nat) => V.int (0 + k)) (fun (k : Nat) => pv ((k / w : Nat), (k % w : Nat))) (fun _ _ => trivial) hl2 (fun k _ σ₁ le₁ K' hK' => ?_) fun σ₁ le₁ => ?_
    · rw [Int.zero_add]
      exact s_ifT rfl (s_get (Env.set_same _ _ _) (s_get rfl (s_fdiv (sm1 z.w1 z.w0) (s_get (Env.set_same _ _ _) (s_get rfl (s_mod (sm1 z.w1 z.w0).1 (hK' _ (Hp.le_refl _))))))))
    refine s_newG fun a σ₂ na le₂ ha => st_nil (rest (rowA h w) a σ₂ _ _ rfl rfl (Hp.le_trans le₁ le₂) ?_ (rowA_ok z))
    rw [ha]; unfold rowA; rw [List.map_map]; rfl
  · refine st_cons ?_
    dsimp only [RS.S.ret, RS.S.expr, RS.S.assign, RS.S.ite, RS.S.for_, RS.S.while_, RS.S.raise, RS.S.pass, RS.T.var, RS.T.idx, RS.T.attr, RS.T.tup2, RS.X.none, RS.X.bool, RS.X.num, RS.X.str, RS.X.var, RS.X.glob, RS.X.bin, RS.X.neg, RS.X.not, RS.X.bop, RS.X.cmp, RS.X.cmp2, RS.X.call, RS.X.bi, RS.X.meth, RS.X.idx, RS.X.slice, RS.X.rev, RS.X.attr, RS.X.tup, RS.X.lst, RS.X.emptyDict, RS.X.dict1, RS.X.comp, RS.Src.range1, RS.Src.range2, RS.Src.of, RS.wpT, RS.wpEs, RS.wpBop, RS.wpIfs]
    refine s_get rfl (s_get rfl (s_mul (.inr (sm1 z.w1 z.w0).2) (s_range hl ?_)))
    unfold rangeL
    rw [← Int.natCast_mul, Int.sub_zero, Int.toNat_natCast]
    refine compL_lt (fun (k : Nat) => V.int (0 + k)) (fun (k : Nat) => pv ((k % h : Nat), (k / h : Nat))) (fun _ _ => trivial) hl2 (fun k _ σ₁ le₁ K' hK' => ?_) fun σ₁ le₁ => ?_
    · rw [Int.zero_add]
      exact s_ifT rfl (s_get (Env.set_same _ _ _) (s_get rfl (s_mod (sm1 z.h1 z.h0).1 (s_get (Env.set_same _ _ _) (s_get rfl (s_fdiv (sm1 z.h1 z.h0) (hK' _ (Hp.le_refl _))))))))
    refine s_newG fun a σ₂ na le₂ ha => st_nil (rest (rowB h w) a σ₂ _ _ rfl rfl (Hp.le_trans le₁ le₂) ?_ (rowB_ok z))
    rw [ha]; unfold rowB; rw [List.map_map]; rfl
theorem rule_by_ok (E : Env14 W) (q : Pl) (s : Int) (m : Nat) (hm : m ≤ 4) (σ : Hp) (Q : VP) (h : ∀ σ', σ.le σ' → Q (link m s q).v σ') : callP W 1 "_law_rule" [pv q, .int s, .int m] σ Q noX := by
  refine call_ok E.S.T E.rule rfl ?_
  dsimp only [b_law_rule, p_law_rule, bindP]
  refine st_cons ?_
  dsimp only [RS.S.ret, RS.S.expr, RS.S.assign, RS.S.ite, RS.S.for_, RS.S.while_, RS.S.raise, RS.S.pass, RS.T.var, RS.T.idx, RS.T.attr, RS.T.tup2, RS.X.none, RS.X.bool, RS.X.num, RS.X.str, RS.X.var, RS.X.glob, RS.X.bin, RS.X.neg, RS.X.not, RS.X.bop, RS.X.cmp, RS.X.cmp2, RS.X.call, RS.X.bi, RS.X.meth, RS.X.idx, RS.X.slice, RS.X.rev, RS.X.attr, RS.X.tup, RS.X.lst, RS.X.emptyDict, RS.X.dict1, RS.X.comp, RS.Src.range1, RS.Src.range2, RS.Src.of, RS.wpT, RS.wpEs, RS.wpBop, RS.wpIfs]
  refine s_get rfl (s_idxT (v := .int q.1) rfl (s_get rfl (s_idxT (v := .int q.2) rfl (s_get rfl ?_))))
  refine st_cons ?_
  dsimp only [RS.S.ret, RS.S.expr, RS.S.assign, RS.S.ite, RS.S.for_, RS.S.while_, RS.S.raise, RS.S.pass, RS.T.var, RS.T.idx, RS.T.attr, RS.T.tup2, RS.X.none, RS.X.bool, RS.X.num, RS.X.str, RS.X.var, RS.X.glob, RS.X.bin, RS.X.neg, RS.X.not, RS.X.bop, RS.X.cmp, RS.X.cmp2, RS.X.call, RS.X.bi, RS.X.meth, RS.X.idx, RS.X.slice, RS.X.rev, RS.X.attr, RS.X.tup, RS.X.lst, RS.X.emptyDict, RS.X.dict1, RS.X.comp, RS.Src.range1, RS.Src.range2, RS.Src.of, RS.wpT, RS.wpEs, RS.wpBop, RS.wpIfs]
  refine s_get rfl (s_range (by rw [Int.sub_zero, Int.toNat_natCast]; exact Nat.le_trans hm (by decide)) ?_)
  refine forL_range (fun i ρ σ' => ρ "_law_rule_here" = some (link i s q).v ∧ σ.le σ') ⟨rfl, Hp.le_refl _⟩ (fun _ => trivial) ?_ ?_
  · rintro i ρ σ' N' hi ⟨e1, le⟩ hN
    rw [Int.zero_add] at hi ⊢
    refine st_cons ?_
    dsimp only [RS.S.ret, RS.S.expr, RS.S.assign, RS.S.ite, RS.S.for_, RS.S.while_, RS.S.raise, RS.S.pass, RS.T.var, RS.T.idx, RS.T.attr, RS.T.tup2, RS.X.none, RS.X.bool, RS.X.num, RS.X.str, RS.X.var, RS.X.glob, RS.X.bin, RS.X.neg, RS.X.not, RS.X.bop, RS.X.cmp, RS.X.cmp2, RS.X.call, RS.X.bi, RS.X.meth, RS.X.idx, RS.X.slice, RS.X.rev, RS.X.attr, RS.X.tup, RS.X.lst, RS.X.emptyDict, RS.X.dict1, RS.X.comp, RS.Src.range1, RS.Src.range2, RS.Src.of, RS.wpT, RS.wpEs, RS.wpBop, RS.wpIfs]
    have e1 := (Env.set_ne ρ (.int i) (by decide : "_law_rule_here" ≠ "_law_k")).trans e1
    refine s_get e1 (s_get e1 (s_newG fun a σ₁ na le₁ ha => s_get (Env.set_same _ _ _) (s_mod (by decide) ?_)))
    have e2 : ((i : Int) % 2) = ((i % 2 : Nat) : Int) := rfl
    rw [e2]
    have hw : link (i + 1) s q = if i % 2 = 0 then .add (link i s q) (.num 0) else .add (.num 0) (link i s q) := rfl
    refine s_idxL ha (v := (link (i + 1) s q).v) ?_ (st_nil (hN _ _ ⟨Env.set_same _ _ _, Hp.le_trans le le₁⟩))
    rw [hw]
    rcases Nat.mod_two_eq_zero_or_one i with e | e
    · rw [e]; rfl
    · rw [e]; rfl
  · rintro ρ σ' ⟨e1, le⟩
    rw [Int.sub_zero, Int.toNat_natCast] at e1
    refine st_cons ?_
    dsimp only [RS.S.ret, RS.S.expr, RS.S.assign, RS.S.ite, RS.S.for_, RS.S.while_, RS.S.raise, RS.S.pass, RS.T.var, RS.T.idx, RS.T.attr, RS.T.tup2, RS.X.none, RS.X.bool, RS.X.num, RS.X.str, RS.X.var, RS.X.glob, RS.X.bin, RS.X.neg, RS.X.not, RS.X.bop, RS.X.cmp, RS.X.cmp2, RS.X.call, RS.X.bi, RS.X.meth, RS.X.idx, RS.X.slice, RS.X.rev, RS.X.attr, RS.X.tup, RS.X.lst, RS.X.emptyDict, RS.X.dict1, RS.X.comp, RS.Src.range1, RS.Src.range2, RS.Src.of, RS.wpT, RS.wpEs, RS.wpBop, RS.wpIfs]
    exact s_get e1 (h σ' le)
end


/-! ### what is due -/
noncomputable def optV : Option Int → V
  | some x => .int x
  | none => .none
theorem dv_opt (D : Pl → Option Int) (p : Pl) : dv D p = optV (D p) := by unfold dv; cases D p <;> rfl
noncomputable def bk : Option Nat → Int
  | some b => b
  | none => -1
/-- the numbers that stand, as a dict -/
noncomputable def HeadsAt (σ : Hp) (hd : Nat) (H : Nat → Option Int) : Prop := ∃ es ep, σ hd = some (.dci es ep) ∧ (∀ k : Nat, dget es (k : Int) = (H k).map V.int) ∧ (∀ e ∈ es, ∃ k : Nat, e.1 = (k : Int)) ∧ es.length ≤ 2
theorem HeadsAt.le {σ σ' : Hp} {hd : Nat} {H : Nat → Option Int} (h : HeadsAt σ hd H) (l : σ.le σ') : HeadsAt σ' hd H := by
  obtain ⟨es, ep, h1, h2⟩ := h; exact ⟨es, ep, l _ _ h1, h2⟩
theorem HeadsAt.isIn {σ : Hp} {hd : Nat} {H : Nat → Option Int} (h : HeadsAt σ hd H) {k : Nat} {B : Bool → Prop} (q : B (H k).isSome) : inP σ B (.int k) (.ref hd) := by
  obtain ⟨es, ep, h1, h2, _⟩ := h
  refine .dci h1 ?_
  rw [h2 k, Option.isSome_map]; exact q
theorem HeadsAt.idx {σ : Hp} {hd : Nat} {H : Nat → Option Int} (h : HeadsAt σ hd H) {k : Nat} {x : Int} (e : H k = some x) {g : Glb} {Q : VP} (q : Q (.int x) σ) : idxP g σ Q (.ref hd) (.int k) := by
  obtain ⟨es, ep, h1, h2, _⟩ := h
  exact .dci h1 (by rw [h2 k, e]; rfl) q
theorem tnf : ¬ true = false := by decide
theorem mapD_congr {ps : List Pl} {g g' : Pl → V} (h : ∀ p ∈ ps, g p = g' p) : mapD ps g = mapD ps g' := List.map_congr_left fun p hp => by rw [h p hp]
noncomputable def namesD : List String := ["_law_row_here", "_law_step", "_law_heads", "_law_back", "_law_found"]
structure LD (rw hd fo : Nat) (s b : Int) (ρ : Env) : Prop where
  r : ρ "_law_row_here" = some (.ref rw)
  s : ρ "_law_step" = some (.int s)
  h : ρ "_law_heads" = some (.ref hd)
  b : ρ "_law_back" = some (.int b)
  f : ρ "_law_found" = some (.ref fo)
theorem LD.set {rw hd fo : Nat} {s b : Int} {ρ : Env} (L : LD rw hd fo s b ρ) {x : String} (v : V) (h : x ∉ namesD) : LD rw hd fo s b (ρ.set x v) := by
  have ne : ∀ y, y ∈ namesD → y ≠ x := fun y hy e => h (e ▸ hy)
  exact ⟨(Env.set_ne _ _ (ne _ (by decide))).trans L.r, (Env.set_ne _ _ (ne _ (by decide))).trans L.s, (Env.set_ne _ _ (ne _ (by decide))).trans L.h, (Env.set_ne _ _ (ne _ (by decide))).trans L.b, (Env.set_ne _ _ (ne _ (by decide))).trans L.f⟩

section
variable {W : Wd} {k : Nat} {h w : Nat} {row : List Pl} {H : Nat → Option Int} {s : Int} {back : Option Nat} {m : Nat} {f : Pl → Rule}
theorem take_mid {row : List Pl} {i : Nat} (hi : i < row.length) : row.take (i + 1) = row.take i ++ [row[i]] := List.take_succ_eq_append_getElem hi
theorem not_take {row : List Pl} (hn : row.Nodup) {i : Nat} (hi : i < row.length) : row[i] ∉ row.take i := fun hm => by
  obtain ⟨j, hj, e⟩ := List.getElem_of_mem hm
  rw [List.length_take] at hj
  rw [List.getElem_take] at e
  exact Nat.ne_of_lt (Nat.lt_of_lt_of_le hj (Nat.min_le_left _ _)) (inj_get hn e)
theorem A_eq (h0 : H 0 ≠ none ∨ back = none) (k : Nat) : Dk H s back k = A H s k := by
  cases e : A H s k with
  | some x => exact D_some e
  | none =>
    rw [D_none e]
    rcases h0 with h0 | rfl
    · exact absurd (A_none.mp e 0 (Nat.zero_le _)) h0
    · rfl
theorem A_eq2 {b i k : Nat} (h0 : A H s b = none ∨ (H i ≠ none ∧ i ≤ k)) : Dk H s (some b) k = A H s k := by
  cases e : A H s k with
  | some x => exact D_some e
  | none =>
    rw [D_none e]
    rcases h0 with h0 | ⟨h0, hi⟩
    · show (A H s b).map _ = none; rw [h0]; rfl
    · exact absurd (A_none.mp e i hi) h0
theorem due_ok (E : Env14 W) (F : Fit h w row H s back m f) {rw hd : Nat} (σ : Hp) (hr : σ rw = some (.lst (row.map pv))) (hh : HeadsAt σ hd H) (Q : VP)
    (hQ : ∀ b ep σ', σ.le σ' → σ' b = some (.dct (mapD row (dv (DP row H s back))) ep) → Q (.ref b) σ') : callP W 1 "_law_due" [.ref rw, .int s, .ref hd, .int (bk back)] σ Q noX := by
  refine call_ok E.S.T E.due rfl ?_
  dsimp only [b_law_due, p_law_due, bindP]
  have lok : ∀ n, n ≤ 144 → lenOk n := fun n hn => Nat.le_trans hn (by decide)
  have lrg : lenOk (((row.map pv).length : Int) - 0).toNat := by rw [Int.sub_zero, Int.toNat_natCast, List.length_map]; exact lok _ F.R.n1
  refine st_cons ?_
  dsimp only [RS.S.ret, RS.S.expr, RS.S.assign, RS.S.ite, RS.S.for_, RS.S.while_, RS.S.raise, RS.S.pass, RS.T.var, RS.T.idx, RS.T.attr, RS.T.tup2, RS.X.none, RS.X.bool, RS.X.num, RS.X.str, RS.X.var, RS.X.glob, RS.X.bin, RS.X.neg, RS.X.not, RS.X.bop, RS.X.cmp, RS.X.cmp2, RS.X.call, RS.X.bi, RS.X.meth, RS.X.idx, RS.X.slice, RS.X.rev, RS.X.attr, RS.X.tup, RS.X.lst, RS.X.emptyDict, RS.X.dict1, RS.X.comp, RS.Src.range1, RS.Src.range2, RS.Src.of, RS.wpT, RS.wpEs, RS.wpBop, RS.wpIfs]
  refine .inl (s_newG fun fo σ₁ nf le₁ hfo => st_cons ?_)
  dsimp only [RS.S.ret, RS.S.expr, RS.S.assign, RS.S.ite, RS.S.for_, RS.S.while_, RS.S.raise, RS.S.pass, RS.T.var, RS.T.idx, RS.T.attr, RS.T.tup2, RS.X.none, RS.X.bool, RS.X.num, RS.X.str, RS.X.var, RS.X.glob, RS.X.bin, RS.X.neg, RS.X.not, RS.X.bop, RS.X.cmp, RS.X.cmp2, RS.X.call, RS.X.bi, RS.X.meth, RS.X.idx, RS.X.slice, RS.X.rev, RS.X.attr, RS.X.tup, RS.X.lst, RS.X.emptyDict, RS.X.dict1, RS.X.comp, RS.Src.range1, RS.Src.range2, RS.Src.of, RS.wpT, RS.wpEs, RS.wpBop, RS.wpIfs]
  refine st_cons ?_
  dsimp only [RS.S.ret, RS.S.expr, RS.S.assign, RS.S.ite, RS.S.for_, RS.S.while_, RS.S.raise, RS.S.pass, RS.T.var, RS.T.idx, RS.T.attr, RS.T.tup2, RS.X.none, RS.X.bool, RS.X.num, RS.X.str, RS.X.var, RS.X.glob, RS.X.bin, RS.X.neg, RS.X.not, RS.X.bop, RS.X.cmp, RS.X.cmp2, RS.X.call, RS.X.bi, RS.X.meth, RS.X.idx, RS.X.slice, RS.X.rev, RS.X.attr, RS.X.tup, RS.X.lst, RS.X.emptyDict, RS.X.dict1, RS.X.comp, RS.Src.range1, RS.Src.range2, RS.Src.of, RS.wpT, RS.wpEs, RS.wpBop, RS.wpIfs]
  have fin : ∀ (ρ : Env) (σ' : Hp) (N : NP) (ep : Nat) (g : Pl → V), ρ "_law_found" = some (.ref fo) → σ.le σ' → σ' fo = some (.dct (mapD row g) ep) → (∀ k (hk : k < row.length), g row[k] = optV (Dk H s back k)) → wpSs [.ret (.var "_law_found")] (glb W 0) ρ σ' N Q (fun _ _ _ => False) := by
    intro ρ σ' N ep g e le hg hgr
    refine st_cons (s_get e (hQ fo ep σ' le ?_))
    rw [hg]
    refine congrArg (fun l => some (Cell.dct l ep)) (mapD_congr fun p hp => ?_)
    obtain ⟨k, hk, rfl⟩ := row_at hp
    rw [hgr k hk, dv_opt, DP_row F.R hk]
  refine s_get rfl (s_lenL (le₁ _ _ hr) (s_range lrg ?_))
  refine forL_range (fun i ρ σ' => LD rw hd fo s (bk back) ρ ∧ σ.le σ' ∧ ∃ (ep : Nat) (o : Option Int), σ' fo = some (.dct (mapD (row.take i) fun p => optV (A H s (ix row p))) ep) ∧ ρ "_law_value" = some (optV o) ∧ ∀ j, i = j + 1 → o = A H s j) ?_ (fun _ => trivial) ?_ ?_
  · exact ⟨⟨rfl, rfl, rfl, rfl, rfl⟩, le₁, 0, none, hfo, rfl, fun j e => by cases e⟩
  · rintro i ρ σ' N' hi ⟨L, le, ep, o, hfo, ev, ho⟩ hN
    rw [Int.zero_add, List.length_map] at hi
    have hi : i < row.length := Int.ofNat_lt.mp hi
    rw [Int.zero_add]
    have rest : ∀ (ρ₂ : Env), LD rw hd fo s (bk back) ρ₂ → ρ₂ "_law_k" = some (.int i) → ρ₂ "_law_value" = some (optV (A H s i)) → wpSs [.assign (.idx (.var "_law_found") (.idx (.var "_law_row_here") (.var "_law_k"))) (.var "_law_value")] (glb W 0) ρ₂ σ' N' Q (fun _ _ _ => False) := by
      intro ρ₂ L₂ ek ev₂
      refine st_cons ?_
      dsimp only [RS.S.ret, RS.S.expr, RS.S.assign, RS.S.ite, RS.S.for_, RS.S.while_, RS.S.raise, RS.S.pass, RS.T.var, RS.T.idx, RS.T.attr, RS.T.tup2, RS.X.none, RS.X.bool, RS.X.num, RS.X.str, RS.X.var, RS.X.glob, RS.X.bin, RS.X.neg, RS.X.not, RS.X.bop, RS.X.cmp, RS.X.cmp2, RS.X.call, RS.X.bi, RS.X.meth, RS.X.idx, RS.X.slice, RS.X.rev, RS.X.attr, RS.X.tup, RS.X.lst, RS.X.emptyDict, RS.X.dict1, RS.X.comp, RS.Src.range1, RS.Src.range2, RS.Src.of, RS.wpT, RS.wpEs, RS.wpBop, RS.wpIfs]
      have hg : pyGet (row.map pv) (i : Int) = some (pv row[i]) := by rw [get_nat (by rw [List.length_map]; exact hi), List.getElem_map]
      refine s_get ev₂ (s_get L₂.f (s_get L₂.r (s_get ek (s_idxL (le _ _ hr) hg (s_storeD hfo (k := pk row[i]) rfl (lok _ (by rw [mapD_length, List.length_take]; exact Nat.le_trans (Nat.min_le_right _ _) F.R.n1)) fun ep' => st_nil (hN _ _ ⟨L₂, Hp.le_upd _ le nf, ep', A H s i, ?_, ev₂, fun j e => by cases e; rfl⟩))))))
      rw [Hp.set_same, dput_mapD_not (not_take F.R.nd hi), take_mid hi]
      have e1 : optV (A H s i) = (fun p => optV (A H s (ix row p))) row[i] := by show _ = optV (A H s (ix row row[i])); rw [ix_row F.R.nd hi]
      rw [e1, updF_id]
    have L' := L.set (x := "_law_k") (.int i) (by decide)
    have ek := Env.set_same ρ "_law_k" (.int i)
    have ev' := (Env.set_ne ρ (.int i) (by decide : "_law_value" ≠ "_law_k")).trans ev
    generalize ρ.set "_law_k" (.int i) = ρ₁ at *
    have hh' := hh.le le
    refine st_cons ?_
    dsimp only [RS.S.ret, RS.S.expr, RS.S.assign, RS.S.ite, RS.S.for_, RS.S.while_, RS.S.raise, RS.S.pass, RS.T.var, RS.T.idx, RS.T.attr, RS.T.tup2, RS.X.none, RS.X.bool, RS.X.num, RS.X.str, RS.X.var, RS.X.glob, RS.X.bin, RS.X.neg, RS.X.not, RS.X.bop, RS.X.cmp, RS.X.cmp2, RS.X.call, RS.X.bi, RS.X.meth, RS.X.idx, RS.X.slice, RS.X.rev, RS.X.attr, RS.X.tup, RS.X.lst, RS.X.emptyDict, RS.X.dict1, RS.X.comp, RS.Src.range1, RS.Src.range2, RS.Src.of, RS.wpT, RS.wpEs, RS.wpBop, RS.wpIfs]
    refine s_get ek (s_get L'.h (.isIn (hh'.isIn (s_truth rfl ?_))))
    cases eH : H i with
    | some x =>
      refine s_ifT rfl (st_cons ?_)
      dsimp only [RS.S.ret, RS.S.expr, RS.S.assign, RS.S.ite, RS.S.for_, RS.S.while_, RS.S.raise, RS.S.pass, RS.T.var, RS.T.idx, RS.T.attr, RS.T.tup2, RS.X.none, RS.X.bool, RS.X.num, RS.X.str, RS.X.var, RS.X.glob, RS.X.bin, RS.X.neg, RS.X.not, RS.X.bop, RS.X.cmp, RS.X.cmp2, RS.X.call, RS.X.bi, RS.X.meth, RS.X.idx, RS.X.slice, RS.X.rev, RS.X.attr, RS.X.tup, RS.X.lst, RS.X.emptyDict, RS.X.dict1, RS.X.comp, RS.Src.range1, RS.Src.range2, RS.Src.of, RS.wpT, RS.wpEs, RS.wpBop, RS.wpIfs]
      exact s_get L'.h (s_get ek (hh'.idx eH (st_nil (rest _ (L'.set _ (by decide)) ((Env.set_ne _ _ (by decide)).trans ek) (by rw [A_head eH]; exact Env.set_same _ _ _)))))
    | none =>
      refine s_ifF Bool.false_ne_true (st_cons ?_)
      dsimp only [RS.S.ret, RS.S.expr, RS.S.assign, RS.S.ite, RS.S.for_, RS.S.while_, RS.S.raise, RS.S.pass, RS.T.var, RS.T.idx, RS.T.attr, RS.T.tup2, RS.X.none, RS.X.bool, RS.X.num, RS.X.str, RS.X.var, RS.X.glob, RS.X.bin, RS.X.neg, RS.X.not, RS.X.bop, RS.X.cmp, RS.X.cmp2, RS.X.call, RS.X.bi, RS.X.meth, RS.X.idx, RS.X.slice, RS.X.rev, RS.X.attr, RS.X.tup, RS.X.lst, RS.X.emptyDict, RS.X.dict1, RS.X.comp, RS.Src.range1, RS.Src.range2, RS.Src.of, RS.wpT, RS.wpEs, RS.wpBop, RS.wpIfs]
      refine s_get ek (s_eqI (s_truth rfl ?_))
      cases i with
      | zero =>
        refine s_ifT rfl (st_cons ?_)
        dsimp only [RS.S.ret, RS.S.expr, RS.S.assign, RS.S.ite, RS.S.for_, RS.S.while_, RS.S.raise, RS.S.pass, RS.T.var, RS.T.idx, RS.T.attr, RS.T.tup2, RS.X.none, RS.X.bool, RS.X.num, RS.X.str, RS.X.var, RS.X.glob, RS.X.bin, RS.X.neg, RS.X.not, RS.X.bop, RS.X.cmp, RS.X.cmp2, RS.X.call, RS.X.bi, RS.X.meth, RS.X.idx, RS.X.slice, RS.X.rev, RS.X.attr, RS.X.tup, RS.X.lst, RS.X.emptyDict, RS.X.dict1, RS.X.comp, RS.Src.range1, RS.Src.range2, RS.Src.of, RS.wpT, RS.wpEs, RS.wpBop, RS.wpIfs]
        exact st_nil (st_nil (rest _ (L'.set _ (by decide)) ((Env.set_ne _ _ (by decide)).trans ek) (by rw [show A H s 0 = none from eH]; exact Env.set_same _ _ _)))
      | succ i =>
        have hA := A_next (s := s) eH
        rw [← ho i rfl] at hA
        refine s_ifF (fun e => Int.natCast_ne_zero.mpr (Nat.succ_ne_zero i) (of_decide_eq_true e)) (st_cons ?_)
        dsimp only [RS.S.ret, RS.S.expr, RS.S.assign, RS.S.ite, RS.S.for_, RS.S.while_, RS.S.raise, RS.S.pass, RS.T.var, RS.T.idx, RS.T.attr, RS.T.tup2, RS.X.none, RS.X.bool, RS.X.num, RS.X.str, RS.X.var, RS.X.glob, RS.X.bin, RS.X.neg, RS.X.not, RS.X.bop, RS.X.cmp, RS.X.cmp2, RS.X.call, RS.X.bi, RS.X.meth, RS.X.idx, RS.X.slice, RS.X.rev, RS.X.attr, RS.X.tup, RS.X.lst, RS.X.emptyDict, RS.X.dict1, RS.X.comp, RS.Src.range1, RS.Src.range2, RS.Src.of, RS.wpT, RS.wpEs, RS.wpBop, RS.wpIfs]
        refine s_get ev' (s_isNot (s_truth rfl ?_))
        cases o with
        | none => exact s_ifF Bool.false_ne_true (st_nil (st_nil (st_nil (rest _ L' ek (by rw [hA]; exact ev')))))
        | some x =>
          refine s_ifT rfl (st_cons ?_)
          dsimp only [RS.S.ret, RS.S.expr, RS.S.assign, RS.S.ite, RS.S.for_, RS.S.while_, RS.S.raise, RS.S.pass, RS.T.var, RS.T.idx, RS.T.attr, RS.T.tup2, RS.X.none, RS.X.bool, RS.X.num, RS.X.str, RS.X.var, RS.X.glob, RS.X.bin, RS.X.neg, RS.X.not, RS.X.bop, RS.X.cmp, RS.X.cmp2, RS.X.call, RS.X.bi, RS.X.meth, RS.X.idx, RS.X.slice, RS.X.rev, RS.X.attr, RS.X.tup, RS.X.lst, RS.X.emptyDict, RS.X.dict1, RS.X.comp, RS.Src.range1, RS.Src.range2, RS.Src.of, RS.wpT, RS.wpEs, RS.wpBop, RS.wpIfs]
          exact s_get ev' (s_get L'.s (s_add (st_nil (st_nil (st_nil (rest _ (L'.set _ (by decide)) ((Env.set_ne _ _ (by decide)).trans ek) (by rw [hA]; exact Env.set_same _ _ _)))))))
  · rintro ρ σ' ⟨L, le, ep, o, hfo, _, _⟩
    rw [Int.sub_zero, Int.toNat_natCast, List.length_map, List.take_length] at hfo
    have hh' := hh.le le
    have gA : ∀ k (hk : k < row.length), (fun p => optV (A H s (ix row p))) row[k] = optV (A H s k) := fun k hk => by show optV (A H s (ix row row[k])) = _; rw [ix_row F.R.nd hk]
    refine st_cons ?_
    dsimp only [RS.S.ret, RS.S.expr, RS.S.assign, RS.S.ite, RS.S.for_, RS.S.while_, RS.S.raise, RS.S.pass, RS.T.var, RS.T.idx, RS.T.attr, RS.T.tup2, RS.X.none, RS.X.bool, RS.X.num, RS.X.str, RS.X.var, RS.X.glob, RS.X.bin, RS.X.neg, RS.X.not, RS.X.bop, RS.X.cmp, RS.X.cmp2, RS.X.call, RS.X.bi, RS.X.meth, RS.X.idx, RS.X.slice, RS.X.rev, RS.X.attr, RS.X.tup, RS.X.lst, RS.X.emptyDict, RS.X.dict1, RS.X.comp, RS.Src.range1, RS.Src.range2, RS.Src.of, RS.wpT, RS.wpEs, RS.wpBop, RS.wpIfs]
    refine s_get L.b (s_ge (s_truth rfl ?_))
    cases back with
    | none => exact s_ifF (by decide) (s_truth rfl (s_ifF (by decide) (st_nil (fin ρ σ' _ ep _ L.f le hfo fun k hk => (gA k hk).trans (by rw [A_eq (.inr rfl)])))))
    | some b =>
      have hb := F.hb b rfl
      refine s_ifT (decide_eq_true (Int.natCast_nonneg b)) (s_get L.h (.notIn (hh'.isIn (k := 0) (s_truth rfl ?_))))
      cases e0 : H 0 with
      | some x => exact s_ifF Bool.false_ne_true (st_nil (fin ρ σ' _ ep _ L.f le hfo fun k hk => (gA k hk).trans (by rw [A_eq (.inl (by rw [e0]; exact Option.some_ne_none _))])))
      | none =>
        refine s_ifT rfl (st_cons ?_)
        dsimp only [RS.S.ret, RS.S.expr, RS.S.assign, RS.S.ite, RS.S.for_, RS.S.while_, RS.S.raise, RS.S.pass, RS.T.var, RS.T.idx, RS.T.attr, RS.T.tup2, RS.X.none, RS.X.bool, RS.X.num, RS.X.str, RS.X.var, RS.X.glob, RS.X.bin, RS.X.neg, RS.X.not, RS.X.bop, RS.X.cmp, RS.X.cmp2, RS.X.call, RS.X.bi, RS.X.meth, RS.X.idx, RS.X.slice, RS.X.rev, RS.X.attr, RS.X.tup, RS.X.lst, RS.X.emptyDict, RS.X.dict1, RS.X.comp, RS.Src.range1, RS.Src.range2, RS.Src.of, RS.wpT, RS.wpEs, RS.wpBop, RS.wpIfs]
        have hgb : pyGet (row.map pv) (b : Int) = some (pv row[b]) := by rw [get_nat (by rw [List.length_map]; exact hb), List.getElem_map]
        refine s_get L.f (s_get L.r (s_get L.b (s_idxL (le _ _ hr) hgb (s_idxD hfo (k := pk row[b]) (v := optV (A H s b)) rfl ((dget_mapD (List.getElem_mem hb)).trans (congrArg some (gA b hb))) ?_))))
        refine st_cons ?_
        dsimp only [RS.S.ret, RS.S.expr, RS.S.assign, RS.S.ite, RS.S.for_, RS.S.while_, RS.S.raise, RS.S.pass, RS.T.var, RS.T.idx, RS.T.attr, RS.T.tup2, RS.X.none, RS.X.bool, RS.X.num, RS.X.str, RS.X.var, RS.X.glob, RS.X.bin, RS.X.neg, RS.X.not, RS.X.bop, RS.X.cmp, RS.X.cmp2, RS.X.call, RS.X.bi, RS.X.meth, RS.X.idx, RS.X.slice, RS.X.rev, RS.X.attr, RS.X.tup, RS.X.lst, RS.X.emptyDict, RS.X.dict1, RS.X.comp, RS.Src.range1, RS.Src.range2, RS.Src.of, RS.wpT, RS.wpEs, RS.wpBop, RS.wpIfs]
        have L1 := L.set (x := "_law_end") (optV (A H s b)) (by decide)
        refine s_get L1.r (s_lenL (le _ _ hr) (s_range lrg ?_))
        refine forL_range (fun i ρ σ' => A5 (LD rw hd fo s b ρ) (ρ "_law_end" = some (optV (A H s b))) (σ.le σ') (∀ j, j < i → H j = none) (∃ (ep : Nat) (g : Pl → V), σ' fo = some (.dct (mapD row g) ep) ∧ ∀ k (hk : k < row.length), g row[k] = optV (if k < i then Dk H s (some b) k else A H s k))) ?_ (fun _ => trivial) ?_ ?_
        · exact ⟨L1, Env.set_same _ _ _, le, fun j hj => (Nat.not_lt_zero _ hj).elim, ep, _, hfo, fun k hk => (gA k hk).trans (by rw [if_neg (Nat.not_lt_zero _)])⟩
        · clear hfo L1 L gA hgb
          rintro i ρ σ' N' hi ⟨L, ee, le, hH, ep, g, hfo, hg⟩ hN
          rw [Int.zero_add, List.length_map] at hi
          have hi : i < row.length := Int.ofNat_lt.mp hi
          rw [Int.zero_add]
          have L' := L.set (x := "_law_k") (.int i) (by decide)
          have ek := Env.set_same ρ "_law_k" (.int i)
          have ee' := (Env.set_ne ρ (.int i) (by decide : "_law_end" ≠ "_law_k")).trans ee
          generalize ρ.set "_law_k" (.int i) = ρ₁ at *
          have hh' := hh.le le
          have out : A H s b = none ∨ H i ≠ none → ∀ N, wpSs [.ret (.var "_law_found")] (glb W 0) ρ₁ σ' N Q (fun _ _ _ => False) := fun ho N => fin ρ₁ σ' N ep g L'.f le hfo fun k hk => by
            rw [hg k hk]
            by_cases hki : k < i
            · rw [if_pos hki]
            · rw [if_neg hki, A_eq2 (ho.imp id fun h => ⟨h, Nat.not_lt.mp hki⟩)]
          refine st_cons ?_
          dsimp only [RS.S.ret, RS.S.expr, RS.S.assign, RS.S.ite, RS.S.for_, RS.S.while_, RS.S.raise, RS.S.pass, RS.T.var, RS.T.idx, RS.T.attr, RS.T.tup2, RS.X.none, RS.X.bool, RS.X.num, RS.X.str, RS.X.var, RS.X.glob, RS.X.bin, RS.X.neg, RS.X.not, RS.X.bop, RS.X.cmp, RS.X.cmp2, RS.X.call, RS.X.bi, RS.X.meth, RS.X.idx, RS.X.slice, RS.X.rev, RS.X.attr, RS.X.tup, RS.X.lst, RS.X.emptyDict, RS.X.dict1, RS.X.comp, RS.Src.range1, RS.Src.range2, RS.Src.of, RS.wpT, RS.wpEs, RS.wpBop, RS.wpIfs]
          refine s_get ek (s_get L'.h (.isIn (hh'.isIn (s_truth rfl ?_))))
          cases eH : H i with
          | some x => exact s_ifF tnf (s_truth rfl (s_ifT rfl (out (.inr (by rw [eH]; exact Option.some_ne_none _)) _)))
          | none =>
            refine s_ifT rfl (s_get ee' (s_is (s_truth rfl ?_)))
            cases eb : A H s b with
            | none => exact s_ifT rfl (out (.inl eb) _)
            | some e =>
              rw [eb] at ee'
              refine s_ifF Bool.false_ne_true (st_nil (st_cons ?_))
              dsimp only [RS.S.ret, RS.S.expr, RS.S.assign, RS.S.ite, RS.S.for_, RS.S.while_, RS.S.raise, RS.S.pass, RS.T.var, RS.T.idx, RS.T.attr, RS.T.tup2, RS.X.none, RS.X.bool, RS.X.num, RS.X.str, RS.X.var, RS.X.glob, RS.X.bin, RS.X.neg, RS.X.not, RS.X.bop, RS.X.cmp, RS.X.cmp2, RS.X.call, RS.X.bi, RS.X.meth, RS.X.idx, RS.X.slice, RS.X.rev, RS.X.attr, RS.X.tup, RS.X.lst, RS.X.emptyDict, RS.X.dict1, RS.X.comp, RS.Src.range1, RS.Src.range2, RS.Src.of, RS.wpT, RS.wpEs, RS.wpBop, RS.wpIfs]
              have hgi : pyGet (row.map pv) (i : Int) = some (pv row[i]) := by rw [get_nat (by rw [List.length_map]; exact hi), List.getElem_map]
              have sms : small s := ⟨Int.le_trans (by decide) F.hs.1, Int.lt_of_le_of_lt F.hs.2 (by decide)⟩
              refine s_get ee' (s_get L'.s (s_get ek (s_add (s_mul (.inl sms) (s_add (s_get L'.f (s_get L'.r (s_get ek (s_idxL (le _ _ hr) hgi (s_storeD hfo (k := pk row[i]) rfl (lok _ (by rw [mapD_length]; exact F.R.n1)) fun ep' => st_nil (hN _ _ ⟨L', by rw [eb]; exact ee', Hp.le_upd _ le nf, ?_, ep', _, by rw [Hp.set_same, dput_mapD (List.getElem_mem hi)], ?_⟩)))))))))))
              · intro j hj
                rcases Nat.lt_or_eq_of_le (Nat.le_of_lt_succ hj) with hj | rfl
                · exact hH j hj
                · exact eH
              · intro k hk
                by_cases hki : k = i
                · subst hki
                  rw [updF_same, if_pos (Nat.lt_succ_self _), D_none (A_none.mpr fun j hj => (Nat.lt_or_eq_of_le hj).elim (hH j) fun e => e ▸ eH)]
                  show _ = optV ((A H s b).map _)
                  rw [eb]; rfl
                · rw [updF_ne _ _ (fun e => hki (inj_get F.R.nd e)), hg k hk]
                  by_cases hk2 : k < i
                  · rw [if_pos hk2, if_pos (Nat.lt_succ_of_lt hk2)]
                  · rw [if_neg hk2, if_neg (fun e => (Nat.lt_or_eq_of_le (Nat.le_of_lt_succ e)).elim hk2 hki)]
        · rintro ρ σ' ⟨L, _, le, _, ep, g, hfo, hg⟩
          rw [Int.sub_zero, Int.toNat_natCast, List.length_map] at hg
          exact st_nil (fin ρ σ' _ ep g L.f le hfo fun k hk => by rw [hg k hk, if_pos hk])

/-! ### the values -/
theorem eq_optV {σ : Hp} {B : Bool → Prop} (o : Option Int) (q : B true) : eqP σ B (optV o) (optV o) := by
  cases o with
  | none => exact .gen (v := .none) (w := .none) rfl rfl q
  | some x => exact .int (by rw [decide_eq_true rfl]; exact q)
theorem values_ok (E : Env14 W) (z : Sz h w) (F : Fit h w row H s back m f) {a d c b ep : Nat} (σ : Hp) (S : SheetAt σ a d c h w f) (hb : σ b = some (.dct (mapD row (dv (DP row H s back))) ep)) (Q : VP)
    (hQ : ∀ σ', σ.le σ' → Q (.bool true) σ') : callP W 12 "_law_values" [.ref a, .ref b] σ Q noX := by
  have n1 : (glb W 11).has "reckoned" = true := E.S.has (by decide)
  refine call_ok E.S.T E.values rfl ?_
  dsimp only [b_law_values, p_law_values, bindP]
  refine st_cons ?_
  dsimp only [RS.S.ret, RS.S.expr, RS.S.assign, RS.S.ite, RS.S.for_, RS.S.while_, RS.S.raise, RS.S.pass, RS.T.var, RS.T.idx, RS.T.attr, RS.T.tup2, RS.X.none, RS.X.bool, RS.X.num, RS.X.str, RS.X.var, RS.X.glob, RS.X.bin, RS.X.neg, RS.X.not, RS.X.bop, RS.X.cmp, RS.X.cmp2, RS.X.call, RS.X.bi, RS.X.meth, RS.X.idx, RS.X.slice, RS.X.rev, RS.X.attr, RS.X.tup, RS.X.lst, RS.X.emptyDict, RS.X.dict1, RS.X.comp, RS.Src.range1, RS.Src.range2, RS.Src.of, RS.wpT, RS.wpEs, RS.wpBop, RS.wpIfs]
  refine s_call n1 (s_get rfl ?_)
  refine gcall (m := 11) (by decide) (reckoned_ok E.S z σ S F.sol _ fun fo as σ₁ le₁ t => ?_)
  have hb1 := le₁ _ _ hb
  refine st_cons ?_
  dsimp only [RS.S.ret, RS.S.expr, RS.S.assign, RS.S.ite, RS.S.for_, RS.S.while_, RS.S.raise, RS.S.pass, RS.T.var, RS.T.idx, RS.T.attr, RS.T.tup2, RS.X.none, RS.X.bool, RS.X.num, RS.X.str, RS.X.var, RS.X.glob, RS.X.bin, RS.X.neg, RS.X.not, RS.X.bop, RS.X.cmp, RS.X.cmp2, RS.X.call, RS.X.bi, RS.X.meth, RS.X.idx, RS.X.slice, RS.X.rev, RS.X.attr, RS.X.tup, RS.X.lst, RS.X.emptyDict, RS.X.dict1, RS.X.comp, RS.Src.range1, RS.Src.range2, RS.Src.of, RS.wpT, RS.wpEs, RS.wpBop, RS.wpIfs]
  refine s_get rfl (s_srcD hb1 ?_)
  rw [mapD_kv]
  refine forL_data pv (fun _ ρ σ' => A4 (ρ "_law_sheet" = some (.ref a)) (ρ "_law_due_here" = some (.ref b)) (ρ "_law_found" = some (.ref fo)) (σ' = σ₁)) ⟨rfl, rfl, rfl, rfl⟩ (fun _ _ _ h => h.4 ▸ hb1) ?_ ?_
  · rintro pre p post ρ σ' N' hsp ⟨e1, e2, e3, rfl⟩ hN
    have hp := mem_mid hsp
    obtain ⟨ra, r, g1, g2, g3⟩ := tab_at t (F.R.on p hp)
    have e1 := (Env.set_ne ρ (pv p) (by decide : "_law_sheet" ≠ "_law_place")).trans e1
    have e2 := (Env.set_ne ρ (pv p) (by decide : "_law_due_here" ≠ "_law_place")).trans e2
    have e3 := (Env.set_ne ρ (pv p) (by decide : "_law_found" ≠ "_law_place")).trans e3
    have e4 := Env.set_same ρ "_law_place" (pv p)
    generalize ρ.set "_law_place" (pv p) = ρ₁ at *
    rw [dv_opt] at g3
    refine st_cons ?_
    dsimp only [RS.S.ret, RS.S.expr, RS.S.assign, RS.S.ite, RS.S.for_, RS.S.while_, RS.S.raise, RS.S.pass, RS.T.var, RS.T.idx, RS.T.attr, RS.T.tup2, RS.X.none, RS.X.bool, RS.X.num, RS.X.str, RS.X.var, RS.X.glob, RS.X.bin, RS.X.neg, RS.X.not, RS.X.bop, RS.X.cmp, RS.X.cmp2, RS.X.call, RS.X.bi, RS.X.meth, RS.X.idx, RS.X.slice, RS.X.rev, RS.X.attr, RS.X.tup, RS.X.lst, RS.X.emptyDict, RS.X.dict1, RS.X.comp, RS.Src.range1, RS.Src.range2, RS.Src.of, RS.wpT, RS.wpEs, RS.wpBop, RS.wpIfs]
    refine s_get e3 (s_get e4 (s_idxT (v := .int p.1) rfl (s_idxL t.hb g1 (s_get e4 (s_idxT (v := .int p.2) rfl (s_idxL g2 g3 (s_get e2 (s_get e4 (s_idxD hb1 (k := pk p) rfl (dget_mapD hp) ?_)))))))))
    rw [dv_opt]
    refine .ne (eq_optV _ (s_truth rfl (s_ifT rfl ?_)))
    refine s_get e3 (s_get e4 (s_idxT (v := .int p.1) rfl (s_idxL t.hb g1 (s_get e4 (s_idxT (v := .int p.2) rfl (s_idxL g2 g3 (s_get (E.glob (by decide)) (s_isi (b := false) (by decide) ?_ (s_truth rfl (s_ifF Bool.false_ne_true (st_nil (st_nil (hN _ _ ⟨e1, e2, e3, rfl⟩)))))))))))))
    cases DP row H s back p <;> rfl
  · rintro ρ σ' ⟨e1, e2, e3, rfl⟩
    have S1 := S.le le₁
    refine st_cons ?_
    dsimp only [RS.S.ret, RS.S.expr, RS.S.assign, RS.S.ite, RS.S.for_, RS.S.while_, RS.S.raise, RS.S.pass, RS.T.var, RS.T.idx, RS.T.attr, RS.T.tup2, RS.X.none, RS.X.bool, RS.X.num, RS.X.str, RS.X.var, RS.X.glob, RS.X.bin, RS.X.neg, RS.X.not, RS.X.bop, RS.X.cmp, RS.X.cmp2, RS.X.call, RS.X.bi, RS.X.meth, RS.X.idx, RS.X.slice, RS.X.rev, RS.X.attr, RS.X.tup, RS.X.lst, RS.X.emptyDict, RS.X.dict1, RS.X.comp, RS.Src.range1, RS.Src.range2, RS.Src.of, RS.wpT, RS.wpEs, RS.wpBop, RS.wpIfs]
    refine s_get e3 (s_lenL t.hb ⟨by decide, s_get e1 (s_attr S1.ia S1.id rfl (s_eqI ?_))⟩)
    rw [List.length_map, t.ln, List.length_map, List.length_range, decide_eq_true rfl]
    exact hQ _ le₁
end


/-! ### the order of places -/
theorem plt_iff {p q : Pl} : plt p q ↔ p.1 < q.1 ∨ (p.1 = q.1 ∧ p.2 < q.2) := by
  simp [plt, pk, ltL]
theorem plt_irrefl {p : Pl} : ¬ plt p p := fun h => (plt_iff.mp h).elim (Int.lt_irrefl _) fun h => Int.lt_irrefl _ h.2
theorem plt_trans {p q r : Pl} (h : plt p q) (k : plt q r) : plt p r := by
  rw [plt_iff] at *
  rcases h with h | ⟨h1, h2⟩
  · rcases k with k | ⟨k1, _⟩
    · exact .inl (Int.lt_trans h k)
    · exact .inl (k1 ▸ h)
  · rcases k with k | ⟨k1, k2⟩
    · exact .inl (h1 ▸ k)
    · exact .inr ⟨h1.trans k1, Int.lt_trans h2 k2⟩
theorem sorted_same : ∀ {l m : List Pl}, l.Pairwise plt → m.Pairwise plt → (∀ p, p ∈ l ↔ p ∈ m) → l = m
  | [], [], _, _, _ => rfl
  | [], q :: m, _, _, h => (List.not_mem_nil ((h q).mpr (.head _))).elim
  | p :: l, [], _, _, h => (List.not_mem_nil ((h p).mp (.head _))).elim
  | p :: l, q :: m, hl, hm, h => by
    rw [List.pairwise_cons] at hl hm
    have hpq : p = q := by
      rcases List.mem_cons.mp ((h p).mp (.head _)) with e | e
      · exact e
      · rcases List.mem_cons.mp ((h q).mpr (.head _)) with e' | e'
        · exact e'.symm
        · exact absurd (plt_trans (hm.1 p e) (hl.1 q e')) plt_irrefl
    subst hpq
    congr 1
    refine sorted_same hl.2 hm.2 fun x => ⟨fun hx => ?_, fun hx => ?_⟩
    · rcases List.mem_cons.mp ((h x).mp (.tail _ hx)) with rfl | h'
      · exact absurd (hl.1 x hx) plt_irrefl
      · exact h'
    · rcases List.mem_cons.mp ((h x).mpr (.tail _ hx)) with rfl | h'
      · exact absurd (hm.1 x hx) plt_irrefl
      · exact h'
theorem s_sortL {g : Glb} {σ : Hp} {Q : VP} {a : Nat} {ps : List Pl} (ha : σ a = some (.lst (ps.map pv))) (hn : ps.Nodup) (hl : ps.length ≤ 144)
    (q : ∀ (zs : List Pl) (b : Nat) (σ' : Hp), σ.le σ' → σ' b = some (.lst (zs.map pv)) → zs.Pairwise plt → (∀ p, p ∈ zs ↔ p ∈ ps) → Q (.ref b) σ') : biP g σ Q .sorted [.ref a] := by
  refine .sorted (ks := ps.map pk) (.lst (by rw [List.map_map]; exact ha)) (nodup_pk hn) (by rw [List.length_map]; exact Nat.le_trans hl (by decide)) pk_ne fun ys hp hs => ?_
  obtain ⟨zs, rfl, h1, h2⟩ := sortP hp hs
  exact s_newG fun b σ' _ le hb => q zs b σ' le (by rw [hb, List.map_map]; rfl) h1 h2
theorem slice_to {α : Type} (vs : List α) {j : Nat} (h : j ≤ vs.length) : pySlice vs none (some (j : Int)) = vs.take j := by
  show List.drop 0 (List.take (clip vs.length (j : Int)) vs) = _
  unfold clip
  rw [if_pos (Int.natCast_nonneg _), Int.toNat_natCast, Nat.min_eq_left h, List.drop_zero]
theorem mem_takeP {row : List Pl} {n : Nat} {p : Pl} : p ∈ row.take n ↔ ∃ k, ∃ hk : k < row.length, k < n ∧ row[k] = p := by
  rw [List.mem_take_iff_getElem]
  exact ⟨fun ⟨i, hi, e⟩ => ⟨i, Nat.lt_of_lt_of_le hi (Nat.min_le_right _ _), Nat.lt_of_lt_of_le hi (Nat.min_le_left _ _), e⟩, fun ⟨i, hi, hn, e⟩ => ⟨i, Nat.lt_min.mpr ⟨hn, hi⟩, e⟩⟩
theorem get_pv {row : List Pl} {i : Nat} (h : i < row.length) : pyGet (row.map pv) (i : Int) = some (pv row[i]) := by rw [get_nat (by rw [List.length_map]; exact h), List.getElem_map]
theorem isA_list {σ : Hp} {a : Nat} {vs : List V} (ha : σ a = some (.lst vs)) : V.isA σ (.ref a) "list" = some true := by
  show (match σ a with | some (.lst _) => some ("list" == "list") | _ => none) = _
  rw [ha]; rfl

section
variable {W : Wd} {k : Nat} {h w : Nat} {row : List Pl} {H : Nat → Option Int} {s : Int} {back : Option Nat} {m : Nat} {f : Pl → Rule}
noncomputable def headsX : RS.X := .cmp (.comp (.var "_law_k") "_law_k" (.range1 (.bin .add (.var "_law_back") (.num 1))) [.cmp (.var "_law_k") .isIn (.var "_law_heads")]) .ne (.lst [])
theorem comp_heads {σ : Hp} {hd b : Nat} (hh : HeadsAt σ hd H) (hb : b < 144) {ρ : Env} (e1 : ρ "_law_heads" = some (.ref hd)) (e2 : ρ "_law_back" = some (.int b)) {g : Glb} {Q : VP} {X : XP}
    (q : ∀ σ' bb, σ.le σ' → (bb = true ↔ ∃ j, j ≤ b ∧ H j ≠ none) → Q (.bool bb) σ') : headsX g ρ σ Q X := by
  unfold headsX
  dsimp only [RS.S.ret, RS.S.expr, RS.S.assign, RS.S.ite, RS.S.for_, RS.S.while_, RS.S.raise, RS.S.pass, RS.T.var, RS.T.idx, RS.T.attr, RS.T.tup2, RS.X.none, RS.X.bool, RS.X.num, RS.X.str, RS.X.var, RS.X.glob, RS.X.bin, RS.X.neg, RS.X.not, RS.X.bop, RS.X.cmp, RS.X.cmp2, RS.X.call, RS.X.bi, RS.X.meth, RS.X.idx, RS.X.slice, RS.X.rev, RS.X.attr, RS.X.tup, RS.X.lst, RS.X.emptyDict, RS.X.dict1, RS.X.comp, RS.Src.range1, RS.Src.range2, RS.Src.of, RS.wpT, RS.wpEs, RS.wpBop, RS.wpIfs]
  have hbt : ((b : Int) + 1 - 0).toNat = b + 1 := by rw [Int.sub_zero]; exact Int.toNat_natCast (b + 1)
  refine s_get e2 (s_add (s_range (by rw [hbt]; exact Nat.le_trans hb (by decide)) ?_))
  unfold rangeL
  rw [hbt]
  refine compL_fl (fun (k : Nat) => V.int (0 + k)) (fun (k : Nat) => V.int (0 + k)) (fun k => (H k).isSome) (fun _ _ => trivial) (by unfold lenOk; rw [List.length_range]; exact Nat.le_trans hb (by decide)) ?_ ?_
  · intro k _ σ₁ le₁ K' hK'
    have := hK' σ₁ (Hp.le_refl _)
    rw [Int.zero_add] at this ⊢
    refine s_get (Env.set_same _ _ _) (s_get ((Env.set_ne _ _ (by decide)).trans e1) (.isIn ((hh.le le₁).isIn (s_truth rfl (s_ifB (fun e => s_ifT rfl (s_get (Env.set_same _ _ _) ?_)) fun e => s_ifF Bool.false_ne_true ?_)))))
    · rw [e] at this; exact this
    · rw [e] at this; exact this
  intro σ₁ le₁
  refine s_newG fun a σ₂ na le₂ ha => s_newG fun c σ₃ nc le₃ hc => ?_
  refine s_neL0 (le₃ _ _ ha) hc (snap_all (fun (k : Nat) => V.int (0 + k)) (fun (k : Nat) => PyData.int (0 + k)) _ fun k _ => snap_int ..) (q σ₃ _ (Hp.le_trans le₁ (Hp.le_trans le₂ le₃)) ?_)
  cases e : (List.range (b + 1)).filter fun k => (H k).isSome with
  | nil =>
    refine ⟨fun h => (by cases h), fun ⟨j, hj, hn⟩ => ?_⟩
    have := List.filter_eq_nil_iff.mp e j (List.mem_range.mpr (Nat.lt_succ_of_le hj))
    exact absurd (Option.not_isSome_iff_eq_none.mp this) hn
  | cons j l =>
    have hj : j ∈ (List.range (b + 1)).filter fun k => (H k).isSome := by rw [e]; exact .head _
    obtain ⟨h1, h2⟩ := List.mem_filter.mp hj
    exact ⟨fun _ => ⟨j, Nat.le_of_lt_succ (List.mem_range.mp h1), fun e => by rw [e] at h2; cases h2⟩, fun _ => rfl⟩
theorem round_bop {σ : Hp} {hd : Nat} (hh : HeadsAt σ hd H) (hb : ∀ b, back = some b → b < 144) {ρ : Env} (e1 : ρ "_law_heads" = some (.ref hd)) (e2 : ρ "_law_back" = some (.int (bk back))) {g : Glb} {Q : VP} {X : XP}
    (q : ∀ σ' bb, σ.le σ' → (bb = true ↔ back = none ∨ ∃ b, back = some b ∧ ∃ j, j ≤ b ∧ H j ≠ none) → Q (.bool bb) σ') : wpBop false headsX [.cmp (.var "_law_back") .lt (.num 0)] g ρ σ Q X := by
  refine s_get e2 (s_lt (s_truth rfl ?_))
  cases back with
  | none => exact s_ifF tnf (q σ true (Hp.le_refl _) ⟨fun _ => .inl rfl, fun _ => rfl⟩)
  | some b =>
    refine s_ifT (decide_eq_false (Int.not_lt.mpr (Int.natCast_nonneg b))) (comp_heads (Q := Q) hh (hb b rfl) e1 e2 fun σ' bb le hbb => q σ' bb le (hbb.trans ⟨fun h => .inr ⟨b, rfl, h⟩, fun h => ?_⟩))
    rcases h with h | ⟨b', e, h⟩
    · cases h
    · cases e; exact h
theorem round_test {σ : Hp} {hd : Nat} (hh : HeadsAt σ hd H) (hb : ∀ b, back = some b → b < 144) {ρ : Env} (e1 : ρ "_law_heads" = some (.ref hd)) (e2 : ρ "_law_back" = some (.int (bk back))) {g : Glb} {ss rest : List S} {N : NP} {R : VP} {X : XPS}
    (q : ∀ σ' bb, σ.le σ' → (bb = true ↔ back = none ∨ ∃ b, back = some b ∧ ∃ j, j ≤ b ∧ H j ≠ none) → if bb = true then wpSs ss g ρ σ' (fun ρ' σ' => wpSs rest g ρ' σ' N R X) R X else wpSs rest g ρ σ' N R X) : wpSs (.ite (.bop false [.cmp (.var "_law_back") .lt (.num 0)] headsX) ss [] :: rest) g ρ σ N R X :=
  st_cons (round_bop (Q := fun v σ₁ => ∃ b, truth v = some b ∧ if b = true then wpSs ss g ρ σ₁ (fun ρ' σ' => wpSs rest g ρ' σ' N R X) R X else wpSs [] g ρ σ₁ (fun ρ' σ' => wpSs rest g ρ' σ' N R X) R X) hh hb e1 e2 fun σ' bb le h => s_truth rfl (q σ' bb le h))

noncomputable def av (nx : Pl → Option Pl) (p : Pl) : V := match nx p with
  | some q => pv q
  | none => .none
theorem av_some {nx : Pl → Option Pl} {p q : Pl} (h : nx p = some q) : av nx p = pv q := by unfold av; rw [h]
theorem Cyc.at {nx : Pl → Option Pl} {ps c : List Pl} (C : Cyc nx ps c) (k : Nat) (hk : k < c.length) : ∃ x ∈ c, pyGet (c.map pv) ((k : Int) - 1) = some (pv x) ∧ nx x = some c[k] := by
  cases k with
  | zero =>
    obtain ⟨l, q, c', hc, hq, hl⟩ := C.lp
    rw [List.getElem?_eq_getElem hk] at hq
    refine ⟨l, by rw [hc]; exact List.mem_append_right _ (.head _), ?_, hl.trans hq.symm⟩
    rw [hc, List.map_append]; exact get_last _ _
  | succ k =>
    have hk' := Nat.lt_of_succ_lt hk
    refine ⟨c[k], List.getElem_mem hk', ?_, C.ch k hk⟩
    rw [Int.natCast_succ, Int.add_sub_cancel, get_pv hk']
noncomputable def namesR : List String := ["_law_row_here", "_law_back", "_law_found", "_law_ahead"]
structure LR (rw cb ah : Nat) (b : Int) (ρ : Env) : Prop where
  r : ρ "_law_row_here" = some (.ref rw)
  b : ρ "_law_back" = some (.int b)
  f : ρ "_law_found" = some (.ref cb)
  a : ρ "_law_ahead" = some (.ref ah)
theorem LR.set {rw cb ah : Nat} {b : Int} {ρ : Env} (L : LR rw cb ah b ρ) {x : String} (v : V) (h : x ∉ namesR) : LR rw cb ah b (ρ.set x v) := by
  have ne : ∀ y, y ∈ namesR → y ≠ x := fun y hy e => h (e ▸ hy)
  exact ⟨(Env.set_ne _ _ (ne _ (by decide))).trans L.r, (Env.set_ne _ _ (ne _ (by decide))).trans L.b, (Env.set_ne _ _ (ne _ (by decide))).trans L.f, (Env.set_ne _ _ (ne _ (by decide))).trans L.a⟩
/-- the ring goes the right way round -/
theorem ahead_ok {b : Nat} (F : Fit h w row H s (some b) m f) (hn : ∀ j, j ≤ b → H j = none) {cs : List Pl} (C : Cyc (nxP row H (some b)) (G h w) cs) {rw cb : Nat} {g : Glb} {ρ : Env} {σ : Hp} {N : NP} {Q : VP} {X : XPS}
    (hr : σ rw = some (.lst (row.map pv))) (hc : σ cb = some (.lst (cs.map pv))) (e1 : ρ "_law_row_here" = some (.ref rw)) (e2 : ρ "_law_back" = some (.int b)) (e3 : ρ "_law_found" = some (.ref cb)) (hQ : ∀ σ', σ.le σ' → Q (.bool true) σ') : wpSs (b_law_round.drop 3) g ρ σ N Q X := by
  have hb := F.hb b rfl
  have lok : ∀ n, n ≤ 144 → lenOk n := fun n hn => Nat.le_trans hn (by decide)
  refine st_cons ?_
  dsimp only [RS.S.ret, RS.S.expr, RS.S.assign, RS.S.ite, RS.S.for_, RS.S.while_, RS.S.raise, RS.S.pass, RS.T.var, RS.T.idx, RS.T.attr, RS.T.tup2, RS.X.none, RS.X.bool, RS.X.num, RS.X.str, RS.X.var, RS.X.glob, RS.X.bin, RS.X.neg, RS.X.not, RS.X.bop, RS.X.cmp, RS.X.cmp2, RS.X.call, RS.X.bi, RS.X.meth, RS.X.idx, RS.X.slice, RS.X.rev, RS.X.attr, RS.X.tup, RS.X.lst, RS.X.emptyDict, RS.X.dict1, RS.X.comp, RS.Src.range1, RS.Src.range2, RS.Src.of, RS.wpT, RS.wpEs, RS.wpBop, RS.wpIfs]
  refine .inl (s_newG fun ah σ₁ na le₁ hah => st_cons ?_)
  dsimp only [RS.S.ret, RS.S.expr, RS.S.assign, RS.S.ite, RS.S.for_, RS.S.while_, RS.S.raise, RS.S.pass, RS.T.var, RS.T.idx, RS.T.attr, RS.T.tup2, RS.X.none, RS.X.bool, RS.X.num, RS.X.str, RS.X.var, RS.X.glob, RS.X.bin, RS.X.neg, RS.X.not, RS.X.bop, RS.X.cmp, RS.X.cmp2, RS.X.call, RS.X.bi, RS.X.meth, RS.X.idx, RS.X.slice, RS.X.rev, RS.X.attr, RS.X.tup, RS.X.lst, RS.X.emptyDict, RS.X.dict1, RS.X.comp, RS.Src.range1, RS.Src.range2, RS.Src.of, RS.wpT, RS.wpEs, RS.wpBop, RS.wpIfs]
  have L0 : LR rw cb ah b (ρ.set "_law_ahead" (.ref ah)) := ⟨(Env.set_ne _ _ (by decide)).trans e1, (Env.set_ne _ _ (by decide)).trans e2, (Env.set_ne _ _ (by decide)).trans e3, Env.set_same _ _ _⟩
  have hbt : ((b : Int) + 1 - 1).toNat = b := by rw [Int.add_sub_cancel, Int.toNat_natCast]
  refine s_get L0.b (s_add (s_range (by rw [hbt]; exact lok _ (Nat.le_trans (Nat.le_of_lt hb) F.R.n1)) ?_))
  refine forL_range (fun i ρ σ' => LR rw cb ah b ρ ∧ σ.le σ' ∧ ∃ (ls : List Pl) (ep : Nat), σ' ah = some (.dct (mapD ls (av (nxP row H (some b)))) ep) ∧ ls.length = i ∧ ∀ p, p ∈ ls ↔ ∃ k, ∃ hk : k < row.length, 0 < k ∧ k ≤ i ∧ row[k] = p) ?_ (fun _ => trivial) ?_ ?_
  · exact ⟨L0, le₁, [], 0, hah, rfl, fun p => ⟨fun h => (List.not_mem_nil h).elim, fun ⟨k, _, h1, h2, _⟩ => (Nat.not_lt.mpr h2 h1).elim⟩⟩
  · rintro i ρ σ' N' hi ⟨L, le, ls, ep, hah, hl, hls⟩ hN
    have hib : i < b := by
      rw [Int.add_comm] at hi
      exact Int.ofNat_lt.mp (Int.lt_of_add_lt_add_right hi)
    have hi1 : i + 1 < row.length := Nat.lt_of_le_of_lt hib hb
    have e1i : (1 : Int) + i = ((i + 1 : Nat) : Int) := by rw [Int.add_comm]; rfl
    rw [e1i]
    have L' := L.set (x := "_law_k") (.int ((i + 1 : Nat) : Int)) (by decide)
    have ek := Env.set_same ρ "_law_k" (.int ((i + 1 : Nat) : Int))
    generalize ρ.set "_law_k" (.int ((i + 1 : Nat) : Int)) = ρ₁ at *
    have hnew : row[i + 1] ∉ ls := fun hm => by
      obtain ⟨k, hk, _, h2, e⟩ := (hls _).mp hm
      exact Nat.not_succ_le_self _ (inj_get F.R.nd e ▸ h2)
    have hnx := nx_row F.R hi1 (Nat.lt_of_succ_lt hi1) (N_succ (back := some b) (hn (i + 1) hib))
    have hgi : pyGet (row.map pv) (((i + 1 : Nat) : Int) - 1) = some (pv (row[i]'(Nat.lt_of_succ_lt hi1))) := by rw [Int.natCast_succ, Int.add_sub_cancel, get_pv (Nat.lt_of_succ_lt hi1)]
    refine st_cons ?_
    dsimp only [RS.S.ret, RS.S.expr, RS.S.assign, RS.S.ite, RS.S.for_, RS.S.while_, RS.S.raise, RS.S.pass, RS.T.var, RS.T.idx, RS.T.attr, RS.T.tup2, RS.X.none, RS.X.bool, RS.X.num, RS.X.str, RS.X.var, RS.X.glob, RS.X.bin, RS.X.neg, RS.X.not, RS.X.bop, RS.X.cmp, RS.X.cmp2, RS.X.call, RS.X.bi, RS.X.meth, RS.X.idx, RS.X.slice, RS.X.rev, RS.X.attr, RS.X.tup, RS.X.lst, RS.X.emptyDict, RS.X.dict1, RS.X.comp, RS.Src.range1, RS.Src.range2, RS.Src.of, RS.wpT, RS.wpEs, RS.wpBop, RS.wpIfs]
    refine s_get L'.r (s_get ek (s_sub (s_idxL (le _ _ hr) hgi (s_get L'.a (s_get L'.r (s_get ek (s_idxL (le _ _ hr) (get_pv hi1) (s_storeD hah (k := pk row[i + 1]) rfl (lok _ (by rw [mapD_length, hl]; exact Nat.le_trans (Nat.le_of_lt hib) (Nat.le_trans (Nat.le_of_lt hb) F.R.n1))) fun ep' => st_nil (hN _ _ ⟨L', Hp.le_upd _ le na, ls ++ [row[i + 1]], ep', ?_, by rw [List.length_append, hl]; rfl, fun p => ⟨fun hp => ?_, fun ⟨k, hk, h1, h2, e⟩ => ?_⟩⟩)))))))))
    · rw [Hp.set_same, dput_mapD_not hnew, ← av_some hnx, updF_id]
    · rcases List.mem_append.mp hp with hp | hp
      · obtain ⟨k, hk, h1, h2, e⟩ := (hls p).mp hp
        exact ⟨k, hk, h1, Nat.le_succ_of_le h2, e⟩
      · exact ⟨i + 1, hi1, Nat.succ_pos _, Nat.le_refl _, (List.mem_singleton.mp hp).symm⟩
    · rcases Nat.lt_or_eq_of_le h2 with h2 | rfl
      · exact List.mem_append_left _ ((hls p).mpr ⟨k, hk, h1, Nat.le_of_lt_succ h2, e⟩)
      · rw [← e]; exact List.mem_append_right _ (.head _)
  · rintro ρ σ' ⟨L, le, ls, ep, hah, hl, hls⟩
    rw [hbt] at hl hls
    have h0 := F.R.n0
    have hnew : row[0] ∉ ls := fun hm => by
      obtain ⟨k, hk, h1, _, e⟩ := (hls _).mp hm
      rw [inj_get F.R.nd e] at h1; exact Nat.lt_irrefl _ h1
    have hnx := nx_row F.R h0 hb (N_zero (back := some b) (hn 0 (Nat.zero_le _)))
    have hg0 : pyGet (row.map pv) 0 = some (pv row[0]) := get_pv h0
    refine st_cons ?_
    dsimp only [RS.S.ret, RS.S.expr, RS.S.assign, RS.S.ite, RS.S.for_, RS.S.while_, RS.S.raise, RS.S.pass, RS.T.var, RS.T.idx, RS.T.attr, RS.T.tup2, RS.X.none, RS.X.bool, RS.X.num, RS.X.str, RS.X.var, RS.X.glob, RS.X.bin, RS.X.neg, RS.X.not, RS.X.bop, RS.X.cmp, RS.X.cmp2, RS.X.call, RS.X.bi, RS.X.meth, RS.X.idx, RS.X.slice, RS.X.rev, RS.X.attr, RS.X.tup, RS.X.lst, RS.X.emptyDict, RS.X.dict1, RS.X.comp, RS.Src.range1, RS.Src.range2, RS.Src.of, RS.wpT, RS.wpEs, RS.wpBop, RS.wpIfs]
    refine s_get L.r (s_get L.b (s_idxL (le _ _ hr) (get_pv hb) (s_get L.a (s_get L.r (s_idxL (le _ _ hr) hg0 (s_storeD hah (k := pk row[0]) rfl (lok _ (by rw [mapD_length, hl]; exact Nat.le_trans (Nat.le_of_lt hb) F.R.n1)) fun ep' => ?_))))))
    rw [dput_mapD_not hnew, ← av_some hnx, updF_id]
    have hmem : ∀ x ∈ cs, x ∈ ls ++ [row[0]] := fun x hx => by
      obtain ⟨k, hk, rfl⟩ := row_at (F.R.all x (C.on x hx))
      have hkb := (F.ring C k hk).mp hx
      cases k with
      | zero => exact List.mem_append_right _ (.head _)
      | succ k => exact List.mem_append_left _ ((hls _).mpr ⟨k + 1, hk, Nat.succ_pos _, hkb, rfl⟩)
    have le2 := Hp.le_upd (.dct (mapD (ls ++ [row[0]]) (av (nxP row H (some b)))) ep') le na
    have hah2 := Hp.set_same σ' ah (.dct (mapD (ls ++ [row[0]]) (av (nxP row H (some b)))) ep')
    generalize σ'.set ah (.dct (mapD (ls ++ [row[0]]) (av (nxP row H (some b)))) ep') = σ₂ at *
    have hc2 := le2 _ _ hc
    have hcl : cs.length ≤ 144 := Nat.le_trans (nodup_len C.nd fun p hp => F.R.all p (C.on p hp)) F.R.n1
    have hct : (((cs.map pv).length : Int) - 0).toNat = cs.length := by rw [Int.sub_zero, Int.toNat_natCast, List.length_map]
    refine st_cons ?_
    dsimp only [RS.S.ret, RS.S.expr, RS.S.assign, RS.S.ite, RS.S.for_, RS.S.while_, RS.S.raise, RS.S.pass, RS.T.var, RS.T.idx, RS.T.attr, RS.T.tup2, RS.X.none, RS.X.bool, RS.X.num, RS.X.str, RS.X.var, RS.X.glob, RS.X.bin, RS.X.neg, RS.X.not, RS.X.bop, RS.X.cmp, RS.X.cmp2, RS.X.call, RS.X.bi, RS.X.meth, RS.X.idx, RS.X.slice, RS.X.rev, RS.X.attr, RS.X.tup, RS.X.lst, RS.X.emptyDict, RS.X.dict1, RS.X.comp, RS.Src.range1, RS.Src.range2, RS.Src.of, RS.wpT, RS.wpEs, RS.wpBop, RS.wpIfs]
    refine s_get L.f (s_lenL hc2 (s_range (by rw [hct]; exact lok _ hcl) ?_))
    unfold rangeL
    rw [hct]
    refine compL_fl (fun (k : Nat) => V.int (0 + k)) (fun (k : Nat) => V.int (0 + k)) (fun _ => false) (fun _ _ => trivial) (by rw [List.length_range]; exact lok _ hcl) ?_ ?_
    · intro k hk σ₃ le₃ K' hK'
      have hk := List.mem_range.mp hk
      obtain ⟨x, hx, g1, g2⟩ := C.at k hk
      rw [Int.zero_add]
      have L' := L.set (x := "_law_k") (.int k) (by decide)
      refine s_get L'.a (s_get L'.f (s_get (Env.set_same _ _ _) (s_sub (s_idxL (le₃ _ _ hc2) g1 (s_idxD (le₃ _ _ hah2) (k := pk x) (v := pv cs[k]) rfl ((dget_mapD (hmem x hx)).trans (congrArg some (av_some g2))) (s_get L'.f (s_get (Env.set_same _ _ _) (s_idxL (le₃ _ _ hc2) (get_pv hk) (.ne (eqP_pv (s_truth rfl (s_ifF ?_ (s_ifF Bool.false_ne_true (hK' _ (Hp.le_refl _)))))))))))))))
      rw [decide_eq_true rfl]; exact Bool.false_ne_true
    intro σ₃ le₃
    rw [List.filter_eq_nil_iff.mpr fun _ _ => Bool.false_ne_true]
    refine s_newG fun a₁ σ₄ na₁ le₄ ha₁ => s_newG fun a₂ σ₅ na₂ le₅ ha₂ => s_eqL0 (le₅ _ _ ha₁) ha₂ (ds := []) rfl ?_
    exact hQ _ (Hp.le_trans le2 (Hp.le_trans le₃ (Hp.le_trans le₄ le₅)))

theorem round_ok (E : Env14 W) (z : Sz h w) (F : Fit h w row H s back m f) {a d c rw hd : Nat} (σ : Hp) (S : SheetAt σ a d c h w f) (hr : σ rw = some (.lst (row.map pv))) (hh : HeadsAt σ hd H) (Q : VP)
    (hQ : ∀ σ', σ.le σ' → Q (.bool true) σ') : callP W 12 "_law_round" [.ref a, .ref rw, .ref hd, .int (bk back)] σ Q noX := by
  have n1 : (glb W 11).has "ring" = true := E.S.has (by decide)
  refine call_ok E.S.T E.round rfl ?_
  dsimp only [b_law_round, p_law_round, bindP]
  refine st_cons ?_
  dsimp only [RS.S.ret, RS.S.expr, RS.S.assign, RS.S.ite, RS.S.for_, RS.S.while_, RS.S.raise, RS.S.pass, RS.T.var, RS.T.idx, RS.T.attr, RS.T.tup2, RS.X.none, RS.X.bool, RS.X.num, RS.X.str, RS.X.var, RS.X.glob, RS.X.bin, RS.X.neg, RS.X.not, RS.X.bop, RS.X.cmp, RS.X.cmp2, RS.X.call, RS.X.bi, RS.X.meth, RS.X.idx, RS.X.slice, RS.X.rev, RS.X.attr, RS.X.tup, RS.X.lst, RS.X.emptyDict, RS.X.dict1, RS.X.comp, RS.Src.range1, RS.Src.range2, RS.Src.of, RS.wpT, RS.wpEs, RS.wpBop, RS.wpIfs]
  refine s_call n1 (s_get rfl ?_)
  refine gcall (m := 11) (by decide) (ring_ok E.S z σ S F.sol _ (fun hall σ₁ le₁ => ?_) fun hnot cs cb σ₁ le₁ hc C => ?_)
  · refine round_test (hh.le le₁) (fun b e => Nat.lt_of_lt_of_le (F.hb b e) F.R.n1) rfl rfl fun σ₂ bb le₂ hbb => s_ifT (hbb.mpr ?_) (st_cons ?_)
    · cases back with
      | none => exact .inl rfl
      | some b => exact Classical.byContradiction fun hx => F.stuck (fun j hj => Classical.byContradiction fun e => hx (.inr ⟨b, rfl, j, hj, e⟩)) hall
    · dsimp only [RS.S.ret, RS.S.expr, RS.S.assign, RS.S.ite, RS.S.for_, RS.S.while_, RS.S.raise, RS.S.pass, RS.T.var, RS.T.idx, RS.T.attr, RS.T.tup2, RS.X.none, RS.X.bool, RS.X.num, RS.X.str, RS.X.var, RS.X.glob, RS.X.bin, RS.X.neg, RS.X.not, RS.X.bop, RS.X.cmp, RS.X.cmp2, RS.X.call, RS.X.bi, RS.X.meth, RS.X.idx, RS.X.slice, RS.X.rev, RS.X.attr, RS.X.tup, RS.X.lst, RS.X.emptyDict, RS.X.dict1, RS.X.comp, RS.Src.range1, RS.Src.range2, RS.Src.of, RS.wpT, RS.wpEs, RS.wpBop, RS.wpIfs]
      exact s_get rfl (s_is (hQ _ (Hp.le_trans le₁ le₂)))
  · refine round_test (hh.le le₁) (fun b e => Nat.lt_of_lt_of_le (F.hb b e) F.R.n1) rfl rfl fun σ₂ bb le₂ hbb => s_ifF (fun e => hnot (F.known (hbb.mp e))) ?_
    cases back with
    | none => exact (hnot (F.known (.inl rfl))).elim
    | some b =>
      have hb := F.hb b rfl
      have hn : ∀ j, j ≤ b → H j = none := fun j hj => Classical.byContradiction fun e => hnot (F.known (.inr ⟨b, rfl, j, hj, e⟩))
      refine st_cons ?_
      dsimp only [RS.S.ret, RS.S.expr, RS.S.assign, RS.S.ite, RS.S.for_, RS.S.while_, RS.S.raise, RS.S.pass, RS.T.var, RS.T.idx, RS.T.attr, RS.T.tup2, RS.X.none, RS.X.bool, RS.X.num, RS.X.str, RS.X.var, RS.X.glob, RS.X.bin, RS.X.neg, RS.X.not, RS.X.bop, RS.X.cmp, RS.X.cmp2, RS.X.call, RS.X.bi, RS.X.meth, RS.X.idx, RS.X.slice, RS.X.rev, RS.X.attr, RS.X.tup, RS.X.lst, RS.X.emptyDict, RS.X.dict1, RS.X.comp, RS.Src.range1, RS.Src.range2, RS.Src.of, RS.wpT, RS.wpEs, RS.wpBop, RS.wpIfs]
      have hc2 := le₂ _ _ hc
      have hcl : cs.length ≤ 144 := Nat.le_trans (nodup_len C.nd fun p hp => F.R.all p (C.on p hp)) F.R.n1
      have leA := Hp.le_trans le₁ le₂
      refine s_get rfl (s_get (E.glob (by decide)) (s_isi (by decide) (isA_list hc2) (s_truth rfl (s_truth rfl (s_ifT rfl ?_)))))
      refine s_get rfl (s_sortL hc2 C.nd hcl fun zs b₁ σ₃ le₃ hb₁ hz1 hz2 => ?_)
      refine s_get rfl (s_get rfl (s_add (s_sliceL (le₃ _ _ (leA _ _ hr)) (l' := none) rfl (u' := some ((b + 1 : Nat) : Int)) rfl fun sl nsl => ?_)))
      rw [slice_to _ (by rw [List.length_map]; exact hb), ← List.map_take]
      have hsl := Hp.set_same σ₃ sl (.lst ((row.take (b + 1)).map pv))
      have le4 := Hp.le_set (.lst ((row.take (b + 1)).map pv)) nsl
      generalize σ₃.set sl (.lst ((row.take (b + 1)).map pv)) = σ₄ at *
      refine s_sortL hsl (F.R.nd.sublist (List.take_sublist _ _)) (by rw [List.length_take]; exact Nat.le_trans (Nat.min_le_right _ _) F.R.n1) fun ys b₂ σ₅ le₅ hb₂ hy1 hy2 => ?_
      have hsame : zs = ys := sorted_same hz1 hy1 fun p => by
        rw [hz2 p, hy2 p, mem_takeP]
        constructor
        · intro hp
          obtain ⟨k, hk, rfl⟩ := row_at (F.R.all p (C.on p hp))
          exact ⟨k, hk, Nat.lt_succ_of_le ((F.ring C k hk).mp hp), rfl⟩
        · rintro ⟨k, hk, hkb, rfl⟩
          exact (F.ring C k hk).mpr (Nat.le_of_lt_succ hkb)
      refine .ne (eqP_pvs (le₅ _ _ (le4 _ _ hb₁)) hb₂ (s_truth rfl (s_ifF ?_ (st_nil ?_))))
      · rw [decide_eq_true hsame]; exact Bool.false_ne_true
      have le25 := Hp.le_trans le₃ (Hp.le_trans le4 le₅)
      exact ahead_ok F hn C (le25 _ _ (leA _ _ hr)) (le25 _ _ hc2) rfl rfl rfl fun σ' le' => hQ σ' (Hp.le_trans leA (Hp.le_trans le25 le'))

/-! ### what hangs on the first place -/
theorem dget_mem {es : List (Int × V)} {e : Int × V} (h : e ∈ es) : (dget es e.1).isSome = true := by
  unfold dget; rw [Option.isSome_map, List.find?_isSome]; exact ⟨e, h, decide_eq_true rfl⟩
theorem mem_dget {es : List (Int × V)} {k : Int} {v : V} (h : dget es k = some v) : ∃ e ∈ es, e.1 = k := by
  unfold dget at h
  obtain ⟨e, he, _⟩ := Option.map_eq_some_iff.mp h
  exact ⟨e, List.mem_of_find?_eq_some he, by have := List.find?_some he; exact of_decide_eq_true this⟩
theorem touches_ok (E : Env14 W) (z : Sz h w) (F : Fit h w row H s back m f) {a d c rw hd : Nat} (σ : Hp) (S : SheetAt σ a d c h w f) (hr : σ rw = some (.lst (row.map pv))) (hh : HeadsAt σ hd H) (Q : VP)
    (hQ : ∀ σ', σ.le σ' → Q (.bool true) σ') : callP W 12 "_law_touches" [.ref a, .ref rw, .ref hd] σ Q noX := by
  have n1 : (glb W 11).has "touched" = true := E.S.has (by decide)
  have h0 := F.R.n0
  obtain ⟨es, ep, hes, hget, hkey, hel⟩ := hh
  refine call_ok E.S.T E.touches rfl ?_
  dsimp only [b_law_touches, p_law_touches, bindP]
  refine st_cons ?_
  dsimp only [RS.S.ret, RS.S.expr, RS.S.assign, RS.S.ite, RS.S.for_, RS.S.while_, RS.S.raise, RS.S.pass, RS.T.var, RS.T.idx, RS.T.attr, RS.T.tup2, RS.X.none, RS.X.bool, RS.X.num, RS.X.str, RS.X.var, RS.X.glob, RS.X.bin, RS.X.neg, RS.X.not, RS.X.bop, RS.X.cmp, RS.X.cmp2, RS.X.call, RS.X.bi, RS.X.meth, RS.X.idx, RS.X.slice, RS.X.rev, RS.X.attr, RS.X.tup, RS.X.lst, RS.X.emptyDict, RS.X.dict1, RS.X.comp, RS.Src.range1, RS.Src.range2, RS.Src.of, RS.wpT, RS.wpEs, RS.wpBop, RS.wpIfs]
  refine s_get rfl (.dci hes ?_)
  refine compL_fl (fun e : Int × V => V.int e.1) (fun e => V.int e.1) (fun e => decide (0 < e.1)) (fun σ' le => le _ _ hes) (Nat.le_trans hel (by decide)) ?_ ?_
  · intro e _ σ₁ le₁ K' hK'
    have := hK' σ₁ (Hp.le_refl _)
    refine s_get (Env.set_same _ _ _) (s_gt (s_truth rfl (s_ifB (fun e => s_ifT rfl (s_get (Env.set_same _ _ _) ?_)) fun e => s_ifF Bool.false_ne_true ?_)))
    · rw [e] at this; exact this
    · rw [e] at this; exact this
  intro σ₁ le₁
  refine s_newG fun c₁ σ₂ nc₁ le₂ hc₁ => s_get rfl (s_lenL (le₂ _ _ (le₁ _ _ hr)) (s_newG fun c₂ σ₃ nc₂ le₃ hc₂ => s_lcat (le₃ _ _ hc₁) hc₂ ?_ fun c₃ nc₃ => ?_))
  · unfold lenOk
    rw [List.length_map]
    exact Nat.le_trans (Nat.add_le_add_right (Nat.le_trans (List.length_filter_le _ _) hel) _) (by show 2 + 1 ≤ 1000000; decide)
  have hints : V.ints ((es.filter fun e => decide (0 < e.1)).map (fun e => V.int e.1) ++ [V.int ((row.map pv).length : Int)]) = some ((es.filter fun e => decide (0 < e.1)).map (·.1) ++ [(row.length : Int)]) := by
    rw [List.length_map, ← V.ints_map, List.map_append, List.map_map]; rfl
  refine s_minL (Hp.set_same _ _ _) hints (by rw [Ne, List.append_eq_nil_iff]; exact fun e => List.cons_ne_nil _ _ e.2) fun n hn1 hn2 => ?_
  have leA := Hp.le_trans le₁ (Hp.le_trans le₂ (Hp.le_trans le₃ (Hp.le_set (.lst ((es.filter fun e => decide (0 < e.1)).map (fun e => V.int e.1) ++ [V.int ((row.map pv).length : Int)])) nc₃)))
  generalize σ₃.set c₃ (.lst ((es.filter fun e => decide (0 < e.1)).map (fun e => V.int e.1) ++ [V.int ((row.map pv).length : Int)])) = σ₄ at *
  obtain ⟨j, rfl, hj0, hjn⟩ : ∃ j : Nat, n = (j : Int) ∧ 0 < j ∧ (j = row.length ∨ H j ≠ none) := by
    rcases List.mem_append.mp hn1 with hn1 | hn1
    · obtain ⟨e, he, rfl⟩ := List.mem_map.mp hn1
      obtain ⟨he1, he2⟩ := List.mem_filter.mp he
      obtain ⟨j, ej⟩ := hkey e he1
      have h1 := dget_mem he1
      have he2 := of_decide_eq_true he2
      rw [ej] at h1 he2
      rw [hget j, Option.isSome_map] at h1
      exact ⟨j, ej, Int.ofNat_lt.mp he2, .inr fun e => by rw [e] at h1; cases h1⟩
    · exact ⟨row.length, List.mem_singleton.mp hn1, h0, .inl rfl⟩
  have hjl : j ≤ row.length := Int.ofNat_le.mp (hn2 _ (List.mem_append_right _ (.head _)))
  have hmin : ∀ k, 0 < k → k < j → H k = none := fun k hk0 hkj => by
    cases e : H k with
    | none => rfl
    | some x =>
      obtain ⟨e', he', ek⟩ := mem_dget (es := es) (k := (k : Int)) (by rw [hget k, e]; rfl)
      have := hn2 (k : Int) (List.mem_append_left _ (List.mem_map.mpr ⟨e', List.mem_filter.mpr ⟨he', decide_eq_true (by rw [ek]; exact Int.ofNat_lt.mpr hk0)⟩, ek⟩))
      exact absurd hkj (Nat.not_lt.mpr (Int.ofNat_le.mp this))
  have hg0 : pyGet (row.map pv) 0 = some (pv row[0]) := get_pv h0
  refine st_cons ?_
  dsimp only [RS.S.ret, RS.S.expr, RS.S.assign, RS.S.ite, RS.S.for_, RS.S.while_, RS.S.raise, RS.S.pass, RS.T.var, RS.T.idx, RS.T.attr, RS.T.tup2, RS.X.none, RS.X.bool, RS.X.num, RS.X.str, RS.X.var, RS.X.glob, RS.X.bin, RS.X.neg, RS.X.not, RS.X.bop, RS.X.cmp, RS.X.cmp2, RS.X.call, RS.X.bi, RS.X.meth, RS.X.idx, RS.X.slice, RS.X.rev, RS.X.attr, RS.X.tup, RS.X.lst, RS.X.emptyDict, RS.X.dict1, RS.X.comp, RS.Src.range1, RS.Src.range2, RS.Src.of, RS.wpT, RS.wpEs, RS.wpBop, RS.wpIfs]
  refine s_call n1 (s_get rfl (s_get rfl (s_idxL (leA _ _ hr) hg0 ?_)))
  refine gcall (m := 4) (by decide) (touched_ok E.S z σ₄ (S.le leA) F.sol.good (F.R.on _ (List.getElem_mem h0)) _ fun ys b₁ σ₅ le₅ hb₁ hy1 hy2 => ?_)
  refine s_get rfl (s_get rfl (s_sliceL (le₅ _ _ (leA _ _ hr)) (l' := none) rfl (u' := some (j : Int)) rfl fun sl nsl => ?_))
  rw [slice_to _ (by rw [List.length_map]; exact hjl), ← List.map_take]
  have hsl := Hp.set_same σ₅ sl (.lst ((row.take j).map pv))
  have le6 := Hp.le_set (.lst ((row.take j).map pv)) nsl
  generalize σ₅.set sl (.lst ((row.take j).map pv)) = σ₆ at *
  refine s_sortL hsl (F.R.nd.sublist (List.take_sublist _ _)) (by rw [List.length_take]; exact Nat.le_trans (Nat.min_le_right _ _) F.R.n1) fun zs b₂ σ₇ le₇ hb₂ hz1 hz2 => ?_
  have hsame : ys = zs := sorted_same hy1 hz1 fun p => by
    rw [hy2 p, hz2 p, mem_takeP]
    constructor
    · intro hp
      have hpr : p ∈ row := by
        cases hp with
        | start => exact List.getElem_mem h0
        | step _ hp _ => exact F.R.all _ hp
      obtain ⟨k, hk, rfl⟩ := row_at hpr
      exact ⟨k, hk, (F.reach hj0 hjn hmin k hk).mp hp, rfl⟩
    · rintro ⟨k, hk, hkj, rfl⟩
      exact (F.reach hj0 hjn hmin k hk).mpr hkj
  refine .eq (eqP_pvs (le₇ _ _ (le6 _ _ hb₁)) hb₂ ?_)
  rw [decide_eq_true hsame]
  exact hQ _ (Hp.le_trans leA (Hp.le_trans le₅ (Hp.le_trans le6 le₇)))

theorem right_ok (E : Env14 W) (z : Sz h w) (F : Fit h w row H s back m f) {a d c rw hd : Nat} {way : Int} (σ : Hp) (S : SheetAt σ a d c h w f) (hr : σ rw = some (.lst (row.map pv))) (hh : HeadsAt σ hd H) (Q : VP)
    (hQ : ∀ σ', σ.le σ' → Q (.bool true) σ') : callP W 13 "_law_right" [.ref a, .ref rw, .int s, .ref hd, .int (bk back), .int way] σ Q noX := by
  have n1 : (glb W 12).has "_law_values" = true := E.has (by decide)
  have n2 : (glb W 12).has "_law_due" = true := E.has (by decide)
  have n3 : (glb W 12).has "_law_round" = true := E.has (by decide)
  have n4 : (glb W 12).has "_law_touches" = true := E.has (by decide)
  refine call_ok E.S.T E.right rfl ?_
  dsimp only [b_law_right, p_law_right, bindP]
  refine st_cons ?_
  dsimp only [RS.S.ret, RS.S.expr, RS.S.assign, RS.S.ite, RS.S.for_, RS.S.while_, RS.S.raise, RS.S.pass, RS.T.var, RS.T.idx, RS.T.attr, RS.T.tup2, RS.X.none, RS.X.bool, RS.X.num, RS.X.str, RS.X.var, RS.X.glob, RS.X.bin, RS.X.neg, RS.X.not, RS.X.bop, RS.X.cmp, RS.X.cmp2, RS.X.call, RS.X.bi, RS.X.meth, RS.X.idx, RS.X.slice, RS.X.rev, RS.X.attr, RS.X.tup, RS.X.lst, RS.X.emptyDict, RS.X.dict1, RS.X.comp, RS.Src.range1, RS.Src.range2, RS.Src.of, RS.wpT, RS.wpEs, RS.wpBop, RS.wpIfs]
  refine s_get rfl (s_eqI (s_truth rfl (s_if (fun _ => st_cons ?_) fun _ => st_nil (st_cons ?_))))
  · dsimp only [RS.S.ret, RS.S.expr, RS.S.assign, RS.S.ite, RS.S.for_, RS.S.while_, RS.S.raise, RS.S.pass, RS.T.var, RS.T.idx, RS.T.attr, RS.T.tup2, RS.X.none, RS.X.bool, RS.X.num, RS.X.str, RS.X.var, RS.X.glob, RS.X.bin, RS.X.neg, RS.X.not, RS.X.bop, RS.X.cmp, RS.X.cmp2, RS.X.call, RS.X.bi, RS.X.meth, RS.X.idx, RS.X.slice, RS.X.rev, RS.X.attr, RS.X.tup, RS.X.lst, RS.X.emptyDict, RS.X.dict1, RS.X.comp, RS.Src.range1, RS.Src.range2, RS.Src.of, RS.wpT, RS.wpEs, RS.wpBop, RS.wpIfs]
    refine s_call n1 (s_get rfl (s_call n2 (s_get rfl (s_get rfl (s_get rfl (s_get rfl ?_))))))
    refine gcall (m := 1) (by decide) (due_ok E F σ hr hh _ fun b ep σ₁ le₁ hb => ?_)
    exact gcall (m := 12) (by decide) (values_ok E z F σ₁ (S.le le₁) hb _ fun σ₂ le₂ => hQ _ (Hp.le_trans le₁ le₂))
  · dsimp only [RS.S.ret, RS.S.expr, RS.S.assign, RS.S.ite, RS.S.for_, RS.S.while_, RS.S.raise, RS.S.pass, RS.T.var, RS.T.idx, RS.T.attr, RS.T.tup2, RS.X.none, RS.X.bool, RS.X.num, RS.X.str, RS.X.var, RS.X.glob, RS.X.bin, RS.X.neg, RS.X.not, RS.X.bop, RS.X.cmp, RS.X.cmp2, RS.X.call, RS.X.bi, RS.X.meth, RS.X.idx, RS.X.slice, RS.X.rev, RS.X.attr, RS.X.tup, RS.X.lst, RS.X.emptyDict, RS.X.dict1, RS.X.comp, RS.Src.range1, RS.Src.range2, RS.Src.of, RS.wpT, RS.wpEs, RS.wpBop, RS.wpIfs]
    refine s_get rfl (s_eqI (s_truth rfl (s_if (fun _ => st_cons ?_) fun _ => st_nil (st_cons ?_))))
    · dsimp only [RS.S.ret, RS.S.expr, RS.S.assign, RS.S.ite, RS.S.for_, RS.S.while_, RS.S.raise, RS.S.pass, RS.T.var, RS.T.idx, RS.T.attr, RS.T.tup2, RS.X.none, RS.X.bool, RS.X.num, RS.X.str, RS.X.var, RS.X.glob, RS.X.bin, RS.X.neg, RS.X.not, RS.X.bop, RS.X.cmp, RS.X.cmp2, RS.X.call, RS.X.bi, RS.X.meth, RS.X.idx, RS.X.slice, RS.X.rev, RS.X.attr, RS.X.tup, RS.X.lst, RS.X.emptyDict, RS.X.dict1, RS.X.comp, RS.Src.range1, RS.Src.range2, RS.Src.of, RS.wpT, RS.wpEs, RS.wpBop, RS.wpIfs]
      refine s_call n3 (s_get rfl (s_get rfl (s_get rfl (s_get rfl ?_))))
      exact gcall (m := 12) (by decide) (round_ok E z F σ S hr hh _ hQ)
    · dsimp only [RS.S.ret, RS.S.expr, RS.S.assign, RS.S.ite, RS.S.for_, RS.S.while_, RS.S.raise, RS.S.pass, RS.T.var, RS.T.idx, RS.T.attr, RS.T.tup2, RS.X.none, RS.X.bool, RS.X.num, RS.X.str, RS.X.var, RS.X.glob, RS.X.bin, RS.X.neg, RS.X.not, RS.X.bop, RS.X.cmp, RS.X.cmp2, RS.X.call, RS.X.bi, RS.X.meth, RS.X.idx, RS.X.slice, RS.X.rev, RS.X.attr, RS.X.tup, RS.X.lst, RS.X.emptyDict, RS.X.dict1, RS.X.comp, RS.Src.range1, RS.Src.range2, RS.Src.of, RS.wpT, RS.wpEs, RS.wpBop, RS.wpIfs]
      refine s_call n4 (s_get rfl (s_get rfl (s_get rfl ?_)))
      exact gcall (m := 12) (by decide) (touches_ok E z F σ S hr hh _ hQ)
end


/-! ### a number more -/
section
variable {K : Type} [DecidableEq K]
theorem dget_map (k k' : K) (v : V) : ∀ es : List (K × V), dget (es.map fun e => if e.1 = k then (e.1, v) else e) k' = if k' = k then (dget es k').map (fun _ => v) else dget es k'
  | [] => by split <;> rfl
  | e :: es => by
    have ih := dget_map k k' v es
    unfold dget at ih ⊢
    have hg : (if e.1 = k then (e.1, v) else e).1 = e.1 := by split <;> rfl
    rw [List.map_cons]
    by_cases h : e.1 = k'
    · rw [List.find?_cons_of_pos (by rw [hg]; exact decide_eq_true h), List.find?_cons_of_pos (by exact decide_eq_true h)]
      by_cases h2 : k' = k
      · rw [if_pos h2, if_pos (h.trans h2)]; rfl
      · rw [if_neg h2, if_neg (fun e => h2 (h.symm.trans e))]
    · rw [List.find?_cons_of_neg (by rw [hg]; exact fun e => h (of_decide_eq_true e)), List.find?_cons_of_neg (by exact fun e => h (of_decide_eq_true e))]
      exact ih
theorem dget_dput (es : List (K × V)) (k k' : K) (v : V) : dget (dput es k v) k' = if k' = k then some v else dget es k' := by
  unfold dput
  by_cases h : (dget es k).isSome = true
  · rw [if_pos h, dget_map]
    by_cases h2 : k' = k
    · rw [if_pos h2, if_pos h2, h2]
      cases e : dget es k with
      | none => rw [e] at h; cases h
      | some x => rfl
    · rw [if_neg h2, if_neg h2]
  · rw [if_neg h]
    have h := Option.not_isSome_iff_eq_none.mp h
    unfold dget at h ⊢
    rw [List.find?_append]
    by_cases h2 : k' = k
    · subst h2
      rw [if_pos rfl, Option.map_eq_none_iff.mp h, Option.none_or, List.find?_cons_of_pos (by exact decide_eq_true rfl)]; rfl
    · rw [if_neg h2, List.find?_cons_of_neg (l := []) (by exact fun e => h2 (of_decide_eq_true e).symm), List.find?_nil, Option.or_none]
theorem dput_key {es : List (K × V)} {k : K} {v : V} {e : K × V} (h : e ∈ dput es k v) : e.1 = k ∨ ∃ e' ∈ es, e.1 = e'.1 := by
  unfold dput at h
  split at h
  · obtain ⟨e', he', rfl⟩ := List.mem_map.mp h
    exact .inr ⟨e', he', by split <;> rfl⟩
  · rcases List.mem_append.mp h with h | h
    · exact .inr ⟨e, h, rfl⟩
    · rw [List.mem_singleton.mp h]; exact .inl rfl
theorem dput_len (es : List (K × V)) (k : K) (v : V) : (dput es k v).length ≤ es.length + 1 := by
  unfold dput
  split
  · rw [List.length_map]; exact Nat.le_succ _
  · rw [List.length_append]; exact Nat.le_refl _
end
noncomputable def updH (H : Nat → Option Int) (t : Nat) (y : Int) (k : Nat) : Option Int := if k = t then some y else H k
noncomputable def HsOk (es : List (Int × V)) (H : Nat → Option Int) : Prop := (∀ k : Nat, dget es (k : Int) = (H k).map V.int) ∧ ∀ e ∈ es, ∃ k : Nat, e.1 = (k : Int)
theorem HsOk.put {es : List (Int × V)} {H : Nat → Option Int} (h : HsOk es H) (t : Nat) (y : Int) : HsOk (dput es (t : Int) (.int y)) (updH H t y) := by
  refine ⟨fun k => ?_, fun e he => (dput_key he).elim (fun h => ⟨t, h⟩) fun ⟨e', he', e⟩ => e ▸ h.2 e' he'⟩
  rw [dget_dput]
  unfold updH
  by_cases e : k = t
  · rw [if_pos e, if_pos (congrArg _ e)]; rfl
  · rw [if_neg e, if_neg (fun e' : (k : Int) = t => e (Int.ofNat.inj e')), h.1 k]
theorem HsOk.nil : HsOk [] fun _ => none := ⟨fun _ => rfl, fun _ h => (List.not_mem_nil h).elim⟩
theorem HsOk.one (x : Int) : HsOk [(0, .int x)] (updH (fun _ => none) 0 x) := HsOk.put .nil 0 x
theorem N_upd {H : Nat → Option Int} {back : Option Nat} {t : Nat} {y : Int} {k : Nat} (h : k ≠ t) : Nk (updH H t y) back k = Nk H back k := by
  have e : updH H t y k = H k := if_neg h
  cases k with
  | zero => simp only [Nk, e]
  | succ k => simp only [Nk, e]
section
variable {W : Wd} {k : Nat} {h w : Nat} {row : List Pl} {H : Nat → Option Int} {s : Int} {back : Option Nat} {m : Nat} {f : Pl → Rule}
theorem Fit.put (F : Fit h w row H s back m f) {t : Nat} (ht : t < row.length) {y : Int} (hy : 0 ≤ y ∧ y < 1000) : Fit h w row (updH H t y) s back m (updF f row[t] (.num y)) := by
  have up : ∀ k x, updH H t y k = some x → (k = t ∧ x = y) ∨ (k ≠ t ∧ H k = some x) := fun k x e => by
    unfold updH at e
    by_cases hk : k = t
    · rw [if_pos hk] at e; exact .inl ⟨hk, (Option.some.inj e).symm⟩
    · rw [if_neg hk] at e; exact .inr ⟨hk, e⟩
  refine ⟨F.R, F.hs, F.hm, fun k x e => (up k x e).elim (fun h => h.2 ▸ hy) fun h => F.hH k x h.2, fun k x e => (up k x e).elim (fun h => h.1 ▸ ht) fun h => F.hn k x h.2, F.hb, fun e => ?_, fun k hk x e => ?_, fun k hk j hj e => ?_⟩
  · unfold updH
    by_cases h0 : 0 = t
    · exact ⟨y, if_pos h0⟩
    · obtain ⟨x, hx⟩ := F.h0 e
      exact ⟨x, (if_neg h0).trans hx⟩
  · rcases up k x e with ⟨rfl, rfl⟩ | ⟨h1, h2⟩
    · exact updF_same _ _ _
    · rw [updF_ne _ _ fun e => h1 (inj_get F.R.nd e)]; exact F.num k hk x h2
  · have hkt : k ≠ t := fun h => by
      have := N_free e
      rw [h] at this
      unfold updH at this
      rw [if_pos rfl] at this; cases this
    rw [N_upd hkt] at e
    rw [updF_ne _ _ fun e => hkt (inj_get F.R.nd e)]
    exact F.lnk k hk j hj e
/-- the sheet in a row, but for the first place -/
structure Fit0 (h w : Nat) (row : List Pl) (s : Int) (m : Nat) (f : Pl → Rule) : Prop where
  R : Row h w row
  hs : 1 ≤ s ∧ s ≤ 9
  hm : m ≤ 4
  lnk : ∀ k (hk : k + 1 < row.length), f row[k + 1] = link m s (row[k]'(Nat.lt_of_succ_lt hk))
theorem Fit0.head (F : Fit0 h w row s m f) {x : Int} (hx : 0 ≤ x ∧ x < 1000) : Fit h w row (updH (fun _ => none) 0 x) s none m (updF f (row[0]'F.R.n0) (.num x)) := by
  have up : ∀ k y, updH (fun _ => none) 0 x k = some y → k = 0 ∧ y = x := fun k y e => by
    unfold updH at e
    by_cases hk : k = 0
    · rw [if_pos hk] at e; exact ⟨hk, (Option.some.inj e).symm⟩
    · rw [if_neg hk] at e; cases e
  refine ⟨F.R, F.hs, F.hm, fun k y e => (up k y e).2 ▸ hx, fun k y e => (up k y e).1 ▸ F.R.n0, fun b e => (by cases e), fun _ => ⟨x, rfl⟩, fun k hk y e => ?_, fun k hk j hj e => ?_⟩
  · obtain ⟨rfl, rfl⟩ := up k y e
    exact updF_same _ _ _
  · rcases N_cases e with ⟨_, e⟩ | rfl
    · cases e
    · rw [updF_ne _ _ fun e => Nat.succ_ne_zero _ (inj_get F.R.nd e)]; exact F.lnk j hk
theorem Fit0.ring (F : Fit0 h w row s m f) {b : Nat} (hb : b < row.length) : Fit h w row (fun _ => none) s (some b) m (updF f (row[0]'F.R.n0) (link m s row[b])) := by
  refine ⟨F.R, F.hs, F.hm, fun k y e => (by cases e), fun k y e => (by cases e), fun b' e => Option.some.inj e ▸ hb, fun e => (by cases e), fun k hk y e => (by cases e), fun k hk j hj e => ?_⟩
  rcases N_cases e with ⟨rfl, e⟩ | rfl
  · cases e; exact updF_same _ _ _
  · rw [updF_ne _ _ fun e => Nat.succ_ne_zero _ (inj_get F.R.nd e)]; exact F.lnk j hk

noncomputable def namesW : List String := ["_law_script", "_law_row_here", "_law_step", "_law_sheet", "_law_heads", "_law_back", "_law_way"]
structure LW (a rw hd : Nat) (s b way : Int) (ρ : Env) : Prop where
  sc : ρ "_law_script" = some .script
  r : ρ "_law_row_here" = some (.ref rw)
  st : ρ "_law_step" = some (.int s)
  sh : ρ "_law_sheet" = some (.ref a)
  hd : ρ "_law_heads" = some (.ref hd)
  bk : ρ "_law_back" = some (.int b)
  way : ρ "_law_way" = some (.int way)
theorem LW.set {a rw hd : Nat} {s b way : Int} {ρ : Env} (L : LW a rw hd s b way ρ) {x : String} (v : V) (h : x ∉ namesW) : LW a rw hd s b way (ρ.set x v) := by
  have ne : ∀ y, y ∈ namesW → y ≠ x := fun y hy e => h (e ▸ hy)
  exact ⟨(Env.set_ne _ _ (ne _ (by decide))).trans L.sc, (Env.set_ne _ _ (ne _ (by decide))).trans L.r, (Env.set_ne _ _ (ne _ (by decide))).trans L.st, (Env.set_ne _ _ (ne _ (by decide))).trans L.sh, (Env.set_ne _ _ (ne _ (by decide))).trans L.hd, (Env.set_ne _ _ (ne _ (by decide))).trans L.bk, (Env.set_ne _ _ (ne _ (by decide))).trans L.way⟩
theorem SheetAt.upd {σ : Hp} {a d c hd ep : Nat} {es : List (Int × V)} (S : SheetAt σ a d c h w f) (hes : σ hd = some (.dci es ep)) (x : Cell) : SheetAt (σ.set hd x) a d c h w f := by
  obtain ⟨ep', ic⟩ := S.ic
  refine ⟨(Hp.set_ne _ _ fun e => ?_).trans S.ia, (Hp.set_ne _ _ fun e => ?_).trans S.id, ep', (Hp.set_ne _ _ fun e => ?_).trans ic⟩
  · have := S.ia; rw [e, hes] at this; cases this
  · have := S.id; rw [e, hes] at this; cases this
  · rw [e, hes] at ic; cases ic
theorem rest_ok (E : Env14 W) (z : Sz h w) (F : Fit h w row H s back m f) {a d c rw hd ep : Nat} {way : Int} {es : List (Int × V)} {ρ : Env} {σ : Hp} {N : NP} (L : LW a rw hd s (bk back) way ρ) (S : SheetAt σ a d c h w f) (hr : σ rw = some (.lst (row.map pv))) (hes : σ hd = some (.dci es ep)) (ho : HsOk es H) (hl : es.length ≤ 1) :
    wpSs (b_law.drop 11) (glb W 20) ρ σ N (fun v _ => v = .bool true) (fun _ _ _ => False) := by
  have n1 : (glb W 20).has "_law_right" = true := E.has (by decide)
  have n2 : (glb W 20).has "_law_cell_at" = true := E.has (by decide)
  have hrl := F.R.n0
  have hln : ((row.map pv).length : Int) = (row.length : Int) := by rw [List.length_map]
  refine st_cons ?_
  dsimp only [RS.S.ret, RS.S.expr, RS.S.assign, RS.S.ite, RS.S.for_, RS.S.while_, RS.S.raise, RS.S.pass, RS.T.var, RS.T.idx, RS.T.attr, RS.T.tup2, RS.X.none, RS.X.bool, RS.X.num, RS.X.str, RS.X.var, RS.X.glob, RS.X.bin, RS.X.neg, RS.X.not, RS.X.bop, RS.X.cmp, RS.X.cmp2, RS.X.call, RS.X.bi, RS.X.meth, RS.X.idx, RS.X.slice, RS.X.rev, RS.X.attr, RS.X.tup, RS.X.lst, RS.X.emptyDict, RS.X.dict1, RS.X.comp, RS.Src.range1, RS.Src.range2, RS.Src.of, RS.wpT, RS.wpEs, RS.wpBop, RS.wpIfs]
  refine s_call n1 (s_get L.sh (s_get L.r (s_get L.st (s_get L.hd (s_get L.bk (s_get L.way ?_))))))
  refine gcall (m := 13) (by decide) (right_ok E z F σ S hr ⟨es, ep, hes, ho.1, ho.2, Nat.le_succ_of_le hl⟩ _ fun σ₁ le₁ => s_truth rfl (s_truth rfl (s_ifF Bool.false_ne_true (st_nil (st_cons ?_)))))
  have S1 := S.le le₁
  have hr1 := le₁ _ _ hr
  have hes1 := le₁ _ _ hes
  dsimp only [RS.S.ret, RS.S.expr, RS.S.assign, RS.S.ite, RS.S.for_, RS.S.while_, RS.S.raise, RS.S.pass, RS.T.var, RS.T.idx, RS.T.attr, RS.T.tup2, RS.X.none, RS.X.bool, RS.X.num, RS.X.str, RS.X.var, RS.X.glob, RS.X.bin, RS.X.neg, RS.X.not, RS.X.bop, RS.X.cmp, RS.X.cmp2, RS.X.call, RS.X.bi, RS.X.meth, RS.X.idx, RS.X.slice, RS.X.rev, RS.X.attr, RS.X.tup, RS.X.lst, RS.X.emptyDict, RS.X.dict1, RS.X.comp, RS.Src.range1, RS.Src.range2, RS.Src.of, RS.wpT, RS.wpEs, RS.wpBop, RS.wpIfs]
  refine s_call n2 (s_get L.sc ?_)
  refine gcall (m := 1) (by decide) (cell_at_ok E 3 σ₁ _ fun c₁ => s_get L.r (s_lenL hr1 (s_mod ?_ ?_)))
  · rw [hln]; exact Int.ofNat_lt.mpr hrl
  obtain ⟨t, et, ht⟩ := mod_nat c₁ hrl
  rw [hln, et]
  have L1 := L.set (x := "_law_at") (.int t) (by decide)
  have eat := Env.set_same ρ "_law_at" (.int t)
  generalize ρ.set "_law_at" (.int t) = ρ₁ at *
  refine st_cons ?_
  dsimp only [RS.S.ret, RS.S.expr, RS.S.assign, RS.S.ite, RS.S.for_, RS.S.while_, RS.S.raise, RS.S.pass, RS.T.var, RS.T.idx, RS.T.attr, RS.T.tup2, RS.X.none, RS.X.bool, RS.X.num, RS.X.str, RS.X.var, RS.X.glob, RS.X.bin, RS.X.neg, RS.X.not, RS.X.bop, RS.X.cmp, RS.X.cmp2, RS.X.call, RS.X.bi, RS.X.meth, RS.X.idx, RS.X.slice, RS.X.rev, RS.X.attr, RS.X.tup, RS.X.lst, RS.X.emptyDict, RS.X.dict1, RS.X.comp, RS.Src.range1, RS.Src.range2, RS.Src.of, RS.wpT, RS.wpEs, RS.wpBop, RS.wpIfs]
  refine s_call n2 (s_get L1.sc ?_)
  refine gcall (m := 1) (by decide) (cell_at_ok E 3 σ₁ _ fun c₂ => s_get L1.r (s_lenL hr1 (s_fdiv ?_ (s_mod (by decide) ?_))))
  · rw [hln]; exact sm _ (Nat.le_trans F.R.n1 (by decide)) hrl
  obtain ⟨y, ey, hy⟩ := mod_nat (c₂ / ((row.map pv).length : Int)) (n := 1000) (by decide)
  have ey : c₂ / ((row.map pv).length : Int) % 1000 = (y : Int) := ey
  rw [ey]
  refine s_get L1.hd (s_get eat (.dci hes1 (Nat.le_trans hl (by decide)) fun ep' => ?_))
  have S2 := S1.upd hes1 (.dci (dput es (t : Int) (.int y)) ep')
  have hr2 := (Hp.set_ne σ₁ (.dci (dput es (t : Int) (.int y)) ep') (fun e => by rw [e, hes1] at hr1; cases hr1)).trans hr1
  have hes2 := Hp.set_same σ₁ hd (.dci (dput es (t : Int) (.int y)) ep')
  generalize σ₁.set hd (.dci (dput es (t : Int) (.int y)) ep') = σ₂ at *
  have hy' : (0 : Int) ≤ y ∧ (y : Int) < 1000 := ⟨Int.natCast_nonneg _, Int.ofNat_lt.mpr hy⟩
  have F' := F.put ht hy'
  have ho' := ho.put t y
  have hh2 : HeadsAt σ₂ hd (updH H t y) := ⟨_, _, hes2, ho'.1, ho'.2, Nat.le_trans (dput_len _ _ _) (Nat.succ_le_succ hl)⟩
  refine st_cons ?_
  dsimp only [RS.S.ret, RS.S.expr, RS.S.assign, RS.S.ite, RS.S.for_, RS.S.while_, RS.S.raise, RS.S.pass, RS.T.var, RS.T.idx, RS.T.attr, RS.T.tup2, RS.X.none, RS.X.bool, RS.X.num, RS.X.str, RS.X.var, RS.X.glob, RS.X.bin, RS.X.neg, RS.X.not, RS.X.bop, RS.X.cmp, RS.X.cmp2, RS.X.call, RS.X.bi, RS.X.meth, RS.X.idx, RS.X.slice, RS.X.rev, RS.X.attr, RS.X.tup, RS.X.lst, RS.X.emptyDict, RS.X.dict1, RS.X.comp, RS.Src.range1, RS.Src.range2, RS.Src.of, RS.wpT, RS.wpEs, RS.wpBop, RS.wpIfs]
  refine s_get L1.sh (s_recv (s_recvI S2.ia (by decide) S2.id rfl) (s_get L1.r (s_get eat (s_idxL hr2 (get_pv ht) (s_get L1.hd (s_get eat (hh2.idx (x := y) (if_pos rfl) (s_ownF (f := "Sheet.put") rfl ?_))))))))
  have hp := F.R.on _ (List.getElem_mem ht)
  refine gcall (m := 5) (by decide) (put_ok E.S z S2 hp (r := .num y) hp trivial (by show 1 ≤ 8; decide) (by show 1 ≤ 100; decide) _ fun σ₃ kp S3 => ?_)
  obtain ⟨ep₂, ic⟩ := S2.ic
  refine st_cons ?_
  dsimp only [RS.S.ret, RS.S.expr, RS.S.assign, RS.S.ite, RS.S.for_, RS.S.while_, RS.S.raise, RS.S.pass, RS.T.var, RS.T.idx, RS.T.attr, RS.T.tup2, RS.X.none, RS.X.bool, RS.X.num, RS.X.str, RS.X.var, RS.X.glob, RS.X.bin, RS.X.neg, RS.X.not, RS.X.bop, RS.X.cmp, RS.X.cmp2, RS.X.call, RS.X.bi, RS.X.meth, RS.X.idx, RS.X.slice, RS.X.rev, RS.X.attr, RS.X.tup, RS.X.lst, RS.X.emptyDict, RS.X.dict1, RS.X.comp, RS.Src.range1, RS.Src.range2, RS.Src.of, RS.wpT, RS.wpEs, RS.wpBop, RS.wpIfs]
  refine s_call n1 (s_get L1.sh (s_get L1.r (s_get L1.st (s_get L1.hd (s_get L1.bk (s_get L1.way ?_))))))
  refine gcall (m := 13) (by decide) (right_ok E z F' σ₃ S3 (kp _ _ (fun e => by rw [e, ic] at hr2; cases hr2) hr2) ⟨_, _, kp _ _ (fun e => by rw [e, ic] at hes2; cases hes2) hes2, ho'.1, ho'.2, Nat.le_trans (dput_len _ _ _) (Nat.succ_le_succ hl)⟩ _ fun _ _ => rfl)

theorem law14 (E : Env14 W) : wpSs b_law (glb W 20) (bindP p_law [.script]) (fun _ => none) (fun _ _ => V.none = .bool true) (fun v _ => v = .bool true) (fun _ _ _ => False) := by
  have n1 : (glb W 20).has "_law_sizes" = true := E.has (by decide)
  have n2 : (glb W 20).has "_law_cell_at" = true := E.has (by decide)
  have n3 : (glb W 20).has "_law_row" = true := E.has (by decide)
  have n4 : (glb W 20).has "_law_rule" = true := E.has (by decide)
  have n5 : (glb W 20).has "Sheet" = true := E.S.has (by decide)
  have rest := @rest_ok W
  dsimp only [b_law, List.drop] at rest
  dsimp only [b_law, p_law, bindP]
  refine st_cons ?_
  dsimp only [RS.S.ret, RS.S.expr, RS.S.assign, RS.S.ite, RS.S.for_, RS.S.while_, RS.S.raise, RS.S.pass, RS.T.var, RS.T.idx, RS.T.attr, RS.T.tup2, RS.X.none, RS.X.bool, RS.X.num, RS.X.str, RS.X.var, RS.X.glob, RS.X.bin, RS.X.neg, RS.X.not, RS.X.bop, RS.X.cmp, RS.X.cmp2, RS.X.call, RS.X.bi, RS.X.meth, RS.X.idx, RS.X.slice, RS.X.rev, RS.X.attr, RS.X.tup, RS.X.lst, RS.X.emptyDict, RS.X.dict1, RS.X.comp, RS.Src.range1, RS.Src.range2, RS.Src.of, RS.wpT, RS.wpEs, RS.wpBop, RS.wpIfs]
  refine s_call n1 (s_call n2 (s_get rfl ?_))
  refine gcall (m := 1) (by decide) (cell_at_ok E 0 _ _ fun c₀ => ?_)
  refine gcall (m := 1) (by decide) (sizes_ok E c₀ _ _ fun h w z => ⟨_, _, rfl, st_cons ?_⟩)
  dsimp only [RS.S.ret, RS.S.expr, RS.S.assign, RS.S.ite, RS.S.for_, RS.S.while_, RS.S.raise, RS.S.pass, RS.T.var, RS.T.idx, RS.T.attr, RS.T.tup2, RS.X.none, RS.X.bool, RS.X.num, RS.X.str, RS.X.var, RS.X.glob, RS.X.bin, RS.X.neg, RS.X.not, RS.X.bop, RS.X.cmp, RS.X.cmp2, RS.X.call, RS.X.bi, RS.X.meth, RS.X.idx, RS.X.slice, RS.X.rev, RS.X.attr, RS.X.tup, RS.X.lst, RS.X.emptyDict, RS.X.dict1, RS.X.comp, RS.Src.range1, RS.Src.range2, RS.Src.of, RS.wpT, RS.wpEs, RS.wpBop, RS.wpIfs]
  refine s_call n2 (s_get rfl ?_)
  refine gcall (m := 1) (by decide) (cell_at_ok E 1 _ _ fun cl => st_cons ?_)
  dsimp only [RS.S.ret, RS.S.expr, RS.S.assign, RS.S.ite, RS.S.for_, RS.S.while_, RS.S.raise, RS.S.pass, RS.T.var, RS.T.idx, RS.T.attr, RS.T.tup2, RS.X.none, RS.X.bool, RS.X.num, RS.X.str, RS.X.var, RS.X.glob, RS.X.bin, RS.X.neg, RS.X.not, RS.X.bop, RS.X.cmp, RS.X.cmp2, RS.X.call, RS.X.bi, RS.X.meth, RS.X.idx, RS.X.slice, RS.X.rev, RS.X.attr, RS.X.tup, RS.X.lst, RS.X.emptyDict, RS.X.dict1, RS.X.comp, RS.Src.range1, RS.Src.range2, RS.Src.of, RS.wpT, RS.wpEs, RS.wpBop, RS.wpIfs]
  refine s_call n3 (s_get rfl (s_get rfl (s_get rfl ?_)))
  refine gcall (m := 1) (by decide) (row_ok E z cl _ _ fun row rw σ₁ _ hr R => st_cons ?_)
  dsimp only [RS.S.ret, RS.S.expr, RS.S.assign, RS.S.ite, RS.S.for_, RS.S.while_, RS.S.raise, RS.S.pass, RS.T.var, RS.T.idx, RS.T.attr, RS.T.tup2, RS.X.none, RS.X.bool, RS.X.num, RS.X.str, RS.X.var, RS.X.glob, RS.X.bin, RS.X.neg, RS.X.not, RS.X.bop, RS.X.cmp, RS.X.cmp2, RS.X.call, RS.X.bi, RS.X.meth, RS.X.idx, RS.X.slice, RS.X.rev, RS.X.attr, RS.X.tup, RS.X.lst, RS.X.emptyDict, RS.X.dict1, RS.X.comp, RS.Src.range1, RS.Src.range2, RS.Src.of, RS.wpT, RS.wpEs, RS.wpBop, RS.wpIfs]
  refine s_get rfl (s_fdiv (sm 4 (by decide) (by decide)) (s_mod (by decide) (s_add (st_cons ?_))))
  dsimp only [RS.S.ret, RS.S.expr, RS.S.assign, RS.S.ite, RS.S.for_, RS.S.while_, RS.S.raise, RS.S.pass, RS.T.var, RS.T.idx, RS.T.attr, RS.T.tup2, RS.X.none, RS.X.bool, RS.X.num, RS.X.str, RS.X.var, RS.X.glob, RS.X.bin, RS.X.neg, RS.X.not, RS.X.bop, RS.X.cmp, RS.X.cmp2, RS.X.call, RS.X.bi, RS.X.meth, RS.X.idx, RS.X.slice, RS.X.rev, RS.X.attr, RS.X.tup, RS.X.lst, RS.X.emptyDict, RS.X.dict1, RS.X.comp, RS.Src.range1, RS.Src.range2, RS.Src.of, RS.wpT, RS.wpEs, RS.wpBop, RS.wpIfs]
  refine s_get rfl (s_fdiv (sm 36 (by decide) (by decide)) (s_mod (by decide) (st_cons ?_)))
  dsimp only [RS.S.ret, RS.S.expr, RS.S.assign, RS.S.ite, RS.S.for_, RS.S.while_, RS.S.raise, RS.S.pass, RS.T.var, RS.T.idx, RS.T.attr, RS.T.tup2, RS.X.none, RS.X.bool, RS.X.num, RS.X.str, RS.X.var, RS.X.glob, RS.X.bin, RS.X.neg, RS.X.not, RS.X.bop, RS.X.cmp, RS.X.cmp2, RS.X.call, RS.X.bi, RS.X.meth, RS.X.idx, RS.X.slice, RS.X.rev, RS.X.attr, RS.X.tup, RS.X.lst, RS.X.emptyDict, RS.X.dict1, RS.X.comp, RS.Src.range1, RS.Src.range2, RS.Src.of, RS.wpT, RS.wpEs, RS.wpBop, RS.wpIfs]
  refine s_get rfl (s_fdiv (sm 180 (by decide) (by decide)) (s_mod (by decide) (st_cons ?_)))
  dsimp only [RS.S.ret, RS.S.expr, RS.S.assign, RS.S.ite, RS.S.for_, RS.S.while_, RS.S.raise, RS.S.pass, RS.T.var, RS.T.idx, RS.T.attr, RS.T.tup2, RS.X.none, RS.X.bool, RS.X.num, RS.X.str, RS.X.var, RS.X.glob, RS.X.bin, RS.X.neg, RS.X.not, RS.X.bop, RS.X.cmp, RS.X.cmp2, RS.X.call, RS.X.bi, RS.X.meth, RS.X.idx, RS.X.slice, RS.X.rev, RS.X.attr, RS.X.tup, RS.X.lst, RS.X.emptyDict, RS.X.dict1, RS.X.comp, RS.Src.range1, RS.Src.range2, RS.Src.of, RS.wpT, RS.wpEs, RS.wpBop, RS.wpIfs]
  obtain ⟨s, es, hs⟩ : ∃ s : Int, 1 + cl / 4 % 9 = s ∧ 1 ≤ s ∧ s ≤ 9 := ⟨_, rfl, Int.le_add_of_nonneg_right (Int.emod_nonneg _ (by decide)), (Int.add_le_add_left (show cl / 4 % 9 ≤ 8 from Int.le_of_lt_add_one (Int.emod_lt_of_pos (cl / 4) (by decide : (0 : Int) < 9))) 1 : 1 + cl / 4 % 9 ≤ 1 + 8)⟩
  obtain ⟨m, em, hm⟩ := mod_nat (cl / 36) (n := 5) (by decide)
  have em : cl / 36 % 5 = (m : Int) := em
  rw [es, em]
  generalize cl / 180 % 3 = way
  have hm : m ≤ 4 := Nat.le_of_lt_succ hm
  refine s_call n5 (s_get rfl (s_get rfl ?_))
  refine gcall (m := 4) (by decide) (make_ok E.S z σ₁ _ fun a d c σ₂ le₂ na nd nc S₀ => st_cons ?_)
  dsimp only [RS.S.ret, RS.S.expr, RS.S.assign, RS.S.ite, RS.S.for_, RS.S.while_, RS.S.raise, RS.S.pass, RS.T.var, RS.T.idx, RS.T.attr, RS.T.tup2, RS.X.none, RS.X.bool, RS.X.num, RS.X.str, RS.X.var, RS.X.glob, RS.X.bin, RS.X.neg, RS.X.not, RS.X.bop, RS.X.cmp, RS.X.cmp2, RS.X.call, RS.X.bi, RS.X.meth, RS.X.idx, RS.X.slice, RS.X.rev, RS.X.attr, RS.X.tup, RS.X.lst, RS.X.emptyDict, RS.X.dict1, RS.X.comp, RS.Src.range1, RS.Src.range2, RS.Src.of, RS.wpT, RS.wpEs, RS.wpBop, RS.wpIfs]
  have hr2 := le₂ _ _ hr
  have hrl := R.n0
  have hln : ((row.map pv).length : Int) = (row.length : Int) := by rw [List.length_map]
  have hkt : (((row.map pv).length : Int) - 1).toNat + 1 = row.length := by
    rw [hln]; clear na nd nc; lia
  have hrc : rw ≠ c := Hp.ne_of hr nc
  refine s_get rfl (s_lenL hr2 (s_range (Nat.le_trans (Nat.le_of_succ_le (Nat.le_of_eq hkt)) (Nat.le_trans R.n1 (by decide))) ?_))
  refine forL_range (fun i ρ σ' => (A7 (ρ "_law_script" = some .script) (ρ "_law_row_here" = some (.ref rw)) (ρ "_law_step" = some (.int s)) (ρ "_law_sheet" = some (.ref a)) (ρ "_law_way" = some (.int way)) (ρ "_law_many" = some (.int m)) (ρ "_law_cell" = some (.int cl))) ∧ σ' rw = some (.lst (row.map pv)) ∧ ∃ f : Pl → Rule, SheetAt σ' a d c h w f ∧ ∀ k (hk : k + 1 < row.length), k < i → f row[k + 1] = link m s (row[k]'(Nat.lt_of_succ_lt hk))) ?_ (fun _ => trivial) ?_ ?_
  · exact ⟨⟨rfl, rfl, rfl, rfl, rfl, rfl, rfl⟩, hr2, _, S₀, fun k _ hk => (Nat.not_lt_zero _ hk).elim⟩
  · rintro i ρ σ' N' hi ⟨⟨l1, l2, l3, l4, l5, l6, l7⟩, hr, f, S, hf⟩ hN
    have e1i : (1 : Int) + i = ((i + 1 : Nat) : Int) := by rw [Int.add_comm]; rfl
    rw [e1i] at hi ⊢
    rw [hln] at hi
    have hi1 : i + 1 < row.length := Int.ofNat_lt.mp hi
    have hi0 := Nat.lt_of_succ_lt hi1
    have l1 := (Env.set_ne ρ (.int ((i + 1 : Nat) : Int)) (by decide : "_law_script" ≠ "_law_k")).trans l1
    have l2 := (Env.set_ne ρ (.int ((i + 1 : Nat) : Int)) (by decide : "_law_row_here" ≠ "_law_k")).trans l2
    have l3 := (Env.set_ne ρ (.int ((i + 1 : Nat) : Int)) (by decide : "_law_step" ≠ "_law_k")).trans l3
    have l4 := (Env.set_ne ρ (.int ((i + 1 : Nat) : Int)) (by decide : "_law_sheet" ≠ "_law_k")).trans l4
    have l5 := (Env.set_ne ρ (.int ((i + 1 : Nat) : Int)) (by decide : "_law_way" ≠ "_law_k")).trans l5
    have l6 := (Env.set_ne ρ (.int ((i + 1 : Nat) : Int)) (by decide : "_law_many" ≠ "_law_k")).trans l6
    have l7 := (Env.set_ne ρ (.int ((i + 1 : Nat) : Int)) (by decide : "_law_cell" ≠ "_law_k")).trans l7
    have lk := Env.set_same ρ "_law_k" (.int ((i + 1 : Nat) : Int))
    generalize ρ.set "_law_k" (.int ((i + 1 : Nat) : Int)) = ρ₁ at *
    have hgi : pyGet (row.map pv) (((i + 1 : Nat) : Int) - 1) = some (pv row[i]) := by rw [Int.natCast_succ, Int.add_sub_cancel, get_pv hi0]
    refine st_cons ?_
    dsimp only [RS.S.ret, RS.S.expr, RS.S.assign, RS.S.ite, RS.S.for_, RS.S.while_, RS.S.raise, RS.S.pass, RS.T.var, RS.T.idx, RS.T.attr, RS.T.tup2, RS.X.none, RS.X.bool, RS.X.num, RS.X.str, RS.X.var, RS.X.glob, RS.X.bin, RS.X.neg, RS.X.not, RS.X.bop, RS.X.cmp, RS.X.cmp2, RS.X.call, RS.X.bi, RS.X.meth, RS.X.idx, RS.X.slice, RS.X.rev, RS.X.attr, RS.X.tup, RS.X.lst, RS.X.emptyDict, RS.X.dict1, RS.X.comp, RS.Src.range1, RS.Src.range2, RS.Src.of, RS.wpT, RS.wpEs, RS.wpBop, RS.wpIfs]
    refine s_get l4 (s_recv (s_recvI S.ia (by decide) S.id rfl) (s_get l2 (s_get lk (s_idxL hr (get_pv hi1) (s_call n4 (s_get l2 (s_get lk (s_sub (s_idxL hr hgi (s_get l3 (s_get l6 ?_)))))))))))
    refine gcall (m := 1) (by decide) (rule_by_ok E row[i] s m hm σ' _ fun σ₃ le₃ => s_ownF (f := "Sheet.put") rfl ?_)
    obtain ⟨k1, _, k3, k4, _⟩ := link_ok m s row[i]
    refine gcall (m := 5) (by decide) (put_ok E.S z (S.le le₃) (R.on _ (List.getElem_mem hi1)) (R.on _ (List.getElem_mem hi0)) k1 (k3 ▸ Nat.le_trans (Nat.add_le_add_right hm 2) (by decide)) (k4 ▸ Nat.le_trans (Nat.add_le_add_right (Nat.mul_le_mul_left 2 hm) 3) (by decide)) _ fun σ₄ kp S4 => st_nil (hN _ _ ⟨⟨l1, l2, l3, l4, l5, l6, l7⟩, kp _ _ hrc (le₃ _ _ hr), _, S4, fun k hk hki => ?_⟩))
    by_cases e : k = i
    · subst e; exact updF_same _ _ _
    · rw [updF_ne _ _ fun e' => e (Nat.succ.inj (inj_get R.nd e'))]
      exact hf k hk (Nat.lt_of_le_of_ne (Nat.le_of_lt_succ hki) e)
  · clear S₀ hr2 hr
    rintro ρ σ₃ ⟨⟨l1, l2, l3, l4, l5, l6, l7⟩, hr, f, S, hf⟩
    have F0 : Fit0 h w row s m f := ⟨R, hs, hm, fun k hk => hf k hk (Nat.lt_of_succ_lt_succ (Nat.lt_of_lt_of_eq hk hkt.symm))⟩
    have h0 := R.on _ (List.getElem_mem hrl)
    have hg0 : pyGet (row.map pv) 0 = some (pv row[0]) := get_pv hrl
    refine st_cons ?_
    dsimp only [RS.S.ret, RS.S.expr, RS.S.assign, RS.S.ite, RS.S.for_, RS.S.while_, RS.S.raise, RS.S.pass, RS.T.var, RS.T.idx, RS.T.attr, RS.T.tup2, RS.X.none, RS.X.bool, RS.X.num, RS.X.str, RS.X.var, RS.X.glob, RS.X.bin, RS.X.neg, RS.X.not, RS.X.bop, RS.X.cmp, RS.X.cmp2, RS.X.call, RS.X.bi, RS.X.meth, RS.X.idx, RS.X.slice, RS.X.rev, RS.X.attr, RS.X.tup, RS.X.lst, RS.X.emptyDict, RS.X.dict1, RS.X.comp, RS.Src.range1, RS.Src.range2, RS.Src.of, RS.wpT, RS.wpEs, RS.wpBop, RS.wpIfs]
    refine s_neg (st_cons ?_)
    have m1 := (Env.set_ne ρ (.int (-1)) (by decide : "_law_script" ≠ "_law_back")).trans l1
    have m2 := (Env.set_ne ρ (.int (-1)) (by decide : "_law_row_here" ≠ "_law_back")).trans l2
    have m3 := (Env.set_ne ρ (.int (-1)) (by decide : "_law_step" ≠ "_law_back")).trans l3
    have m4 := (Env.set_ne ρ (.int (-1)) (by decide : "_law_sheet" ≠ "_law_back")).trans l4
    have m5 := (Env.set_ne ρ (.int (-1)) (by decide : "_law_way" ≠ "_law_back")).trans l5
    have m6 := (Env.set_ne ρ (.int (-1)) (by decide : "_law_many" ≠ "_law_back")).trans l6
    have m7 := (Env.set_ne ρ (.int (-1)) (by decide : "_law_cell" ≠ "_law_back")).trans l7
    have m8 := Env.set_same ρ "_law_back" (.int (-1))
    generalize ρ.set "_law_back" (.int (-1)) = ρ₁ at *
    clear l1 l2 l3 l4 l5 l6 l7
    dsimp only [RS.S.ret, RS.S.expr, RS.S.assign, RS.S.ite, RS.S.for_, RS.S.while_, RS.S.raise, RS.S.pass, RS.T.var, RS.T.idx, RS.T.attr, RS.T.tup2, RS.X.none, RS.X.bool, RS.X.num, RS.X.str, RS.X.var, RS.X.glob, RS.X.bin, RS.X.neg, RS.X.not, RS.X.bop, RS.X.cmp, RS.X.cmp2, RS.X.call, RS.X.bi, RS.X.meth, RS.X.idx, RS.X.slice, RS.X.rev, RS.X.attr, RS.X.tup, RS.X.lst, RS.X.emptyDict, RS.X.dict1, RS.X.comp, RS.Src.range1, RS.Src.range2, RS.Src.of, RS.wpT, RS.wpEs, RS.wpBop, RS.wpIfs]
    refine s_call n2 (s_get m1 ?_)
    refine gcall (m := 1) (by decide) (cell_at_ok E 2 σ₃ _ fun c₂ => s_mod (by decide) (.dci fun ep => s_newG fun hd σ₄ nhd le₄ hhd => ?_))
    obtain ⟨x, ex, hx⟩ := mod_nat c₂ (n := 1000) (by decide)
    have ex : c₂ % 1000 = (x : Int) := ex
    rw [ex] at hhd
    have L : LW a rw hd s (bk none) way (ρ₁.set "_law_heads" (.ref hd)) := ⟨(Env.set_ne _ _ (by decide)).trans m1, (Env.set_ne _ _ (by decide)).trans m2, (Env.set_ne _ _ (by decide)).trans m3, (Env.set_ne _ _ (by decide)).trans m4, Env.set_same _ _ _, (Env.set_ne _ _ (by decide)).trans m8, (Env.set_ne _ _ (by decide)).trans m5⟩
    have p6 := (Env.set_ne ρ₁ (.ref hd) (by decide : "_law_many" ≠ "_law_heads")).trans m6
    have p7 := (Env.set_ne ρ₁ (.ref hd) (by decide : "_law_cell" ≠ "_law_heads")).trans m7
    generalize ρ₁.set "_law_heads" (.ref hd) = ρ₂ at *
    clear m1 m2 m3 m4 m5 m6 m7 m8
    have S4 := S.le le₄
    have hr4 := le₄ _ _ hr
    obtain ⟨ep₄, ic⟩ := S4.ic
    have hrc4 : rw ≠ c := hrc
    refine st_cons ?_
    dsimp only [RS.S.ret, RS.S.expr, RS.S.assign, RS.S.ite, RS.S.for_, RS.S.while_, RS.S.raise, RS.S.pass, RS.T.var, RS.T.idx, RS.T.attr, RS.T.tup2, RS.X.none, RS.X.bool, RS.X.num, RS.X.str, RS.X.var, RS.X.glob, RS.X.bin, RS.X.neg, RS.X.not, RS.X.bop, RS.X.cmp, RS.X.cmp2, RS.X.call, RS.X.bi, RS.X.meth, RS.X.idx, RS.X.slice, RS.X.rev, RS.X.attr, RS.X.tup, RS.X.lst, RS.X.emptyDict, RS.X.dict1, RS.X.comp, RS.Src.range1, RS.Src.range2, RS.Src.of, RS.wpT, RS.wpEs, RS.wpBop, RS.wpIfs]
    refine s_get p7 (s_fdiv (sm 540 (by decide) (by decide)) (s_mod (by decide) (s_eqI (s_truth rfl (s_if (fun _ => st_cons ?_) fun _ => st_cons ?_)))))
    · dsimp only [RS.S.ret, RS.S.expr, RS.S.assign, RS.S.ite, RS.S.for_, RS.S.while_, RS.S.raise, RS.S.pass, RS.T.var, RS.T.idx, RS.T.attr, RS.T.tup2, RS.X.none, RS.X.bool, RS.X.num, RS.X.str, RS.X.var, RS.X.glob, RS.X.bin, RS.X.neg, RS.X.not, RS.X.bop, RS.X.cmp, RS.X.cmp2, RS.X.call, RS.X.bi, RS.X.meth, RS.X.idx, RS.X.slice, RS.X.rev, RS.X.attr, RS.X.tup, RS.X.lst, RS.X.emptyDict, RS.X.dict1, RS.X.comp, RS.Src.range1, RS.Src.range2, RS.Src.of, RS.wpT, RS.wpEs, RS.wpBop, RS.wpIfs]
      refine s_get L.r (s_lenL hr4 (s_sub (s_call n2 (s_get L.sc ?_))))
      refine gcall (m := 1) (by decide) (cell_at_ok E 2 σ₄ _ fun c₃ => s_get L.r (s_lenL hr4 (s_mod ?_ (s_sub ?_))))
      · rw [hln]; exact Int.ofNat_lt.mpr hrl
      obtain ⟨t, et, ht⟩ := mod_nat c₃ hrl
      have eb : ((row.map pv).length : Int) - 1 - c₃ % ((row.map pv).length : Int) = ((row.length - 1 - t : Nat) : Int) := by
        rw [hln, et]; clear et ex ic; (clear hrc4 hx ex hrc hkt hln hm em hs es; omega)
      have hb : row.length - 1 - t < row.length := Nat.lt_of_le_of_lt (Nat.sub_le _ _) (Nat.sub_lt hrl Nat.one_pos)
      rw [eb]
      generalize row.length - 1 - t = b at *
      refine st_cons ?_
      dsimp only [RS.S.ret, RS.S.expr, RS.S.assign, RS.S.ite, RS.S.for_, RS.S.while_, RS.S.raise, RS.S.pass, RS.T.var, RS.T.idx, RS.T.attr, RS.T.tup2, RS.X.none, RS.X.bool, RS.X.num, RS.X.str, RS.X.var, RS.X.glob, RS.X.bin, RS.X.neg, RS.X.not, RS.X.bop, RS.X.cmp, RS.X.cmp2, RS.X.call, RS.X.bi, RS.X.meth, RS.X.idx, RS.X.slice, RS.X.rev, RS.X.attr, RS.X.tup, RS.X.lst, RS.X.emptyDict, RS.X.dict1, RS.X.comp, RS.Src.range1, RS.Src.range2, RS.Src.of, RS.wpT, RS.wpEs, RS.wpBop, RS.wpIfs]
      refine .inr (s_newG fun hd₂ σ₅ nhd₂ le₅ hhd₂ => st_cons ?_)
      have L2 : LW a rw hd₂ s (bk (some b)) way ((ρ₂.set "_law_back" (.int b)).set "_law_heads" (.ref hd₂)) := ⟨(Env.set_ne _ _ (by decide)).trans ((Env.set_ne _ _ (by decide)).trans L.sc), (Env.set_ne _ _ (by decide)).trans ((Env.set_ne _ _ (by decide)).trans L.r), (Env.set_ne _ _ (by decide)).trans ((Env.set_ne _ _ (by decide)).trans L.st), (Env.set_ne _ _ (by decide)).trans ((Env.set_ne _ _ (by decide)).trans L.sh), Env.set_same _ _ _, (Env.set_ne _ _ (by decide)).trans (Env.set_same _ _ _), (Env.set_ne _ _ (by decide)).trans ((Env.set_ne _ _ (by decide)).trans L.way)⟩
      have q6 := (Env.set_ne (ρ₂.set "_law_back" (.int b)) (.ref hd₂) (by decide : "_law_many" ≠ "_law_heads")).trans ((Env.set_ne _ _ (by decide)).trans p6)
      generalize (ρ₂.set "_law_back" (.int b)).set "_law_heads" (.ref hd₂) = ρ₃ at *
      have S5 := S4.le le₅
      have hr5 := le₅ _ _ hr4
      dsimp only [RS.S.ret, RS.S.expr, RS.S.assign, RS.S.ite, RS.S.for_, RS.S.while_, RS.S.raise, RS.S.pass, RS.T.var, RS.T.idx, RS.T.attr, RS.T.tup2, RS.X.none, RS.X.bool, RS.X.num, RS.X.str, RS.X.var, RS.X.glob, RS.X.bin, RS.X.neg, RS.X.not, RS.X.bop, RS.X.cmp, RS.X.cmp2, RS.X.call, RS.X.bi, RS.X.meth, RS.X.idx, RS.X.slice, RS.X.rev, RS.X.attr, RS.X.tup, RS.X.lst, RS.X.emptyDict, RS.X.dict1, RS.X.comp, RS.Src.range1, RS.Src.range2, RS.Src.of, RS.wpT, RS.wpEs, RS.wpBop, RS.wpIfs]
      refine s_get L2.sh (s_recv (s_recvI S5.ia (by decide) S5.id rfl) (s_get L2.r (s_idxL hr5 hg0 (s_call n4 (s_get L2.r (s_get L2.bk (s_idxL hr5 (get_pv hb) (s_get L2.st (s_get q6 ?_)))))))))
      refine gcall (m := 1) (by decide) (rule_by_ok E row[b] s m hm σ₅ _ fun σ₆ le₆ => s_ownF (f := "Sheet.put") rfl ?_)
      obtain ⟨k1, _, k3, k4, _⟩ := link_ok m s row[b]
      have S6 := S5.le le₆
      have ic6 := le₆ _ _ (le₅ _ _ ic)
      refine gcall (m := 5) (by decide) (put_ok E.S z S6 h0 (R.on _ (List.getElem_mem hb)) k1 (k3 ▸ Nat.le_trans (Nat.add_le_add_right hm 2) (by decide)) (k4 ▸ Nat.le_trans (Nat.add_le_add_right (Nat.mul_le_mul_left 2 hm) 3) (by decide)) _ fun σ₇ kp S7 => st_nil ?_)
      have hhd6 := le₆ _ _ hhd₂
      exact rest E z (F0.ring hb) L2 S7 (kp _ _ hrc (le₆ _ _ hr5)) (kp _ _ (fun e => by rw [e, ic6] at hhd6; cases hhd6) hhd6) .nil (Nat.zero_le _)
    · dsimp only [RS.S.ret, RS.S.expr, RS.S.assign, RS.S.ite, RS.S.for_, RS.S.while_, RS.S.raise, RS.S.pass, RS.T.var, RS.T.idx, RS.T.attr, RS.T.tup2, RS.X.none, RS.X.bool, RS.X.num, RS.X.str, RS.X.var, RS.X.glob, RS.X.bin, RS.X.neg, RS.X.not, RS.X.bop, RS.X.cmp, RS.X.cmp2, RS.X.call, RS.X.bi, RS.X.meth, RS.X.idx, RS.X.slice, RS.X.rev, RS.X.attr, RS.X.tup, RS.X.lst, RS.X.emptyDict, RS.X.dict1, RS.X.comp, RS.Src.range1, RS.Src.range2, RS.Src.of, RS.wpT, RS.wpEs, RS.wpBop, RS.wpIfs]
      refine s_get L.sh (s_recv (s_recvI S4.ia (by decide) S4.id rfl) (s_get L.r (s_idxL hr4 hg0 (s_get L.hd (.dci hhd (v := .int x) rfl (s_ownF (f := "Sheet.put") rfl ?_))))))
      refine gcall (m := 5) (by decide) (put_ok E.S z S4 h0 (r := .num x) h0 trivial (by show 1 ≤ 8; decide) (by show 1 ≤ 100; decide) _ fun σ₇ kp S7 => st_nil ?_)
      exact rest E z (F0.head (x := x) ⟨Int.natCast_nonneg _, Int.ofNat_lt.mpr hx⟩) L S7 (kp _ _ hrc hr4) (kp _ _ (fun e => by rw [e, ic] at hhd; cases hhd) hhd) (.one x) (Nat.le_refl _)
end
noncomputable def all14 : List String := ["rules_in", "references_in", "all_rules", "area", "deep", "references", "needed", "told", "known_values", "reckoned", "ring", "touched", "_law_cell_at", "_law_sizes", "_law_row", "_law_rule", "_law_due", "_law_values", "_law_round", "_law_touches", "_law_right", "law"]

end RS

open PySem PySem.W PyProof.Rows
theorem RS.looks : looksOpen PySem.Challenge.rw_uf050032_14.row.prog = true := by
  unfold looksOpen
  refine look_both (look_both (look_both (look_both (look_both ?_ ?_) ?_) ?_) ?_) ?_ <;> decide +kernel
theorem RS.part : PySem.Challenge.rw_uf050032_14.row.partSaid = true := by
  unfold OpenRow.partSaid
  rw [RS.looks]
  decide +kernel
theorem RS.rowSaid : PySem.Challenge.rw_uf050032_14.row.wellSaid = true := by
  unfold OpenRow.wellSaid
  rw [RS.part]
  decide +kernel
theorem RS.said_ok : PySem.Challenge.rw_uf050032_14.wellSaid = true := by
  unfold OpenLaw.wellSaid
  rw [RS.rowSaid]
  repeat refine look_both ?_ (by decide +kernel)
  rfl
theorem RS.hd.tw10187215299453303998 : True := trivial
theorem RS.hd.tw10259437534704626774 : True := trivial
theorem RS.hd.tw10370903517989177239 : True := trivial
theorem RS.hd.tw10383423426791325321 : True := trivial
theorem RS.hd.tw10453102797729533263 : True := trivial
theorem RS.hd.tw10453195487188656978 : True := trivial
theorem RS.hd.tw1052148613688690872 : True := trivial
theorem RS.hd.tw10715344108482381735 : True := trivial
theorem RS.hd.tw10898129627272476674 : True := trivial
theorem RS.hd.tw10914988647362155905 : True := trivial
theorem RS.hd.tw11030239115530594179 : True := trivial
theorem RS.hd.tw11034857694370739918 : True := trivial
theorem RS.hd.tw11108278296462528752 : True := trivial
theorem RS.hd.tw11215044196168486584 : True := trivial
theorem RS.hd.tw11249486350167945882 : True := trivial
theorem RS.hd.tw11384409287422504500 : True := trivial
theorem RS.hd.tw11385970671158842562 : True := trivial
theorem RS.hd.tw11426361180810125355 : True := trivial
theorem RS.hd.tw11438845050025438818 : True := trivial
theorem RS.hd.tw1143972294176231283 : True := trivial
theorem RS.hd.tw11503207544852525786 : True := trivial
theorem RS.hd.tw11505937705334038656 : True := trivial
theorem RS.hd.tw11712584343851294217 : True := trivial
theorem RS.hd.tw11715170314416528098 : True := trivial
theorem RS.hd.tw11737271115946143178 : True := trivial
theorem RS.hd.tw11772909005719090280 : True := trivial
theorem RS.hd.tw11789601471733150378 : True := trivial
theorem RS.hd.tw11826657719896639404 : True := trivial
theorem RS.hd.tw11836012345918836793 : True := trivial
theorem RS.hd.tw11855519152444613775 : True := trivial
theorem RS.hd.tw11893656963502897855 : True := trivial
theorem RS.hd.tw12092324608517413169 : True := trivial
theorem RS.hd.tw12152960165543536539 : True := trivial
theorem RS.hd.tw12191820851772559219 : True := trivial
theorem RS.hd.tw12313371430069262667 : True := trivial
theorem RS.hd.tw12654974632910289705 : True := trivial
theorem RS.hd.tw12665658491630617350 : True := trivial
theorem RS.hd.tw12736482332594321448 : True := trivial
theorem RS.hd.tw12746688234371912416 : True := trivial
theorem RS.hd.tw12916462315195399618 : True := trivial
theorem RS.hd.tw12987520159876406379 : True := trivial
theorem RS.hd.tw13049147188004127071 : True := trivial
theorem RS.hd.tw13077141385987883567 : True := trivial
theorem RS.hd.tw13097508091864303777 : True := trivial
theorem RS.hd.tw13159481346965834760 : True := trivial
theorem RS.hd.tw13191343928284556677 : True := trivial
theorem RS.hd.tw13239162038184034697 : True := trivial
theorem RS.hd.tw13397183246731059292 : True := trivial
theorem RS.hd.tw1341923016077802068 : True := trivial
theorem RS.hd.tw13424177549617611724 : True := trivial
theorem RS.hd.tw1346121621382748497 : True := trivial
theorem RS.hd.tw13465771696039946433 : True := trivial
theorem RS.hd.tw1346587394959765258 : True := trivial
theorem RS.hd.tw13474671794101611771 : True := trivial
theorem RS.hd.tw13530884590684750160 : True := trivial
theorem RS.hd.tw13541611752052600026 : True := trivial
theorem RS.hd.tw13564286229209280894 : True := trivial
theorem RS.hd.tw13599424139637518524 : True := trivial
theorem RS.hd.tw13711314716966555838 : True := trivial
theorem RS.hd.tw13779090087549855093 : True := trivial
theorem RS.hd.tw13788154441236443246 : True := trivial
theorem RS.hd.tw13792772407881494543 : True := trivial
theorem RS.hd.tw13810153743715083625 : True := trivial
theorem RS.hd.tw13833798731047878764 : True := trivial
theorem RS.hd.tw13839568792833700553 : True := trivial
theorem RS.hd.tw13882390416313625803 : True := trivial
theorem RS.hd.tw13935944549821609668 : True := trivial
theorem RS.hd.tw13958843564286461193 : True := trivial
theorem RS.hd.tw14140164299232636113 : True := trivial
theorem RS.hd.tw14173762466994650853 : True := trivial
theorem RS.hd.tw14214155170383467892 : True := trivial
theorem RS.hd.tw14254530968754664995 : True := trivial
theorem RS.hd.tw14265809190460864811 : True := trivial
theorem RS.hd.tw14282455181994784284 : True := trivial
theorem RS.hd.tw14283631828802993065 : True := trivial
theorem RS.hd.tw14360752694601752327 : True := trivial
theorem RS.hd.tw14483195440075921936 : True := trivial
theorem RS.hd.tw1457365590663537461 : True := trivial
theorem RS.hd.tw14603057139404703611 : True := trivial
theorem RS.hd.tw1461867772591520533 : True := trivial
theorem RS.hd.tw14687664260120859510 : True := trivial
theorem RS.hd.tw14695605160558918128 : True := trivial
theorem RS.hd.tw14714651531099907515 : True := trivial
theorem RS.hd.tw14781439160052429780 : True := trivial
theorem RS.hd.tw14784509180286961091 : True := trivial
theorem RS.hd.tw14853363171243498163 : True := trivial
theorem RS.hd.tw14858487891027914573 : True := trivial
theorem RS.hd.tw15058074220424135009 : True := trivial
theorem RS.hd.tw15142864203419988718 : True := trivial
theorem RS.hd.tw15143000843363612850 : True := trivial
theorem RS.hd.tw15237382835512586653 : True := trivial
theorem RS.hd.tw15238795445812299040 : True := trivial
theorem RS.hd.tw15249658085889073954 : True := trivial
theorem RS.hd.tw15377381765579210995 : True := trivial
theorem RS.hd.tw15442635398827988686 : True := trivial
theorem RS.hd.tw15495226424295967611 : True := trivial
theorem RS.hd.tw15570111957154868260 : True := trivial
theorem RS.hd.tw15608302153185658349 : True := trivial
theorem RS.hd.tw15763153490393676492 : True := trivial
theorem RS.hd.tw15819128915371739818 : True := trivial
theorem RS.hd.tw15841052183165439532 : True := trivial
theorem RS.hd.tw15896975663332248031 : True := trivial
theorem RS.hd.tw15927383723057646995 : True := trivial
theorem RS.hd.tw15981995500987584623 : True := trivial
theorem RS.hd.tw15989378404665435603 : True := trivial
theorem RS.hd.tw15993123817686199003 : True := trivial
theorem RS.hd.tw16004392441972686923 : True := trivial
theorem RS.hd.tw16224487283440743938 : True := trivial
theorem RS.hd.tw16237287200298697852 : True := trivial
theorem RS.hd.tw16270130151848552258 : True := trivial
theorem RS.hd.tw16359217202643549426 : True := trivial
theorem RS.hd.tw16396727706354038339 : True := trivial
theorem RS.hd.tw16496304387149739443 : True := trivial
theorem RS.hd.tw16603543357863196757 : True := trivial
theorem RS.hd.tw16681086698679700912 : True := trivial
theorem RS.hd.tw1685828140604587504 : True := trivial
theorem RS.hd.tw16897343736219796821 : True := trivial
theorem RS.hd.tw16970401441208149490 : True := trivial
theorem RS.hd.tw17079153489046128959 : True := trivial
theorem RS.hd.tw17105172016937304679 : True := trivial
theorem RS.hd.tw17184201171090496365 : True := trivial
theorem RS.hd.tw17336507608893870872 : True := trivial
theorem RS.hd.tw17416258805987741735 : True := trivial
theorem RS.hd.tw17446419948091175796 : True := trivial
theorem RS.hd.tw17487753065805570946 : True := trivial
theorem RS.hd.tw17718509795158019404 : True := trivial
theorem RS.hd.tw17916651412134924650 : True := trivial
theorem RS.hd.tw17972133476480203604 : True := trivial
theorem RS.hd.tw17979538680150920028 : True := trivial
theorem RS.hd.tw18080437331162376904 : True := trivial
theorem RS.hd.tw18104010631845605414 : True := trivial
theorem RS.hd.tw18116745219455094894 : True := trivial
theorem RS.hd.tw18121849337206260049 : True := trivial
theorem RS.hd.tw18228491917350046688 : True := trivial
theorem RS.hd.tw18285138252167330659 : True := trivial
theorem RS.hd.tw18315543185171813147 : True := trivial
theorem RS.hd.tw1835009571405359133 : True := trivial
theorem RS.hd.tw18412913114590074748 : True := trivial
theorem RS.hd.tw195170067277546349 : True := trivial
theorem RS.hd.tw1990970027925973009 : True := trivial
theorem RS.hd.tw211531383827008831 : True := trivial
theorem RS.hd.tw2116054232436989579 : True := trivial
theorem RS.hd.tw2158943863760518154 : True := trivial
theorem RS.hd.tw2179274053364120234 : True := trivial
theorem RS.hd.tw2273887632417000010 : True := trivial
theorem RS.hd.tw229152300453147730 : True := trivial
theorem RS.hd.tw231085267118263497 : True := trivial
theorem RS.hd.tw2335609649288053896 : True := trivial
theorem RS.hd.tw2422347595689663971 : True := trivial
theorem RS.hd.tw2449029292887820425 : True := trivial
theorem RS.hd.tw2598709452198652705 : True := trivial
theorem RS.hd.tw2740880318971222922 : True := trivial
theorem RS.hd.tw2748495944311137218 : True := trivial
theorem RS.hd.tw2835518688494975514 : True := trivial
theorem RS.hd.tw2867341053889281000 : True := trivial
theorem RS.hd.tw2870745095500066126 : True := trivial
theorem RS.hd.tw3012149721820376508 : True := trivial
theorem RS.hd.tw307343478504557687 : True := trivial
theorem RS.hd.tw3264371270774179335 : True := trivial
theorem RS.hd.tw3313556384480401110 : True := trivial
theorem RS.hd.tw360415691410193036 : True := trivial
theorem RS.hd.tw3691572997831937132 : True := trivial
theorem RS.hd.tw3707346538788114364 : True := trivial
theorem RS.hd.tw373101164911230805 : True := trivial
theorem RS.hd.tw3756718931912681877 : True := trivial
theorem RS.hd.tw3762399985401314139 : True := trivial
theorem RS.hd.tw3777403288166319978 : True := trivial
theorem RS.hd.tw3885078655481191941 : True := trivial
theorem RS.hd.tw3890015722939721641 : True := trivial
theorem RS.hd.tw3945562355347436009 : True := trivial
theorem RS.hd.tw3947918838770319576 : True := trivial
theorem RS.hd.tw397156803915401326 : True := trivial
theorem RS.hd.tw3994629861521553054 : True := trivial
theorem RS.hd.tw4098303467098514989 : True := trivial
theorem RS.hd.tw4128270087658156618 : True := trivial
theorem RS.hd.tw4129841731543702557 : True := trivial
theorem RS.hd.tw4174166658287811514 : True := trivial
theorem RS.hd.tw4339057030833667009 : True := trivial
theorem RS.hd.tw4404472657799080006 : True := trivial
theorem RS.hd.tw4431824925161596959 : True := trivial
theorem RS.hd.tw4461910656842536645 : True := trivial
theorem RS.hd.tw450942200249310038 : True := trivial
theorem RS.hd.tw4567328309760524848 : True := trivial
theorem RS.hd.tw4589707562792807016 : True := trivial
theorem RS.hd.tw4732614117107211675 : True := trivial
theorem RS.hd.tw4897080406782492766 : True := trivial
theorem RS.hd.tw4940369669800043017 : True := trivial
theorem RS.hd.tw4978244631100929119 : True := trivial
theorem RS.hd.tw5125955999056907903 : True := trivial
theorem RS.hd.tw5130855195230096134 : True := trivial
theorem RS.hd.tw5151071278411872903 : True := trivial
theorem RS.hd.tw5151630886044746481 : True := trivial
theorem RS.hd.tw5206356121388057433 : True := trivial
theorem RS.hd.tw5261635608588870783 : True := trivial
theorem RS.hd.tw5286539175425126879 : True := trivial
theorem RS.hd.tw5307347313080085713 : True := trivial
theorem RS.hd.tw5352293050587876090 : True := trivial
theorem RS.hd.tw5374678218554734615 : True := trivial
theorem RS.hd.tw5437783869967408407 : True := trivial
theorem RS.hd.tw557598312011240156 : True := trivial
theorem RS.hd.tw5612971903930163078 : True := trivial
theorem RS.hd.tw5716102350311342729 : True := trivial
theorem RS.hd.tw5770600066304113283 : True := trivial
theorem RS.hd.tw5828856668441193311 : True := trivial
theorem RS.hd.tw5887293943934591642 : True := trivial
theorem RS.hd.tw5953721555451646712 : True := trivial
theorem RS.hd.tw599561360719446132 : True := trivial
theorem RS.hd.tw6089158878031243437 : True := trivial
theorem RS.hd.tw6128657718431022375 : True := trivial
theorem RS.hd.tw6160701454559017053 : True := trivial
theorem RS.hd.tw6238721776869625958 : True := trivial
theorem RS.hd.tw626965648527225603 : True := trivial
theorem RS.hd.tw6308568507921695206 : True := trivial
theorem RS.hd.tw6446378130054154471 : True := trivial
theorem RS.hd.tw6449490257757224472 : True := trivial
theorem RS.hd.tw6476751204455173306 : True := trivial
theorem RS.hd.tw6646763425734088621 : True := trivial
theorem RS.hd.tw6649491840819133931 : True := trivial
theorem RS.hd.tw6650668120171289843 : True := trivial
theorem RS.hd.tw6941907436179451447 : True := trivial
theorem RS.hd.tw7051192873618295252 : True := trivial
theorem RS.hd.tw7125239713058512514 : True := trivial
theorem RS.hd.tw7178466304152092658 : True := trivial
theorem RS.hd.tw7182286165845767150 : True := trivial
theorem RS.hd.tw7195575435345404840 : True := trivial
theorem RS.hd.tw7246019430763830956 : True := trivial
theorem RS.hd.tw7353932795446130162 : True := trivial
theorem RS.hd.tw7363927379043626533 : True := trivial
theorem RS.hd.tw7525147192656389782 : True := trivial
theorem RS.hd.tw7688481154096184131 : True := trivial
theorem RS.hd.tw7694736098070995013 : True := trivial
theorem RS.hd.tw7710265305173523991 : True := trivial
theorem RS.hd.tw7816382669802647890 : True := trivial
theorem RS.hd.tw7819726430785833066 : True := trivial
theorem RS.hd.tw7825465032585108532 : True := trivial
theorem RS.hd.tw7853157981210080160 : True := trivial
theorem RS.hd.tw788560811373912543 : True := trivial
theorem RS.hd.tw7923770611037480993 : True := trivial
theorem RS.hd.tw8006441764106183761 : True := trivial
theorem RS.hd.tw8098558335051090584 : True := trivial
theorem RS.hd.tw8139932089852210857 : True := trivial
theorem RS.hd.tw8154317859061151275 : True := trivial
theorem RS.hd.tw8232123108336352506 : True := trivial
theorem RS.hd.tw8245270231271577125 : True := trivial
theorem RS.hd.tw8322172947512749670 : True := trivial
theorem RS.hd.tw8367126675713946355 : True := trivial
theorem RS.hd.tw8384211014374807606 : True := trivial
theorem RS.hd.tw8425061988981778382 : True := trivial
theorem RS.hd.tw8806495587359705316 : True := trivial
theorem RS.hd.tw8942053949963091078 : True := trivial
theorem RS.hd.tw9071337897682236493 : True := trivial
theorem RS.hd.tw912257198128755537 : True := trivial
theorem RS.hd.tw9215569989335311427 : True := trivial
theorem RS.hd.tw9272479805198022556 : True := trivial
theorem RS.hd.tw9285717581286113360 : True := trivial
theorem RS.hd.tw932032872425836132 : True := trivial
theorem RS.hd.tw9352983117517944577 : True := trivial
theorem RS.hd.tw9423802990091372189 : True := trivial
theorem RS.hd.tw9424057185599365479 : True := trivial
theorem RS.hd.tw9426809156955501658 : True := trivial
theorem RS.hd.tw9439737939694268912 : True := trivial
theorem RS.hd.tw9499610806273976763 : True := trivial
theorem RS.hd.tw9550152489308575826 : True := trivial
theorem RS.hd.tw9568709752624315996 : True := trivial
theorem RS.hd.tw9684523944546124661 : True := trivial
theorem RS.hd.tw9706380112932371790 : True := trivial
theorem RS.hd.tw9767792704484887013 : True := trivial
theorem RS.hd.tw980753376826697325 : True := trivial
theorem RS.hd.tw9905826899691571751 : True := trivial
theorem RS.hd.tw9966411268405148452 : True := trivial
set_option Elab.async true in
set_option maxRecDepth 100000 in
set_option maxHeartbeats 8000000 in
theorem RS.hd : PySem.Challenge.rw_uf050032_14.row.Holds := by
  w_on
  have said := RS.rowSaid
  o_head Hook.none
  (case hw => w_witness2)
  intro w s₀ s₁ mg mb G Y fa o pm cd doc dV kV ho hd hcd hD hmg hg args vals as hpre hlay hrd hwl hlo
  refine Ground.open G ?_
  intro T B D TE TW
  wrow_args hpre hlay hrd hwl hlo
  rename_i ns hs0 hlay0 hL1 hr1 hl2 a4 a3 sa vals a0 hL ra w1 r0 hI hr hc1 hc2
  refine enter_call ?_
  refine codeAny_mono ?_ (fun _ _ g => GoodW.toG g)
  have hln : ns.length ≤ 1000 := by omega
  have hs := RS.script_of w1 hL hI hln
  obtain ⟨C, N, mN, hC, P⟩ := RS.cls_of TE (by kernel_rfl)
  have hT : RS.TopOk (RS.wdOf PySem.Challenge.rw_uf050032_14.row.prog _ w s₁ sa ns (["Sheet"] ++ RS.all14) mg mb (some (C, mN))) :=
    RS.topOk_of T (by kernel_rfl) hs ["Sheet"] (fun f hf => List.mem_singleton.mp hf) (fun x hx => by cases hx; exact ⟨hC, N, RS.clsIs_of P (by kernel_rfl)⟩) (fun _ h => by cases h)
  have ES : RS.EnvS (RS.wdOf PySem.Challenge.rw_uf050032_14.row.prog _ w s₁ sa ns (["Sheet"] ++ RS.all14) mg mb (some (C, mN))) := {
    T := hT
    most := (by kernel_rfl)
    mostD := (by kernel_rfl)
    bound := (by kernel_rfl)
    cls := ⟨C, rfl, (RS.fnOf_plain (cl := some (C, mN)) (by decide +kernel)).trans (congrArg RS.refOf hC)⟩
    rules_in := RS.fnOk_of T (by kernel_rfl)
    references_in := RS.fnOk_of T (by kernel_rfl)
    all_rules := RS.fnOk_of T (by kernel_rfl)
    area := RS.fnOk_of T (by kernel_rfl)
    deep := RS.fnOk_of T (by kernel_rfl)
    references := RS.fnOk_of T (by kernel_rfl)
    needed := RS.fnOk_of T (by kernel_rfl)
    told := RS.fnOk_of T (by kernel_rfl)
    known_values := RS.fnOk_of T (by kernel_rfl)
    reckoned := RS.fnOk_of T (by kernel_rfl)
    ring := RS.fnOk_of T (by kernel_rfl)
    touched := RS.fnOk_of T (by kernel_rfl)
    init := RS.methOk_of (n := "__init__") P (by kernel_rfl)
    places := RS.methOk_of (n := "places") P (by kernel_rfl)
    need_on := RS.methOk_of (n := "need_on") P (by kernel_rfl)
    need_rule := RS.methOk_of (n := "need_rule") P (by kernel_rfl)
    rule := RS.methOk_of (n := "rule") P (by kernel_rfl)
    put := RS.methOk_of (n := "put") P (by kernel_rfl)
    names := (by decide : ∀ f ∈ RS.namesS, f ∈ ["Sheet"] ++ RS.all14) }
  have E : RS.Env14 (RS.wdOf PySem.Challenge.rw_uf050032_14.row.prog _ w s₁ sa ns (["Sheet"] ++ RS.all14) mg mb (some (C, mN))) := {
    S := ES
    typ := fun t ht => RS.typ_of t ((by decide : ∀ t ∈ ["bool", "list"], t ∈ RS.typNames) t ht)
    cell := RS.fnOk_of T (by kernel_rfl)
    sizes := RS.fnOk_of T (by kernel_rfl)
    row := RS.fnOk_of T (by kernel_rfl)
    rule := RS.fnOk_of T (by kernel_rfl)
    due := RS.fnOk_of T (by kernel_rfl)
    values := RS.fnOk_of T (by kernel_rfl)
    round := RS.fnOk_of T (by kernel_rfl)
    touches := RS.fnOk_of T (by kernel_rfl)
    right := RS.fnOk_of T (by kernel_rfl)
    law := RS.fnOk_of T (by kernel_rfl)
    names := (by decide : ∀ f ∈ RS.names14, f ∈ ["Sheet"] ++ RS.all14) }
  exact RS.law_good hT E.law (by decide) rfl (RS.law14 E) hmg hg (by wrow_post) (raisesW_false (by wrow_none_raised))
theorem PySem.Challenge.cw_uf050032_14_holds : PySem.Challenge.rw_uf050032_14.Holds := by
  exact holds_law RS.said_ok fun _ => RS.hd
