import PyProof.Rows.All
import PyProof.P3Statements
import PyProof.Dict
import KE.KDictSum
import PyProof.SetRoads
import PyProof.TupleKey
import KE.LcSums
import PyProof.SetNew
import PyProof.Rows.SetFrom
import PyProof.Rows.SortWalk
import KE.KSortedM
import PyProof.DictUpdate
import KE.KSortTup
import PyProof.LongRange
import PyProof.ExcClass
import PyProof.IsInstanceT
import PyProof.ExcBaseAll.ValueError
import PyProof.ExcAttrAll.ValueError
import PyProof.ExcArgsOwn
import PyProof.StationsW
import OpenK.KCall
import KE.KItem
import PyProof.Rows.CatchOwn
import Wide.All
import OpenK.AllK
import Wide.FinOn
import PySem.Challenge.RW_uf050032_13
set_option autoImplicit false
set_option genInjectivity false
set_option Elab.async false

namespace RS
open PySem (Program Str Stmt Value Heap Addr Shared mainGlobals)
noncomputable def bmVE : List Value := [.type "ValueError", .type "Exception", .type "BaseException", .type "object"]
/-- what the text's exceptions are, as the heap bears them -/
noncomputable def excChk1 (h : Heap) (C : Addr) (tl : List Value) : Bool := match h.get? C with
  | some o => match o.data with
    | .cls cd => cd.mro == .ref C :: tl
    | _ => false
  | none => false
noncomputable def excChk (s : Shared) : Bool := match s.heap.nsMap mainGlobals "SheetError", s.heap.nsMap mainGlobals "BadSize", s.heap.nsMap mainGlobals "OffSheet", s.heap.nsMap mainGlobals "TooDeep" with
  | some (.ref C0), some (.ref C1), some (.ref C2), some (.ref C3) => excChk1 s.heap C0 bmVE && excChk1 s.heap C1 (.ref C0 :: bmVE) && excChk1 s.heap C2 (.ref C0 :: bmVE) && excChk1 s.heap C3 (.ref C0 :: bmVE) && decide [C0, C1, C2, C3].Nodup
  | _, _, _, _ => false
end RS

set_option genSizeOf false
namespace RS
open PySem (PyData)

inductive A3 (a b c : Prop) : Prop
  | mk : a → b → c → A3 a b c
inductive A4 (a b c d : Prop) : Prop
  | mk : a → b → c → d → A4 a b c d
inductive A5 (a b c d e : Prop) : Prop
  | mk : a → b → c → d → e → A5 a b c d e
inductive A6 (a b c d e f : Prop) : Prop
  | mk : a → b → c → d → e → f → A6 a b c d e f
inductive A7 (a b c d e f g : Prop) : Prop
  | mk : a → b → c → d → e → f → g → A7 a b c d e f g
inductive A8 (a b c d e f g h : Prop) : Prop
  | mk : a → b → c → d → e → f → g → h → A8 a b c d e f g h
inductive A9 (a b c d e f g h i : Prop) : Prop
  | mk : a → b → c → d → e → f → g → h → i → A9 a b c d e f g h i
inductive A10 (a b c d e f g h i j : Prop) : Prop
  | mk : a → b → c → d → e → f → g → h → i → j → A10 a b c d e f g h i j
inductive A11 (a b c d e f g h i j k : Prop) : Prop
  | mk : a → b → c → d → e → f → g → h → i → j → k → A11 a b c d e f g h i j k
inductive A12 (a b c d e f g h i j k l : Prop) : Prop
  | mk : a → b → c → d → e → f → g → h → i → j → k → l → A12 a b c d e f g h i j k l
inductive Ex2 {α β : Type} (p : α → β → Prop) : Prop
  | mk (a : α) (b : β) : p a b → Ex2 p
inductive Ex3 {α β γ : Type} (p : α → β → γ → Prop) : Prop
  | mk (a : α) (b : β) (c : γ) : p a b c → Ex3 p
inductive Ex4 {α β γ δ : Type} (p : α → β → γ → δ → Prop) : Prop
  | mk (a : α) (b : β) (c : γ) (d : δ) : p a b c d → Ex4 p
inductive Ex5 {α β γ δ ε : Type} (p : α → β → γ → δ → ε → Prop) : Prop
  | mk (a : α) (b : β) (c : γ) (d : δ) (e : ε) : p a b c d e → Ex5 p
/-! ## values, heaps -/
inductive V where
  | none
  | bool (b : Bool)
  | int (i : Int)
  | str (s : String)
  | tup (vs : List V)
  | ref (a : Nat)
  | script
  | typ (n : String)

noncomputable def V.ints : List V → Option (List Int)
  | [] => some []
  | .int i :: r => (V.ints r).map (i :: ·)
  | _ :: _ => Option.none

/-- the key of a dict by tuples of ints -/
noncomputable def V.key : V → Option (List Int)
  | .tup vs => V.ints vs
  | _ => Option.none
noncomputable def kv (l : List Int) : V := .tup (l.map .int)

inductive Cell where
  | lst (vs : List V)
  | dct (es : List (List Int × V)) (ep : Nat)
  | set (n : Nat)
  | inst (c : String) (d : Nat)
  | attrs (l : List (String × V))

/-- an object's own names -/
noncomputable def alook (l : List (String × V)) (n : String) : Option V := (l.find? fun e => decide (e.1 = n)).map (·.2)
noncomputable def aset (l : List (String × V)) (n : String) (v : V) : List (String × V) := (n, v) :: l.filter fun e => decide (e.1 ≠ n)
abbrev Hp := Nat → Option Cell
noncomputable def Hp.set (σ : Hp) (a : Nat) (c : Cell) : Hp := fun b => if b = a then some c else σ b
abbrev Env := String → Option V
noncomputable def Env.set (ρ : Env) (x : String) (v : V) : Env := fun y => if y = x then some v else ρ y

/-! ## data -/
noncomputable def optAll {α β : Type} (f : α → Option β) : List α → Option (List β)
  | [] => some []
  | a :: r => (f a).bind fun b => (optAll f r).map (b :: ·)

noncomputable def snap1 (σ : Hp) (rec : V → Option PyData) : V → Option PyData
  | .none => some .none
  | .bool b => some (.bool b)
  | .int i => some (.int i)
  | .str s => some (.str (PySem.Str.ofString s))
  | .tup vs => (optAll rec vs).map .tuple
  | .ref a => match σ a with
    | some (.lst vs) => (optAll rec vs).map .list
    | _ => Option.none
  | _ => Option.none
noncomputable def snap (σ : Hp) : Nat → V → Option PyData
  | 0 => snap1 σ fun _ => Option.none
  | n + 1 => snap1 σ (snap σ n)

/-! ## the words of the small language -/
inductive Bop where
  | add | sub | mul | fdiv | mod
inductive Cop where
  | eq | ne | lt | le | gt | ge | is | isNot | isIn | notIn
inductive Bi where
  | len | min | max | sum | int | isinstance | list | tuple | set | all | sorted
inductive Me where
  | append | pop | index | get | update
  | own (m : String)

/-! ## what the operations give -/
noncomputable def truth : V → Option Bool
  | .bool b => some b
  | .none => some false
  | .int i => some (i != 0)
  | _ => Option.none

/-- a place of a sequence, from behind where below nought -/
noncomputable def pyGet {α : Type} (vs : List α) (k : Int) : Option α :=
  if 0 ≤ k then vs[k.toNat]? else if 0 ≤ k + vs.length then vs[(k + vs.length).toNat]? else Option.none

/-- a slice's end, brought into the sequence -/
noncomputable def clip (n : Nat) (k : Int) : Nat := if 0 ≤ k then min k.toNat n else (k + n).toNat
noncomputable def clipLo (n : Nat) : Option Int → Nat
  | Option.none => 0
  | some k => clip n k
noncomputable def clipHi (n : Nat) : Option Int → Nat
  | Option.none => n
  | some k => clip n k
noncomputable def pySlice {α : Type} (vs : List α) (l u : Option Int) : List α := (vs.take (clipHi vs.length u)).drop (clipLo vs.length l)

section
variable {K : Type} [DecidableEq K]
noncomputable def dget (es : List (K × V)) (k : K) : Option V := (es.find? fun e => decide (e.1 = k)).map (·.2)
noncomputable def dput (es : List (K × V)) (k : K) (v : V) : List (K × V) :=
  if (dget es k).isSome then es.map fun e => if e.1 = k then (e.1, v) else e else es ++ [(k, v)]
end

noncomputable def small (i : Int) : Prop := -9223372036854775808 ≤ i ∧ i < 9223372036854775808
noncomputable def lenOk (n : Nat) : Prop := n ≤ 1000000

abbrev VP := V → Hp → Prop
abbrev XP := String → Hp → Prop
abbrev CallT := String → List V → Hp → VP → XP → Prop

structure Glb where
  ns : List Int
  glob : String → Option V
  has : String → Bool
  call : CallT

noncomputable def newP (σ : Hp) (c : Cell) (Q : VP) : Prop := ∀ a, σ a = Option.none → Q (.ref a) (σ.set a c)

inductive binP (σ : Hp) (Q : VP) : Bop → V → V → Prop
  | add {a b : Int} : Q (.int (a + b)) σ → binP σ Q .add (.int a) (.int b)
  | sub {a b : Int} : Q (.int (a - b)) σ → binP σ Q .sub (.int a) (.int b)
  | mul {a b : Int} : small a ∨ small b → Q (.int (a * b)) σ → binP σ Q .mul (.int a) (.int b)
  | fdiv {a b : Int} : 0 < b → small b → Q (.int (a / b)) σ → binP σ Q .fdiv (.int a) (.int b)
  | mod {a b : Int} : 0 < b → Q (.int (a % b)) σ → binP σ Q .mod (.int a) (.int b)
  | cat {a b : Nat} {xs ys : List V} : σ a = some (.lst xs) → σ b = some (.lst ys) → lenOk (xs.length + ys.length) → newP σ (.lst (xs ++ ys)) Q → binP σ Q .add (.ref a) (.ref b)
  | tcat {xs ys : List V} : xs ≠ [] → ys ≠ [] → lenOk (xs.length + ys.length) → Q (.tup (xs ++ ys)) σ → binP σ Q .add (.tup xs) (.tup ys)

inductive eqP (σ : Hp) (B : Bool → Prop) : V → V → Prop
  | int {a b : Int} : B (decide (a = b)) → eqP σ B (.int a) (.int b)
  | str {a b : String} : B (decide (a = b)) → eqP σ B (.str a) (.str b)
  | gen {v w : V} {d e : PyData} : snap σ 50 v = some d → snap σ 50 w = some e → B (PyData.eqv d e) → eqP σ B v w

inductive inP (σ : Hp) (B : Bool → Prop) : V → V → Prop
  | lst {a : Nat} {v : V} {vs : List V} {d : PyData} {ds : List PyData} : σ a = some (.lst vs) → snap σ 40 v = some d → optAll (snap σ 40) vs = some ds → B (ds.any fun e => PyData.eqv e d) → inP σ B v (.ref a)
  | dct {a : Nat} {v : V} {es : List (List Int × V)} {ep : Nat} {k : List Int} : σ a = some (.dct es ep) → v.key = some k → B (dget es k).isSome → inP σ B v (.ref a)

noncomputable def V.isNone : V → Bool
  | .none => true
  | _ => false

inductive cmpP (σ : Hp) (B : Bool → Prop) : Cop → V → V → Prop
  | eq {v w : V} : eqP σ B v w → cmpP σ B .eq v w
  | ne {v w : V} : eqP σ (fun b => B (!b)) v w → cmpP σ B .ne v w
  | lt {a b : Int} : B (decide (a < b)) → cmpP σ B .lt (.int a) (.int b)
  | le {a b : Int} : B (decide (a ≤ b)) → cmpP σ B .le (.int a) (.int b)
  | gt {a b : Int} : B (decide (b < a)) → cmpP σ B .gt (.int a) (.int b)
  | ge {a b : Int} : B (decide (b ≤ a)) → cmpP σ B .ge (.int a) (.int b)
  | is {v : V} : B v.isNone → cmpP σ B .is v .none
  | isNot {v : V} : B (!v.isNone) → cmpP σ B .isNot v .none
  | isIn {v w : V} : inP σ B v w → cmpP σ B .isIn v w
  | notIn {v w : V} : inP σ (fun b => B (!b)) v w → cmpP σ B .notIn v w

inductive idxP (g : Glb) (σ : Hp) (Q : VP) : V → V → Prop
  | tup {vs : List V} {k : Int} {v : V} : pyGet vs k = some v → Q v σ → idxP g σ Q (.tup vs) (.int k)
  | script {k n : Int} : pyGet g.ns k = some n → Q (.int n) σ → idxP g σ Q .script (.int k)
  | lst {a : Nat} {vs : List V} {k : Int} {v : V} : σ a = some (.lst vs) → pyGet vs k = some v → Q v σ → idxP g σ Q (.ref a) (.int k)
  | dct {a : Nat} {i : V} {es : List (List Int × V)} {ep : Nat} {k : List Int} {v : V} : σ a = some (.dct es ep) → i.key = some k → dget es k = some v → Q v σ → idxP g σ Q (.ref a) i

noncomputable def optInt : V → Option (Option Int)
  | .none => some Option.none
  | .int i => some (some i)
  | _ => Option.none

inductive sliceP (g : Glb) (σ : Hp) (Q : VP) : V → V → V → Prop
  | tup {vs : List V} {l u : V} {l' u' : Option Int} : optInt l = some l' → optInt u = some u' → Q (.tup (pySlice vs l' u')) σ → sliceP g σ Q (.tup vs) l u
  | lst {a : Nat} {vs : List V} {l u : V} {l' u' : Option Int} : σ a = some (.lst vs) → optInt l = some l' → optInt u = some u' → newP σ (.lst (pySlice vs l' u')) Q → sliceP g σ Q (.ref a) l u

/-- what isinstance answers -/
noncomputable def V.isA (σ : Hp) : V → String → Option Bool
  | .none, _ => some false
  | .bool _, t => some (t == "bool" || t == "int")
  | .int _, t => some (t == "int")
  | .str _, t => some (t == "str")
  | .tup _, t => some (t == "tuple")
  | .ref a, t => match σ a with
    | some (.lst _) => some (t == "list")
    | _ => Option.none
  | _, _ => Option.none
noncomputable def isiTypes : List String := ["int", "bool", "str", "tuple", "list"]

/-- the order of keys: tuples of ints item by item -/
noncomputable def ltL : List Int → List Int → Bool
  | [], [] => false
  | [], _ :: _ => true
  | _ :: _, [] => false
  | a :: r, b :: s => decide (a < b) || (a == b && ltL r s)

/-- the keys that a list or a dict holds -/
inductive keysP (σ : Hp) (ks : List (List Int)) : V → Prop
  | lst {a : Nat} : σ a = some (.lst (ks.map kv)) → keysP σ ks (.ref a)
  | dct {a : Nat} {es : List (List Int × V)} {ep : Nat} : σ a = some (.dct es ep) → es.map (·.1) = ks → keysP σ ks (.ref a)

/-- the places of a sheet of up to 3 by 3 -/
noncomputable def pl9 : List (List Int) := [[0, 0], [0, 1], [0, 2], [1, 0], [1, 1], [1, 2], [2, 0], [2, 1], [2, 2]]
inductive biP (g : Glb) (σ : Hp) (Q : VP) : Bi → List V → Prop
  | lenS : Q (.int g.ns.length) σ → biP g σ Q .len [.script]
  | lenL {a : Nat} {vs : List V} : σ a = some (.lst vs) → Q (.int vs.length) σ → biP g σ Q .len [.ref a]
  | lenD {a : Nat} {es : List (List Int × V)} {ep : Nat} : σ a = some (.dct es ep) → Q (.int es.length) σ → biP g σ Q .len [.ref a]
  | min2 {a b : Int} : Q (.int (min a b)) σ → biP g σ Q .min [.int a, .int b]
  | max2 {a b : Int} : Q (.int (max a b)) σ → biP g σ Q .max [.int a, .int b]
  | maxL {a : Nat} {ns : List Int} : σ a = some (.lst (ns.map .int)) → ns ≠ [] → (∀ m, m ∈ ns → (∀ b ∈ ns, b ≤ m) → Q (.int m) σ) → biP g σ Q .max [.ref a]
  | sum {a : Nat} {ns : List Int} : σ a = some (.lst (ns.map .int)) → Q (.int ns.sum) σ → biP g σ Q .sum [.ref a]
  | int {b : Bool} : Q (.int (if b then 1 else 0)) σ → biP g σ Q .int [.bool b]
  | isi {v : V} {t : String} {b : Bool} : t ∈ isiTypes → v.isA σ t = some b → Q (.bool b) σ → biP g σ Q .isinstance [v, .typ t]
  | listT {vs : List V} : newP σ (.lst vs) Q → biP g σ Q .list [.tup vs]
  | listD {a : Nat} {es : List (List Int × V)} {ep : Nat} : σ a = some (.dct es ep) → newP σ (.lst (es.map fun e => kv e.1)) Q → biP g σ Q .list [.ref a]
  | tuple {a : Nat} {vs : List V} : σ a = some (.lst vs) → Q (.tup vs) σ → biP g σ Q .tuple [.ref a]
  | all {a : Nat} {bs : List Bool} : σ a = some (.lst (bs.map .bool)) → Q (.bool (bs.all id)) σ → biP g σ Q .all [.ref a]
  | set {a : Nat} {ks : List (List Int)} : σ a = some (.lst (ks.map kv)) → (∀ k ∈ ks, k ∈ pl9) → ks.Nodup → newP σ (.set ks.length) Q → biP g σ Q .set [.ref a]
  | lenSet {a n : Nat} : σ a = some (.set n) → Q (.int n) σ → biP g σ Q .len [.ref a]
  | sort2 {a : Nat} {x y : Int} : σ a = some (.lst [.int x, .int y]) → newP σ (.lst [.int (min x y), .int (max x y)]) Q → biP g σ Q .sorted [.ref a]
  | sorted {v : V} {ks : List (List Int)} : keysP σ ks v → ks.Nodup → ks.length < 64 → (∀ k ∈ ks, k ≠ []) → (∀ ys : List (List Int), ys.Perm ks → ys.Pairwise (fun x y => ltL x y = true) → newP σ (.lst (ys.map kv)) Q) → biP g σ Q .sorted [v]

noncomputable def methNames : List String := ["put", "rule", "places", "need_on", "need_rule", "copied", "filled", "copy_for"]
inductive methP (g : Glb) (σ : Hp) (Q : VP) (X : XP) : V → Me → List V → Prop
  | append {a : Nat} {vs : List V} {v : V} : σ a = some (.lst vs) → lenOk vs.length → Q .none (σ.set a (.lst (vs ++ [v]))) → methP g σ Q X (.ref a) .append [v]
  | pop {a : Nat} {vs : List V} {v : V} : σ a = some (.lst vs) → vs.getLast? = some v → Q v (σ.set a (.lst vs.dropLast)) → methP g σ Q X (.ref a) .pop []
  | index {a : Nat} {vs : List V} {v : V} {d : PyData} {ds : List PyData} {j : Nat} : σ a = some (.lst vs) → snap σ 40 v = some d → optAll (snap σ 40) vs = some ds → ds.findIdx? (fun e => PyData.eqv e d) = some j → Q (.int j) σ → methP g σ Q X (.ref a) .index [v]
  | get {a : Nat} {es : List (List Int × V)} {ep : Nat} {i : V} {k : List Int} : σ a = some (.dct es ep) → i.key = some k → Q ((dget es k).getD .none) σ → methP g σ Q X (.ref a) .get [i]
  | update {a b : Nat} {es es' : List (List Int × V)} {ep ep' : Nat} : σ a = some (.dct es ep) → σ b = some (.dct es' ep') → a ≠ b → es ≠ [] → lenOk (es.length + es'.length) → (∀ ep'', Q .none (σ.set a (.dct (es'.foldl (fun acc e => dput acc e.1 e.2) es) ep''))) → methP g σ Q X (.ref a) .update [.ref b]
  | own {v : V} {n : String} {args : List V} : g.call ("Sheet." ++ n) (v :: args) σ Q X → methP g σ Q X v (.own n) args

/-- what a method is asked of -/
inductive recvP (σ : Hp) : V → Me → Prop
  | append {a : Nat} {vs : List V} : σ a = some (.lst vs) → recvP σ (.ref a) .append
  | pop {a : Nat} {vs : List V} : σ a = some (.lst vs) → recvP σ (.ref a) .pop
  | index {a : Nat} {vs : List V} : σ a = some (.lst vs) → recvP σ (.ref a) .index
  | get {a : Nat} {es : List (List Int × V)} {ep : Nat} : σ a = some (.dct es ep) → recvP σ (.ref a) .get
  | update {a : Nat} {es : List (List Int × V)} {ep : Nat} : σ a = some (.dct es ep) → recvP σ (.ref a) .update
  | own {a d : Nat} {n : String} {l : List (String × V)} : σ a = some (.inst "Sheet" d) → n ∈ methNames → σ d = some (.attrs l) → alook l n = none → recvP σ (.ref a) (.own n)

/-- the names that objects bear -/
noncomputable def attrNames : List String := ["high", "wide", "cells"]
inductive attrP (σ : Hp) (Q : VP) : V → String → Prop
  | mk {a d : Nat} {c n : String} {l : List (String × V)} {v : V} : σ a = some (.inst c d) → σ d = some (.attrs l) → alook l n = some v → Q v σ → attrP σ Q (.ref a) n

/-! ## sources of loops -/
abbrev SrcP := List V → (Hp → Prop) → Hp → Prop
noncomputable def rangeL (lo hi : Int) : List V := (List.range (hi - lo).toNat).map fun (i : Nat) => .int (lo + i)

inductive srcP (σ : Hp) (K : SrcP) : V → Prop
  | tup {vs : List V} : K vs (fun _ => True) σ → srcP σ K (.tup vs)
  | lst {a : Nat} {vs : List V} : σ a = some (.lst vs) → K vs (fun σ' => σ' a = some (.lst vs)) σ → srcP σ K (.ref a)
  | dct {a : Nat} {es : List (List Int × V)} {ep : Nat} : σ a = some (.dct es ep) → K (es.map fun e => kv e.1) (fun σ' => σ' a = some (.dct es ep)) σ → srcP σ K (.ref a)
inductive rangeP (σ : Hp) (K : SrcP) : V → V → Prop
  | mk {a b : Int} : lenOk (b - a).toNat → K (rangeL a b) (fun _ => True) σ → rangeP σ K (.int a) (.int b)

/-- the items in turn: each passed by, or something made of it -/
noncomputable def compL (one : V → Hp → (Option V → Hp → Prop) → Prop) (chk : Hp → Prop) : List V → List V → Hp → (List V → Hp → Prop) → Prop
  | [], acc, σ, K => chk σ ∧ K acc σ
  | v :: vs, acc, σ, K => chk σ ∧ lenOk acc.length ∧ one v σ fun r σ' => compL one chk vs (match r with | some x => acc ++ [x] | Option.none => acc) σ' K

noncomputable def forL (body : V → Env → Hp → (Env → Hp → Prop) → Prop) (chk : Hp → Prop) : List V → Env → Hp → (Env → Hp → Prop) → Prop
  | [], ρ, σ, N => chk σ ∧ N ρ σ
  | v :: vs, ρ, σ, N => chk σ ∧ body v ρ σ fun ρ' σ' => forL body chk vs ρ' σ' N

noncomputable def whileL (t : Env → Hp → (Bool → Hp → Prop) → Prop) (b : Env → Hp → (Env → Hp → Prop) → Prop) : Nat → Env → Hp → (Env → Hp → Prop) → Prop
  | 0, _, _, _ => False
  | n + 1, ρ, σ, N => t ρ σ fun c σ' => if c = true then b ρ σ' fun ρ'' σ'' => whileL t b n ρ'' σ'' N else N ρ σ'

/-! ## expressions: what must hold ahead -/
noncomputable def X : Type := Glb → Env → Hp → VP → XP → Prop
noncomputable def wpEs : List X → Glb → Env → Hp → (List V → Hp → Prop) → XP → Prop
  | [], _, _, σ, Q, _ => Q [] σ
  | e :: es, g, ρ, σ, Q, X => e g ρ σ (fun v σ₁ => wpEs es g ρ σ₁ (fun vs σ₂ => Q (v :: vs) σ₂) X) X
/-- and, or: all but the last one, then the last -/
noncomputable def wpBop (isAnd : Bool) (last : X) : List X → Glb → Env → Hp → VP → XP → Prop
  | [], g, ρ, σ, Q, X => last g ρ σ Q X
  | e :: es, g, ρ, σ, Q, X => e g ρ σ (fun v σ₁ => ∃ b, truth v = some b ∧ if b = isAnd then wpBop isAnd last es g ρ σ₁ Q X else Q v σ₁) X
noncomputable def wpIfs : List X → Glb → Env → Hp → (Bool → Hp → Prop) → XP → Prop
  | [], _, _, σ, Q, _ => Q true σ
  | e :: es, g, ρ, σ, Q, X => e g ρ σ (fun v σ₁ => ∃ b, truth v = some b ∧ if b = true then wpIfs es g ρ σ₁ Q X else Q false σ₁) X
noncomputable def Src : Type := Glb → Env → Hp → SrcP → XP → Prop

noncomputable def X.none : X := fun _ _ σ Q _ => Q .none σ
noncomputable def X.bool (b : Bool) : X := fun _ _ σ Q _ => Q (.bool b) σ
noncomputable def X.num (i : Int) : X := fun _ _ σ Q _ => Q (.int i) σ
noncomputable def X.str (s : String) : X := fun _ _ σ Q _ => Q (.str s) σ
noncomputable def X.var (x : String) : X := fun _ ρ σ Q _ => ∃ v, ρ x = some v ∧ Q v σ
noncomputable def X.glob (x : String) : X := fun g _ σ Q _ => ∃ v, g.glob x = some v ∧ Q v σ
noncomputable def X.bin (op : Bop) (a b : X) : X := fun g ρ σ Q X => a g ρ σ (fun v σ₁ => b g ρ σ₁ (fun w σ₂ => binP σ₂ Q op v w) X) X
noncomputable def X.neg (a : X) : X := fun g ρ σ Q X => a g ρ σ (fun v σ₁ => ∃ i, v = .int i ∧ Q (.int (-i)) σ₁) X
noncomputable def X.not (a : X) : X := fun g ρ σ Q X => a g ρ σ (fun v σ₁ => ∃ b, truth v = some b ∧ Q (.bool (!b)) σ₁) X
noncomputable def X.bop (isAnd : Bool) (es : List X) (last : X) : X := wpBop isAnd last es
noncomputable def X.cmp (a : X) (op : Cop) (b : X) : X := fun g ρ σ Q X => a g ρ σ (fun v σ₁ => b g ρ σ₁ (fun w σ₂ => cmpP σ₂ (fun c => Q (.bool c) σ₂) op v w) X) X
noncomputable def X.cmp2 (a : X) (op : Cop) (b : X) (op2 : Cop) (c : X) : X := fun g ρ σ Q X => a g ρ σ (fun v σ₁ => b g ρ σ₁ (fun w σ₂ => cmpP σ₂ (fun r =>
      if r = true then c g ρ σ₂ (fun u σ₃ => cmpP σ₃ (fun r' => Q (.bool r') σ₃) op2 w u) X else Q (.bool false) σ₂) op v w) X) X
noncomputable def X.call (f : String) (args : List X) : X := fun g ρ σ Q X => g.has f = true ∧ wpEs args g ρ σ (fun vs σ₁ => g.call f vs σ₁ Q X) X
noncomputable def X.bi (f : Bi) (args : List X) : X := fun g ρ σ Q X => wpEs args g ρ σ (fun vs σ₁ => biP g σ₁ Q f vs) X
noncomputable def X.meth (o : X) (m : Me) (args : List X) : X := fun g ρ σ Q X => o g ρ σ (fun v σ₁ => recvP σ₁ v m ∧ wpEs args g ρ σ₁ (fun vs σ₂ => methP g σ₂ Q X v m vs) X) X
noncomputable def X.idx (o i : X) : X := fun g ρ σ Q X => o g ρ σ (fun v σ₁ => i g ρ σ₁ (fun w σ₂ => idxP g σ₂ Q v w) X) X
noncomputable def X.slice (o l u : X) : X := fun g ρ σ Q X => o g ρ σ (fun v σ₁ => l g ρ σ₁ (fun l' σ₂ => u g ρ σ₂ (fun u' σ₃ => sliceP g σ₃ Q v l' u') X) X) X
noncomputable def X.attr (o : X) (n : String) : X := fun g ρ σ Q X => n ∈ attrNames ∧ o g ρ σ (fun v σ₁ => attrP σ₁ Q v n) X
noncomputable def X.tup (l : List X) : X := fun g ρ σ Q X => wpEs l g ρ σ (fun vs σ₁ => Q (.tup vs) σ₁) X
noncomputable def X.lst (l : List X) : X := fun g ρ σ Q X => wpEs l g ρ σ (fun vs σ₁ => newP σ₁ (.lst vs) Q) X
noncomputable def X.emptyDict : X := fun _ _ σ Q _ => newP σ (.dct [] 0) Q
inductive dict1P (D : Nat) (σ : Hp) (Q : VP) : V → V → Prop
  | dct {es : List (List Int × V)} {ep : Nat} {i v : V} {k : List Int} : σ D = some (.dct es ep) → i.key = some k → lenOk es.length → (∀ ep', Q (.ref D) (σ.set D (.dct (dput es k v) ep'))) → dict1P D σ Q i v
/-- the dict is made first, then its key, then its value -/
noncomputable def X.dict1 (k v : X) : X := fun g ρ σ Q X => ∀ D, σ D = Option.none → k g ρ (σ.set D (.dct [] 0)) (fun i σ₁ => v g ρ σ₁ (fun w σ₂ => dict1P D σ₂ Q i w) X) X
noncomputable def X.comp (elt : X) (x : String) (src : Src) (ifs : List X) : X := fun g ρ σ Q X => src g ρ σ (fun items chk σ₁ =>
      compL (fun v σ₂ K => wpIfs ifs g (ρ.set x v) σ₂ (fun b σ₃ => if b = true then elt g (ρ.set x v) σ₃ (fun r σ₄ => K (some r) σ₄) X else K Option.none σ₃) X)
        chk items [] σ₁ fun vs σ₂ => newP σ₂ (.lst vs) Q) X
noncomputable def Src.range1 (hi : X) : Src := fun g ρ σ K X => hi g ρ σ (fun v σ₁ => rangeP σ₁ K (.int 0) v) X
noncomputable def Src.range2 (lo hi : X) : Src := fun g ρ σ K X => lo g ρ σ (fun v σ₁ => hi g ρ σ₁ (fun w σ₂ => rangeP σ₂ K v w) X) X
noncomputable def Src.of (e : X) : Src := fun g ρ σ K X => e g ρ σ (fun v σ₁ => srcP σ₁ K v) X

/-- the test of a statement -/
noncomputable def wpT (e : X) (g : Glb) (ρ : Env) (σ : Hp) (Q : Bool → Hp → Prop) (X : XP) : Prop := e g ρ σ (fun v σ₁ => ∃ b, truth v = some b ∧ Q b σ₁) X

inductive storeP (σ : Hp) (v : V) (N : Hp → Prop) : V → V → Prop
  | dct {a : Nat} {i : V} {es : List (List Int × V)} {ep : Nat} {k : List Int} : σ a = some (.dct es ep) → i.key = some k → lenOk es.length → (∀ ep', N (σ.set a (.dct (dput es k v) ep'))) → storeP σ v N (.ref a) i
inductive sattrP (σ : Hp) (n : String) (v : V) (N : Hp → Prop) : V → Prop
  | mk {a d : Nat} {c : String} {l : List (String × V)} : σ a = some (.inst c d) → σ d = some (.attrs l) → l.length ≤ 1000 → N (σ.set d (.attrs (aset l n v))) → sattrP σ n v N (.ref a)

abbrev NP := Env → Hp → Prop
abbrev XPS := String → Env → Hp → Prop

/-! ## targets, statements -/
noncomputable def T : Type := Glb → V → Env → Hp → NP → XP → Prop
noncomputable def T.var (x : String) : T := fun _ v ρ σ N _ => N (ρ.set x v) σ
noncomputable def T.idx (o i : X) : T := fun g v ρ σ N X => o g ρ σ (fun ov σ₁ => i g ρ σ₁ (fun iv σ₂ => storeP σ₂ v (fun σ₃ => N ρ σ₃) ov iv) X) X
noncomputable def T.attr (o : X) (n : String) : T := fun g v ρ σ N X => n ∈ attrNames ∧ o g ρ σ (fun ov σ₁ => sattrP σ₁ n v (fun σ₂ => N ρ σ₂) ov) X

noncomputable def S : Type := Glb → Env → Hp → NP → VP → XPS → Prop
noncomputable def wpSs : List S → Glb → NP → VP → XPS → Env → Hp → Prop
  | [], _, N, _, _, ρ, σ => N ρ σ
  | s :: ss, g, N, R, X, ρ, σ => s g ρ σ (wpSs ss g N R X) R X
noncomputable def S.ret (e : X) : S := fun g ρ σ _ R X => e g ρ σ R fun x σ' => X x ρ σ'
noncomputable def S.expr (e : X) : S := fun g ρ σ N _ X => e g ρ σ (fun _ σ₁ => N ρ σ₁) fun x σ' => X x ρ σ'
noncomputable def S.assign (t : T) (e : X) : S := fun g ρ σ N _ X => e g ρ σ (fun v σ₁ => t g v ρ σ₁ N fun x σ' => X x ρ σ') fun x σ' => X x ρ σ'
noncomputable def S.ite (c : X) (a b : List S) : S := fun g ρ σ N R X => wpT c g ρ σ (fun t σ₁ => if t = true then wpSs a g N R X ρ σ₁ else wpSs b g N R X ρ σ₁) fun x σ' => X x ρ σ'
noncomputable def S.for_ (x : String) (src : Src) (body : List S) : S := fun g ρ σ N R X => src g ρ σ (fun items chk σ₁ => forL (fun v ρ₁ σ₂ N' => wpSs body g N' R X (ρ₁.set x v) σ₂) chk items ρ σ₁ N) fun x σ' => X x ρ σ'
noncomputable def S.while_ (c : X) (body : List S) : S := fun g ρ σ N R X => ∃ n, whileL (fun ρ₁ σ₁ Q => wpT c g ρ₁ σ₁ Q fun _ _ => False) (fun ρ₁ σ₁ N' => wpSs body g N' R X ρ₁ σ₁) n ρ σ N
/-- the exceptions of the text -/
noncomputable def excNames : List String := ["BadSize", "OffSheet", "TooDeep"]
noncomputable def S.raise (c : String) : S := fun _ ρ σ _ _ X => c ∈ excNames ∧ X c ρ σ
/-- what stands behind 'except' -/
inductive Hb where
  | ret (v : V)
structure Hd where
  cls : String
  body : Hb
noncomputable def catches (c d : String) : Bool := c == d || d == "SheetError"
noncomputable def hbP (c : String) (ρ : Env) (σ : Hp) (N : NP) (R : VP) : Hb → Prop
  | .ret v => R v σ
noncomputable def handP : List Hd → String → Env → Hp → NP → VP → XPS → Prop
  | [], c, ρ, σ, _, _, X => X c ρ σ
  | h :: hs, c, ρ, σ, N, R, X => if catches c h.cls = true then hbP c ρ σ N R h.body else handP hs c ρ σ N R X
noncomputable def S.try_ (body : List S) (hs : List Hd) : S := fun g ρ σ N R X => wpSs body g N R (fun c ρ' σ' => handP hs c ρ' σ' N R X) ρ σ

/-- parameters -/
noncomputable def bindP : List String → List V → Env
  | x :: xs, v :: vs => (bindP xs vs).set x v
  | _, _ => fun _ => Option.none

end RS

namespace RS
open PySem (PyData)

/-! ## heaps that grow -/
noncomputable def Hp.le (σ σ' : Hp) : Prop := ∀ a c, σ a = some c → σ' a = some c
theorem Hp.le_refl (σ : Hp) : σ.le σ := fun _ _ h => h
theorem Hp.le_trans {σ τ υ : Hp} (h : σ.le τ) (k : τ.le υ) : σ.le υ := fun a c e => k a c (h a c e)
theorem Hp.set_same (σ : Hp) (a : Nat) (c : Cell) : σ.set a c a = some c := if_pos rfl
theorem Hp.set_ne (σ : Hp) {a b : Nat} (c : Cell) (h : b ≠ a) : σ.set a c b = σ b := if_neg h
theorem Hp.ne_of {σ : Hp} {a b : Nat} {c : Cell} (h : σ b = some c) (k : σ a = none) : b ≠ a := fun e => Option.some_ne_none c (h.symm.trans (e ▸ k))
theorem Hp.le_set {σ : Hp} {a : Nat} (c : Cell) (h : σ a = none) : σ.le (σ.set a c) := fun _ _ e => (Hp.set_ne σ c (Hp.ne_of e h)).trans e
theorem Hp.le_none {σ σ' : Hp} (h : σ.le σ') {a : Nat} (k : σ' a = none) : σ a = none :=
  match e : σ a with
  | none => rfl
  | some c => absurd k (by rw [h a c e]; exact Option.some_ne_none c)
theorem Env.set_same (ρ : Env) (x : String) (v : V) : ρ.set x v x = some v := if_pos rfl
theorem Env.set_ne (ρ : Env) {x y : String} (v : V) (h : y ≠ x) : ρ.set x v y = ρ y := if_neg h
theorem Hp.le_upd {σ σ' : Hp} {a : Nat} (c : Cell) (h : σ.le σ') (ha : σ a = none) : σ.le (σ'.set a c) := fun b d e => (Hp.set_ne σ' c (Hp.ne_of e ha)).trans (h b d e)
/-- one cell is changed -/
noncomputable def Hp.but (a : Nat) (σ σ' : Hp) : Prop := ∀ b, b ≠ a → σ' b = σ b
theorem Hp.le_but {σ σ' σ'' : Hp} {a : Nat} (h : σ.le σ') (ha : σ a = none) (k : Hp.but a σ' σ'') : σ.le σ'' := fun b d e => (k b (Hp.ne_of e ha)).trans (h b d e)

/-! ## loops -/
/-- over a list of data -/
theorem forL_data {α : Type} (p : α → V) {body : V → Env → Hp → (Env → Hp → Prop) → Prop} {chk : Hp → Prop} (I : List α → Env → Hp → Prop) {xs : List α} {ρ : Env} {σ : Hp} {N : Env → Hp → Prop}
    (h0 : I [] ρ σ) (hc : ∀ pre ρ σ, I pre ρ σ → chk σ)
    (ht : ∀ pre x post ρ σ N', xs = pre ++ x :: post → I pre ρ σ → (∀ ρ' σ', I (pre ++ [x]) ρ' σ' → N' ρ' σ') → body (p x) ρ σ N')
    (hN : ∀ ρ σ, I xs ρ σ → N ρ σ) : forL body chk (xs.map p) ρ σ N := by
  suffices H : ∀ (post pre : List α) ρ σ, xs = pre ++ post → I pre ρ σ → forL body chk (post.map p) ρ σ N from H xs [] ρ σ rfl h0
  intro post
  induction post with
  | nil => intro pre ρ σ e i; rw [List.append_nil] at e; exact ⟨hc _ _ _ i, hN _ _ (e ▸ i)⟩
  | cons v post ih =>
    intro pre ρ σ e i
    exact ⟨hc _ _ _ i, ht pre v post ρ σ _ e i fun ρ' σ' i' => ih (pre ++ [v]) ρ' σ' (by rw [e, List.append_assoc]; rfl) i'⟩

/-- over a range, by the number -/
theorem len_lt {α : Type} {l pre post : List α} {x : α} (e : l = pre ++ x :: post) : pre.length < l.length := by
  rw [e, List.length_append, List.length_cons]; exact Nat.lt_add_of_pos_right (Nat.succ_pos _)
theorem forL_range {body : V → Env → Hp → (Env → Hp → Prop) → Prop} {chk : Hp → Prop} {lo hi : Int} (I : Nat → Env → Hp → Prop) {ρ : Env} {σ : Hp} {N : Env → Hp → Prop}
    (h0 : I 0 ρ σ) (hc : ∀ σ, chk σ)
    (ht : ∀ (i : Nat) ρ σ N', lo + i < hi → I i ρ σ → (∀ ρ' σ', I (i + 1) ρ' σ' → N' ρ' σ') → body (.int (lo + i)) ρ σ N')
    (hN : ∀ ρ σ, I (hi - lo).toNat ρ σ → N ρ σ) : forL body chk (rangeL lo hi) ρ σ N := by
  refine forL_data (fun (i : Nat) => V.int (lo + i)) (fun pre ρ σ => I pre.length ρ σ) h0 (fun _ _ σ _ => hc σ) (fun pre i post ρ σ N' e hI hN' => ?_) fun ρ σ hI => hN ρ σ (by rwa [List.length_range] at hI)
  have hlt : pre.length < _ := len_lt e
  rw [List.length_range] at hlt
  have hi : i = pre.length := by
    have := congrArg (fun l => l[pre.length]?) e
    rw [List.getElem?_range hlt, List.getElem?_append_right (Nat.le_refl _), Nat.sub_self] at this
    exact (Option.some.inj this).symm
  subst hi
  exact ht pre.length ρ σ N' (Int.add_lt_of_lt_sub_left (Int.lt_toNat.mp hlt)) hI fun ρ' σ' h => hN' ρ' σ' (by rwa [List.length_append])

theorem whileL_inv {t : Env → Hp → (Bool → Hp → Prop) → Prop} {b : Env → Hp → (Env → Hp → Prop) → Prop} {N : Env → Hp → Prop} (I : Nat → Env → Hp → Prop)
    (h : ∀ m ρ σ (K : Env → Hp → Prop), I m ρ σ → (∀ m' ρ' σ', m' < m → I m' ρ' σ' → K ρ' σ') → t ρ σ (fun c σ' => if c = true then b ρ σ' K else N ρ σ')) {m : Nat} {ρ : Env} {σ : Hp} (h0 : I m ρ σ) : ∃ n, whileL t b n ρ σ N := by
  refine ⟨m + 1, ?_⟩
  suffices H : ∀ n m ρ σ, m < n → I m ρ σ → whileL t b n ρ σ N from H (m + 1) m ρ σ (Nat.lt_succ_self m) h0
  intro n
  induction n with
  | zero => intro m ρ σ hm; exact absurd hm (Nat.not_lt_zero m)
  | succ n ih => intro m ρ σ hm hI; exact h m ρ σ _ hI fun m' ρ' σ' hm' hI' => ih m' ρ' σ' (Nat.lt_of_lt_of_le hm' (Nat.le_of_lt_succ hm)) hI'

/-- a comprehension with a test, over a list of data; the heap grows -/
theorem compL_fl {α : Type} {one : V → Hp → (Option V → Hp → Prop) → Prop} {chk : Hp → Prop} (p q : α → V) (kp : α → Bool) {xs : List α} {σ : Hp} {K : List V → Hp → Prop}
    (hc : ∀ σ', σ.le σ' → chk σ') (hl : lenOk xs.length) (h1 : ∀ x ∈ xs, ∀ σ', σ.le σ' → ∀ K', (∀ σ'', σ'.le σ'' → K' (if kp x = true then some (q x) else none) σ'') → one (p x) σ' K') (hK : ∀ σ', σ.le σ' → K ((xs.filter kp).map q) σ') : compL one chk (xs.map p) [] σ K := by
  suffices H : ∀ (xs : List α) (acc : List V) (σ₁ : Hp), σ.le σ₁ → acc.length + xs.length ≤ 1000000 → (∀ x ∈ xs, ∀ σ', σ.le σ' → ∀ K', (∀ σ'', σ'.le σ'' → K' (if kp x = true then some (q x) else none) σ'') → one (p x) σ' K') → (∀ σ', σ.le σ' → K (acc ++ (xs.filter kp).map q) σ') → compL one chk (xs.map p) acc σ₁ K by
    exact H xs [] σ (Hp.le_refl σ) (by rw [List.length_nil, Nat.zero_add]; exact hl) h1 hK
  clear hl h1 hK
  intro xs
  induction xs with
  | nil => intro acc σ₁ hle _ _ hK; exact ⟨hc _ hle, by have := hK _ hle; rwa [List.filter_nil, List.map_nil, List.append_nil] at this⟩
  | cons v vs ih =>
    intro acc σ₁ hle hl h1 hK
    rw [List.length_cons] at hl
    refine ⟨hc _ hle, Nat.le_trans (Nat.le_add_right _ _) hl, h1 v (.head _) σ₁ hle _ fun σ₂ h₂ => ?_⟩
    have h1' := fun w (hw : w ∈ vs) => h1 w (.tail _ hw)
    cases e : kp v with
    | true =>
      rw [if_pos rfl]
      refine ih (acc ++ [q v]) σ₂ (Hp.le_trans hle h₂) (by rw [List.length_append, Nat.add_assoc, Nat.add_comm [q v].length]; exact hl) h1' fun σ' h' => ?_
      have := hK σ' h'
      rwa [List.filter_cons_of_pos e, List.map_cons, List.append_cons] at this
    | false =>
      rw [if_neg Bool.false_ne_true]
      refine ih acc σ₂ (Hp.le_trans hle h₂) (Nat.le_of_succ_le hl) h1' fun σ' h' => ?_
      have := hK σ' h'
      rwa [List.filter_cons_of_neg (by rw [e]; exact Bool.false_ne_true)] at this
/-- without a test -/
theorem compL_lt {α : Type} {one : V → Hp → (Option V → Hp → Prop) → Prop} {chk : Hp → Prop} (p q : α → V) {xs : List α} {σ : Hp} {K : List V → Hp → Prop}
    (hc : ∀ σ', σ.le σ' → chk σ') (hl : lenOk xs.length) (h1 : ∀ x ∈ xs, ∀ σ', σ.le σ' → ∀ K', (∀ σ'', σ'.le σ'' → K' (some (q x)) σ'') → one (p x) σ' K') (hK : ∀ σ', σ.le σ' → K (xs.map q) σ') : compL one chk (xs.map p) [] σ K :=
  compL_fl p q (fun _ => true) hc hl (fun x hx σ' h' K' hK' => h1 x hx σ' h' K' fun σ'' h'' => hK' σ'' h'') fun σ' h' => by rw [List.filter_eq_self.mpr fun _ _ => rfl]; exact hK σ' h'
theorem V.ints_of {vs : List V} {ks : List Int} (h : V.ints vs = some ks) : vs = ks.map .int := by
  induction vs generalizing ks with
  | nil => cases h; rfl
  | cons v vs ih =>
    cases v with
    | int i =>
      change (V.ints vs).map (i :: ·) = some ks at h
      cases e : V.ints vs with
      | none => rw [e] at h; cases h
      | some l => rw [e] at h; cases h; rw [ih e]; rfl
    | _ => cases h
theorem V.ints_map (ks : List Int) : V.ints (ks.map .int) = some ks := by
  induction ks with
  | nil => rfl
  | cons k ks ih => show (V.ints (ks.map .int)).map (k :: ·) = _; rw [ih]; rfl

/-! ## steps -/
section
variable {g : Glb} {σ : Hp} {Q : VP} {B : Bool → Prop} {K : SrcP}
theorem s_get {α : Type} {o : Option α} {v : α} {P : α → Prop} (h : o = some v) (q : P v) : ∃ v, o = some v ∧ P v := ⟨v, h, q⟩
theorem s_truth {v : V} {b : Bool} {P : Bool → Prop} (h : truth v = some b) (q : P b) : ∃ b, truth v = some b ∧ P b := ⟨b, h, q⟩
theorem s_add {a b : Int} (q : Q (.int (a + b)) σ) : binP σ Q .add (.int a) (.int b) := .add q
theorem s_sub {a b : Int} (q : Q (.int (a - b)) σ) : binP σ Q .sub (.int a) (.int b) := .sub q
theorem s_mul {a b : Int} (h : small a ∨ small b) (q : Q (.int (a * b)) σ) : binP σ Q .mul (.int a) (.int b) := .mul h q
theorem s_fdiv {a b : Int} (h : 0 < b ∧ small b) (q : Q (.int (a / b)) σ) : binP σ Q .fdiv (.int a) (.int b) := .fdiv h.1 h.2 q
theorem s_mod {a b : Int} (h : 0 < b) (q : Q (.int (a % b)) σ) : binP σ Q .mod (.int a) (.int b) := .mod h q
theorem s_lcat {a b : Nat} {xs ys : List V} (ha : σ a = some (.lst xs)) (hb : σ b = some (.lst ys)) (hl : lenOk (xs.length + ys.length))
    (q : ∀ c, σ c = none → Q (.ref c) (σ.set c (.lst (xs ++ ys)))) : binP σ Q .add (.ref a) (.ref b) := .cat ha hb hl q
theorem s_newG {c : Cell} (q : ∀ a σ', σ a = none → σ.le σ' → σ' a = some c → Q (.ref a) σ') : newP σ c Q := fun a ha => q a _ ha (Hp.le_set _ ha) (Hp.set_same _ _ _)
theorem s_idxT {vs : List V} {k : Int} {v : V} (h : pyGet vs k = some v) (q : Q v σ) : idxP g σ Q (.tup vs) (.int k) := .tup h q
theorem s_idxL {a : Nat} {vs : List V} {k : Int} {v : V} (ha : σ a = some (.lst vs)) (h : pyGet vs k = some v) (q : Q v σ) : idxP g σ Q (.ref a) (.int k) := .lst ha h q
theorem s_idxS {k : Int} {n : Int} (h : pyGet g.ns k = some n) (q : Q (.int n) σ) : idxP g σ Q .script (.int k) := .script h q
theorem s_idxD {a : Nat} {es : List (List Int × V)} {ep : Nat} {i : V} {k : List Int} {v : V} (ha : σ a = some (.dct es ep)) (hk : i.key = some k) (h : dget es k = some v) (q : Q v σ) : idxP g σ Q (.ref a) i := .dct ha hk h q
theorem s_min2 {a b : Int} (q : Q (.int (min a b)) σ) : biP g σ Q .min [.int a, .int b] := .min2 q
theorem s_max2 {a b : Int} (q : Q (.int (max a b)) σ) : biP g σ Q .max [.int a, .int b] := .max2 q
theorem s_maxL {a : Nat} {vs : List V} {ns : List Int} (ha : σ a = some (.lst vs)) (h : V.ints vs = some ns) (hn : ns ≠ []) (q : ∀ m, m ∈ ns → (∀ b ∈ ns, b ≤ m) → Q (.int m) σ) : biP g σ Q .max [.ref a] := .maxL (V.ints_of h ▸ ha) hn q
theorem s_sum {a : Nat} {vs : List V} {ns : List Int} (ha : σ a = some (.lst vs)) (h : V.ints vs = some ns) (q : Q (.int ns.sum) σ) : biP g σ Q .sum [.ref a] := .sum (V.ints_of h ▸ ha) q
theorem s_lenS (q : Q (.int g.ns.length) σ) : biP g σ Q .len [.script] := .lenS q
theorem s_lenL {a : Nat} {vs : List V} (ha : σ a = some (.lst vs)) (q : Q (.int vs.length) σ) : biP g σ Q .len [.ref a] := .lenL ha q
theorem s_lenD {a : Nat} {es : List (List Int × V)} {ep : Nat} (ha : σ a = some (.dct es ep)) (q : Q (.int es.length) σ) : biP g σ Q .len [.ref a] := .lenD ha q
theorem s_int {b : Bool} (q : Q (.int (if b then 1 else 0)) σ) : biP g σ Q .int [.bool b] := .int q
theorem s_isi {v : V} {t : String} {b : Bool} (ht : t ∈ isiTypes) (h : v.isA σ t = some b) (q : Q (.bool b) σ) : biP g σ Q .isinstance [v, .typ t] := .isi ht h q
theorem s_listT {vs : List V} (q : ∀ a, σ a = none → Q (.ref a) (σ.set a (.lst vs))) : biP g σ Q .list [.tup vs] := .listT q
theorem s_listD {a : Nat} {es : List (List Int × V)} {ep : Nat} (ha : σ a = some (.dct es ep)) (q : ∀ c, σ c = none → Q (.ref c) (σ.set c (.lst (es.map fun e => kv e.1)))) : biP g σ Q .list [.ref a] := .listD ha q
theorem s_tuple {a : Nat} {vs : List V} (ha : σ a = some (.lst vs)) (q : Q (.tup vs) σ) : biP g σ Q .tuple [.ref a] := .tuple ha q
theorem s_all {a : Nat} {bs : List Bool} (ha : σ a = some (.lst (bs.map .bool))) (q : Q (.bool (bs.all id)) σ) : biP g σ Q .all [.ref a] := .all ha q
theorem s_eqI {a b : Int} (q : B (decide (a = b))) : cmpP σ B .eq (.int a) (.int b) := .eq (.int q)
theorem s_eqS {a b : String} (q : B (decide (a = b))) : cmpP σ B .eq (.str a) (.str b) := .eq (.str q)
theorem s_neI {a b : Int} (q : B (!decide (a = b))) : cmpP σ B .ne (.int a) (.int b) := .ne (.int q)
theorem s_neS {a b : String} (q : B (!decide (a = b))) : cmpP σ B .ne (.str a) (.str b) := .ne (.str q)
theorem s_lt {a b : Int} (q : B (decide (a < b))) : cmpP σ B .lt (.int a) (.int b) := .lt q
theorem s_le {a b : Int} (q : B (decide (a ≤ b))) : cmpP σ B .le (.int a) (.int b) := .le q
theorem s_gt {a b : Int} (q : B (decide (b < a))) : cmpP σ B .gt (.int a) (.int b) := .gt q
theorem s_is {v : V} (q : B v.isNone) : cmpP σ B .is v .none := .is q
theorem s_isNot {v : V} (q : B (!v.isNone)) : cmpP σ B .isNot v .none := .isNot q
theorem s_appendG {a : Nat} {vs : List V} {v : V} {X : XP} (ha : σ a = some (.lst vs)) (hl : lenOk vs.length) (q : ∀ σ', Hp.but a σ σ' → σ' a = some (.lst (vs ++ [v])) → Q .none σ') : methP g σ Q X (.ref a) .append [v] :=
  .append ha hl (q _ (fun _ hb => Hp.set_ne _ _ hb) (Hp.set_same _ _ _))
theorem s_pop {a : Nat} {vs : List V} {v : V} {X : XP} (ha : σ a = some (.lst vs)) (hl : vs.getLast? = some v) (q : Q v (σ.set a (.lst vs.dropLast))) : methP g σ Q X (.ref a) .pop [] := .pop ha hl q
theorem s_range {a b : Int} (h : lenOk (b - a).toNat) (q : K (rangeL a b) (fun _ => True) σ) : rangeP σ K (.int a) (.int b) := .mk h q
theorem s_srcT {vs : List V} (q : K vs (fun _ => True) σ) : srcP σ K (.tup vs) := .tup q
theorem s_srcL {a : Nat} {vs : List V} (ha : σ a = some (.lst vs)) (q : K vs (fun σ' => σ' a = some (.lst vs)) σ) : srcP σ K (.ref a) := .lst ha q
theorem s_srcD {a : Nat} {es : List (List Int × V)} {ep : Nat} (ha : σ a = some (.dct es ep)) (q : K (es.map fun e => kv e.1) (fun σ' => σ' a = some (.dct es ep)) σ) : srcP σ K (.ref a) := .dct ha q
theorem s_sliceT {vs : List V} {l u : V} {l' u' : Option Int} (hl : optInt l = some l') (hu : optInt u = some u') (q : Q (.tup (pySlice vs l' u')) σ) : sliceP g σ Q (.tup vs) l u := .tup hl hu q
theorem s_sliceL {a : Nat} {vs : List V} {l u : V} {l' u' : Option Int} (ha : σ a = some (.lst vs)) (hl : optInt l = some l') (hu : optInt u = some u')
    (q : ∀ c, σ c = none → Q (.ref c) (σ.set c (.lst (pySlice vs l' u')))) : sliceP g σ Q (.ref a) l u := .lst ha hl hu q
theorem s_storeD {a : Nat} {es : List (List Int × V)} {ep : Nat} {i v : V} {k : List Int} {N : Hp → Prop} (ha : σ a = some (.dct es ep)) (hk : i.key = some k) (hl : lenOk es.length) (q : ∀ ep', N (σ.set a (.dct (dput es k v) ep'))) : storeP σ v N (.ref a) i := .dct ha hk hl q
theorem s_sortD {a : Nat} {es : List (List Int × V)} {ep : Nat} (ha : σ a = some (.dct es ep)) (hn : (es.map (·.1)).Nodup) (hl : es.length < 64) (hne : ∀ k ∈ es.map (·.1), k ≠ []) (q : ∀ ys : List (List Int), ys.Perm (es.map (·.1)) → ys.Pairwise (fun x y => ltL x y = true) → newP σ (.lst (ys.map kv)) Q) : biP g σ Q .sorted [.ref a] :=
  .sorted (.dct ha rfl) hn (by rw [List.length_map]; exact hl) hne q
theorem s_attr {a d : Nat} {c n : String} {l : List (String × V)} {v : V} (ha : σ a = some (.inst c d)) (hd : σ d = some (.attrs l)) (hv : alook l n = some v) (q : Q v σ) : attrP σ Q (.ref a) n := .mk ha hd hv q
theorem s_call {f : String} {P : Prop} (h : g.has f = true) (q : P) : g.has f = true ∧ P := ⟨h, q⟩
theorem s_recv {v : V} {m : Me} {P : Prop} (h : recvP σ v m) (q : P) : recvP σ v m ∧ P := ⟨h, q⟩
theorem s_recvL {a : Nat} {vs : List V} {m : Me} (ha : σ a = some (.lst vs)) (hm : m = .append ∨ m = .pop) : recvP σ (.ref a) m := by
  rcases hm with rfl | rfl
  · exact .append ha
  · exact .pop ha
theorem s_recvI {a d : Nat} {n : String} {l : List (String × V)} (ha : σ a = some (.inst "Sheet" d)) (hn : n ∈ methNames) (hd : σ d = some (.attrs l)) (hl : alook l n = none) : recvP σ (.ref a) (.own n) := .own ha hn hd hl
theorem s_neg {i : Int} {P : Int → Prop} (q : P i) : ∃ j, V.int i = V.int j ∧ P j := ⟨i, rfl, q⟩
end

/-! ## statements, one by one -/
theorem st_cons {g : Glb} {s : S} {ss : List S} {ρ : Env} {σ : Hp} {N : NP} {R : VP} {X : XPS} (h : s g ρ σ (wpSs ss g N R X) R X) : wpSs (s :: ss) g N R X ρ σ := h
theorem st_nil {g : Glb} {ρ : Env} {σ : Hp} {N : NP} {R : VP} {X : XPS} (h : N ρ σ) : wpSs [] g N R X ρ σ := h
theorem s_if {c : Prop} [Decidable c] {A B : Prop} (hA : c → A) (hB : ¬ c → B) : if c then A else B := by
  by_cases h : c
  · rw [if_pos h]; exact hA h
  · rw [if_neg h]; exact hB h
theorem s_ifB {b : Bool} {A B : Prop} (hA : b = true → A) (hB : b = false → B) : if b = true then A else B := by
  cases b
  · exact hB rfl
  · exact hA rfl
theorem s_ifT {c : Prop} [Decidable c] {A B : Prop} (h : c) (q : A) : if c then A else B := by rw [if_pos h]; exact q
theorem s_ifF {c : Prop} [Decidable c] {A B : Prop} (h : ¬ c) (q : B) : if c then A else B := by rw [if_neg h]; exact q

end RS

namespace RS
open PySem (Program World Shared Addr Value Obj Heap Str Around wpAny codeAny model Scope NameKind Expr Stmt FuncData cLine recursionLimit sizeLine mainGlobals builtinsNs)

/-- the fixed parts of one run -/
structure Wd where
  prog : Program
  w : World
  s₀ : Shared
  sa : Addr
  ns : List Int
  cls : String → Option Addr
  exc : String → Option Addr
  glob : String → Option V
  names : List String
  fn : String → Option Addr
  mg : Str → Option Value
  mb : Str → Option Value

inductive Rep (W : Wd) (h : Heap) : V → Value → Prop
  | none : Rep W h .none .none
  | bool (b : Bool) : Rep W h (.bool b) (.bool b)
  | int (i : Int) (t : Nat) : Rep W h (.int i) (.int i t)
  | str (s : String) (t : Nat) : Rep W h (.str s) (.str (Str.ofString s) t)
  | tup {vs : List V} {a : Addr} {items : Array Value} {n : Nat} : items.size ≤ 1000001 → h.get? a = some { cls := .type "tuple", data := .seq items n } → vs.length = items.toList.length → (∀ i v, vs[i]? = some v → Rep W h v (items.toList.getD i .none)) → Rep W h (.tup vs) (.ref a)
  | ref (a : Addr) : Rep W h (.ref a) (.ref a)
  | script : Rep W h .script (.ref W.sa)
  | typ (n : String) : Rep W h (.typ n) (.type n)
structure Reps (W : Wd) (h : Heap) (vs : List V) (xs : List Value) : Prop where
  len : vs.length = xs.length
  at_ : ∀ i v, vs[i]? = some v → Rep W h v (xs.getD i .none)

/-- a tuple as it lies -/
noncomputable def isTup (o : Obj) : Prop := o.cls = .type "tuple" ∧ ∃ i n, o.data = .seq i n
theorem notTup_cls {o : Obj} (h : o.cls ≠ .type "tuple") : ¬ isTup o := fun x => h x.1
theorem notTup_type {t : String} {d : PySem.Data} (h : t ≠ "tuple") : ¬ isTup { cls := .type t, data := d } := fun x => h (Value.type.inj x.1)
theorem notTup_dict {o : Obj} {es : Array PySem.DictEntry} {ep : Nat} (h : o.data = .dict es ep) : ¬ isTup o := fun k => by
  obtain ⟨_, _, _, x⟩ := k; exact PySem.Data.noConfusion (h.symm.trans x)
/-- tuples stay -/
noncomputable def TupKeep (h h' : Heap) : Prop := ∀ a o, h.get? a = some o → isTup o → h'.get? a = some o
theorem TupKeep.of {h h' : Heap} (k : ∀ b o, h.get? b = some o → h'.get? b = some o) : TupKeep h h' := fun a o e _ => k a o e
theorem TupKeep.key {W : Wd} {h h' : Heap} (x : TupKeep h h') (ks : List Int) (b : Addr) (k : PySem.IsTupleKey (PySem.intKind W.prog W.w) h ks b) : PySem.IsTupleKey (PySem.intKind W.prog W.w) h' ks b :=
  (by obtain ⟨o, i, n, e, c, r⟩ := k; exact ⟨o, i, n, x b o e ⟨c, i, n, r.1⟩, c, r⟩)

section
variable {W : Wd} {h h' : Heap}
theorem Rep.mono (k : TupKeep h h') {v : V} {x : Value} (q : Rep W h v x) : Rep W h' v x := by
  induction q with
  | none => exact .none
  | bool b => exact .bool b
  | int i t => exact .int i t
  | str s t => exact .str s t
  | tup z e l _ ih => exact .tup z (k _ _ e ⟨rfl, _, _, rfl⟩) l ih
  | ref a => exact .ref a
  | script => exact .script
  | typ n => exact .typ n
theorem Reps.mono (k : TupKeep h h') {vs : List V} {xs : List Value} (q : Reps W h vs xs) : Reps W h' vs xs := ⟨q.len, fun i v e => (q.at_ i v e).mono k⟩
theorem Reps.length {vs : List V} {xs : List Value} (q : Reps W h vs xs) : vs.length = xs.length := q.len
theorem Reps.nil : Reps W h [] [] := ⟨rfl, fun i v e => by cases i <;> cases e⟩
theorem Reps.cons {v : V} {x : Value} {vs : List V} {xs : List Value} (r : Rep W h v x) (q : Reps W h vs xs) : Reps W h (v :: vs) (x :: xs) :=
  ⟨congrArg (· + 1) q.len, fun i u e => match i, e with
    | 0, e => Option.some.inj e ▸ r
    | i + 1, e => q.at_ i u e⟩
theorem Reps.ind {P : List V → List Value → Prop} (h0 : P [] []) (h1 : ∀ v x vs xs, Rep W h v x → Reps W h vs xs → P vs xs → P (v :: vs) (x :: xs)) : ∀ {vs : List V} {xs : List Value}, Reps W h vs xs → P vs xs := by
  intro vs
  induction vs with
  | nil => intro xs q; cases xs with
    | nil => exact h0
    | cons x xs => cases q.len
  | cons v vs ih => intro xs q; cases xs with
    | nil => cases q.len
    | cons x xs =>
      have q' : Reps W h vs xs := ⟨Nat.succ.inj q.len, fun i u e => q.at_ (i + 1) u e⟩
      exact h1 v x vs xs (q.at_ 0 v rfl) q' (ih q')
theorem Reps.nil_inv {xs : List Value} (q : Reps W h [] xs) : xs = [] := List.eq_nil_of_length_eq_zero q.len.symm
theorem Reps.cons_inv {v : V} {vs : List V} {xs : List Value} (q : Reps W h (v :: vs) xs) : ∃ x xs', xs = x :: xs' ∧ Rep W h v x ∧ Reps W h vs xs' := by
  cases xs with
  | nil => cases q.len
  | cons x xs => exact ⟨x, xs, rfl, q.at_ 0 v rfl, Nat.succ.inj q.len, fun i u e => q.at_ (i + 1) u e⟩
theorem Reps.get {vs : List V} {xs : List Value} (q : Reps W h vs xs) {i : Nat} {v : V} (e : vs[i]? = some v) : ∃ x, xs[i]? = some x ∧ Rep W h v x := by
  have hi : i < xs.length := q.len ▸ (List.getElem?_eq_some_iff.mp e).1
  refine ⟨xs[i], List.getElem?_eq_getElem hi, ?_⟩
  have := q.at_ i v e
  rwa [List.getD_eq_getElem?_getD, List.getElem?_eq_getElem hi] at this
theorem Reps.append {vs ws : List V} {xs ys : List Value} (p : Reps W h vs xs) (q : Reps W h ws ys) : Reps W h (vs ++ ws) (xs ++ ys) :=
  p.ind (P := fun vs xs => Reps W h (vs ++ ws) (xs ++ ys)) q fun _ _ _ _ r _ ih => .cons r ih
theorem Reps.drop {vs : List V} {xs : List Value} (q : Reps W h vs xs) (n : Nat) : Reps W h (vs.drop n) (xs.drop n) :=
  ⟨by rw [List.length_drop, List.length_drop, q.len], fun i v e => by
    rw [List.getElem?_drop] at e
    have := q.at_ _ v e
    rwa [List.getD_eq_getElem?_getD, List.getElem?_drop, ← List.getD_eq_getElem?_getD]⟩
theorem Reps.take {vs : List V} {xs : List Value} (q : Reps W h vs xs) (n : Nat) : Reps W h (vs.take n) (xs.take n) :=
  ⟨by rw [List.length_take, List.length_take, q.len], fun i v e => by
    rw [List.getElem?_take] at e
    split at e
    · rename_i hi
      have := q.at_ _ v e
      rwa [List.getD_eq_getElem?_getD, List.getElem?_take_of_lt hi, ← List.getD_eq_getElem?_getD]
    · cases e⟩
theorem Reps.one {v : V} {x : Value} (r : Rep W h v x) : Reps W h [v] [x] := .cons r .nil
theorem Reps.set {vs : List V} {xs : List Value} {v : V} {x : Value} (q : Reps W h vs xs) (r : Rep W h v x) (k : Nat) : Reps W h (vs.set k v) (xs.set k x) :=
  ⟨by rw [List.length_set, List.length_set, q.len], fun i u e => by
    rw [List.getElem?_set] at e
    rw [List.getD_eq_getElem?_getD, List.getElem?_set]
    split at e
    · rename_i hk
      split at e
      · rename_i hl
        rw [if_pos hk, if_pos (q.len ▸ hl)]
        exact Option.some.inj e ▸ r
      · cases e
    · rename_i hk
      rw [if_neg hk, ← List.getD_eq_getElem?_getD]
      exact q.at_ i u e⟩
theorem Reps.one_inv {v : V} {xs : List Value} (q : Reps W h [v] xs) : ∃ x, xs = [x] ∧ Rep W h v x := by
  obtain ⟨x, xs', rfl, r, q'⟩ := q.cons_inv
  rw [q'.nil_inv]; exact ⟨x, rfl, r⟩
theorem Reps.two_inv {v v' : V} {xs : List Value} (q : Reps W h [v, v'] xs) : ∃ x x', xs = [x, x'] ∧ Rep W h v x ∧ Rep W h v' x' := by
  obtain ⟨x, xs', rfl, r, q'⟩ := q.cons_inv
  obtain ⟨x', rfl, r'⟩ := q'.one_inv
  exact ⟨x, x', rfl, r, r'⟩
theorem Rep.tupI {vs : List V} {a : Addr} {items : Array Value} {n : Nat} (z : items.size ≤ 1000001) (e : h.get? a = some { cls := .type "tuple", data := .seq items n }) (q : Reps W h vs items.toList) : Rep W h (.tup vs) (.ref a) := .tup z e q.len q.at_
theorem Rep.none_inv {x : Value} (q : Rep W h .none x) : x = .none := by cases q; rfl
theorem Rep.int_inv {i : Int} {x : Value} (q : Rep W h (.int i) x) : ∃ t, x = .int i t := by cases q; exact ⟨_, rfl⟩
theorem Rep.str_inv {i : String} {x : Value} (q : Rep W h (.str i) x) : ∃ t, x = .str (Str.ofString i) t := by cases q; exact ⟨_, rfl⟩
theorem Rep.bool_inv {b : Bool} {x : Value} (q : Rep W h (.bool b) x) : x = .bool b := by cases q; rfl
theorem Rep.ref_inv {a : Nat} {x : Value} (q : Rep W h (.ref a) x) : x = .ref a := by cases q; rfl
theorem Rep.script_inv {x : Value} (q : Rep W h .script x) : x = .ref W.sa := by cases q; rfl
theorem Rep.typ_inv {T : String} {x : Value} (q : Rep W h (.typ T) x) : x = .type T := by cases q; rfl
theorem Rep.tup_inv {vs : List V} {x : Value} (q : Rep W h (.tup vs) x) : Ex3 fun (a : Addr) (items : Array Value) (n : Nat) => A4 (x = .ref a) (items.size ≤ 1000001) (h.get? a = some { cls := .type "tuple", data := .seq items n }) (Reps W h vs items.toList) := by
  cases q with | tup z e l q => exact ⟨_, _, _, rfl, z, e, ⟨l, q⟩⟩
end

/-- the kind of keys -/
abbrev tk (W : Wd) := PySem.tupleKind (PySem.intKind W.prog W.w)
abbrev ik (W : Wd) := PySem.intKind W.prog W.w
/-- an object of the abstract heap, as it lies -/
inductive CellR (W : Wd) (h : Heap) (a : Addr) : Cell → Prop
  | lst {vs : List V} {items : Array Value} {n : Nat} : items.size ≤ 1000001 → h.get? a = some { cls := .type "list", data := .seq items n } → Reps W h vs items.toList → CellR W h a (.lst vs)
  | dct {es : List (List Int × V)} {ep : Nat} {des : Array PySem.DictEntry} {xs : List (List Int × Addr × Value)} : xs.length ≤ 1000001 → h.get? a = some { cls := .type "dict", data := .dict des ep } →
      des.toList = xs.map (PySem.entryOfKey (tk W)) → (∀ x ∈ xs, (tk W).is h x.1 x.2.1) → (xs.map (·.1)).Nodup →
      es.map (·.1) = xs.map (·.1) → Reps W h (es.map (·.2)) (xs.map (·.2.2)) → (∀ x ∈ xs, Rep W h (kv x.1) (.ref x.2.1)) → CellR W h a (.dct es ep)
  | set {n ep : Nat} {es : Array (Int × Value)} {t : PySem.SetTable} : h.get? a = some { cls := .type "set", data := .set es ep t } → es.size = n → t.fits n = true → n ≤ 9 → CellR W h a (.set n)
  | inst {c : String} {C d : Addr} {o : Obj} : W.cls c = some C → h.get? a = some o → o.cls = .ref C → o.dict = some d → (∀ k, o.data ≠ .cls k) → CellR W h a (.inst c d)
  | attrs {l : List (String × V)} {m' : Str → Option Value} : h.Ns1 a m' → (∀ n v, alook l n = some v → ∃ x, m' (Str.ofString n) = some x ∧ Rep W h v x) → (∀ n, alook l n = none → m' (Str.ofString n) = none) →
      (∀ y, m' y ≠ none → y ∈ l.map fun e => Str.ofString e.1) → CellR W h a (.attrs l)

section
variable {W : Wd} {h h' : Heap} {a : Addr} {c : Cell}
theorem CellR.obj (x : CellR W h a c) : ∃ o, h.get? a = some o ∧ ¬ isTup o := by
  cases x with
  | lst _ e _ => exact ⟨_, e, notTup_type (by decide)⟩
  | dct _ e => exact ⟨_, e, notTup_type (by decide)⟩
  | set e => exact ⟨_, e, notTup_type (by decide)⟩
  | inst _ e c => exact ⟨_, e, notTup_cls fun q => Value.noConfusion (c.symm.trans q)⟩
  | attrs q => obtain ⟨o, es, ep, e, d, _⟩ := q; exact ⟨o, e, notTup_dict d⟩
theorem CellR.mono (x : CellR W h a c) (k : TupKeep h h') (ha : ∀ o, h.get? a = some o → h'.get? a = some o) : CellR W h' a c := by
  cases x with
  | lst z e r => exact .lst z (ha _ e) (r.mono k)
  | dct z e d i n m r q => exact .dct z (ha _ e) d (fun x hx => k.key _ _ (i x hx)) n m (r.mono k) fun x hx => (q x hx).mono k
  | set e z f n => exact .set (ha _ e) z f n
  | inst c e c1 c2 c3 => exact .inst c (ha _ e) c1 c2 c3
  | attrs q m n w => exact .attrs (q.at ha) (fun y v hy => (by obtain ⟨x, hx, hr⟩ := m y v hy; exact ⟨x, hx, hr.mono k⟩)) n w
end

/-- as it was, but for the places that a frame's object bears -/
noncomputable def Kept (o : Obj) (x : Option Obj) : Prop := ∃ sl, x = some { o with slots := sl } ∧ ((∀ es ep, o.data ≠ .dict es ep) → sl = o.slots)
theorem Kept.same {o : Obj} {x : Option Obj} (e : x = some o) : Kept o x := ⟨o.slots, e, fun _ => rfl⟩
theorem Kept.exact {o : Obj} {x : Option Obj} (k : Kept o x) (hd : ∀ es ep, o.data ≠ .dict es ep) : x = some o := by
  obtain ⟨sl, e, q⟩ := k
  cases q hd; exact e
theorem Kept.trans {o : Obj} {x y : Option Obj} (k : Kept o x) (l : ∀ o', x = some o' → Kept o' y) : Kept o y := by
  obtain ⟨sl, e, q⟩ := k
  obtain ⟨sl', e', q'⟩ := l _ e
  exact ⟨sl', e', fun hd => (q' hd).trans (q hd)⟩
theorem Kept.ns {h h' : Heap} {a : Addr} {m : Str → Option Value} (hn : h.Ns a m) (k : ∀ o, h.get? a = some o → Kept o (h'.get? a)) : h'.Ns a m := by
  obtain ⟨o, es, ep, ho, q⟩ := hn
  obtain ⟨sl, e, _⟩ := k o ho
  exact ⟨_, es, ep, e, q⟩
theorem Kept.cell {h h' : Heap} {a : Addr} {v : Option Value} (hn : h.IsCell a v) (k : ∀ o, h.get? a = some o → Kept o (h'.get? a)) : h'.IsCell a v := by
  obtain ⟨o, ho, hd⟩ := hn
  obtain ⟨sl, e, _⟩ := k o ho
  exact ⟨_, e, hd⟩

/-- the state bears the abstract heap -/
structure HR (W : Wd) (σ : Hp) (s : Shared) : Prop where
  same : ∃ h tk, s = { W.s₀ with heap := h, toks := tk }
  base : ∀ b o, W.s₀.heap.get? b = some o → s.heap.get? b = some o
  free : ∀ b o, W.s₀.heap.get? b = some o → σ b = none
  cell : ∀ a c, σ a = some c → CellR W s.heap a c

/-- from one state to a later one: what is no part of the abstract heap, nor the frame's own, stays -/
structure Step (W : Wd) (own : List Addr) (σ : Hp) (s : Shared) (σ' : Hp) (s' : Shared) : Prop where
  hr : HR W σ' s'
  keep : ∀ b o, s.heap.get? b = some o → σ b = none → b ∉ own → Kept o (s'.heap.get? b)
  none_ : ∀ b o, s.heap.get? b = some o → σ b = none → σ' b = none
  live : ∀ b o, s.heap.get? b = some o → ∃ o', s'.heap.get? b = some o' ∧ (¬ isTup o → ¬ isTup o')

section
variable {W : Wd} {own : List Addr} {σ σ' σ'' : Hp} {s s' s'' : Shared}
theorem Step.refl (x : HR W σ s) : Step W own σ s σ s := ⟨x, fun _ _ e _ _ => .same e, fun _ _ _ h => h, fun _ o e => ⟨o, e, id⟩⟩
theorem Step.trans (x : Step W own σ s σ' s') (y : Step W own σ' s' σ'' s'') : Step W own σ s σ'' s'' where
  hr := y.hr
  keep b o e h n := (x.keep b o e h n).trans fun o' e' => y.keep b o' e' (x.none_ b o e h) n
  none_ b o e h := (by obtain ⟨o', e', _⟩ := x.live b o e; exact y.none_ b o' e' (x.none_ b o e h))
  live b o e := (by obtain ⟨o', e', k⟩ := x.live b o e; obtain ⟨o'', e'', k'⟩ := y.live b o' e'; exact ⟨o'', e'', fun t => k' (k t)⟩)
theorem Step.weak (x : Step W [] σ s σ' s') : Step W own σ s σ' s' := ⟨x.hr, fun b o e h _ => x.keep b o e h (List.not_mem_nil), x.none_, x.live⟩
theorem Step.exact (x : Step W own σ s σ' s') {b : Addr} {o : Obj} (e : s.heap.get? b = some o) (h : σ b = none) (n : b ∉ own) (hd : ∀ es ep, o.data ≠ .dict es ep) : s'.heap.get? b = some o := (x.keep b o e h n).exact hd
theorem Step.ns (x : Step W own σ s σ' s') {a : Addr} {m : Str → Option Value} (hn : s.heap.Ns a m) (h : σ a = none) (n : a ∉ own) : s'.heap.Ns a m := Kept.ns hn fun o e => x.keep a o e h n
theorem Step.cell (x : Step W own σ s σ' s') {a : Addr} {v : Option Value} (hn : s.heap.IsCell a v) (h : σ a = none) (n : a ∉ own) : s'.heap.IsCell a v := Kept.cell hn fun o e => x.keep a o e h n

theorem HR.notTup (x : HR W σ s) {a : Addr} {o : Obj} (e : s.heap.get? a = some o) (k : isTup o) : σ a = none := by
  cases hc : σ a with
  | none => rfl
  | some c =>
    obtain ⟨o', ho, hn⟩ := (x.cell a c hc).obj
    exact absurd (Option.some.inj (e.symm.trans ho) ▸ k) hn
theorem HR.fresh (x : HR W σ s) {a : Addr} (e : s.heap.get? a = none) : σ a = none := by
  cases hc : σ a with
  | none => rfl
  | some c => obtain ⟨o', ho, _⟩ := (x.cell a c hc).obj; exact absurd (ho.symm.trans e) (Option.some_ne_none _)
theorem size_none (h : Heap) : h.get? h.objs.size = none := by
  cases e : h.get? h.objs.size with
  | none => rfl
  | some o => exact absurd (PySem.Heap.lt_size e) (Nat.lt_irrefl _)
theorem HR.fresh' (x : HR W σ s) : σ s.heap.objs.size = none := x.fresh (size_none _)
theorem HR.at (x : HR W σ s) (h : Heap) (tk : Nat) : ∃ h' tk', { s with heap := h, toks := tk } = ({ W.s₀ with heap := h', toks := tk' } : Shared) := by
  obtain ⟨h₁, tk₁, e⟩ := x.same; exact ⟨h, tk, by rw [e]⟩

/-- the frame's own objects are there, and no tuples -/
noncomputable def Own (own : List Addr) (h : Heap) : Prop := ∀ b ∈ own, ∃ o, h.get? b = some o ∧ ¬ isTup o
theorem Own.nil (h : Heap) : Own [] h := fun _ hb => by cases hb
theorem tup_nd {o : Obj} (k : isTup o) : ∀ es ep, o.data ≠ .dict es ep := fun _ _ q => (by obtain ⟨_, _, _, d⟩ := k; exact PySem.Data.noConfusion (d.symm.trans q))
theorem Step.tups (x : Step W own σ s σ' s') (r : HR W σ s) (ow : Own own s.heap) : TupKeep s.heap s'.heap := fun b o e k =>
  x.exact e (r.notTup e k) (fun hb => by obtain ⟨o', e', k'⟩ := ow b hb; exact k' (Option.some.inj (e.symm.trans e') ▸ k)) (tup_nd k)
theorem Step.tup0 (x : Step W [] σ s σ' s') (r : HR W σ s) : TupKeep s.heap s'.heap := x.tups r (Own.nil _)
theorem Step.fresh (x : Step W own σ s σ' s') {b : Addr} (e : s'.heap.get? b = none) : s.heap.get? b = none := by
  cases q : s.heap.get? b with
  | none => rfl
  | some o => obtain ⟨o', e', _⟩ := x.live b o q; exact absurd (e'.symm.trans e) (Option.some_ne_none _)

/-- the heap has grown; the abstract one is as it was -/
theorem HR.grow (x : HR W σ s) {h' : Heap} (k : ∀ b o, s.heap.get? b = some o → h'.get? b = some o) (tk : Nat) (own : List Addr) : Step W own σ s σ { s with heap := h', toks := tk } where
  hr := ⟨x.at h' tk, fun b o e => k b o (x.base b o e), x.free, fun a c hc => (x.cell a c hc).mono (.of k) fun o e => k a o e⟩
  keep b o e _ _ := .same (k b o e)
  none_ _ _ _ h := h
  live b o e := ⟨o, k b o e, id⟩
theorem HR.tok (x : HR W σ s) (tk : Nat) (own : List Addr) : Step W own σ s σ { s with toks := tk } := x.grow (h' := s.heap) (fun _ _ e => e) tk own
theorem ne_get {h : Heap} {a b : Addr} {o : Obj} (e : h.get? b = some o) (n : h.get? a = none) : b ≠ a := fun q => absurd (e.symm.trans (q ▸ n)) (Option.some_ne_none _)

theorem Step.add {D : Addr} {c : Cell} (g : Step W [] σ s σ' s') (r : HR W σ s) (hn : s.heap.get? D = none) (hc : CellR W s'.heap D c) : Step W [] σ s (σ'.set D c) s' where
  hr := ⟨g.hr.same, g.hr.base, fun b o e => (Hp.set_ne _ _ (ne_get (r.base b o e) hn)).trans (g.hr.free b o e), fun a d hd => by
    by_cases hb : a = D
    · subst hb; rw [Hp.set_same] at hd; exact Option.some.inj hd ▸ hc
    · rw [Hp.set_ne _ _ hb] at hd; exact g.hr.cell a d hd⟩
  keep := g.keep
  none_ b o e h := (Hp.set_ne _ _ (ne_get e hn)).trans (g.none_ b o e h)
  live := g.live
/-- a new object of the abstract heap -/
theorem HR.new (x : HR W σ s) {h' : Heap} {a : Addr} {c : Cell} (ha : s.heap.get? a = none) (k : ∀ b o, s.heap.get? b = some o → h'.get? b = some o) (hc : CellR W h' a c) (tk : Nat) :
    Step W [] σ s (σ.set a c) { s with heap := h', toks := tk } := (x.grow k tk []).add x ha hc

theorem tups_but {h h' : Heap} {I : Addr} (k : PySem.Heap.ExtBut I h h') (hI : ∃ o, h.get? I = some o ∧ ¬ isTup o) : TupKeep h h' := fun b o e q => k b o (fun hb => by
  obtain ⟨o', e', n⟩ := hI; exact n (Option.some.inj ((hb ▸ e).symm.trans e') ▸ q)) e

/-- one object is changed: one of the abstract heap, or of the frame's own, or a new one -/
theorem Step.but {own' : List Addr} {σ₂ : Hp} {h' : Heap} {a : Addr} (g : Step W own σ s σ' s') (hnb : W.s₀.heap.get? a = none) (ho : ∃ o, s'.heap.get? a = some o ∧ ¬ isTup o) (k : PySem.Heap.ExtBut a s'.heap h') (ho' : ∀ o, s.heap.get? a = some o → ∃ o, h'.get? a = some o ∧ ¬ isTup o)
    (hσ : ∀ b, b ≠ a → σ₂ b = σ' b) (hcell : ∀ c, σ₂ a = some c → CellR W h' a c)
    (hsub : ∀ b, b ∉ own' → b ∉ own) (hk : ∀ o, s.heap.get? a = some o → σ a = none → a ∈ own' ∧ σ₂ a = none) (tk : Nat) :
    Step W own' σ s σ₂ { s' with heap := h', toks := tk } := by
  have kt := tups_but k ho
  refine ⟨⟨g.hr.at h' tk, fun b o e => k b o (ne_get e hnb) (g.hr.base b o e), fun b o e => (hσ b (ne_get e hnb)).trans (g.hr.free b o e), fun b d hd => ?_⟩, fun b o e h n => ?_, fun b o e h => ?_, fun b o e => ?_⟩
  · by_cases hb : b = a
    · subst hb; exact hcell d hd
    · rw [hσ b hb] at hd; exact (g.hr.cell b d hd).mono kt fun o e => k b o hb e
  · have hb : b ≠ a := fun q => by subst q; exact n (hk o e h).1
    exact (g.keep b o e h (hsub b n)).trans fun o' e' => .same (k b o' hb e')
  · by_cases hb : b = a
    · subst hb; exact (hk o e h).2
    · exact (hσ b hb).trans (g.none_ b o e h)
  · by_cases hb : b = a
    · subst hb; obtain ⟨o', e', n'⟩ := ho' o e; exact ⟨o', e', fun _ => n'⟩
    · obtain ⟨o', e', q⟩ := g.live b o e; exact ⟨o', k b o' hb e', q⟩
theorem HR.notBase (x : HR W σ s) {a : Addr} {c : Cell} (h : σ a = some c) : W.s₀.heap.get? a = none := by
  cases e : W.s₀.heap.get? a with
  | none => rfl
  | some o => exact absurd (h.symm.trans (x.free a o e)) (Option.some_ne_none _)
/-- an object of the abstract heap is changed -/
theorem HR.upd (x : HR W σ s) {h' : Heap} {a : Addr} {c c' : Cell} (ha : σ a = some c) (k : PySem.Heap.ExtBut a s.heap h') (hc : CellR W h' a c') (tk : Nat) (own : List Addr) :
    Step W own σ s (σ.set a c') { s with heap := h', toks := tk } :=
  Step.but (own := own) (.refl x) (x.notBase ha) (x.cell a c ha).obj k (fun _ _ => hc.obj) (fun _ hb => Hp.set_ne _ _ hb) (fun d hd => by rw [Hp.set_same] at hd; exact Option.some.inj hd ▸ hc) (fun _ h => h) (fun _ _ h => absurd (ha.symm.trans h) (Option.some_ne_none _)) tk
/-- an object of the frame's own is changed -/
theorem HR.mine (x : HR W σ s) {h' : Heap} {a : Addr} {own : List Addr} {o' : Obj} (ha : a ∈ own) (ow : Own own s.heap) (hσ : σ a = none) (hb : W.s₀.heap.get? a = none) (k : PySem.Heap.ExtBut a s.heap h') (ho : h'.get? a = some o') (hn : ¬ isTup o') (tk : Nat) :
    Step W own σ s σ { s with heap := h', toks := tk } :=
  Step.but (own := own) (.refl x) hb (ow a ha) k (fun _ _ => ⟨o', ho, hn⟩) (fun _ _ => rfl) (fun c hc => absurd (hc.symm.trans hσ) (Option.some_ne_none _)) (fun _ h => h) (fun _ _ h => ⟨ha, h⟩) tk
theorem HR.nb (r : HR W σ s) {C : Addr} (hn : s.heap.get? C = none) : W.s₀.heap.get? C = none := by
  cases e : W.s₀.heap.get? C with
  | none => rfl
  | some o => exact absurd ((r.base _ _ e).symm.trans hn) (Option.some_ne_none _)
/-- an object that was not there is changed -/
theorem Step.over {C : Addr} {h' : Heap} (g : Step W own σ s σ' s') (r : HR W σ s) (hn : s.heap.get? C = none) (hσ : σ' C = none) (hC : ∃ o, s'.heap.get? C = some o ∧ ¬ isTup o) (k : PySem.Heap.ExtBut C s'.heap h') (tk : Nat) :
    Step W own σ s σ' { s' with heap := h', toks := tk } :=
  Step.but g (r.nb hn) hC k (fun _ e => absurd (e.symm.trans hn) (Option.some_ne_none _)) (fun _ _ => rfl) (fun c hc => absurd (hc.symm.trans hσ) (Option.some_ne_none _)) (fun _ h => h) (fun _ e _ => absurd (e.symm.trans hn) (Option.some_ne_none _)) tk
/-- the frame's own objects were not there -/
theorem Step.shrink {s₁ : Shared} {σ₁ : Hp} (g : Step W [] σ s σ₁ s₁) (x : Step W own σ₁ s₁ σ' s') (hn : ∀ b ∈ own, s.heap.get? b = none) : Step W [] σ s σ' s' where
  hr := x.hr
  keep b o e h _ := (g.keep b o e h List.not_mem_nil).trans fun o' e' => x.keep b o' e' (g.none_ b o e h) fun hb => absurd (e.symm.trans (hn b hb)) (Option.some_ne_none _)
  none_ b o e h := (by obtain ⟨o', e', _⟩ := g.live b o e; exact x.none_ b o' e' (g.none_ b o e h))
  live b o e := (by obtain ⟨o₁, e₁, k₁⟩ := g.live b o e; obtain ⟨o₂, e₂, k₂⟩ := x.live b o₁ e₁; exact ⟨o₂, e₂, fun t => k₂ (k₁ t)⟩)
end
end RS

namespace RS
open PySem (Program World Shared Addr Value Obj Heap Str Around wpAny codeAny model Scope NameKind Expr Stmt FuncData cLine recursionLimit sizeLine mainGlobals builtinsNs PyData)

/-- what comes behind a value -/
noncomputable def Kt (W : Wd) (σ : Hp) (s : Shared) (Q : VP) (P : Value → Shared → Prop) : Prop := ∀ v σ' x s', Q v σ' → Rep W s'.heap v x → Step W [] σ s σ' s' → P x s'
theorem Kt.step {W : Wd} {σ σ₁ : Hp} {s s₁ : Shared} {Q : VP} {P : Value → Shared → Prop} (k : Kt W σ s Q P) (st : Step W [] σ s σ₁ s₁) : Kt W σ₁ s₁ Q P := fun v σ' x s' q r st' => k v σ' x s' q r (st.trans st')

/-- room for k more calls -/
structure Room (A : Around) (k : Nat) : Prop where
  hand : A.handled = none
  units : A.units + 10 * k + 200 < cLine
  depth : A.depth + k < recursionLimit
theorem Room.u {A : Around} {k : Nat} (h : Room A k) (n : Nat) (hn : n ≤ 200) : A.units + n < cLine := Nat.lt_of_le_of_lt (Nat.add_le_add (Nat.le_add_right _ _) hn) h.units
theorem Room.le {A : Around} {k k' : Nat} (h : Room A k') (hk : k ≤ k') : Room A k := ⟨h.hand, Nat.lt_of_le_of_lt (Nat.add_le_add_right (Nat.add_le_add_left (Nat.mul_le_mul_left 10 hk) _) 200) h.units, Nat.lt_of_le_of_lt (Nat.add_le_add_left hk _) h.depth⟩

/-- what is known of the fixed parts -/
structure WOk (W : Wd) : Prop where
  sys : W.s₀.heap.get? PySem.sysModules ≠ none
  script : ∃ items n, items.size ≤ 1000001 ∧ W.s₀.heap.get? W.sa = some { cls := .type "list", data := .seq items n } ∧ ∀ h, Reps W h (W.ns.map .int) items.toList

noncomputable def opOf : Bop → PySem.Operator
  | .add => .Add | .sub => .Sub | .mul => .Mult | .fdiv => .FloorDiv | .mod => .Mod
noncomputable def cmpOf : Cop → PySem.CmpOp
  | .eq => .Eq | .ne => .NotEq | .lt => .Lt | .le => .LtE | .gt => .Gt | .ge => .GtE | .is => .Is | .isNot => .IsNot | .isIn => .In | .notIn => .NotIn

theorem log_small {a : Int} (h : small a) (h0 : a.natAbs ≠ 0) : a.natAbs.log2 < 64 := (Nat.log2_lt h0).mpr (by unfold small at h; omega)
theorem small_bits {a : Int} (h : small a) : PySem.Builtin.Int.intBits a ≤ PySem.shortFactorBits := by
  unfold PySem.Builtin.Int.intBits
  split
  · exact Nat.zero_le _
  · rename_i h0
    exact Nat.le_trans (Nat.succ_le_succ (Nat.le_of_lt_succ (log_small h (by simpa using h0)))) (by decide)
theorem small_pylong {a b : Int} (h : small b) : PySem.Builtin.divisionGoesByPylong a b = false := by
  unfold PySem.Builtin.divisionGoesByPylong
  dsimp only
  rw [Bool.and_eq_false_iff]
  left
  rw [decide_eq_false_iff_not]
  split
  · decide
  · rename_i h0
    have := log_small h (by simpa using h0)
    lia
theorem sizeLine_is : sizeLine = 16777216 := rfl
theorem fits {n : Nat} (h : n ≤ 1000001) : n ≤ sizeLine := Nat.le_trans h (by decide)
theorem lenOk.fits {n : Nat} (h : lenOk n) : n ≤ 1000001 := Nat.le_succ_of_le h

theorem Str.ofString_ok (t : String) : PyData.strOk (Str.ofString t) = true := by
  unfold PyData.strOk Str.ofString
  rw [PySem.cpsOfBytes_string, Array.all_eq_true']
  intro x hx
  simp only [List.mem_toArray, List.mem_map] at hx
  obtain ⟨c, _, rfl⟩ := hx
  have h := c.valid
  simp only [UInt32.isValidChar, Nat.isValidChar] at h
  have : c.toNat = c.val.toNat := rfl
  simp only [decide_eq_true_eq]
  lia
theorem Str.ofString_inj {a b : String} (h : Str.ofString a = Str.ofString b) : a = b := by
  unfold Str.ofString at h
  rw [PySem.cpsOfBytes_string, PySem.cpsOfBytes_string] at h
  have h' : a.toList.map Char.toNat = b.toList.map Char.toNat := congrArg Array.toList (PySem.Str.mk.inj h)
  exact String.toList_inj.mp ((List.map_inj_right (f := Char.toNat) fun x y e => Char.ext (UInt32.toNat_inj.mp e)).mp h')
theorem Str.ofString_beq (a b : String) : (Str.ofString a == Str.ofString b) = decide (a = b) := by
  by_cases h : a = b
  · subst h; rw [beq_self_eq_true, decide_eq_true rfl]
  · rw [decide_eq_false h, beq_eq_false_iff_ne]; exact fun e => h (Str.ofString_inj e)

section
open PySem PyProof.Rows
end

/-- a list, as it lies -/
inductive LstAt (W : Wd) (h : Heap) (a : Addr) (vs : List V) : Prop
  | mk {items : Array Value} {n : Nat} (z : items.size ≤ 1000001) (e : h.get? a = some { cls := .type "list", data := .seq items n }) (q : Reps W h vs items.toList) (l : vs.length = items.size)

section
variable {W : Wd} {A : Around} {E : Value → Shared → Prop} {s : Shared} {σ : Hp} {Q : VP} {P : Value → Shared → Prop}

theorem HR.lst {a : Nat} {vs : List V} (r : HR W σ s) (h : σ a = some (.lst vs)) : LstAt W s.heap a vs := by
  cases r.cell a _ h with
  | lst z e q => exact ⟨z, e, q, q.len⟩
theorem newSeq {t : String} {xs : List Value} (b : Addr) (o : Obj) (e : s.heap.get? b = some o) : (s.heap.push { cls := .type t, data := .seq xs.toArray }).get? b = some o := PySem.Heap.get?_push_of_some _ e
theorem newList_s {vs : List V} {xs : List Value} (r : HR W σ s) (hl : xs.length ≤ 1000001) (hr : Reps W s.heap vs xs) (h : newP σ (.lst vs) Q) (tk : Nat) (hP : Kt W σ s Q P) :
    P (.ref s.heap.objs.size) { s with heap := s.heap.push { cls := .type "list", data := .seq xs.toArray }, toks := tk } :=
  hP _ _ _ _ (h _ r.fresh') (.ref _) (r.new (size_none _) newSeq (.lst hl (PySem.Heap.get?_push_size _ rfl) (hr.mono (.of newSeq))) tk)
theorem newTuple_s {vs : List V} {xs : List Value} (r : HR W σ s) (hl : xs.length ≤ 1000001) (hr : Reps W s.heap vs xs) (h : Q (.tup vs) σ) (tk : Nat) (hP : Kt W σ s Q P) :
    P (.ref s.heap.objs.size) { s with heap := s.heap.push { cls := .type "tuple", data := .seq xs.toArray }, toks := tk } :=
  hP _ _ _ _ h (Rep.tupI (items := xs.toArray) hl (PySem.Heap.get?_push_size _ rfl) (hr.mono (.of newSeq))) (r.grow newSeq tk [])

theorem bin_sound {op : Bop} {v w : V} {x y : Value} (r : HR W σ s) (hx : Rep W s.heap v x) (hy : Rep W s.heap w y) (h : binP σ Q op v w) (hP : Kt W σ s Q P) :
    wpAny (model W.prog W.w) A (PySem.binaryOp (opOf op) x y) P E s := by
  cases h with
  | add h => obtain ⟨t, rfl⟩ := hx.int_inv; obtain ⟨u, rfl⟩ := hy.int_inv; exact PyProof.Rows.add_int (hP _ _ _ _ h (.int _ _) (r.tok _ _))
  | sub h => obtain ⟨t, rfl⟩ := hx.int_inv; obtain ⟨u, rfl⟩ := hy.int_inv; exact PyProof.Rows.sub_int (hP _ _ _ _ h (.int _ _) (r.tok _ _))
  | mul hs h =>
    obtain ⟨t, rfl⟩ := hx.int_inv; obtain ⟨u, rfl⟩ := hy.int_inv
    refine PyProof.Rows.mul_int (hP _ _ _ _ h (.int _ _) (r.tok _ _)) ?_
    unfold PySem.IntMulOk
    rw [Bool.and_eq_true, Bool.and_eq_true, decide_eq_true_eq, decide_eq_true_eq]
    exact fun q => hs.elim (fun hs => absurd q.1.1 (Nat.not_lt.mpr (small_bits hs))) fun hs => absurd q.1.2 (Nat.not_lt.mpr (small_bits hs))
  | fdiv h0 hs h =>
    obtain ⟨t, rfl⟩ := hx.int_inv; obtain ⟨u, rfl⟩ := hy.int_inv
    refine PyProof.Rows.floordiv_int (Int.ne_of_gt h0) ?_ (.inl (small_pylong hs))
    rw [Int.fdiv_eq_ediv_of_nonneg _ (Int.le_of_lt h0)]
    exact hP _ _ _ _ h (.int _ _) (r.tok _ _)
  | mod h0 h =>
    obtain ⟨t, rfl⟩ := hx.int_inv; obtain ⟨u, rfl⟩ := hy.int_inv
    refine PyProof.Rows.mod_int' (Int.ne_of_gt h0) ?_
    rw [Int.fmod_eq_emod_of_nonneg _ (Int.le_of_lt h0)]
    exact hP _ _ _ _ h (.int _ _) (r.tok _ _)
  | cat ha hb hl h =>
    cases hx.ref_inv; cases hy.ref_inv
    obtain @⟨items, n, z, e, q, l⟩ := r.lst ha
    obtain @⟨items2, n2, z2, e2, q2, l2⟩ := r.lst hb
    rw [l, l2] at hl
    refine PySem.P.add_list e e2 ?_ (fits hl.fits)
    rw [show items ++ items2 = (items.toList ++ items2.toList).toArray from by rw [List.append_toArray]]
    exact newList_s r (by rw [List.length_append]; exact hl.fits) (q.append q2) h s.toks hP
  | tcat h1 h2 hl h =>
    obtain ⟨a, items, n, rfl, z, e, q⟩ := hx.tup_inv
    obtain ⟨b, items2, n2, rfl, z2, e2, q2⟩ := hy.tup_inv
    have l : _ = items.size := q.len
    have l2 : _ = items2.size := q2.len
    rw [l, l2] at hl
    have k1 : ¬ items.isEmpty = true := fun k => h1 (List.eq_nil_of_length_eq_zero (l.trans (Array.isEmpty_iff_size_eq_zero.mp k)))
    have k2 : ¬ items2.isEmpty = true := fun k => h2 (List.eq_nil_of_length_eq_zero (l2.trans (Array.isEmpty_iff_size_eq_zero.mp k)))
    refine PySem.P.add_tuple e e2 k1 k2 ?_ (fits hl.fits)
    rw [show items ++ items2 = (items.toList ++ items2.toList).toArray from by rw [List.append_toArray]]
    exact newTuple_s r (by rw [List.length_append]; exact hl.fits) (q.append q2) h s.toks hP

/-! ### data, compared -/
theorem optAll_cons {α β : Type} {f : α → Option β} {a : α} {l : List α} {r : List β} (h : optAll f (a :: l) = some r) : ∃ b s, f a = some b ∧ optAll f l = some s ∧ r = b :: s := by
  change (f a).bind (fun b => (optAll f l).map (b :: ·)) = some r at h
  cases e : f a with
  | none => rw [e] at h; cases h
  | some b =>
    rw [e] at h
    cases e' : optAll f l with
    | none => rw [Option.bind_some, e'] at h; cases h
    | some s => rw [Option.bind_some, e'] at h; cases h; exact ⟨b, s, rfl, rfl, rfl⟩
theorem optAll_length {α β : Type} {f : α → Option β} {l : List α} : ∀ {r : List β}, optAll f l = some r → l.length = r.length := by
  induction l with
  | nil => intro r h; cases h; rfl
  | cons a l ih => intro r h; obtain ⟨b, s, _, hs, rfl⟩ := optAll_cons h; exact congrArg (· + 1) (ih hs)

inductive Rd (h : Heap) (n : Nat) (x : Value) (d : PyData) : Prop
  | mk {as : List Addr} (r : PySem.Reads h x d as) (c : d.canLay0 = true) (l : d.depth ≤ n)
inductive Rds (h : Heap) (n : Nat) (xs : List Value) (ds : List PyData) : Prop
  | mk {as : List Addr} (r : PySem.ReadsAll h xs ds as) (c : PyData.canLayAll0 ds = true) (l : PyData.depthAll ds ≤ n)
theorem snaps_reads {n : Nat} {rec : V → Option PyData} (IH : ∀ (v : V) (d : PyData) (x : Value), rec v = some d → Rep W s.heap v x → Rd s.heap n x d) :
    ∀ (vs : List V) (ds : List PyData) (xs : List Value), optAll rec vs = some ds → Reps W s.heap vs xs → Rds s.heap n xs ds := by
  intro vs
  induction vs with
  | nil => intro ds xs h q; cases h; cases q.nil_inv; exact ⟨.nil, rfl, Nat.zero_le _⟩
  | cons v vs ih =>
    intro ds xs h q
    obtain ⟨d, ds', hd, hds, rfl⟩ := optAll_cons h
    obtain ⟨x, xs', rfl, r, q'⟩ := q.cons_inv
    obtain ⟨r1, c, l⟩ := IH _ _ _ hd r
    obtain ⟨rs, cs, ls⟩ := ih _ _ hds q'
    exact ⟨.cons r1 rs, by show (d.canLay0 && PyData.canLayAll0 ds') = true; rw [c, cs]; rfl, Nat.max_le.mpr ⟨l, ls⟩⟩
theorem snap1_reads (r : HR W σ s) {n : Nat} {rec : V → Option PyData} (IH : ∀ (v : V) (d : PyData) (x : Value), rec v = some d → Rep W s.heap v x → Rd s.heap n x d) (v : V) (d : PyData) (x : Value) (h : snap1 σ rec v = some d) (q : Rep W s.heap v x) :
    Rd s.heap (n + 1) x d := by
  cases q with
  | none => cases h; exact ⟨.none, rfl, Nat.zero_le _⟩
  | bool b => cases h; exact ⟨.bool _, rfl, Nat.zero_le _⟩
  | int i t => cases h; exact ⟨.int _ _, rfl, Nat.zero_le _⟩
  | str i t => cases h; exact ⟨.str _ _, Str.ofString_ok _, Nat.zero_le _⟩
  | @tup vs a items n z e l q =>
    change (optAll rec vs).map PyData.tuple = some d at h
    cases e' : optAll rec vs with
    | none => rw [e'] at h; cases h
    | some ds =>
      rw [e'] at h; cases h
      obtain ⟨rs, c, l⟩ := snaps_reads IH _ _ _ e' ⟨l, q⟩
      exact ⟨.tuple e rfl rfl rs, c, Nat.succ_le_succ l⟩
  | ref a =>
    have h' : (match σ a with | some (.lst vs) => (optAll rec vs).map PyData.list | _ => none) = some d := h
    cases ha : σ a with
    | none => rw [ha] at h'; cases h'
    | some c =>
      cases c with
      | lst vs =>
        rw [ha] at h'
        change (optAll rec vs).map PyData.list = some d at h'
        cases e' : optAll rec vs with
        | none => rw [e'] at h'; cases h'
        | some ds =>
          rw [e'] at h'; cases h'
          obtain ⟨z, e, q, l⟩ := r.lst ha
          obtain ⟨rs, c, l⟩ := snaps_reads IH _ _ _ e' q
          exact ⟨.list e rfl rfl rs, c, Nat.succ_le_succ l⟩
      | _ => rw [ha] at h'; cases h'
  | _ => cases h
theorem snap_reads (r : HR W σ s) (n : Nat) : ∀ (v : V) (d : PyData) (x : Value), snap σ n v = some d → Rep W s.heap v x → Rd s.heap (n + 1) x d := by
  induction n with
  | zero => exact snap1_reads r fun _ _ _ h => by cases h
  | succ n ih => exact snap1_reads r ih

theorem eq_sound {v w : V} {x y : Value} {k : Nat} (hA : Room A k) (r : HR W σ s) (hx : Rep W s.heap v x) (hy : Rep W s.heap w y) {B : Bool → Prop} (h : eqP σ B v w) (hP : ∀ b, B b → P (.bool b) s) :
    wpAny (model W.prog W.w) A (PySem.compareOp .Eq x y) P E s := by
  cases h with
  | int h => obtain ⟨t, rfl⟩ := hx.int_inv; obtain ⟨u, rfl⟩ := hy.int_inv; exact PyProof.Rows.eq_int (hP _ h)
  | str h =>
    obtain ⟨t, rfl⟩ := hx.str_inv; obtain ⟨u, rfl⟩ := hy.str_inv
    refine PyProof.Rows.eq_str ?_
    rw [Str.ofString_beq]; exact hP _ h
  | gen hd he hb =>
    obtain ⟨ra, ca, la⟩ := snap_reads r 50 _ _ _ hd hx
    obtain ⟨rb, cb, _⟩ := snap_reads r 50 _ _ _ he hy
    exact PySem.SeqAt.compareEq_reads ra rb ca cb (hA.u _ (Nat.le_trans (Nat.le_trans (Nat.min_le_left _ _) la) (by decide))) (hP _ hb)
theorem ne_sound {v w : V} {x y : Value} {k : Nat} (hA : Room A k) (r : HR W σ s) (hx : Rep W s.heap v x) (hy : Rep W s.heap w y) {B : Bool → Prop} (h : eqP σ (fun b => B (!b)) v w) (hP : ∀ b, B b → P (.bool b) s) :
    wpAny (model W.prog W.w) A (PySem.compareOp .NotEq x y) P E s := by
  cases h with
  | int h => obtain ⟨t, rfl⟩ := hx.int_inv; obtain ⟨u, rfl⟩ := hy.int_inv; exact PyProof.Rows.ne_int (hP _ h)
  | str h =>
    obtain ⟨t, rfl⟩ := hx.str_inv; obtain ⟨u, rfl⟩ := hy.str_inv
    refine PyProof.Rows.ne_str ?_
    rw [bne, Str.ofString_beq]; exact hP _ h
  | gen hd he hb =>
    obtain ⟨ra, ca, la⟩ := snap_reads r 50 _ _ _ hd hx
    obtain ⟨rb, cb, _⟩ := snap_reads r 50 _ _ _ he hy
    exact PySem.SeqAt.compareNe_reads ra rb ca cb (hA.u _ (Nat.le_trans (Nat.le_trans (Nat.min_le_left _ _) la) (by decide))) (hP _ hb)

theorem ints_ind {h : Heap} {I : List Value → List Int → Prop} (h0 : I [] []) (h1 : ∀ i t xs ks, I xs ks → I (.int i t :: xs) (i :: ks)) (ks : List Int) : ∀ xs : List Value, Reps W h (ks.map .int) xs → I xs ks := by
  induction ks with
  | nil => intro xs q; cases q.nil_inv; exact h0
  | cons k ks ih =>
    intro xs q
    obtain ⟨x, xs', rfl, r, q'⟩ := q.cons_inv
    obtain ⟨t, rfl⟩ := r.int_inv
    exact h1 _ _ _ _ (ih _ q')
theorem V.key_of {v : V} {k : List Int} (h : v.key = some k) : v = kv k := by
  cases v with
  | tup vs => rw [show vs = k.map .int from V.ints_of h]; rfl
  | _ => cases h
theorem V.key_kv (k : List Int) : (kv k).key = some k := V.ints_map k
/-- a key of numbers, as it lies -/
theorem key_tuple {v : V} {x : Value} {l : List Int} (hv : v.key = some l) (hx : Rep W s.heap v x) : ∃ a, x = .ref a ∧ (tk W).is s.heap l a := by
  rw [V.key_of hv] at hx
  obtain ⟨a, items, n, rfl, z, e, q⟩ := hx.tup_inv
  exact ⟨a, rfl, _, _, _, e, rfl, rfl, ints_ind (I := fun xs ks => PySem.ItemsAre (ik W) ks xs) .nil (fun i t xs ks q => .cons (by simp [PySem.intKind, Value.isInt]) q) l _ q⟩

/-- a dict by tuples, as it lies -/
inductive DctAt (W : Wd) (h : Heap) (a : Addr) (es : List (List Int × V)) (ep : Nat) : Prop
  | mk {des : Array PySem.DictEntry} {xs : List (List Int × Addr × Value)} (z : xs.length ≤ 1000001) (e : h.get? a = some { cls := .type "dict", data := .dict des ep }) (D : h.DictOfH (tk W) a xs)
      (d : des.toList = xs.map (PySem.entryOfKey (tk W))) (i : ∀ x ∈ xs, (tk W).is h x.1 x.2.1) (n : (xs.map (·.1)).Nodup) (m : es.map (·.1) = xs.map (·.1)) (q : Reps W h (es.map (·.2)) (xs.map (·.2.2))) (rk : ∀ x ∈ xs, Rep W h (kv x.1) (.ref x.2.1)) (l : es.length = xs.length) (dl : des.size = xs.length)
theorem HR.dct {a : Nat} {es : List (List Int × V)} {ep : Nat} (r : HR W σ s) (h : σ a = some (.dct es ep)) : DctAt W s.heap a es ep := by
  cases r.cell a _ h with
  | dct z e d i n m q rk => exact ⟨z, e, ⟨_, _, _, e, ⟨rfl, rfl, rfl⟩, rfl, d, i, n⟩, d, i, n, m, q, rk, by have := congrArg List.length m; rwa [List.length_map, List.length_map] at this, PySem.size_of_entries d⟩

/-- what is found under a key -/
theorem dget_at {h : Heap} (k : List Int) : ∀ {es : List (List Int × V)} {xs : List (List Int × Addr × Value)} (_ : es.map (·.1) = xs.map (·.1)) (_ : Reps W h (es.map (·.2)) (xs.map (·.2.2))),
    (dget es k = none ∧ PySem.atKey xs k = none) ∨ ∃ v p, dget es k = some v ∧ PySem.atKey xs k = some p ∧ Rep W h v p.2 := by
  intro es
  induction es with
  | nil => intro xs e q; cases xs with
    | nil => exact .inl ⟨rfl, rfl⟩
    | cons x xs => cases e
  | cons y es ih => intro xs e q; cases xs with
    | nil => cases e
    | cons x xs =>
      obtain ⟨k₁, v⟩ := y
      obtain ⟨k₂, p⟩ := x
      obtain ⟨h1, h2⟩ := List.cons.inj e
      obtain rfl : k₁ = k₂ := h1
      obtain ⟨_, _, e', r, q'⟩ := q.cons_inv
      obtain ⟨rfl, rfl⟩ := List.cons.inj e'
      by_cases hk : k₁ = k
      · subst hk; exact .inr ⟨v, p, by simp [dget], by simp [PySem.atKey], r⟩
      · have := ih h2 q'
        simpa only [dget, PySem.atKey, List.find?_cons, hk, decide_false] using this
theorem dget_isSome {h : Heap} {es : List (List Int × V)} {xs : List (List Int × Addr × Value)} (e : es.map (·.1) = xs.map (·.1)) (q : Reps W h (es.map (·.2)) (xs.map (·.2.2))) (k : List Int) : (dget es k).isSome = (PySem.atKey xs k).isSome := by
  rcases dget_at k e q with ⟨h1, h2⟩ | ⟨v, p, h1, h2, _⟩ <;> rw [h1, h2] <;> rfl
theorem HR.notSys (r : HR W σ s) (hW : WOk W) {a : Nat} {c : Cell} (h : σ a = some c) : (a == PySem.sysModules) = false := by
  rw [beq_eq_false_iff_ne]
  exact fun e => hW.sys (e ▸ r.notBase h)
theorem Room.kr {k : Nat} (hA : Room A k) : (tk W).room A.in1 := PySem.tupleKind_room_in1 (hA.u 1 (by decide))

theorem in_sound {v w : V} {x y : Value} {k : Nat} (hA : Room A k) (hW : WOk W) (r : HR W σ s) (hx : Rep W s.heap v x) (hy : Rep W s.heap w y) {B : Bool → Prop} (h : inP σ B v w)
    (hP : ∀ b tk, B b → P (.bool b) { s with toks := tk }) : wpAny (model W.prog W.w) A (PySem.compareOp .In x y) P E s := by
  cases h with
  | lst ha hd hds hb =>
    cases hy.ref_inv
    obtain ⟨z, e, q, l⟩ := r.lst ha
    obtain ⟨rx, cx, lx⟩ := snap_reads r 40 _ _ _ hd hx
    obtain ⟨rs, cs, _⟩ := snaps_reads (snap_reads r 40) _ _ _ hds q
    exact PySem.SeqAt.in_list_reads (.list e rfl rfl rs) rx cs cx (Nat.add_assoc A.units 1 _ ▸ hA.u _ (Nat.le_trans (Nat.add_le_add_left (Nat.le_trans (Nat.min_le_right _ _) lx) 1) (by decide))) (hP _ s.toks hb)
  | dct ha hk hb =>
    cases hy.ref_inv
    obtain ⟨z, e, D, d, i, n, m, q, rk, l, dl⟩ := r.dct ha
    obtain ⟨b, rfl, kb⟩ := key_tuple hk hx
    refine PySem.wpAny_in_heap hA.kr kb (r.notSys hW ha) D ?_
    rw [← dget_isSome m q]
    exact hP _ _ hb

theorem notIn_of {x y : Value} {M : PySem.Model} (h : wpAny M A (PySem.compareOp .In x y) (fun v s' => ∀ b, v = .bool b → P (.bool (!b)) s') E s) : wpAny M A (PySem.compareOp .NotIn x y) P E s := fun Γ p hΓ => by
  have := h Γ p hΓ
  simp only [PySem.compareOp, PySem.Sem.wp_bind', PySem.Sem.wp_pure'] at this ⊢
  exact PySem.Sem.wp_mono M Γ _ (fun b p' s' q => q b rfl) (fun _ _ _ q => q) _ _ this
theorem isNone_rep {v : V} {x : Value} {h : Heap} (hx : Rep W h v x) : (x == Value.none) = v.isNone := by cases hx <;> rfl

theorem cmp_sound {op : Cop} {v w : V} {x y : Value} {k : Nat} (hW : WOk W) (hA : Room A k) (r : HR W σ s) (hx : Rep W s.heap v x) (hy : Rep W s.heap w y) {B : Bool → Prop} (h : cmpP σ B op v w)
    (hP : ∀ b tk, B b → P (.bool b) { s with toks := tk }) : wpAny (model W.prog W.w) A (PySem.compareOp (cmpOf op) x y) P E s := by
  have hP' : ∀ b, B b → P (.bool b) s := fun b hb => hP b s.toks hb
  cases h with
  | eq h => exact eq_sound hA r hx hy h hP'
  | ne h => exact ne_sound hA r hx hy h hP'
  | lt h => obtain ⟨t, rfl⟩ := hx.int_inv; obtain ⟨u, rfl⟩ := hy.int_inv; exact PyProof.Rows.lt_int (hP' _ h)
  | le h => obtain ⟨t, rfl⟩ := hx.int_inv; obtain ⟨u, rfl⟩ := hy.int_inv; exact PyProof.Rows.le_int (hP' _ h)
  | gt h => obtain ⟨t, rfl⟩ := hx.int_inv; obtain ⟨u, rfl⟩ := hy.int_inv; exact PyProof.Rows.gt_int (hP' _ h)
  | ge h => obtain ⟨t, rfl⟩ := hx.int_inv; obtain ⟨u, rfl⟩ := hy.int_inv; exact PyProof.Rows.ge_int (hP' _ h)
  | is h =>
    cases hy.none_inv
    refine PyProof.Rows.is_none_gen ?_
    rw [isNone_rep hx]; exact hP' _ h
  | isNot h =>
    cases hy.none_inv
    have e : PySem.compareOp .IsNot x .none = pure (.bool (!(x == .none))) := by
      show (do return Value.bool (!(← PySem.isSame x .none))) = _
      rw [PySem.isSame_none]; rfl
    show wpAny _ _ (PySem.compareOp .IsNot x .none) _ _ _
    rw [e, isNone_rep hx]
    exact PySem.wpAny_pure (hP' _ h)
  | isIn h => exact in_sound hA hW r hx hy h hP
  | notIn h => exact notIn_of (in_sound (B := fun b => B (!b)) hA hW r hx hy h fun b tk hb b' e => by cases e; exact hP _ _ hb)

/-! ### subscripts -/
theorem pyGet_at {α : Type} {vs : List α} {k : Int} {v : α} (h : pyGet vs k = some v) : ∃ j, PySem.seqIndex? k vs.length = some j ∧ vs[j]? = some v ∧ -(vs.length : Int) ≤ k ∧ k < vs.length := by
  unfold pyGet at h
  unfold PySem.seqIndex?
  split at h
  · rename_i h0
    obtain ⟨m, rfl⟩ := Int.eq_ofNat_of_zero_le h0
    rw [Int.toNat_natCast] at h
    have h2 := Int.ofNat_lt.mpr (List.getElem?_eq_some_iff.mp h).1
    have h1 := Int.not_lt.mpr h0
    exact ⟨m, by simp [h1, h0, h2], h, Int.le_trans (Int.neg_nonpos_of_nonneg (Int.natCast_nonneg _)) h0, h2⟩
  · rename_i h0
    split at h
    · rename_i h1
      have h2 := Int.not_le.mp h0
      have h3 : k + (vs.length : Int) < vs.length := by have := Int.add_lt_add_right h2 (vs.length : Int); rwa [Int.zero_add] at this
      exact ⟨(k + vs.length).toNat, by simp [h1, h2, h3], h, Int.le_of_sub_nonneg (by rw [Int.sub_neg]; exact h1), Int.lt_of_lt_of_le h2 (Int.natCast_nonneg _)⟩
    · cases h
theorem pyGet_map {α β : Type} (f : α → β) {vs : List α} {k : Int} {v : α} (h : pyGet vs k = some v) : pyGet (vs.map f) k = some (f v) := by
  unfold pyGet at h ⊢
  rw [List.length_map, List.getElem?_map, List.getElem?_map]
  split at h
  · rename_i h0; rw [if_pos h0, h]; rfl
  · rename_i h0
    rw [if_neg h0]
    split at h
    · rename_i h1; rw [if_pos h1, h]; rfl
    · cases h

theorem getList_sound {a : Addr} {items : Array Value} {n : Nat} {vs : List V} {k : Int} {v : V} {tk : Nat} (r : HR W σ s) (z : items.size ≤ 1000001) (e : s.heap.get? a = some { cls := .type "list", data := .seq items n }) (q : Reps W s.heap vs items.toList) (hv : pyGet vs k = some v) (hq : Q v σ) (hP : Kt W σ s Q P) :
    wpAny (model W.prog W.w) A (PySem.getItem (.ref a) (.int k tk)) P E s := by
  have hl : vs.length = items.size := q.len
  have hL : s.heap.IsList a items := ⟨_, e, rfl, n, rfl⟩
  unfold pyGet at hv
  split at hv
  · rename_i h0
    obtain ⟨y, hy, ry⟩ := q.get hv
    have hb := (List.getElem?_eq_some_iff.mp hv).1
    exact PySem.wpAny_getItem_list hL h0 (by (clear h0; lia)) (by rwa [← Array.getElem?_toList]) (hP _ _ _ _ hq ry (.refl r))
  · rename_i h0
    split at hv
    · rename_i h1
      obtain ⟨y, hy, ry⟩ := q.get hv
      rw [hl] at hy h1
      exact PySem.wpAny_getItem_list_neg hL (Int.lt_of_not_ge h0) (by lia) (by lia) (by rwa [← Array.getElem?_toList]) (hP _ _ _ _ hq ry (.refl r))
    · cases hv

theorem idx_sound {g : Glb} {o i : V} {x y : Value} {k : Nat} {value slice : Expr} (hg : g.ns = W.ns) (hW : WOk W) (hA : Room A k) (r : HR W σ s) (hx : Rep W s.heap o x) (hy : Rep W s.heap i y) (h : idxP g σ Q o i) (hP : Kt W σ s Q P)
    (hs : ∃ ops, PySem.subscripted slice false x y = PySem.operate ops (PySem.getItem x y)) : wpAny (model W.prog W.w) A (PyProof.Rows.subscriptTail value slice x y) P E s := by
  obtain ⟨ops, hs⟩ := hs
  cases h with
  | tup hv hq =>
    obtain ⟨t, rfl⟩ := hy.int_inv
    obtain ⟨a, items, n, rfl, z, e, q⟩ := hx.tup_inv
    obtain ⟨j, hj, hjv, lo, hi⟩ := pyGet_at hv
    obtain ⟨y', hy', ry⟩ := q.get hjv
    have hl := q.len.trans Array.length_toList
    rw [hl] at hj lo hi
    exact PyProof.Rows.tail_any ⟨_, e, rfl⟩ PySem.F.slot_tuple_getitem.lookup (PySem.P.getItem_tuple e (by lia) (by lia) hj (by rwa [← Array.getElem?_toList]) (hP _ _ _ _ hq ry (.refl r))) hs
  | script hv hq =>
    obtain ⟨t, rfl⟩ := hy.int_inv
    cases hx.script_inv
    obtain ⟨items, n, z, e, q⟩ := hW.script
    have e' := r.base _ _ e
    rw [hg] at hv
    exact PyProof.Rows.tail_any ⟨_, e', rfl⟩ PySem.slot_list_getitem.lookup (getList_sound r z e' (q _) (pyGet_map V.int hv) hq hP) hs
  | lst ha hv hq =>
    obtain ⟨t, rfl⟩ := hy.int_inv
    cases hx.ref_inv
    obtain ⟨z, e, q, l⟩ := r.lst ha
    exact PyProof.Rows.tail_any ⟨_, e, rfl⟩ PySem.slot_list_getitem.lookup (getList_sound r z e q hv hq hP) hs
  | dct ha hk hv hq =>
    cases hx.ref_inv
    obtain ⟨z, e, D, d, i, n, m, q, rk, l, dl⟩ := r.dct ha
    obtain ⟨b, rfl, kb⟩ := key_tuple hk hy
    rcases dget_at _ m q with ⟨h1, _⟩ | ⟨v', p, h1, h2, rv⟩
    · exact absurd (hv.symm.trans h1) (Option.some_ne_none _)
    · obtain rfl := Option.some.inj (hv.symm.trans h1)
      exact PyProof.Rows.tail_any ⟨_, e, rfl⟩ PySem.slot_dict_getitem.lookup (PySem.wpAny_getItem_heap hA.kr kb D h2 (hP _ _ _ _ hq rv (r.tok _ _))) hs
end
end RS

namespace RS
open PySem (Program World Shared Addr Value Obj Heap Str Around wpAny codeAny model Scope NameKind Expr Stmt FuncData cLine recursionLimit sizeLine mainGlobals builtinsNs PyData DictEntry Walks)
open PySem PyProof.Rows

/-! ## over the keys of a dict, whatever they are -/
noncomputable def dctObj (es : Array DictEntry) (ep : Nat) : Obj := { cls := .type "dict", data := .dict es ep }
section
variable {prog : Program} {w : World} {A : Around} {E : Value → Shared → Prop} {s : Shared} {d it : Addr} {es : Array DictEntry} {ep i : Nat}

theorem keysE_iter {Q : Value → Shared → Prop} (hd : (d == sysModules) = false) (ho : s.heap.get? d = some (dctObj es ep))
    (hQ : Q (.ref s.heap.objs.size) { s with heap := s.heap.push { cls := .type "dict_keyiterator", data := .fields #[.ref d, .int 0 0, .int es.size 0, .int ep 0] } }) :
    wpAny (model prog w) A (pyIter (.ref d)) Q E s := by
  have hT : s.TypeIs (.ref d) "dict" := ⟨_, ho, rfl⟩
  refine wpAny_pyIter_slot hT F.slot_dict_iter (wpAny_call_entry F.slot_dict_iter hT F.entry_dict_iter ?_ (F.args_dict_iter_1 _))
  unfold Builtin.«dict.__iter__»
  refine wpAny_bind ?_
  unfold Builtin.Dict.dictSlotNone
  refine wpAny_bind (wpAny_notOrdered_dict hT ?_)
  show wpAny _ _ (pure (Value.ref d)) _ _ s
  refine wpAny_pure ?_
  show wpAny _ _ (Builtin.Dict.showsAll d >>= _) _ _ s
  unfold Builtin.Dict.showsAll
  rw [if_neg (by rw [hd]; exact Bool.false_ne_true)]
  refine wpAny_bind (wpAny_pure (wpAny_bind (wpAny_dictEntries ho rfl (wpAny_bind (wpAny_dictEpoch ho rfl ?_)))))
  refine wpAny_bind (wpAny_newObj_type (wpAny_pure ⟨_, rfl, "dict_keyiterator", _, ⟨_, Heap.get?_push_size _ rfl, rfl⟩, F.slot_dict_keyiterator_next.lookup, ?_⟩))
  simpa [rawInt] using hQ

theorem keysE_item {Q : Option Value → Shared → Prop} (hit : s.heap.IsKeyIter it d i es.size ep) (hod : s.heap.get? d = some (dctObj es ep)) (hlt : i < es.size)
    (hQ : ∀ h', h'.IsKeyIter it d (i + 1) es.size ep → Heap.SameBut it s.heap h' → Q (some es[i].key) { s with heap := h' }) :
    wpAny (model prog w) A (pyNext (.ref it)) Q E s := by
  obtain ⟨o, ho, hc, hd⟩ := id hit
  unfold pyNext
  refine wpAny_bind (wpAny_attempt (wpAny_callSpecial?_slot (name := Str.ofString "__next__") hit.typeIs F.slot_dict_keyiterator_next
    (wpAny_call_entry F.slot_dict_keyiterator_next hit.typeIs F.entry_dict_keyiterator_next ?_ (F.args_dict_keyiterator_next_1 _))))
  refine wpAny_bind (wpAny_pure (wpAny_bind (wpAny_bind ?_)))
  first | refine wpAny_bind (wpAny_typeNameOfWhole_keyiter hit.typeIs (wpAny_pure ?_)) | refine wpAny_bind (wpAny_typeNameOf_keyiter hit.typeIs (wpAny_pure ?_))
  refine wpAny_bind (wpAny_fieldsOf ho hd ?_)
  have hown : Builtin.Dict_items.ownsTuple "dict_keyiterator" = false := by decide
  simp only [hown, Bool.false_eq_true, if_false]
  show wpAny _ _ (if (Value.ref d == Value.none) = true then _ else _) _ _ s
  rw [if_neg (show ¬ ((Value.ref d == Value.none) = true) from Bool.false_ne_true)]
  refine wpAny_bind (wpAny_pure (wpAny_bind (wpAny_dictEntries hod rfl ?_)))
  rw [if_neg (by simp)]
  refine wpAny_bind (wpAny_pure (wpAny_bind (wpAny_dictEpoch hod rfl ?_)))
  rw [if_neg (by simp)]
  refine wpAny_pure ?_
  simp only [show ¬ ((i : Int) < 0) from by lia, if_false, Int.toNat_natCast, Array.getElem?_eq_getElem hlt]
  refine wpAny_bind ?_
  first | refine wpAny_bind (wpAny_typeNameOfWhole_keyiter hit.typeIs (wpAny_pure ?_)) | refine wpAny_bind (wpAny_typeNameOf_keyiter hit.typeIs (wpAny_pure ?_))
  refine wpAny_bind (wpAny_isOneOf_keyiter hit.typeIs ?_)
  show wpAny _ _ (setField (.ref it) 1 (rawInt ((i : Int) + 1)) >>= _) _ _ s
  refine wpAny_bind (wpAny_setField ho hd (by simp) ?_)
  have hit' : (s.heap.update it (Obj.mapFields (·.setIfInBounds 1 (rawInt ((i : Int) + 1))))).IsKeyIter it d (i + 1) es.size ep :=
    ⟨_, Heap.get?_update_self _ ho (Obj.isFreed_of_fields (Obj.data_mapFields hd _)), (Obj.cls_mapFields ..).trans hc, by rw [Obj.data_mapFields hd]; simp [rawInt]⟩
  refine wpAny_bind (wpAny_holding ?_)
  refine wpAny_bind (wpAny_isOneOf_keyiter (s := { s with heap := s.heap.update it (Obj.mapFields (·.setIfInBounds 1 (rawInt ((i : Int) + 1)))) }) hit'.typeIs ?_)
  show wpAny _ _ (pure es[i].key) _ _ _
  exact wpAny_pure (wpAny_pure ⟨_, rfl, wpAny_pure (hQ _ hit' (Heap.SameBut.update ..))⟩)

theorem keysE_end {Q : Option Value → Shared → Prop} (hh : A.handled = none) (hit : s.heap.IsKeyIter it d i es.size ep) (hod : s.heap.get? d = some (dctObj es ep)) (hge : es.size ≤ i)
    (hQ : ∀ h', Heap.ExtBut it s.heap h' → Q none { s with heap := h' }) : wpAny (model prog w) A (pyNext (.ref it)) Q E s := by
  obtain ⟨o, ho, hc, hd⟩ := id hit
  unfold pyNext
  refine wpAny_bind (wpAny_attempt (wpAny_callSpecial?_slot (name := Str.ofString "__next__") hit.typeIs F.slot_dict_keyiterator_next
    (wpAny_call_entry F.slot_dict_keyiterator_next hit.typeIs F.entry_dict_keyiterator_next ?_ (F.args_dict_keyiterator_next_1 _))))
  refine wpAny_bind (wpAny_pure (wpAny_bind (wpAny_bind ?_)))
  first | refine wpAny_bind (wpAny_typeNameOfWhole_keyiter hit.typeIs (wpAny_pure ?_)) | refine wpAny_bind (wpAny_typeNameOf_keyiter hit.typeIs (wpAny_pure ?_))
  refine wpAny_bind (wpAny_fieldsOf ho hd ?_)
  have hown : Builtin.Dict_items.ownsTuple "dict_keyiterator" = false := by decide
  simp only [hown, Bool.false_eq_true, if_false]
  show wpAny _ _ (if (Value.ref d == Value.none) = true then _ else _) _ _ s
  rw [if_neg (show ¬ ((Value.ref d == Value.none) = true) from Bool.false_ne_true)]
  refine wpAny_bind (wpAny_pure (wpAny_bind (wpAny_dictEntries hod rfl ?_)))
  rw [if_neg (by simp)]
  refine wpAny_bind (wpAny_pure (wpAny_bind (wpAny_dictEpoch hod rfl ?_)))
  rw [if_neg (by simp)]
  refine wpAny_pure ?_
  simp only [show ¬ ((i : Int) < 0) from by lia, if_false, Int.toNat_natCast, Array.getElem?_eq_none hge]
  refine wpAny_bind ?_
  first | refine wpAny_bind (wpAny_typeNameOfWhole_keyiter hit.typeIs (wpAny_pure ?_)) | refine wpAny_bind (wpAny_typeNameOf_keyiter hit.typeIs (wpAny_pure ?_))
  show wpAny _ _ (setField (.ref it) 0 .none >>= _) _ _ s
  refine wpAny_bind (wpAny_setField ho hd (by simp) ?_)
  show wpAny _ _ (newExc (.type "StopIteration") [] >>= _) _ _ _
  refine wpAny_bind ?_
  simp only [newExc, newTuple]
  refine wpAny_bind (wpAny_newObj_type ?_ (by size_fits))
  refine wpAny_bind (m := firstArgMember _ _) (wpAny_of_eq (a := Value.none) (by first | rfl | (simp only [firstArgMember]; rfl)) ?_)
  refine wpAny_newObj_type ?_ (by size_fits)
  simp only [raiseNew]
  refine wpAny_bind (wpAny_handled ?_)
  rw [show A.in1.handled = none from hh]
  refine wpAny_bind (wpAny_pure (wpAny_throw ?_))
  refine wpAny_bind (wpAny_isInstance (T := "StopIteration") (b := true) ⟨_, Heap.get?_push_size _ rfl, rfl⟩ isSubtype_stop ?_)
  exact wpAny_pure (hQ _ (((Heap.SameBut.update ..).extBut.push _).push _))

theorem walksE (hh : A.handled = none) (I d : Addr) (hne : d ≠ I) (es : Array DictEntry) (ep : Nat) :
    Walks prog w A I [I, d] [I] es.size (fun i v => ∃ e, es[i]? = some e ∧ v = e.key) (fun i h => h.IsKeyIter I d i es.size ep ∧ h.get? d = some (dctObj es ep)) where
  sub := fun b hb => by simp at hb; simp [hb]
  frame := fun _ _ _ st hk => ⟨st.1.at fun o e => hk I (by simp) o e, hk d (by simp) _ st.2⟩
  item := fun i s Q E hi st hQ => keysE_item st.1 st.2 hi fun h' hit' hs' =>
    hQ _ h' s.toks ⟨es[i], by simp [hi], rfl⟩ ⟨hit', hs'.extBut d _ hne st.2⟩ fun b o hb e => hs'.extBut b o (fun h => hb (by simp [h])) e
  done := fun s Q E st hQ => keysE_end hh st.1 st.2 (Nat.le_refl _) fun h' he' => hQ h' s.toks fun b o hb e => he' b o (fun h => hb (by simp [h])) e
  self := fun _ _ _ _ st hQ => wpAny_pyIter_keyiter st.1 hQ

theorem srcE (lo : (d == sysModules) = false) : PySem.W.KdlSrc prog w "dict" d d es.size (fun i v => ∃ e, es[i]? = some e ∧ v = e.key) (fun h => h.get? d = some (dctObj es ep)) where
  type := fun _ hm => ⟨_, hm, rfl⟩
  there := fun _ hm => ⟨Heap.lt_size hm, Heap.lt_size hm⟩
  keep := fun _ _ hm hk => hk d (.inl rfl) _ hm
  notList := by decide
  notTuple := by decide
  hint := fun _ _ _ _ hm hq => PySem.W.kdl_hint_dict ⟨_, hm, rfl⟩ hq
  iter := fun _ _ hh hm => ⟨_, _, (fun _ _ hq => keysE_iter lo hm hq), walksE hh _ d (Nat.ne_of_lt (Heap.lt_size hm)) es ep, ⟨⟨_, Heap.get?_push_size _ rfl, rfl, rfl⟩, Heap.get?_push_of_some _ hm⟩⟩
theorem meets_lenE (hd : (d == sysModules) = false) :
    MeetsIn prog w (Builtin.«dict.__len__» ⟨[.ref d], []⟩) (fun _ R s => ∃ es ep, s.heap.get? d = some (dctObj es ep) ∧ R (.ok (.ret (.int es.size s.toks))) { s with toks := s.toks + 1 }) :=
  .of_wp fun A R s hx => by
    obtain ⟨es, ep, ho, h⟩ := hx
    show wpAny _ _ (dictSize d >>= _) _ _ s
    unfold dictSize
    refine wpAny_bind (wpAny_bind (wpAny_dictEntries ho rfl (wpAny_pure ?_)))
    show wpAny _ _ (Builtin.Dict.pendingCount d >>= _) _ _ s
    refine wpAny_bind (wpAny_pendingCount_other hd ?_)
    refine wpAny_ret_mkInt ?_
    rw [Nat.add_zero]; exact h
theorem lenE {Q : Value → Shared → Prop} (hd : (d == sysModules) = false) (ho : s.heap.get? d = some (dctObj es ep)) (hfit : (es.size : Int) < 2 ^ 63) (h : Q (.int es.size (s.toks + 1)) { s with toks := s.toks + 1 + 1 }) :
    wpAny (model prog w) A (call (.builtin "len") [.ref d]) Q E s := by
  refine Calls.call_function_entry kind_len plain_len entry_len (args_len1 _) ?_
  have hT : s.TypeIs (.ref d) "dict" := ⟨_, ho, rfl⟩
  unfold Builtin.«len»
  refine wpAny_bind (m := oneArg "len" _) (wpAny_pure ?_)
  refine wpAny_bind (m := callSpecial? (.ref d) (Str.ofString "__len__")) (wpAny_callSpecial?_slot (name := Str.ofString "__len__") hT F.slot_dict_len
    (call_meetsIn F.slot_dict_len hT F.entry_dict_len (F.args_dict_len_1 _) (meets_lenE hd) ⟨es, ep, ho, ?_⟩))
  show wpAny _ _ _ _ _ { s with toks := s.toks + 1 }
  refine wpAny_bind (wpAny_holding (wpAny_pure ?_))
  refine wpAny_bind (wpAny_letGo ?_)
  show wpAny _ _ (if ((es.size : Nat) : Int) < 0 then _ else _) _ _ _
  rw [if_neg (by lia)]
  show wpAny _ _ (if ((es.size : Nat) : Int) ≥ 2 ^ 63 then _ else _) _ _ _
  rw [if_neg (by lia)]
  exact wpAny_bind (wpAny_mkInt (wpAny_pure ⟨_, rfl, h⟩))
end
/-! ## the keys of a dict by tuples -/
section
variable {W : Wd} {A : Around} {E : Value → Shared → Prop} {s : Shared} {σ : Hp} {Q : VP} {P : Value → Shared → Prop}

theorem map_kv {es : List (List Int × V)} {xs : List (List Int × Addr × Value)} (m : es.map (·.1) = xs.map (·.1)) : (es.map fun e => kv e.1) = xs.map fun x => kv x.1 := by
  have := congrArg (List.map kv) m
  rwa [List.map_map, List.map_map] at this
theorem keys_reps {h : Heap} {es : List (List Int × V)} {des : Array DictEntry} {xs : List (List Int × Addr × Value)} (hd : des.toList = xs.map (entryOfKey (tk W))) (m : es.map (·.1) = xs.map (·.1))
    (rk : ∀ x ∈ xs, Rep W h (kv x.1) (.ref x.2.1)) {acc : Array Value} (ha : ItemsOf (fun i v => ∃ e, des[i]? = some e ∧ v = e.key) acc des.size) : Reps W h (es.map fun e => kv e.1) acc.toList := by
  have hsz : des.size = xs.length := size_of_entries hd
  rw [map_kv m]
  refine ⟨by rw [List.length_map, ← hsz, ← ha.1]; rfl, fun i v hv => ?_⟩
  rw [List.getElem?_map] at hv
  obtain ⟨x, hx, rfl⟩ := Option.map_eq_some_iff.mp hv
  have hi : i < acc.size := by rw [ha.1, hsz]; exact (List.getElem?_eq_some_iff.mp hx).1
  obtain ⟨e, he, hv⟩ := ha.2 i acc[i] (Array.getElem?_eq_getElem hi)
  rw [entry_at hd i, hx] at he
  rw [List.getD_eq_getElem?_getD, Array.getElem?_toList, Array.getElem?_eq_getElem hi, Option.getD_some, hv, ← Option.some.inj he]
  exact rk x (List.mem_of_getElem? hx)

theorem list_dct_s {a : Addr} {es : List (List Int × V)} {ep : Nat} {k : Nat} (hA : Room A k) (hW : WOk W) (r : HR W σ s) (ha : σ a = some (.dct es ep)) (h : newP σ (.lst (es.map fun e => kv e.1)) Q) (hP : Kt W σ s Q P) :
    wpAny (model W.prog W.w) A (PySem.call (.type "list") [.ref a]) P E s := by
  obtain @⟨des, xs, z, e, D, d, i, n, m, q, rk, l, dl⟩ := r.dct ha
  refine PySem.W.kdl_call (srcE (es := des) (ep := ep) (r.notSys hW ha)) hA.hand e (by rw [dl]; exact fits z) fun h' tk acc c hk hn hacc => ?_
  have rr := keys_reps (h := h') d m (fun x hx => (rk x hx).mono (.of hk)) hacc
  exact hP _ _ _ _ (h _ r.fresh') (.ref _) (r.new (size_none _) hk (.lst (by rw [hacc.1, dl]; exact z) hn rr) tk)

theorem len_dct_s {a : Addr} {es : List (List Int × V)} {ep : Nat} (hW : WOk W) (r : HR W σ s) (ha : σ a = some (.dct es ep)) (h : Q (.int es.length) σ) (hP : Kt W σ s Q P) :
    wpAny (model W.prog W.w) A (PySem.call (.builtin "len") [.ref a]) P E s := by
  obtain @⟨des, xs, z, e, D, d, i, n, m, q, rk, l, dl⟩ := r.dct ha
  refine lenE (r.notSys hW ha) e (by rw [dl]; (clear dl l; lia)) ?_
  rw [dl, ← l]
  exact hP _ _ _ _ h (.int _ _) (r.tok _ _)
end
end RS

namespace RS
open PySem (SetTable)

/-! ### the table of a set: a free slot is found -/
noncomputable def hashK (k : List Int) : Int := PySem.reduceHash (PySem.Builtin.Tuple.tupleHashOf (k.map PySem.hashInt))
noncomputable def tOf (m : Nat) : SetTable := ⟨m, #[], #[], 0, false, 0, false⟩
noncomputable def adv (m : Nat) (p : SetTable.Probe) : SetTable.Probe := (tOf m).advance p
noncomputable def iterP (m : Nat) : Nat → SetTable.Probe → SetTable.Probe
  | 0, p => p
  | k + 1, p => iterP m k (adv m p)
theorem adv_dummy (m : Nat) (p : SetTable.Probe) : (adv m p).dummy = p.dummy := by
  unfold adv SetTable.advance; split <;> rfl
theorem slot_cases {t : SetTable} (hd : t.dummies = #[]) (j : Nat) : t.slot j = .empty ∨ ∃ i, t.slot j = .live i ∧ i < t.place.size ∧ j ∈ t.place.toList := by
  unfold SetTable.slot
  by_cases h : (t.place[SetTable.below t.place j]? == some j) = true
  · rw [if_pos h]
    have h := eq_of_beq h
    obtain ⟨hi, e⟩ := Array.getElem?_eq_some_iff.mp h
    exact .inr ⟨_, rfl, hi, Array.mem_toList_iff.mpr (e ▸ Array.getElem_mem hi)⟩
  · rw [if_neg h, hd]
    exact .inl rfl
theorem go_ok {t : SetTable} {hashAt : Nat → Int} {h : Int} (hd : t.dummies = #[]) (hh : ∀ i, i < t.place.size → hashAt i ≠ h) :
    ∀ (n fuel : Nat) (p : SetTable.Probe), n < fuel → p.dummy = none → (∃ k, k ≤ n ∧ (iterP t.mask k p).j ∉ t.place.toList) → ∃ j, SetTable.probe.go t hashAt h fuel p = some (.empty j none) := by
  intro n
  induction n with
  | zero =>
    intro fuel p hf hp ⟨k, hk, hj⟩
    cases Nat.le_zero.mp hk
    cases fuel with
    | zero => exact absurd hf (Nat.lt_irrefl _)
    | succ f =>
      rcases slot_cases hd p.j with e | ⟨i, _, _, hm⟩
      · exact ⟨p.j, by rw [SetTable.probe.go, e, hp]⟩
      · exact absurd hm hj
  | succ n ih =>
    intro fuel p hf hp ⟨k, hk, hj⟩
    cases fuel with
    | zero => exact absurd hf (Nat.not_lt_zero _)
    | succ f =>
      rcases slot_cases hd p.j with e | ⟨i, e, hi, hm⟩
      · exact ⟨p.j, by rw [SetTable.probe.go, e, hp]⟩
      · rw [SetTable.probe.go, e]
        have : (hashAt i == h) = false := beq_eq_false_iff_ne.mpr (hh i hi)
        simp only [this, Bool.false_eq_true, if_false]
        cases k with
        | zero => exact absurd hm hj
        | succ k => exact ih f (t.advance p) (Nat.lt_of_succ_lt_succ hf) ((adv_dummy _ _).trans hp) ⟨k, Nat.le_of_succ_le_succ hk, hj⟩
noncomputable def startP (m : Nat) (h : Int) : SetTable.Probe := (tOf m).probeStart h
noncomputable def seen (m : Nat) (h : Int) : List Nat := (List.range 40).map fun k => (iterP m k (startP m h)).j
noncomputable def okV (m b : Nat) (h : Int) : Bool := decide (b < ((List.range (m + 1)).filter fun x => decide (x ∈ seen m h)).length)
theorem len_sub {α : Type} [BEq α] [LawfulBEq α] {l U : List α} (hn : l.Nodup) (hs : ∀ x ∈ l, x ∈ U) : l.length ≤ U.length := by
  induction l generalizing U with
  | nil => exact Nat.zero_le _
  | cons x l ih =>
    rw [List.nodup_cons] at hn
    have hx := hs x (.head _)
    have := ih (U := U.erase x) hn.2 fun y hy => (List.mem_erase_of_ne (fun e : y = x => hn.1 (e ▸ hy))).mpr (hs y (.tail _ hy))
    rw [List.length_erase_of_mem hx] at this
    exact Nat.add_le_of_le_sub (List.length_pos_of_mem hx) this
theorem out_of {l U : List Nat} (hn : l.Nodup) (hl : U.length < l.length) : ∃ x ∈ l, x ∉ U := Classical.byContradiction fun h =>
  Nat.not_lt.mpr (len_sub hn fun x hx => Classical.byContradiction fun e => h ⟨x, hx, e⟩) hl
theorem probe_ok {t : SetTable} {hashAt : Nat → Int} {h : Int} {b : Nat} (hd : t.dummies = #[]) (hh : ∀ i, i < t.place.size → hashAt i ≠ h) (hs : t.place.size ≤ b) (ho : okV t.mask b h = true) : ∃ j, t.probe hashAt h (t.probeStart h) = some (.empty j none) := by
  obtain ⟨x, hx, hn⟩ := out_of (l := (List.range (t.mask + 1)).filter fun x => decide (x ∈ seen t.mask h)) (U := t.place.toList) (List.nodup_range.filter _) (Nat.lt_of_le_of_lt (by rw [Array.length_toList]; exact hs) (of_decide_eq_true ho))
  have hx := of_decide_eq_true (List.mem_filter.mp hx).2
  obtain ⟨k, hk, rfl⟩ := List.mem_map.mp hx
  exact go_ok hd hh 39 _ _ (by unfold SetTable.turns; lia) rfl ⟨k, Nat.le_of_lt_succ (List.mem_range.mp hk), hn⟩

/-! ### a table laid anew -/
noncomputable def cnt (o : Array (Option Nat)) : Nat := ((List.range 32).filter fun j => (o.getD j none).isSome).length
theorem filter_one {l : List Nat} (hn : l.Nodup) {P P' : Nat → Bool} {j : Nat} (hj : j ∈ l) (h0 : P j = false) (h1 : P' j = true) (he : ∀ x, x ≠ j → P' x = P x) : (l.filter P').length = (l.filter P).length + 1 := by
  induction l with
  | nil => cases hj
  | cons x l ih =>
    rw [List.nodup_cons] at hn
    by_cases e : x = j
    · subst e
      have : l.filter P' = l.filter P := List.filter_congr fun y hy => he y fun e => hn.1 (e ▸ hy)
      rw [List.filter_cons_of_pos h1, List.filter_cons_of_neg (by rw [h0]; exact Bool.false_ne_true), this]; rfl
    · have := ih hn.2 ((List.mem_cons.mp hj).resolve_left fun q => e q.symm)
      cases hp : P x with
      | true => rw [List.filter_cons_of_pos (by rw [he x e, hp]), List.filter_cons_of_pos hp, List.length_cons, this]; rfl
      | false => rw [List.filter_cons_of_neg (by rw [he x e, hp]; exact Bool.false_ne_true), List.filter_cons_of_neg (by rw [hp]; exact Bool.false_ne_true), this]
noncomputable def leapI : Nat → Nat × Nat → Nat × Nat
  | 0, q => q
  | k + 1, q => leapI k (SetTable.leap 31 q.1 q.2)
noncomputable def okL (h : Int) : Bool := (List.range 40).any fun k => decide ((leapI k (SetTable.bits h % 32, SetTable.bits h)).1 ≤ 22)
theorem free_ok {o : Array (Option Nat)} (hz : o.size = 32) (hc : cnt o ≤ 8) : ∀ (n fuel i pt : Nat), n < fuel → i < 32 → (∃ k, k ≤ n ∧ (leapI k (i, pt)).1 ≤ 22) → ∃ j, SetTable.layClean.free 31 o fuel i pt = some j ∧ j < 32 ∧ o.getD j (some 0) = none := by
  have win : ∀ i : Nat, i < 32 → ∀ k ∈ List.range (SetTable.runEnd 31 i + 1 - i), i + k < 32 := fun i hi k hk => by
    have hk := List.mem_range.mp hk
    unfold SetTable.runEnd at hk
    split at hk <;> lia
  have fnd : ∀ i : Nat, i < 32 → ∀ k, (List.range (SetTable.runEnd 31 i + 1 - i)).find? (fun k => (o.getD (i + k) (some 0)).isNone) = some k → i + k < 32 ∧ o.getD (i + k) (some 0) = none := fun i hi k e =>
    ⟨win i hi k (List.mem_of_find?_eq_some e), Option.isNone_iff_eq_none.mp (by have := List.find?_some e; exact this)⟩
  have some10 : ∀ i : Nat, i ≤ 22 → (List.range (SetTable.runEnd 31 i + 1 - i)).find? (fun k => (o.getD (i + k) (some 0)).isNone) ≠ none := fun i hi e => by
    have hr : SetTable.runEnd 31 i + 1 - i = 10 := by unfold SetTable.runEnd; rw [if_pos (by lia)]; lia
    rw [hr] at e
    have hall := List.find?_eq_none.mp e
    obtain ⟨x, hx, hn⟩ := out_of (l := (List.range 10).map (i + ·)) (U := (List.range 32).filter fun j => (o.getD j none).isSome) (List.pairwise_map.mpr (List.nodup_range.imp fun h e => h (Nat.add_left_cancel e))) (by rw [List.length_map, List.length_range]; exact Nat.lt_of_le_of_lt hc (by decide))
    obtain ⟨k, hk, rfl⟩ := List.mem_map.mp hx
    have h10 := List.mem_range.mp hk
    refine hn (List.mem_filter.mpr ⟨List.mem_range.mpr (by lia), ?_⟩)
    have := hall k hk
    rw [Array.getD_eq_getD_getElem?] at this ⊢
    cases e2 : o[i + k]? with
    | none => exact absurd (Array.getElem?_eq_none_iff.mp e2) (by rw [hz]; lia)
    | some v =>
      rw [e2] at this
      cases v with
      | none => exact absurd rfl this
      | some v => rfl
  intro n
  induction n with
  | zero =>
    intro fuel i pt hf hi ⟨k, hk, hl⟩
    cases Nat.le_zero.mp hk
    cases fuel with
    | zero => exact absurd hf (Nat.lt_irrefl _)
    | succ f =>
      cases e : (List.range (SetTable.runEnd 31 i + 1 - i)).find? (fun k => (o.getD (i + k) (some 0)).isNone) with
      | none => exact absurd e (some10 i hl)
      | some k => exact ⟨i + k, by rw [SetTable.layClean.free, e], fnd i hi k e⟩
  | succ n ih =>
    intro fuel i pt hf hi ⟨k, hk, hl⟩
    cases fuel with
    | zero => exact absurd hf (Nat.not_lt_zero _)
    | succ f =>
      cases e : (List.range (SetTable.runEnd 31 i + 1 - i)).find? (fun k => (o.getD (i + k) (some 0)).isNone) with
      | some k => exact ⟨i + k, by rw [SetTable.layClean.free, e], fnd i hi k e⟩
      | none =>
        rw [SetTable.layClean.free, e]
        cases k with
        | zero => exact absurd e (some10 i hl)
        | succ k => exact ih f _ _ (Nat.lt_of_succ_lt_succ hf) (Nat.mod_lt _ (by decide)) ⟨k, Nat.le_of_succ_le_succ hk, hl⟩

theorem set_getD (o : Array (Option Nat)) {j : Nat} (hj : j < o.size) (v : Option Nat) (x : Nat) : (o.setIfInBounds j v).getD x none = if x = j then v else o.getD x none := by
  rw [Array.getD_eq_getD_getElem?, Array.getD_eq_getD_getElem?, Array.getElem?_setIfInBounds]
  by_cases e : x = j
  · subst e; rw [if_pos rfl, if_pos rfl, if_pos hj]; rfl
  · rw [if_neg (fun q => e q.symm), if_neg e]
theorem okL_ex {h : Int} (ho : okL h = true) : ∃ k, k ≤ 39 ∧ (leapI k (SetTable.bits h % 32, SetTable.bits h)).1 ≤ 22 := by
  obtain ⟨k, hk, e⟩ := List.any_eq_true.mp ho
  exact ⟨k, Nat.le_of_lt_succ (List.mem_range.mp hk), of_decide_eq_true e⟩
noncomputable def layStep (acc : Option (Array (Option Nat) × Nat)) (h : Int) : Option (Array (Option Nat) × Nat) := do
  let (owner, k) ← acc
  let j ← SetTable.layClean.free 31 owner (SetTable.turns 31) (SetTable.bits h % (31 + 1)) (SetTable.bits h)
  pure (owner.setIfInBounds j (some k), k + 1)
theorem lay_fold : ∀ (hs : List Int) (o : Array (Option Nat)) (k : Nat), o.size = 32 → cnt o = k → k + hs.length ≤ 9 → (∀ j v, o.getD j none = some v → v < k) → (∀ h ∈ hs, okL h = true) →
    ∃ o', hs.foldl layStep (some (o, k)) = some (o', k + hs.length) ∧ o'.size = 32 ∧ cnt o' = k + hs.length ∧ ∀ j v, o'.getD j none = some v → v < k + hs.length
  | [], o, k, hz, hc, _, hv, _ => ⟨o, rfl, hz, hc, hv⟩
  | h :: hs, o, k, hz, hc, hk, hv, ho => by
    rw [List.length_cons] at hk
    obtain ⟨j, ej, hj, hn⟩ := free_ok hz (by lia) 39 (SetTable.turns 31) (SetTable.bits h % 32) (SetTable.bits h) (by decide) (Nat.mod_lt _ (by decide)) (okL_ex (ho h (.head _)))
    have hjz : j < o.size := hz ▸ hj
    have hn0 : o.getD j none = none := by
      rw [Array.getD_eq_getD_getElem?, Array.getElem?_eq_getElem hjz] at hn ⊢; exact hn
    have hc' : cnt (o.setIfInBounds j (some k)) = k + 1 := by
      rw [← hc]
      refine filter_one List.nodup_range (List.mem_range.mpr hj) (by rw [hn0]; rfl) (by rw [set_getD o hjz, if_pos rfl]; rfl) fun x hx => by rw [set_getD o hjz, if_neg hx]
    obtain ⟨o', e', h1, h2, h3⟩ := lay_fold hs (o.setIfInBounds j (some k)) (k + 1) (by rw [Array.size_setIfInBounds]; exact hz) hc' (by lia) (fun x v e => by
      rw [set_getD o hjz] at e
      by_cases hx : x = j
      · rw [if_pos hx] at e; cases e; exact Nat.lt_succ_self _
      · rw [if_neg hx] at e; exact Nat.lt_succ_of_lt (hv x v e)) fun x hx => ho x (.tail _ hx)
    have es : layStep (some (o, k)) h = some (o.setIfInBounds j (some k), k + 1) := by
      show (SetTable.layClean.free 31 o (SetTable.turns 31) (SetTable.bits h % 32) (SetTable.bits h)).bind (fun j => some (o.setIfInBounds j (some k), k + 1)) = _
      rw [ej]; rfl
    rw [List.length_cons, show k + (hs.length + 1) = k + 1 + hs.length from by lia]
    exact ⟨o', by rw [List.foldl_cons, es]; exact e', h1, h2, h3⟩
theorem lay_ok {hs : List Int} (hl : hs.length ≤ 9) (ho : ∀ h ∈ hs, okL h = true) : ∃ o, SetTable.layClean 31 hs.toArray = some o ∧ cnt o = hs.length ∧ ∀ j v, o.getD j none = some v → v < hs.length := by
  obtain ⟨o, e, _, h2, h3⟩ := lay_fold hs (Array.replicate 32 none) 0 Array.size_replicate (by decide +kernel) (by lia) (fun j v e => by
    rw [Array.getD_eq_getD_getElem?, Array.getElem?_replicate] at e
    split at e <;> cases e) ho
  rw [Nat.zero_add] at h2 h3
  refine ⟨o, ?_, h2, h3⟩
  unfold SetTable.layClean
  rw [← Array.foldl_toList]
  show ((hs.foldl layStep (some (Array.replicate 32 none, 0))).map _) = _
  rw [e]; rfl
theorem fm_len {α β : Type} (f : α → Option β) : ∀ l : List α, (∀ x ∈ l, (f x).isSome = true) → (l.filterMap f).length = l.length
  | [], _ => rfl
  | x :: l, h => by
    obtain ⟨y, e⟩ := Option.isSome_iff_exists.mp (h x (.head _))
    rw [List.filterMap_cons_some e, List.length_cons, List.length_cons, fm_len f l fun z hz => h z (.tail _ hz)]
theorem fm_filter {α β : Type} (f : α → Option β) : ∀ l : List α, (l.filterMap f).length = (l.filter fun x => (f x).isSome).length
  | [] => rfl
  | x :: l => by
    cases e : f x with
    | none => rw [List.filterMap_cons_none e, List.filter_cons_of_neg (by rw [e]; exact Bool.false_ne_true), fm_filter f l]
    | some y => rw [List.filterMap_cons_some e, List.filter_cons_of_pos (by rw [e]; rfl), List.length_cons, List.length_cons, fm_filter f l]
theorem relaid_ok (t : SetTable) {hs : List Int} (hl : hs.length ≤ 9) (ho : ∀ h ∈ hs, okL h = true) : ∃ t' order, t.relaid hs.toArray 20 = some (t', order) ∧ t'.mask = 31 ∧ t'.dummies = #[] ∧ t'.place.size = hs.length ∧ order.size = hs.length ∧ ∀ v ∈ order.toList, v < hs.length := by
  obtain ⟨o, e, hc, hv⟩ := lay_ok hl ho
  have hlen : ((List.range 32).filterMap fun j => (o.getD j none).map (j, ·)).length = hs.length := by
    rw [fm_filter, ← hc]
    unfold cnt
    congr 1
    exact List.filter_congr fun j _ => Option.isSome_map
  refine ⟨_, _, by unfold SetTable.relaid SetTable.laid; rw [show SetTable.sizeAbove 20 - 1 = 31 from by decide, e]; rfl, rfl, rfl, ?_, ?_, fun v h => ?_⟩
  · rw [List.size_toArray, List.length_map]; exact hlen
  · rw [List.size_toArray, List.length_map]; exact hlen
  · rw [List.toList_toArray] at h
    obtain ⟨q, hq, rfl⟩ := List.mem_map.mp h
    obtain ⟨j, _, ej⟩ := List.mem_filterMap.mp hq
    obtain ⟨v, ev, rfl⟩ := Option.map_eq_some_iff.mp ej
    exact hv j v ev


theorem ok9 : ((pl9.map hashK).all fun h => okV 7 4 h && okV 31 8 h && okL h) = true := by decide +kernel
theorem nd9 : (pl9.map hashK).Nodup := by decide +kernel
end RS

namespace RS
open PySem (Program World Shared Addr Value Obj Heap Str Around wpAny codeAny model Scope NameKind Expr Stmt FuncData cLine recursionLimit sizeLine mainGlobals builtinsNs PyData)

/-! ### slices -/
theorem cast_min (a b : Nat) : ((min a b : Nat) : Int) = min (a : Int) b := by
  rw [Nat.min_def, Int.min_def]
  by_cases h : a ≤ b
  · rw [if_pos h, if_pos (Int.ofNat_le.mpr h)]
  · rw [if_neg h, if_neg fun e => h (Int.ofNat_le.mp e)]
theorem clip_is (n : Nat) (k : Int) : max 0 (min (if k < 0 then k + n else k) (n : Int)) = ((clip n k : Nat) : Int) := by
  unfold clip
  by_cases h : k < 0
  · rw [if_pos h, if_neg (Int.not_le.mpr h), Int.min_eq_left (Int.le_trans (Int.add_le_add_right (Int.le_of_lt h) _) (Int.le_of_eq (Int.zero_add _))), Int.ofNat_toNat, Int.max_comm]
  · obtain ⟨m, rfl⟩ := Int.eq_ofNat_of_zero_le (Int.not_lt.mp h)
    rw [if_neg h, if_pos (Int.not_lt.mp h), Int.toNat_natCast, cast_min, Int.max_eq_right (Int.le_min.mpr ⟨Int.natCast_nonneg _, Int.natCast_nonneg _⟩)]
theorem clip_is' (n : Nat) (k : Int) : (if k < 0 then max (k + n) 0 else min k (n : Int)) = ((clip n k : Nat) : Int) := by
  unfold clip
  by_cases h : k < 0
  · rw [if_pos h, if_neg (Int.not_le.mpr h), Int.ofNat_toNat]
  · obtain ⟨m, rfl⟩ := Int.eq_ofNat_of_zero_le (Int.not_lt.mp h)
    rw [if_neg h, if_pos (Int.not_lt.mp h), Int.toNat_natCast, cast_min]
theorem bounds_is (lo hi : Option Int) (n : Nat) : PySem.sliceBounds lo hi none n = (((clipLo n lo : Nat) : Int), ((clipHi n hi : Nat) : Int), 1) := by
  unfold PySem.sliceBounds
  cases lo <;> cases hi <;> simp [clipLo, clipHi, clip_is]
theorem slicePick_is (items : Array Value) (lo hi : Option Int) : (PySem.slicePick items lo hi none).toList = pySlice items.toList lo hi := by
  unfold PySem.slicePick pySlice
  rw [bounds_is]
  simp only [PySem.sliceRange_one, PySem.pick_run, List.drop_take, Array.length_toList]
theorem pySlice_length {α : Type} (vs : List α) (l u : Option Int) : (pySlice vs l u).length ≤ vs.length := by
  unfold pySlice; rw [List.length_drop, List.length_take]; exact Nat.le_trans (Nat.sub_le _ _) (Nat.min_le_right _ _)
theorem Reps.pySlice {W : Wd} {h : Heap} {vs : List V} {xs : List Value} (q : Reps W h vs xs) (l u : Option Int) : Reps W h (pySlice vs l u) (RS.pySlice xs l u) := by
  unfold RS.pySlice
  rw [q.length]
  exact (q.take _).drop _
theorem adjust_is (lo hi : Option Int) (n : Nat) : PySem.Builtin.Slice.sliceAdjust lo hi 1 (n : Int) = (((clipLo n lo : Nat) : Int), ((clipHi n hi : Nat) : Int)) := by
  unfold PySem.Builtin.Slice.sliceAdjust
  have h1 : ¬ ((1 : Int) < 0) := by decide
  cases lo <;> cases hi <;> simp [clipLo, clipHi, clip_is', h1]
theorem places_is (a b : Nat) : PySem.Builtin.Slice.slicePlaces (a : Int) (b : Int) 1 = b - a := by
  unfold PySem.Builtin.Slice.slicePlaces
  have h1 : (1 : Int) > 0 := by decide
  rw [if_pos h1]
  by_cases h : a < b
  · rw [if_pos (Int.ofNat_lt.mpr h), Int.ediv_one, Int.sub_add_cancel, Int.toNat_sub]
  · rw [if_neg fun e => h (Int.ofNat_lt.mp e), Nat.sub_eq_zero_of_le (Nat.not_lt.mp h)]; rfl

section
variable {W : Wd} {A : Around} {E : Value → Shared → Prop} {s : Shared} {σ : Hp} {Q : VP} {P : Value → Shared → Prop} {prog : Program} {w : World}

theorem sliceApplied_is {sl : Addr} {n : Nat} {vl vu : Value} {lo hi : Option Int} {Q : Int × Int × Nat → Shared → Prop} (hs : s.heap.IsSliceOf sl vl vu .none) (pl : PySem.IsPart vl lo) (pu : PySem.IsPart vu hi)
    (h : Q (((clipLo n lo : Nat) : Int), 1, clipHi n hi - clipLo n lo) s) :
    wpAny (model prog w) A (PySem.Builtin.Slice.sliceApplied (.ref sl) (pure (n : Int))) Q E s := by
  obtain ⟨os, hos, hcs, hds⟩ := id hs
  unfold PySem.Builtin.Slice.sliceApplied PySem.Builtin.Slice.sliceFields
  refine PySem.wpAny_bind (PySem.wpAny_bind (PySem.wpAny_field hos hds (x := vl) rfl (PySem.wpAny_bind (PySem.wpAny_field hos hds (x := vu) rfl (PySem.wpAny_bind (PySem.wpAny_field hos hds (x := .none) rfl (PySem.wpAny_pure ?_)))))))
  refine PySem.wpAny_bind (PyProof.Rows.slicePart_none ?_)
  show wpAny _ _ (if ((1 : Int) == 0) = true then _ else _) _ _ s
  rw [if_neg (by decide)]
  have part : ∀ {v : Value} {k : Option Int} {P : Option Int → Shared → Prop}, PySem.IsPart v k → P k s → wpAny (model prog w) A (PySem.Builtin.Slice.slicePartIndex v) P E s := by
    intro v k P hp q
    cases hp with
    | none => exact PyProof.Rows.slicePart_none q
    | int i t => exact PyProof.Rows.slicePart_int q
  refine PySem.wpAny_bind (part pl (PySem.wpAny_bind (part pu (PySem.wpAny_bind (PySem.wpAny_pure ?_)))))
  show wpAny _ _ (match PySem.Builtin.Slice.sliceAdjust lo hi 1 (n : Int) with | (lo, hi) => pure (lo, (1 : Int), PySem.Builtin.Slice.slicePlaces lo hi 1)) _ _ s
  rw [adjust_is]
  dsimp only
  rw [places_is]
  exact PySem.wpAny_pure h

theorem pick_is (xs : Array Value) (a k : Nat) : ((List.range k).filterMap fun (j : Nat) => xs[((a : Int) + (j : Int) * 1).toNat]?).toArray = ((xs.toList.drop a).take k).toArray := by
  have e : (fun (j : Nat) => xs[((a : Int) + (j : Int) * 1).toNat]?) = (fun x => xs[x]?) ∘ fun x => a + x := by
    funext j
    rw [Int.mul_one, ← Int.natCast_add]; rfl
  rw [e, ← List.filterMap_map, PySem.pick_run]

/-- a slice of a tuple: a new one, or the tuple itself -/
theorem getTuple_slice {t sl : Addr} {items : Array Value} {n : Nat} {vl vu : Value} {lo hi : Option Int} {Q : Value → Shared → Prop} (e : s.heap.get? t = some { cls := .type "tuple", data := .seq items n }) (hs : s.heap.IsSliceOf sl vl vu .none) (pl : PySem.IsPart vl lo) (pu : PySem.IsPart vu hi) (hz : items.size ≤ 1000001)
    (h1 : pySlice items.toList lo hi = items.toList → Q (.ref t) s)
    (h2 : Q (.ref s.heap.objs.size) { s with heap := s.heap.push { cls := .type "tuple", data := .seq (pySlice items.toList lo hi).toArray } }) : wpAny (model prog w) A (PySem.getItem (.ref t) (.ref sl)) Q E s := by
  have hT : s.TypeIs (.ref t) "tuple" := ⟨_, e, rfl⟩
  obtain ⟨os, hos, hcs, hds⟩ := id hs
  have hTs : s.TypeIs (.ref sl) "slice" := ⟨os, hos, hcs⟩
  have hsz : PySem.sizeOk (.seq (pySlice items.toList lo hi).toArray) := fits (Nat.le_trans (pySlice_length items.toList lo hi) hz)
  have ep : pySlice items.toList lo hi = (items.toList.drop (clipLo items.size lo)).take (clipHi items.size hi - clipLo items.size lo) := List.drop_take
  unfold PySem.getItem
  refine PySem.wpAny_holding ?_
  refine PySem.wpAny_bind (PySem.wpAny_sequenceKey hT (by decide) ?_)
  refine PySem.wpAny_bind (PySem.wpAny_callSpecial?_slot (name := Str.ofString "__getitem__") hT PySem.F.slot_tuple_getitem
    (PySem.wpAny_call_entry PySem.F.slot_tuple_getitem hT PySem.F.entry_tuple_getitem ?_ (PySem.F.args_tuple_getitem_2 _ _)))
  show wpAny _ _ (PySem.Builtin.Tuple.tupleItemsOf (.ref t) >>= _) _ _ s
  refine PySem.wpAny_bind (PySem.wpAny_tupleItemsOf e rfl ?_)
  refine PySem.wpAny_bind (PySem.wpAny_typeOf hTs ?_)
  rw [if_pos (by decide)]
  refine PySem.wpAny_bind (sliceApplied_is hs pl pu ?_)
  dsimp only
  split
  · rename_i hw
    have hwhole : pySlice items.toList lo hi = items.toList := by
      simp only [Bool.and_eq_true, beq_iff_eq, Int.natCast_eq_zero] at hw
      rw [ep, hw.1.1]
      rw [hw.1.1] at hw
      rw [hw.2, List.drop_zero]
      exact List.take_of_length_le (Nat.le_refl _)
    refine PySem.wpAny_bind (PySem.wpAny_bind (PySem.wpAny_typeOf hT (PySem.wpAny_pure ?_)))
    rw [if_pos (by decide)]
    exact PySem.wpAny_bind (PySem.wpAny_rule (PySem.wpAny_pure ⟨_, rfl, PySem.wpAny_pure (h1 hwhole)⟩))
  · rw [pick_is, ← ep]
    exact PySem.wpAny_bind (m := PySem.Builtin.Tuple.tupleExact _) (PySem.wpAny_newObj_type (PySem.wpAny_pure ⟨_, rfl, PySem.wpAny_pure h2⟩) hsz)

theorem optInt_part {v : V} {k : Option Int} {x : Value} {h : Heap} (e : optInt v = some k) (hx : Rep W h v x) : PySem.IsPart x k := by
  cases v with
  | none => cases e; cases hx.none_inv; exact .none
  | int i => cases e; obtain ⟨t, rfl⟩ := hx.int_inv; exact .int _ _
  | _ => cases e

/-- behind the slice object -/
theorem slice_sound {g : Glb} {o l u : V} {x xl xu : Value} {value slice : Expr} (hg : g.ns = W.ns) (hW : WOk W) (r : HR W σ s) (hx : Rep W s.heap o x)
    (hl : Rep W s.heap l xl) (hu : Rep W s.heap u xu) (h : sliceP g σ Q o l u) (hP : Kt W σ s Q P)
    (hs : ∀ y, ∃ ops, PySem.subscripted slice false x y = PySem.operate ops (PySem.getItem x y)) :
    wpAny (model W.prog W.w) A (PyProof.Rows.subscriptTail value slice x (.ref s.heap.objs.size)) P E { s with heap := s.heap.push { cls := .type "slice", data := .fields #[xl, xu, .none] } } := by
  obtain ⟨ops, hs⟩ := hs (.ref s.heap.objs.size)
  have hk : ∀ b o, s.heap.get? b = some o → (s.heap.push { cls := .type "slice", data := .fields #[xl, xu, .none] }).get? b = some o := fun b o e => PySem.Heap.get?_push_of_some _ e
  have st : Step W [] σ s σ { s with heap := s.heap.push { cls := .type "slice", data := .fields #[xl, xu, .none] } } := r.grow hk s.toks []
  have hsl := PySem.Heap.IsSliceOf.new s.heap xl xu .none
  cases h with
  | tup hl' hu' h =>
    obtain ⟨a, items, n, rfl, z, e, q⟩ := hx.tup_inv
    have q' := (q.mono (st.tup0 r)).pySlice
    refine PyProof.Rows.tail_any (s := { s with heap := s.heap.push { cls := .type "slice", data := .fields #[xl, xu, .none] } }) ⟨_, hk _ _ e, rfl⟩ PySem.F.slot_tuple_getitem.lookup (getTuple_slice (hk _ _ e) hsl (optInt_part hl' hl) (optInt_part hu' hu) z (fun hw => ?_) ?_) hs
    · exact hP _ _ _ _ h (.tupI z (hk _ _ e) (hw ▸ q' _ _)) st
    · exact newTuple_s st.hr (Nat.le_trans (pySlice_length items.toList _ _) z) (q' _ _) h s.toks (hP.step st)
  | @lst a vs l u l' u' ha hl' hu' hn =>
    cases hx.ref_inv
    obtain @⟨items, n, z, e, q, _⟩ := r.lst ha
    have hL : (s.heap.push { cls := .type "slice", data := .fields #[xl, xu, .none] }).IsList a items := ⟨_, hk _ _ e, rfl, n, rfl⟩
    refine PyProof.Rows.tail_any (s := { s with heap := s.heap.push { cls := .type "slice", data := .fields #[xl, xu, .none] } }) ⟨_, hk _ _ e, rfl⟩ PySem.slot_list_getitem.lookup (PySem.wpAny_getItem_list_slice hL hsl (optInt_part hl' hl) (optInt_part hu' hu) .none (by decide) ?_ (fits z)) hs
    have := newList_s (xs := pySlice items.toList l' u') st.hr (Nat.le_trans (pySlice_length items.toList l' u') z) ((q.mono (st.tup0 r)).pySlice l' u') hn s.toks (hP.step st)
    rw [← slicePick_is, Array.toArray_toList] at this
    exact this
end

/-! ### built-in functions -/
noncomputable def biV : Bi → Value
  | .len => .builtin "len" | .min => .builtin "min" | .max => .builtin "max" | .sum => .builtin "sum" | .isinstance => .builtin "isinstance" | .all => .builtin "all" | .sorted => .builtin "sorted"
  | .int => .type "int" | .list => .type "list" | .tuple => .type "tuple" | .set => .type "set"

section
variable {prog : Program} {w : World} {A : Around} {E : Value → Shared → Prop} {s : Shared}
theorem isi_ind {C : String → Prop} (h1 : C "int") (h2 : C "bool") (h3 : C "str") (h4 : C "tuple") (h5 : C "list") : ∀ T ∈ isiTypes, C T := by
  intro T h
  simp only [isiTypes, List.mem_cons, List.not_mem_nil, or_false] at h
  rcases h with rfl | rfl | rfl | rfl | rfl <;> assumption
theorem typeOf_isi : ∀ T ∈ isiTypes, PySem.typeOf (.type T) = pure (.type "type") := isi_ind rfl rfl rfl rfl rfl
theorem sub_no {T : String} (hT : T ∈ ["int", "str", "tuple", "list", "NoneType"]) : ∀ U ∈ isiTypes, T ≠ U → PySem.isSubtype (.type T) (.type U) = pure false := by
  simp only [List.mem_cons, List.not_mem_nil, or_false] at hT
  rcases hT with rfl | rfl | rfl | rfl | rfl <;>
    exact isi_ind (fun h => by first | exact absurd rfl h | (rw [PySem.isSubtype_type]; kernel_rfl)) (fun h => by first | exact absurd rfl h | (rw [PySem.isSubtype_type]; kernel_rfl)) (fun h => by first | exact absurd rfl h | (rw [PySem.isSubtype_type]; kernel_rfl)) (fun h => by first | exact absurd rfl h | (rw [PySem.isSubtype_type]; kernel_rfl)) (fun h => by first | exact absurd rfl h | (rw [PySem.isSubtype_type]; kernel_rfl))
theorem sub_yes : ∀ T ∈ isiTypes, PySem.isSubtype (.type T) (.type T) = pure true :=
  isi_ind (by rw [PySem.isSubtype_type]; kernel_rfl) (by rw [PySem.isSubtype_type]; kernel_rfl) (by rw [PySem.isSubtype_type]; kernel_rfl) (by rw [PySem.isSubtype_type]; kernel_rfl) (by rw [PySem.isSubtype_type]; kernel_rfl)
theorem sub_bool_int : PySem.isSubtype (.type "bool") (.type "int") = pure true := by rw [PySem.isSubtype_type]; kernel_rfl
theorem sub_no_bool : ∀ U ∈ isiTypes, U ≠ "bool" → U ≠ "int" → PySem.isSubtype (.type "bool") (.type U) = pure false :=
  isi_ind (fun _ h => absurd rfl h) (fun h _ => absurd rfl h) (fun _ _ => by rw [PySem.isSubtype_type]; kernel_rfl) (fun _ _ => by rw [PySem.isSubtype_type]; kernel_rfl) (fun _ _ => by rw [PySem.isSubtype_type]; kernel_rfl)
theorem type_ne {T U : String} (h : T ≠ U) : (Value.type T == Value.type U) = false := beq_eq_false_iff_ne.mpr fun e => h (Value.type.inj e)
theorem beq_no {T U : String} (h : T ≠ U) : (U == T) = false := beq_eq_false_iff_ne.mpr fun e => h e.symm
end

section
variable {W : Wd} {A : Around} {E : Value → Shared → Prop} {s : Shared} {σ : Hp} {Q : VP} {P : Value → Shared → Prop}

theorem isi_sound {v : V} {x : Value} {T : String} {b : Bool} (r : HR W σ s) (hx : Rep W s.heap v x) (hT : T ∈ isiTypes) (hb : v.isA σ T = some b) (hq : Q (.bool b) σ) (hP : Kt W σ s Q P) :
    wpAny (model W.prog W.w) A (PySem.call (.builtin "isinstance") [x, .type T]) P E s := by
  have yes : b = true → P (.bool true) s := fun e => hP _ _ _ _ hq (e ▸ .bool _) (.refl r)
  have no : b = false → P (.bool false) { s with toks := s.toks + 1 } := fun e => hP _ _ _ _ hq (e ▸ .bool _) (r.tok _ _)
  have hty := typeOf_isi T hT
  have Y : ∀ {Tx : String}, s.TypeIs x Tx → Tx ∈ isiTypes → Tx = T → b = true → wpAny (model W.prog W.w) A (PySem.call (.builtin "isinstance") [x, .type T]) P E s := fun hx h1 h2 hb => PyProof.Rows.call_isinstance_yes hx hty (h2 ▸ sub_yes _ h1) (yes hb)
  cases v with
  | none =>
    cases hx.none_inv
    have hne : "NoneType" ≠ T := fun e => by subst e; revert hT; decide
    exact PySem.call_isinstance (PySem.isinstance_false_none (type_ne hne) hty (sub_no (by decide) T hT hne)) (no (Option.some.inj hb).symm)
  | bool c =>
    cases hx.bool_inv
    have hb : (T == "bool" || T == "int") = b := Option.some.inj hb
    by_cases h1 : "bool" = T
    · exact Y (PySem.typeIs_bool s c) (by decide) h1 (by rw [← hb, ← h1]; rfl)
    · by_cases h2 : "int" = T
      · subst h2; exact PyProof.Rows.call_isinstance_yes (PySem.typeIs_bool s c) hty sub_bool_int (yes hb.symm)
      · exact PySem.call_isinstance (PySem.isinstance_false_bool (type_ne h1) hty (sub_no_bool T hT (Ne.symm h1) (Ne.symm h2))) (no (by rw [← hb, beq_no h1, beq_no h2]; rfl))
  | int i =>
    obtain ⟨t, rfl⟩ := hx.int_inv
    have hb : (T == "int") = b := Option.some.inj hb
    by_cases h1 : "int" = T
    · exact Y (PySem.typeIs_int s i t) (by decide) h1 (by rw [← hb, ← h1]; rfl)
    · exact PySem.call_isinstance (PySem.isinstance_false_int (type_ne h1) hty (sub_no (by decide) T hT h1)) (no (by rw [← hb, beq_no h1]))
  | str i =>
    obtain ⟨t, rfl⟩ := hx.str_inv
    have hb : (T == "str") = b := Option.some.inj hb
    by_cases h1 : "str" = T
    · exact Y (PySem.typeIs_str s _ t) (by decide) h1 (by rw [← hb, ← h1]; rfl)
    · exact PySem.call_isinstance (PySem.isinstance_false_str (type_ne h1) hty (sub_no (by decide) T hT h1)) (no (by rw [← hb, beq_no h1]))
  | tup vs =>
    obtain ⟨a, items, n, rfl, z, e, q⟩ := hx.tup_inv
    have hb : (T == "tuple") = b := Option.some.inj hb
    by_cases h1 : "tuple" = T
    · exact Y ⟨_, e, rfl⟩ (by decide) h1 (by rw [← hb, ← h1]; rfl)
    · exact PySem.call_isinstance (PySem.isinstance_false_tuple (type_ne h1) hty (sub_no (by decide) T hT h1)) ⟨⟨_, e, rfl⟩, no (by rw [← hb, beq_no h1])⟩
  | ref a =>
    cases hx.ref_inv
    have hb : (match σ a with | some (.lst _) => some (T == "list") | _ => none) = some b := hb
    cases ha : σ a with
    | none => rw [ha] at hb; cases hb
    | some c =>
      rw [ha] at hb
      cases c with
      | lst vs =>
        have hb : (T == "list") = b := Option.some.inj hb
        obtain ⟨z, e, q, l⟩ := r.lst ha
        by_cases h1 : "list" = T
        · exact Y ⟨_, e, rfl⟩ (by decide) h1 (by rw [← hb, ← h1]; rfl)
        · exact PySem.call_isinstance (PySem.isinstance_false_list (type_ne h1) hty (sub_no (by decide) T hT h1)) ⟨⟨_, e, rfl⟩, no (by rw [← hb, beq_no h1])⟩
      | _ => cases hb
  | _ => cases hb

theorem ints_items {items : Array Value} {ks : List Int} (q : Reps W s.heap (ks.map .int) items.toList) : ∃ xs : Array (Int × Nat), items = PySem.intItems xs ∧ ks = xs.toList.map (·.1) := by
  obtain ⟨l⟩ := items
  refine ints_ind (I := fun l ks => ∃ xs : Array (Int × Nat), l.toArray = PySem.intItems xs ∧ ks = xs.toList.map (·.1)) ⟨#[], by simp [PySem.intItems], rfl⟩ (fun i t xs ks ih => ?_) ks l q
  obtain ⟨ys, e, k⟩ := ih
  refine ⟨((i, t) :: ys.toList).toArray, ?_, by rw [k]; rfl⟩
  have : xs = (PySem.intItems ys).toList := congrArg Array.toList e
  rw [this]
  simp [PySem.intItems]
theorem numAt_get {xs : Array (Int × Nat)} {i : Nat} (h : i < xs.size) : PySem.numAt xs i ∈ xs.toList.map (·.1) := by
  unfold PySem.numAt
  rw [Array.getElem?_eq_getElem h]
  exact List.mem_map.mpr ⟨xs[i], Array.getElem_mem_toList h, rfl⟩
theorem numAt_mem {xs : Array (Int × Nat)} {a : Int} (h : a ∈ xs.toList.map (·.1)) : ∃ i, i < xs.size ∧ a = PySem.numAt xs i := by
  obtain ⟨p, hp, rfl⟩ := List.mem_map.mp h
  obtain ⟨i, hi, e⟩ := List.getElem_of_mem hp
  refine ⟨i, hi, ?_⟩
  unfold PySem.numAt
  rw [Array.getElem?_eq_getElem hi, ← Array.getElem_toList, e]; rfl
theorem preSum_is (xs : Array (Int × Nat)) : PySem.preSum (PySem.numAt xs) xs.size = (xs.toList.map (·.1)).sum := by
  rw [PySem.preSum_eq, List.take_of_length_le (by simp)]

theorem seqList {x : Addr} {T : String} {items : Array Value} {n : Nat} {vs : List V} (r : HR W σ s) (hT : T = "list" ∨ T = "tuple") (z : items.size ≤ 1000001) (e : s.heap.get? x = some { cls := .type T, data := .seq items n }) (q : Reps W s.heap vs items.toList) (h : newP σ (.lst vs) Q) (hP : Kt W σ s Q P) :
    wpAny (model W.prog W.w) A (PySem.call (.type "list") [.ref x]) P E s :=
  PySem.call_list_seq x hT e rfl rfl (fun _ _ hk hn => hP _ _ _ _ (h _ r.fresh') (.ref _) (r.new (size_none _) hk (.lst z hn (q.mono (.of hk))) s.toks)) (fits z)

theorem all_s {a : Addr} {bs : List Bool} {k : Nat} (hA : Room A k) (r : HR W σ s) (ha : σ a = some (.lst (bs.map .bool))) (h : Q (.bool (bs.all id)) σ) (hP : Kt W σ s Q P) : wpAny (model W.prog W.w) A (PySem.call (.builtin "all") [.ref a]) P E s := by
  obtain @⟨items, n, z, e, q, l⟩ := r.lst ha
  rw [List.length_map] at l
  have hl : s.heap.IsList a items := ⟨_, e, rfl, n, rfl⟩
  have hlt : a < s.heap.objs.size := PySem.Heap.lt_size e
  refine PySem.call_all_walk (PySem.wpAny_pyIter_list hl ?_)
  refine ⟨s.heap.objs.size, [s.heap.objs.size, a], [s.heap.objs.size], items.size, _, _, fun i => (bs[i]?).getD true, rfl, PySem.Walks.list (A := A.in1) hA.hand _ a (Nat.ne_of_lt hlt) items,
    ⟨⟨_, PySem.Heap.get?_push_size _ rfl, rfl, rfl⟩, hl.push _⟩, fun i v s' Q' E' hp hQ => ?_, fun h' tk hk => ?_⟩
  · have hi : i < items.size := (Array.getElem?_eq_some_iff.mp hp).1
    have hb : (bs.map V.bool)[i]? = some (.bool (bs[i]'(l ▸ hi))) := by rw [List.getElem?_map, List.getElem?_eq_getElem (l ▸ hi)]; rfl
    obtain ⟨y, hy, ry⟩ := q.get hb
    rw [Array.getElem?_toList] at hy
    obtain rfl := Option.some.inj (hp.symm.trans hy)
    cases ry.bool_inv
    refine PySem.wpAny_truthy_bool ?_
    dsimp only at hQ
    rwa [List.getElem?_eq_getElem (l ▸ hi)] at hQ
  · rw [← l, PyProof.Rows.LSm.range_all bs]
    exact hP _ _ _ _ h (.bool _) (r.grow (PyProof.Rows.LSm.kept_iter hk) tk [])

end
end RS

namespace RS
open PySem

/-! ### one element more -/
noncomputable def setObj (es : Array (Int × Value)) (ep : Nat) (t : SetTable) : Obj := { cls := .type "set", data := .set es ep t }
structure TOk (t : SetTable) (es : Array (Int × Value)) : Prop where
  d : t.dummies = #[]
  z : t.place.size = es.size
  m : (t.mask = 7 ∧ es.size ≤ 4) ∨ (t.mask = 31 ∧ es.size ≤ 9)
theorem TOk.fits {t : SetTable} {es : Array (Int × Value)} (T : TOk t es) : t.fits es.size = true := by
  unfold SetTable.fits SetTable.fill
  rw [T.d, T.z, Bool.and_eq_true]
  refine ⟨beq_self_eq_true _, decide_eq_true ?_⟩
  show es.size + 0 ≤ _
  rcases T.m with ⟨h, h'⟩ | ⟨h, h'⟩ <;> rw [h] <;> lia
theorem ins_size {α : Type} (xs : Array α) (p : Nat) (x : α) : (SetTable.insertAt xs p x).size = xs.size + 1 := by
  unfold SetTable.insertAt
  rw [Array.size_append, Array.size_push, Array.size_extract, Array.size_extract, Nat.min_self, Nat.sub_zero]
  rcases Nat.le_total p xs.size with h | h
  · rw [Nat.min_eq_left h, Nat.add_right_comm, Nat.add_sub_of_le h]
  · rw [Nat.min_eq_right h, Nat.sub_eq_zero_of_le h]
theorem mem_ext {α : Type} {xs : Array α} {i j : Nat} {y : α} (h : y ∈ xs.extract i j) : y ∈ xs.toList := by
  obtain ⟨n, hn, e⟩ := Array.getElem_of_mem h
  rw [Array.getElem_extract] at e
  exact Array.mem_toList_iff.mpr (e ▸ Array.getElem_mem _)
theorem ins_mem {α : Type} {xs : Array α} {p : Nat} {x y : α} (h : y ∈ (SetTable.insertAt xs p x).toList) : y = x ∨ y ∈ xs.toList := by
  unfold SetTable.insertAt at h
  rw [Array.mem_toList_iff, Array.mem_append, Array.mem_push] at h
  rcases h with (h | h) | h
  · exact .inr (mem_ext h)
  · exact .inl h
  · exact .inr (mem_ext h)
theorem all9 {k : List Int} (hk : k ∈ pl9) : okV 7 4 (hashK k) = true ∧ okV 31 8 (hashK k) = true ∧ okL (hashK k) = true := by
  have := List.all_eq_true.mp ok9 _ (List.mem_map.mpr ⟨k, hk, rfl⟩)
  rw [Bool.and_eq_true, Bool.and_eq_true] at this
  exact ⟨this.1.1, this.1.2, this.2⟩
section
variable {prog : Program} {w : World} {A : Around} {E : Value → Shared → Prop} {s : Shared}
theorem hbv_int (n : Nat) {i : Int} {v : Value} (h : (intKind prog w).is i v = true) : hashByValue n v = pure true := by
  cases v <;> first | (cases n <;> rfl) | (simp [intKind, Value.isInt] at h)
theorem hbv {ks : List Int} {a : Addr} {Q : Bool → Shared → Prop} (hk : IsTupleKey (intKind prog w) s.heap ks a) (h : Q true s) : wpAny (model prog w) A (hashByValue 8 (.ref a)) Q E s := by
  have hT := hk.typeIs
  obtain ⟨o, items, n, ho, _, hd, hi⟩ := hk
  have hall : ∀ v ∈ items.toList, hashByValue 7 v = pure true := by
    clear ho hd
    generalize items.toList = l at hi
    induction hi with
    | nil => intro v hv; cases hv
    | cons h1 _ ih =>
      intro v hv
      rcases List.mem_cons.mp hv with rfl | hv
      · exact hbv_int 7 h1
      · exact ih v hv
  unfold hashByValue
  refine wpAny_bind (wpAny_specialOf hT F.slot_tuple_hash.lookup ?_)
  show wpAny _ _ (seqItems? (.ref a) >>= _) _ _ s
  refine wpAny_bind (wpAny_seqItems ho hd ?_)
  refine wpAny_bind ?_
  show wpAny _ _ (forIn items _ _) _ _ s
  rw [← Array.forIn_toList]
  refine wpAny_forIn_list _ (fun rest r s' => r.1 = none ∧ s' = s ∧ ∀ v ∈ rest, hashByValue 7 v = pure true) _ ?_ ?_ _ _ ⟨rfl, rfl, hall⟩
  · rintro v rest r s' ⟨hr, rfl, hall⟩
    rw [hall v List.mem_cons_self]
    refine wpAny_bind (wpAny_pure ?_)
    simp only [Bool.not_true, Bool.false_eq_true, if_false]
    exact wpAny_pure ⟨rfl, rfl, fun u hu' => hall u (List.mem_cons_of_mem _ hu')⟩
  · rintro ⟨r1, r2⟩ s' ⟨hr, rfl, _⟩
    simp only at hr
    subst hr
    exact wpAny_pure h
theorem set_relay {S : Addr} {es : Array (Int × Value)} {ep : Nat} {t : SetTable} {Q : Unit → Shared → Prop} (ho : s.heap.get? S = some (setObj es ep t)) (hf : t.fits es.size = true) (hz : es.size = 5) (hold : ∀ e ∈ es.toList, ∃ k ∈ pl9, e.1 = hashK k)
    (h : ∀ es' ep' t' h', Heap.SameBut S s.heap h' → h'.get? S = some (setObj es' ep' t') → TOk t' es' → es'.size = 5 → (∀ e ∈ es'.toList, e ∈ es.toList) → Q () { s with heap := h' }) : wpAny (model prog w) A (setRelay S 20) Q E s := by
  obtain ⟨t', order, er, hm, hd, hp, hs, hv⟩ := relaid_ok t (hs := es.toList.map (·.1)) (by rw [List.length_map, Array.length_toList, hz]; decide) fun x hx => by
    obtain ⟨e, he, rfl⟩ := List.mem_map.mp hx
    obtain ⟨k, hk, ek⟩ := hold e he
    rw [ek]; exact (all9 hk).2.2
  rw [List.length_map, Array.length_toList, hz] at hp hs hv
  have e0 : (es.toList.map (·.1)).toArray = es.map (·.1) := by rw [← List.map_toArray, Array.toArray_toList]
  rw [e0] at er
  have hes : (order.filterMap (es[·]?)).size = 5 := by
    rw [← Array.length_toList, Array.toList_filterMap, fm_len _ _ fun v hv' => ?_, Array.length_toList, hs]
    rw [Array.getElem?_eq_getElem (by rw [hz]; exact hv v hv')]; rfl
  have hmem : ∀ e ∈ (order.filterMap (es[·]?)).toList, e ∈ es.toList := fun e he => by
    rw [Array.toList_filterMap] at he
    obtain ⟨v, _, ev⟩ := List.mem_filterMap.mp he
    obtain ⟨hi, rfl⟩ := Array.getElem?_eq_some_iff.mp ev
    exact Array.mem_toList_iff.mpr (Array.getElem_mem hi)
  unfold setRelay
  refine wpAny_bind (wpAny_setState_of ho rfl hf ?_)
  dsimp only
  rw [if_neg (by decide)]
  rw [er]
  refine wpAny_bind ?_
  have hne : ((order.filterMap (es[·]?)).size != es.size) = false := by rw [hes, hz]; rfl
  show wpAny _ _ (if ((order.filterMap (es[·]?)).size != es.size) = true then ((unsupported "internal:set-table-lost-an-element" : Sem PUnit) >>= fun _ => pure (order.filterMap (es[·]?), t')) else pure (order.filterMap (es[·]?), t')) _ _ _
  rw [hne, if_neg Bool.false_ne_true]
  refine wpAny_pure ?_
  dsimp only
  refine wpAny_storeSet_of ho rfl (h _ (ep + 1) t' _ (Heap.SameBut.update _ S _) ((Heap.get?_update_self _ ho rfl).trans rfl) ⟨hd, by rw [hp, hes], .inr ⟨hm, by rw [hes]; decide⟩⟩ hes hmem) (by rw [hes]; decide)
theorem set_add {S b : Addr} {es : Array (Int × Value)} {ep : Nat} {t : SetTable} {k : List Int} {Q : Bool → Shared → Prop} (ho : s.heap.get? S = some (setObj es ep t)) (T : TOk t es) (hz : es.size ≤ 8) (hold : ∀ e ∈ es.toList, ∃ k ∈ pl9, e.1 = hashK k) (hk : k ∈ pl9) (hnew : ∀ e ∈ es.toList, e.1 ≠ hashK k) (hkey : IsTupleKey (intKind prog w) s.heap k b)
    (h : ∀ es' ep' t' h', Heap.SameBut S s.heap h' → h'.get? S = some (setObj es' ep' t') → TOk t' es' → es'.size = es.size + 1 → (∀ e ∈ es'.toList, e.1 = hashK k ∨ ∃ e' ∈ es.toList, e.1 = e'.1) → Q true { s with heap := h' }) : wpAny (model prog w) A (setAddHashed S (.ref b) (hashK k)) Q E s := by
  obtain ⟨o7, o31, _⟩ := all9 hk
  have hodd : t.gaveWay = false := by unfold SetTable.gaveWay; rcases T.m with ⟨e, _⟩ | ⟨e, _⟩ <;> rw [e] <;> rfl
  unfold setAddHashed setAddHashedIn
  refine wpAny_holding (wpAny_bind (wpAny_setState_of ho rfl T.fits ?_))
  dsimp only
  rw [if_neg (by show ¬ (false && _ && _) = true; exact Bool.false_ne_true)]
  refine wpAny_bind ?_
  unfold setSearch setSearchFrom
  refine wpAny_bind (wpAny_setState_of ho rfl T.fits ?_)
  dsimp only
  rw [hodd, if_neg Bool.false_ne_true]
  generalize hp : t.probe _ _ _ = met
  obtain ⟨j, rfl⟩ : ∃ j, met = some (.empty j none) := by
    rw [← hp]
    refine probe_ok (b := if t.mask = 7 then 4 else 8) T.d (fun i hi => ?_) ?_ ?_
    · rw [T.z] at hi
      show (es[i]?.map (·.1)).getD 0 ≠ _
      rw [Array.getElem?_eq_getElem hi]
      exact hnew _ (Array.mem_toList_iff.mpr (Array.getElem_mem hi))
    · rw [T.z]
      rcases T.m with ⟨e, e'⟩ | ⟨e, _⟩
      · rw [if_pos e]; exact e'
      · rw [if_neg (by rw [e]; decide)]; exact hz
    · rcases T.m with ⟨e, _⟩ | ⟨e, _⟩
      · rw [if_pos e, e]; exact o7
      · rw [if_neg (by rw [e]; decide), e]; exact o31
  dsimp only
  refine wpAny_pure ?_
  dsimp only
  refine wpAny_bind (wpAny_setState_of ho rfl T.fits ?_)
  dsimp only
  have hpz : (t.put j).1.place.size = es.size + 1 := by
    show (SetTable.insertAt t.place (SetTable.below t.place j) j).size = _
    rw [ins_size, T.z]
  have hpd : (t.put j).1.dummies = #[] := by
    show (if SetTable.has t.dummies j = true then _ else t.dummies) = _
    rw [T.d]; rfl
  have hpm : (t.put j).1.mask = t.mask := rfl
  generalize ht1 : (t.put j).1 = t1 at *
  generalize (t.put j).2 = p at *
  have hes := ins_size es p (hashK k, Value.ref b)
  have hel : ∀ e ∈ (SetTable.insertAt es p (hashK k, Value.ref b)).toList, e.1 = hashK k ∨ ∃ e' ∈ es.toList, e.1 = e'.1 := fun e he => (ins_mem he).elim (fun q => .inl (by rw [q])) fun q => .inr ⟨e, q, rfl⟩
  have hol : ∀ e ∈ (SetTable.insertAt es p (hashK k, Value.ref b)).toList, ∃ k ∈ pl9, e.1 = hashK k := fun e he => (hel e he).elim (fun q => ⟨k, hk, q⟩) fun hx => by
    obtain ⟨e', he', q⟩ := hx
    obtain ⟨k', h1, h2⟩ := hold e' he'; exact ⟨k', h1, q.trans h2⟩
  generalize SetTable.insertAt es p (hashK k, Value.ref b) = es1 at *
  have tail : ∀ t2 : SetTable, t2.place = t1.place → t2.dummies = t1.dummies → t2.mask = t1.mask → wpAny (model prog w) A (do
      storeSet S es1 t2
      if (!false && t2.tooFull) = true then setRelay S (SetTable.grown (es.size + 1))
      return true) Q E s := by
    intro t2 e1 e2 e3
    refine wpAny_bind (wpAny_storeSet_of ho rfl ?_ (by rw [hes]; exact Nat.le_trans (Nat.succ_le_succ hz) (by decide)))
    have ho1 : (s.heap.update S (Obj.putSet es1 t2)).get? S = some (setObj es1 (ep + 1) t2) := (Heap.get?_update_self _ ho rfl).trans rfl
    have hf2 : t2.fits es1.size = true := by
      unfold SetTable.fits SetTable.fill
      rw [e1, e2, e3, hpd, hpz, hpm, hes, Bool.and_eq_true]
      refine ⟨beq_self_eq_true _, decide_eq_true ?_⟩
      show es.size + 1 + 0 ≤ _
      rcases T.m with ⟨e, _⟩ | ⟨e, _⟩ <;> rw [e] <;> lia
    by_cases hfull : t2.tooFull = true
    · rw [hfull]
      refine wpAny_bind ?_
      have h5 : es1.size = 5 := by
        have := of_decide_eq_true hfull
        unfold SetTable.fill at this
        rw [e1, e2, e3, hpd, hpz, hpm] at this
        rw [hes]
        have this : t.mask * 3 ≤ (es.size + 1 + 0) * 5 := this
        rcases T.m with ⟨e, _⟩ | ⟨e, _⟩ <;> rw [e] at this <;> (clear e e3 hes hpm hpz hz; lia)
      have hg : SetTable.grown (es.size + 1) = 20 := by rw [← hes, h5]; rfl
      rw [hg]
      exact set_relay (s := { s with heap := s.heap.update S (Obj.putSet es1 t2) }) ho1 hf2 h5 hol fun es' ep' t' h' sb hs T' hz' hm' => wpAny_pure (h es' ep' t' h' ((Heap.SameBut.update _ S _).trans sb) hs T' (by rw [hz', ← hes, h5]) fun e he => hel e (hm' e he))
    · rw [if_neg (by show ¬ (true && t2.tooFull) = true; rw [Bool.true_and]; exact hfull)]
      refine wpAny_bind (wpAny_pure (wpAny_pure (h es1 (ep + 1) t2 _ (Heap.SameBut.update _ S _) ho1 ⟨e2.trans hpd, by rw [e1, hpz, hes], ?_⟩ hes hel)))
      rw [e3, hpm, hes]
      rcases T.m with ⟨e, e'⟩ | ⟨e, e'⟩
      · refine .inl ⟨e, Nat.not_lt.mp fun hlt => hfull (decide_eq_true ?_)⟩
        unfold SetTable.fill
        rw [e1, e2, e3, hpd, hpz, hpm, e]
        show 7 * 3 ≤ (es.size + 1 + 0) * 5
        (clear e' e e3 hes hpm hpz hz; lia)
      · exact .inr ⟨e, Nat.succ_le_succ hz⟩
  by_cases hpl : t1.plain = true
  · rw [hpl]
    refine wpAny_bind (hbv hkey ?_)
    exact tail t1 rfl rfl rfl
  · rw [if_neg hpl]
    refine wpAny_bind (wpAny_pure ?_)
    exact tail t1 rfl rfl rfl

theorem inj9 {k k' : List Int} (h : k ∈ pl9) (h' : k' ∈ pl9) (e : hashK k = hashK k') : k = k' := by
  obtain ⟨i, hi, rfl⟩ := List.getElem_of_mem h
  obtain ⟨j, hj, rfl⟩ := List.getElem_of_mem h'
  have : i = j := (List.getElem_inj (h₀ := by rw [List.length_map]; exact hi) (h₁ := by rw [List.length_map]; exact hj) nd9).mp (by rw [List.getElem_map, List.getElem_map]; exact e)
  subst this; rfl
variable {R : Result → Shared → Prop}
theorem set_loop {l S I : Addr} {items : Array Value} {ks : List (List Int)} (hh : A.in1.handled = none) (hu : A.in1.units < cLine) (hIS : I ≠ S) (hlS : l ≠ S) (hlI : l ≠ I) (hk : ∀ k ∈ ks, k ∈ pl9) (hn : ks.Nodup) (hl : items.size = ks.length) :
    ∀ (n i : Nat) (s : Shared), items.size - i = n → i ≤ items.size → s.heap.IsListIter I l i → s.heap.IsList l items →
      (RS.Ex3 fun (es : Array (Int × Value)) (ep : Nat) (t : SetTable) => RS.A4 (s.heap.get? S = some (setObj es ep t)) (TOk t es) (es.size = i) (∀ e ∈ es.toList, ∃ j, j < i ∧ ∃ hj : j < ks.length, e.1 = hashK ks[j])) →
      (∀ j (hj : j < ks.length), ∃ b, items[j]? = some (.ref b) ∧ b ≠ S ∧ b ≠ I ∧ IsTupleKey (intKind prog w) s.heap ks[j] b) →
      (∀ h' tk es ep t, (∀ b o, b ≠ S → b ≠ I → s.heap.get? b = some o → h'.get? b = some o) → h'.get? S = some (setObj es ep t) → TOk t es → es.size = ks.length → R (.ok (.ret .none)) { s with heap := h', toks := tk }) →
      codeAny (model prog w) A (.builtin "set.update.loop" ⟨[.ref S, .ref I], []⟩) R s := by
  have h9 : ks.length ≤ 9 := len_sub hn hk
  intro n
  induction n with
  | zero =>
    intro i s hi0 hi hit hL ⟨es, ep, t, ho, T, hz, _⟩ _ hR
    have hie : i = items.size := Nat.le_antisymm hi (Nat.sub_eq_zero_iff_le.mp hi0)
    refine codeAny_builtin PyProof.Rows.F.entry_set_update_loop ?_
    rw [Around.under_plainId PyProof.Rows.F.plain_set_update_loop _]
    show wpAny _ A.in1 (pyNext (.ref I) >>= _) _ _ s
    refine wpAny_bind (wpAny_pyNext_list_end hh hit hL (by rw [hie]; exact Array.getElem?_size) fun h' he => ?_)
    show wpAny _ A.in1 (ret Value.none) _ _ _
    exact wpAny_pure (hR h' s.toks es ep t (fun b o _ hb e => he b o hb e) (he S _ hIS.symm ho) T (by rw [hz, hie, hl]))
  | succ n ih =>
    intro i s hi0 hi hit hL ⟨es, ep, t, ho, T, hz, hes⟩ hks hR
    have hlt : i < items.size := by (clear hz hi h9 hl hlI hlS hIS hu; omega)
    have hik : i < ks.length := hl ▸ hlt
    obtain ⟨b, hb, hbS, hbI, hkey⟩ := hks i hik
    refine codeAny_builtin PyProof.Rows.F.entry_set_update_loop ?_
    rw [Around.under_plainId PyProof.Rows.F.plain_set_update_loop _]
    show wpAny _ A.in1 (pyNext (.ref I) >>= _) _ _ s
    refine wpAny_bind (wpAny_pyNext_list_item hit hL hb fun h₁ hit₁ sb₁ => ?_)
    show wpAny _ A.in1 (holding [Value.ref b] (setAdd S (.ref b)) >>= _) _ _ _
    refine wpAny_bind (wpAny_holding ?_)
    unfold setAdd
    refine wpAny_holding ?_
    have key : ∀ {h h' : Heap} {X : Addr} {k : List Int} {b : Addr}, b ≠ X → Heap.SameBut X h h' → IsTupleKey (intKind prog w) h k b → IsTupleKey (intKind prog w) h' k b := fun hne sb hx => by obtain ⟨o, it, m, e, r⟩ := hx; exact ⟨o, it, m, (sb.2 _ hne).trans e, r⟩
    refine wpAny_bind ((tupleKind (intKind prog w)).pyHash (s := { s with heap := h₁ }) (k := ks[i]) hu (key hbI sb₁ hkey) ?_)
    show wpAny _ _ (setAddHashed S (.ref b) (hashK ks[i])) _ _ _
    refine set_add (s := { s with heap := h₁, toks := _ }) ((sb₁.2 S hIS.symm).trans ho) T (by (clear hbI hbS hlt hi hi0 hl hlI hlS hIS hu; lia)) (fun e he => ?_) (hk _ (List.getElem_mem hik)) (fun e he q => ?_) (key hbI sb₁ hkey) fun es' ep' t' h₂ sb₂ ho₂ T' hz' hes' => ?_
    · obtain ⟨j, _, hj, e'⟩ := hes e he; exact ⟨_, hk _ (List.getElem_mem hj), e'⟩
    · obtain ⟨j, hji, hj, e'⟩ := hes e he
      have := inj9 (hk _ (List.getElem_mem hj)) (hk _ (List.getElem_mem hik)) (e'.symm.trans q)
      exact Nat.ne_of_lt hji ((List.getElem_inj hn).mp this)
    · have hL₂ : h₂.IsList l items := by obtain ⟨o, e, r⟩ := hL; exact ⟨o, (sb₂.2 l hlS).trans ((sb₁.2 l hlI).trans e), r⟩
      have hit₂ : h₂.IsListIter I l (i + 1) := by obtain ⟨o, e, r⟩ := hit₁; exact ⟨o, (sb₂.2 I hIS).trans e, r⟩
      refine wpAny_pure ⟨plainId_quiet PyProof.Rows.F.plain_set_update_loop _, ih (i + 1) _ (by (clear hz' hbI hbS hz hi h9 hl hlI hlS hIS hu; lia)) hlt hit₂ hL₂ ⟨es', ep', t', ho₂, T', by rw [hz', hz], fun e he => ?_⟩ (fun j hj => ?_) fun h' tk es ep t hx => hR h' tk es ep t fun b o h1 h2 e => hx b o h1 h2 ((sb₂.2 b h1).trans ((sb₁.2 b h2).trans e))⟩
      · rcases hes' e he with q | ⟨e', he', q⟩
        · exact ⟨i, Nat.lt_succ_self _, hik, q⟩
        · obtain ⟨j, h1, h2, h3⟩ := hes e' he'; exact ⟨j, Nat.lt_succ_of_lt h1, h2, q.trans h3⟩
      · obtain ⟨b, h1, h2, h3, h4⟩ := hks j hj
        exact ⟨b, h1, h2, h3, key h2 sb₂ (key h3 sb₁ h4)⟩

set_option maxRecDepth 100000 in
set_option maxHeartbeats 3200000 in
theorem set_call {l : Addr} {items : Array Value} {ks : List (List Int)} {Q : Value → Shared → Prop} (hh : A.handled = none) (hu : A.units + 20 < cLine) (hl : s.heap.IsList l items) (hk : ∀ k ∈ ks, k ∈ pl9) (hn : ks.Nodup) (hz : items.size = ks.length)
    (hks : ∀ j (hj : j < ks.length), ∃ b, items[j]? = some (.ref b) ∧ IsTupleKey (intKind prog w) s.heap ks[j] b)
    (h : ∀ h' tk es ep t, h'.get? s.heap.objs.size = some (setObj es ep t) → TOk t es → es.size = ks.length → (∀ b o, s.heap.get? b = some o → h'.get? b = some o) → Q (.ref s.heap.objs.size) { s with heap := h', toks := tk }) :
    wpAny (model prog w) A (call (.type "set") [.ref l]) Q E s := by
  obtain ⟨c, tl, hmro⟩ := F.called_set.mro
  have hmade := F.called_set.made
  have hsub := F.called_set.sub
  refine wpAny_call (codeAny_of_tree ?_)
  show wpAny _ _ (callAny (.type "set") _) _ _ _
  refine wpAny_pure ⟨Code.quiet_builtin _ (by decide +kernel), codeAny_builtin F.entry_type_call ?_⟩
  rw [Around.under_plain (weight_type_call_type "set" [.ref l] []) rfl]
  have h1 := F.called_set.notType
  have h2 := F.called_set.canCreate
  have hct := F.typeCall_set_1 (.ref l)
  repeat (any_goals (first | assumption | wp_step))
  refine codeAny_mono (code_set_new_1 (.ref l) (E := E) (Q₁ := fun obj s₁ => ∃ led : Bool, obj = .ref s.heap.objs.size ∧ s₁ = { s with heap := s.heap.push (setObj #[] 0 (.fresh 0 0 led)) }) fun led => ⟨led, rfl, rfl⟩) fun r s₁ hr => ?_
  cases r with
  | error e => exact hr
  | ok fl =>
    cases fl with
    | ret obj =>
      obtain ⟨led, rfl, rfl⟩ := hr
      have hS : (s.heap.push (setObj #[] 0 (.fresh 0 0 led))).get? s.heap.objs.size = some (setObj #[] 0 (.fresh 0 0 led)) := Heap.get?_push_size _ rfl
      have hT : Shared.TypeIs { s with heap := s.heap.push (setObj #[] 0 (.fresh 0 0 led)) } (.ref s.heap.objs.size) "set" := ⟨_, hS, rfl⟩
      have hli := F.called_set.init.lookup
      have hbi := F.called_set.init.bind (.ref s.heap.objs.size)
      repeat (any_goals (first | assumption | wp_step))
      refine codeAny_mono (codeAny_call_builtin (R := wants (fun r s₂ => r = .none ∧ RS.Ex5 fun (h' : Heap) (tk : Nat) (es : Array (Int × Value)) (ep : Nat) (t : SetTable) => RS.A5 (s₂ = { s with heap := h', toks := tk }) (h'.get? s.heap.objs.size = some (setObj es ep t)) (TOk t es) (es.size = ks.length) (∀ b o, s.heap.get? b = some o → h'.get? b = some o)) E) F.called_set.init.plain F.entry_set_init (check_set_init_1 hT ?_)) fun r₂ s₂ hr₂ => ?_
      · have hlS : l < s.heap.objs.size := by obtain ⟨ol, hol, _⟩ := hl; exact Heap.lt_size hol
        have hl1 : (s.heap.push (setObj #[] 0 (.fresh 0 0 led))).IsList l items := hl.push _
        obtain ⟨ol, hol, hcl, nl, hdl⟩ := hl
        obtain ⟨ocls, odict, odata, oslots⟩ := ol
        simp only at hcl hdl
        subst hcl; subst hdl
        have hol' : (s.heap.push (setObj #[] 0 (.fresh 0 0 led))).get? l = some { cls := .type "list", dict := odict, data := .seq items nl, slots := oslots } := Heap.get?_push_of_some _ hol
        have hsls := F.sub_list_set
        have hslf := F.sub_list_frozenset
        have hne : (Value.type "list" == Value.type "dict") = false := by decide
        unfold setObj at hS hT hl1 hol' ⊢
        unfold Builtin.«set.__init__» noKeywords Builtin.Frozenset.updateFrom
        generalize hPI : pyIter = PI
        wp_walk
        subst hPI
        refine wpAny_pyIter_list hl1 ?_
        refine wpAny_bind (wpAny_runValue ?_)
        refine set_loop (ks := ks) (hh := by simp [hh]) (hu := by simp only [Around.in1]; lia) (I := (s.heap.push { cls := .type "set", data := .set #[] 0 (.fresh 0 0 led) }).objs.size) (S := s.heap.objs.size) ?_ (Nat.ne_of_lt hlS) ?_ hk hn hz (items.size - 0) 0 _ rfl (Nat.zero_le _) ⟨_, Heap.get?_push_size _ rfl, rfl, rfl⟩ (hl1.push _) ⟨#[], 0, _, Heap.get?_push_of_some _ hS, ⟨rfl, rfl, .inl ⟨rfl, Nat.zero_le _⟩⟩, rfl, fun e he => by cases he⟩ (fun j hj => ?_) fun h' tk es ep t hx hg T hsz => ?_
        · rw [Heap.size_push]; exact Nat.succ_ne_self _
        · rw [Heap.size_push]; exact Nat.ne_of_lt (Nat.lt_succ_of_lt hlS)
        · obtain ⟨b, hb, o, it, m, e, r⟩ := hks j hj
          have hbl := Heap.lt_size e
          exact ⟨b, hb, Nat.ne_of_lt hbl, by rw [Heap.size_push]; exact Nat.ne_of_lt (Nat.lt_succ_of_lt hbl), o, it, m, Heap.get?_push_of_some _ (Heap.get?_push_of_some _ e), r⟩
        · refine wpAny_pure ?_
          show wpAny _ _ (ret Value.none) _ _ _
          refine wpAny_pure ⟨rfl, h', tk, es, ep, t, rfl, hg, T, hsz, fun b o e => ?_⟩
          have hb := Heap.lt_size e
          exact hx b o (Nat.ne_of_lt hb) (by rw [Heap.size_push]; exact Nat.ne_of_lt (Nat.lt_succ_of_lt hb)) (Heap.get?_push_of_some _ (Heap.get?_push_of_some _ e))
      · cases r₂ with
        | error e => exact hr₂
        | ok fl₂ =>
          cases fl₂ with
          | ret r =>
            obtain ⟨rfl, h', tk, es, ep, t, rfl, hg, T, hsz, hk'⟩ := hr₂
            repeat (any_goals (first | assumption | wp_step))
            exact h _ _ _ _ _ hg T hsz hk'
          | _ => exact hr₂.elim
    | _ => exact hr.elim
end
end RS

namespace RS
open PySem (Program World Shared Addr Value Obj Heap Str Around wpAny codeAny model cLine sizeLine PyData)
section
variable {W : Wd} {A : Around} {E : Value → Shared → Prop} {σ : Hp} {s : Shared} {Q : VP} {P : Value → Shared → Prop} {k : Nat}
theorem set_s {a : Addr} {ks : List (List Int)} (hA : Room A k) (r : HR W σ s) (ha : σ a = some (.lst (ks.map kv))) (hk : ∀ k ∈ ks, k ∈ pl9) (hn : ks.Nodup) (h : newP σ (.set ks.length) Q) (hP : Kt W σ s Q P) :
    wpAny (model W.prog W.w) A (PySem.call (.type "set") [.ref a]) P E s := by
  obtain @⟨items, n, z, e, q, l⟩ := r.lst ha
  have hl : items.size = ks.length := by rw [← l, List.length_map]
  refine set_call hA.hand (hA.u 20 (by decide)) ⟨_, e, rfl, n, rfl⟩ hk hn hl (fun j hj => ?_) fun h' tk es ep t hg T hsz hx => ?_
  · have hv : (ks.map kv)[j]? = some (kv ks[j]) := by rw [List.getElem?_map, List.getElem?_eq_getElem hj]; rfl
    obtain ⟨x, hx, rx⟩ := q.get hv
    obtain ⟨b, rfl, kb⟩ := key_tuple (V.key_kv _) rx
    exact ⟨b, by rw [← Array.getElem?_toList]; exact hx, kb⟩
  · have h9 : ks.length ≤ 9 := len_sub hn hk
    exact hP _ _ _ _ (h _ r.fresh') (.ref _) (r.new (size_none _) hx (.set hg hsz (hsz ▸ T.fits) h9) tk)
theorem lenset_s {a n : Nat} (r : HR W σ s) (ha : σ a = some (.set n)) (h : Q (.int n) σ) (hP : Kt W σ s Q P) :
    wpAny (model W.prog W.w) A (PySem.call (.builtin "len") [.ref a]) P E s := by
  have c := r.cell _ _ ha
  cases c with
  | set e z f n9 =>
    refine PySem.call_len_set e ⟨rfl, rfl, rfl⟩ rfl (z ▸ f) (by rw [z]; exact Int.lt_of_le_of_lt (Int.ofNat_le.mpr n9) (by decide)) ?_
    rw [z]
    exact hP _ _ _ _ h (.int _ _) (r.tok _ _)
theorem sort2_s {a : Addr} {x y : Int} (r : HR W σ s) (ha : σ a = some (.lst [.int x, .int y])) (h : newP σ (.lst [.int (min x y), .int (max x y)]) Q) (hP : Kt W σ s Q P) :
    wpAny (model W.prog W.w) A (PySem.call (.builtin "sorted") [.ref a]) P E s := by
  obtain @⟨items, n, z, e, q, l⟩ := r.lst ha
  obtain ⟨u, v, ev, ru, rv⟩ := q.two_inv
  obtain ⟨t, rfl⟩ := ru.int_inv
  obtain ⟨t', rfl⟩ := rv.int_inv
  have hI : PyProof.Rows.IntsAre items.toList [x, y] := by rw [ev]; exact .cons _ _ (.cons _ _ .nil)
  refine PyProof.Rows.sorted_ints (vs := items.toList) ⟨_, e, rfl, n, by rw [Array.toArray_toList]⟩ hI (by rw [ev]; exact (by decide : 2 < 64)) fun out ns' a1 a2 a3 => ?_
  have hns : ns' = [min x y, max x y] := by
    rcases Int.le_total x y with hxy | hxy
    · rw [Int.min_eq_left hxy, Int.max_eq_right hxy]
      exact PySem.W.ksm_same a2 a3 (.cons (fun z hz => by rw [List.mem_singleton.mp hz]; exact hxy) (.cons (fun z hz => by cases hz) .nil))
    · rw [Int.min_eq_right hxy, Int.max_eq_left hxy]
      exact PySem.W.ksm_same (a2.trans (.swap ..)) a3 (.cons (fun z hz => by rw [List.mem_singleton.mp hz]; exact hxy) (.cons (fun z hz => by cases hz) .nil))
  subst hns
  obtain ⟨e', he⟩ := PyProof.Rows.sortedAll_at s.heap items.toList out
  have hno : s.heap.get? (s.heap.objs.size + 1) = none := by
    cases hq : s.heap.get? (s.heap.objs.size + 1) with
    | none => rfl
    | some o => exact absurd (Heap.lt_size hq) (Nat.not_lt.mpr (Nat.le_succ _))
  have hr : Reps W (PyProof.Rows.sortedAll s.heap items.toList out) [.int (min x y), .int (max x y)] out.toList := by
    generalize out.toList = l at a1
    cases a1 with
    | cons n1 t1 a1 => cases a1 with
      | cons n2 t2 a1 => cases a1; exact .cons (.int _ _) (.one (.int _ _))
  have hsz : out.size = 2 := by rw [← Array.length_toList, ← hr.len]; rfl
  exact hP _ _ _ _ (h _ (r.fresh hno)) (.ref _) (r.new hno (fun _ _ => PyProof.Rows.sortedAll_old) (.lst (by rw [hsz]; decide) he hr) s.toks)
end
end RS

namespace RS
open PySem (Program World Shared Addr Value Obj Heap Str Around wpAny codeAny model cLine sizeLine PyData HeapKind DictEntry)

section
variable {W : Wd}
theorem dput_length {K : Type} [DecidableEq K] (es : List (K × V)) (k : K) (v : V) : (dput es k v).length ≤ es.length + 1 := by
  unfold dput; split
  · rw [List.length_map]; exact Nat.le_succ _
  · rw [List.length_append]; exact Nat.le_refl _
theorem dput_map {h : Heap} {k : List Int} {v : V} {vv : Value} (hv : Rep W h v vv) : ∀ {es : List (List Int × V)} {xs : List (List Int × Addr × Value)}, es.map (·.1) = xs.map (·.1) → Reps W h (es.map (·.2)) (xs.map (·.2.2)) →
    (es.map fun e => if e.1 = k then (e.1, v) else e).map (·.1) = (xs.map (PySem.putAt k vv)).map (·.1) ∧ Reps W h ((es.map fun e => if e.1 = k then (e.1, v) else e).map (·.2)) ((xs.map (PySem.putAt k vv)).map (·.2.2)) := by
  intro es
  induction es with
  | nil => intro xs e q; cases xs with
    | nil => exact ⟨rfl, .nil⟩
    | cons _ _ => cases e
  | cons y es ih => intro xs e q; cases xs with
    | nil => cases e
    | cons x xs =>
      obtain ⟨k₁, u⟩ := y
      obtain ⟨k₂, p⟩ := x
      obtain ⟨e1, e2⟩ := List.cons.inj e
      obtain rfl : k₁ = k₂ := e1
      obtain ⟨_, _, e', r, q'⟩ := q.cons_inv
      obtain ⟨rfl, rfl⟩ := List.cons.inj e'
      obtain ⟨h1, h2⟩ := ih e2 q'
      simp only [List.map_cons]
      by_cases hk : k₁ = k
      · rw [show (if (k₁, u).1 = k then ((k₁, u).1, v) else (k₁, u)) = (k₁, v) from if_pos hk, show PySem.putAt k vv (k₁, p) = (k₁, p.1, vv) from if_pos hk, h1]
        exact ⟨rfl, .cons hv h2⟩
      · rw [show (if (k₁, u).1 = k then ((k₁, u).1, v) else (k₁, u)) = (k₁, u) from if_neg hk, show PySem.putAt k vv (k₁, p) = (k₁, p) from if_neg hk, h1]
        exact ⟨rfl, .cons r h2⟩
theorem dput_stored {h : Heap} {es : List (List Int × V)} {xs : List (List Int × Addr × Value)} (m : es.map (·.1) = xs.map (·.1)) (q : Reps W h (es.map (·.2)) (xs.map (·.2.2))) (k : List Int) (b : Addr) {v : V} {vv : Value} (hv : Rep W h v vv) :
    (dput es k v).map (·.1) = (PySem.storedH xs k b vv).map (·.1) ∧ Reps W h ((dput es k v).map (·.2)) ((PySem.storedH xs k b vv).map (·.2.2)) := by
  unfold dput PySem.storedH
  rw [dget_isSome m q k]
  split
  · exact dput_map hv m q
  · rw [List.map_append, List.map_append, List.map_append, List.map_append, m]
    exact ⟨rfl, q.append (.one hv)⟩

/-- a dict, with an entry more or another value -/
theorem stored_cell {s : Shared} {h' : Heap} {a : Addr} {es : List (List Int × V)} {xs : List (List Int × Addr × Value)} {kk : List Int} {b : Addr} {v : V} {vv : Value} (m : es.map (·.1) = xs.map (·.1)) (q : Reps W s.heap (es.map (·.2)) (xs.map (·.2.2))) (rk : ∀ x ∈ xs, Rep W s.heap (kv x.1) (.ref x.2.1)) (hl : lenOk es.length)
    (hb : Rep W s.heap (kv kk) (.ref b)) (hv : Rep W s.heap v vv) (kt : TupKeep s.heap h') (hm' : h'.DictOfH (tk W) a (PySem.storedH xs kk b vv)) : ∃ ep', CellR W h' a (.dct (dput es kk v) ep') := by
  obtain ⟨o', des', ep', ho', ⟨c1, c2, c3⟩, hd', dd, is', n'⟩ := hm'
  have ho'' : h'.get? a = some { cls := .type "dict", data := .dict des' ep' } := by
    rw [ho']; cases o'; simp only at c1 c2 c3 hd'; subst c1 c2 c3 hd'; rfl
  obtain ⟨m', q'⟩ := dput_stored m (q.mono kt) kk b (hv.mono kt)
  refine ⟨ep', .dct ?_ ho'' dd is' n' m' q' fun x hx => ?_⟩
  · have : (PySem.storedH xs kk b vv).length = (dput es kk v).length := by have := congrArg List.length m'; rw [List.length_map, List.length_map] at this; exact this.symm
    rw [this]
    exact Nat.le_trans (dput_length es kk v) (Nat.succ_le_succ hl)
  · rcases PyProof.Rows.mem_storedH hx with ⟨y, hy, e1, e2⟩ | ⟨e1, e2⟩
    · rw [e1, e2]; exact (rk y hy).mono kt
    · rw [e1, e2]; exact hb.mono kt

end

open PySem in
theorem setH {prog : Program} {w : World} {K : Type} [DecidableEq K] {knd : HeapKind prog w K} {A : Around} {E : Value → Shared → Prop} {s : Shared} {d a : Addr} {xs : List (K × Addr × Value)} {k : K} {v : Value} {Q : Unit → Shared → Prop} (hu : knd.room A) (hkey : knd.is s.heap k a) (hm : s.heap.DictOfH knd d xs) (hsz : xs.length ≤ sizeLine)
    (hQ : ∀ h', h'.DictOfH knd d (storedH xs k a v) → Heap.SameBut d s.heap h' → Q () { s with heap := h' }) : wpAny (model prog w) A (dictSetHashed d (.ref a) (knd.hash k) v) Q E s := by
  obtain ⟨o, es, ep, ho, hc, hd, he, his, hn⟩ := hm
  unfold dictSetHashed
  try with_reducible refine wpAny_holding ?_
  refine wpAny_bind (wpAny_dictFind_heap hu hkey ho hd he his hn ?_ ?_)
  · intro hno
    have hnot : k ∉ xs.map (·.1) := not_mem_keys_of_get hno
    refine wpAny_bind (wpAny_rule (wpAny_updateDictKeys (hz := by rw [size_of_entries he]; exact hsz) ho hd (hQ _ ⟨_, _, ep + 1, Heap.get?_update_self _ ho (Obj.isFreed_of_dict (Obj.data_mapDictKeys hd _)), hc.mapDictKeys _, Obj.data_mapDictKeys hd _, ?_, ?_, ?_⟩ (Heap.SameBut.update ..))))
    · rw [storedH_new (atKey_none_of_get hno)]
      simp [he, entryOfKey]
    · rw [storedH_new (atKey_none_of_get hno)]
      intro x hx
      rcases List.mem_append.mp hx with hx | hx
      · exact knd.keeps (his x hx) ho hd (Heap.SameBut.update ..)
      · rw [List.mem_singleton.mp hx]
        exact knd.keeps hkey ho hd (Heap.SameBut.update ..)
    · rw [storedH_new (atKey_none_of_get hno), List.map_append, List.nodup_append]
      exact ⟨hn, List.nodup_cons.mpr ⟨List.not_mem_nil, List.nodup_nil⟩, fun x hx y hy e => hnot (by rw [List.mem_singleton.mp hy] at e; have e : x = k := e; exact e ▸ hx)⟩
  · intro j p hj
    refine wpAny_bind (wpAny_rule (wpAny_bind (wpAny_updateDict ho hd (wpAny_point (hQ _ ⟨_, _, ep, Heap.get?_update_self _ ho (Obj.isFreed_of_dict (Obj.data_mapDict hd _)), hc.mapDict _, Obj.data_mapDict hd _, ?_, ?_, ?_⟩ (Heap.SameBut.update ..))))))
    · rw [storedH_old (atKey_of_get hn hj)]
      have := modify_map_putAt (entryOfKey knd) (fun e : DictEntry => { e with val := v }) k v (fun _ _ => rfl) hn hj
      rw [← he] at this
      obtain ⟨l⟩ := es
      simpa using this
    · rw [storedH_old (atKey_of_get hn hj)]
      intro x hx
      obtain ⟨y, hy, rfl⟩ := List.mem_map.mp hx
      unfold putAt
      split <;> exact knd.keeps (his y hy) ho hd (Heap.SameBut.update ..)
    · rw [storedH_old (atKey_of_get hn hj), keys_map_putAt]; exact hn

noncomputable def mergeD (es es' : List (List Int × V)) : List (List Int × V) := es'.foldl (fun acc e => dput acc e.1 e.2) es
theorem mergeD_take {es es' : List (List Int × V)} {i : Nat} {e : List Int × V} (h : es'[i]? = some e) : mergeD es (es'.take (i + 1)) = dput (mergeD es (es'.take i)) e.1 e.2 := by
  unfold mergeD; rw [List.take_add_one, h, List.foldl_append]; rfl
theorem mergeD_len : ∀ (es' es : List (List Int × V)), (mergeD es es').length ≤ es.length + es'.length
  | [], _ => Nat.le_refl _
  | e :: es', es => Nat.le_trans (mergeD_len es' (dput es e.1 e.2)) (by rw [List.length_cons, Nat.add_comm es'.length, ← Nat.add_assoc]; exact Nat.add_le_add_right (dput_length es e.1 e.2) _)
section
variable {W : Wd} {A : Around} {E : Value → Shared → Prop} {σ : Hp} {s : Shared} {Q : VP} {P : Value → Shared → Prop} {k : Nat}
/-- what is known of the dict that grows -/
structure MgAt (W : Wd) (h : Heap) (a : Addr) (es : List (List Int × V)) (xs : List (List Int × Addr × Value)) : Prop where
  D : h.DictOfH (tk W) a xs
  m : es.map (·.1) = xs.map (·.1)
  q : Reps W h (es.map (·.2)) (xs.map (·.2.2))
  rk : ∀ x ∈ xs, Rep W h (kv x.1) (.ref x.2.1)
open PySem in
theorem merge_s {nm : String} {d o : Addr} {es es' : List (List Int × V)} {xs ys : List (List Int × Addr × Value)} {R : Unit → Shared → Prop} (hu : (tk W).room A) (hdo : d ≠ o) (hoS : (o == sysModules) = false) (hne : es ≠ []) (hl : lenOk (es.length + es'.length))
    (hd : MgAt W s.heap d es xs) (ho : MgAt W s.heap o es' ys) (hR : ∀ h' xs', MgAt W h' d (mergeD es es') xs' → Heap.SameBut d s.heap h' → R () { s with heap := h' }) : wpAny (model W.prog W.w) A (Builtin.Dict.mergeDict nm d o) R E s := by
  obtain ⟨od, esd, epd, hod, hcd, hdd, hed, hid, hnd⟩ := id hd.D
  obtain ⟨oo, eso, epo, hoo, hco, hdo', heo, hio, hno⟩ := id ho.D
  have hlen : es'.length = eso.size := by rw [size_of_entries heo]; have := congrArg List.length ho.m; rwa [List.length_map, List.length_map] at this
  have hlx : ∀ {h : Heap} {e : List (List Int × V)} {x : List (List Int × Addr × Value)}, MgAt W h d e x → e.length = x.length := fun M => by have := congrArg List.length M.m; rwa [List.length_map, List.length_map] at this
  unfold Builtin.Dict.mergeDict
  rw [if_neg (by simpa using hdo)]
  unfold Builtin.Dict.showsAll
  rw [if_neg (by rw [hoS]; exact Bool.false_ne_true)]
  refine wpAny_bind (wpAny_pure ?_)
  refine wpAny_bind (wpAny_dictEntries hoo hdo' ?_)
  have loop : wpAny (model W.prog W.w) A (do
      let epoch ← dictEpoch o
      let l ← dictEntries o
      forIn [:l.size] PUnit.unit fun i (_ : PUnit) => (do
          let l' ← dictEntries o
          match l'[i]? with
            | some e => do
              holding [e.key, e.val] (dictSetHashed d e.key e.hash e.val)
              let ep' ← dictEpoch o
              if (ep' != epoch) = true then do
                  (unsupported (toString nm ++ toString ":source-changed-during-callback") : Sem PUnit)
                  pure (ForInStep.yield PUnit.unit)
                else pure (ForInStep.yield PUnit.unit)
            | _ => do
              (unsupported "internal:dict-merge" : Sem PUnit)
              pure (ForInStep.yield PUnit.unit) : Sem (ForInStep PUnit))
      pure ()) R E s := by
    refine wpAny_bind (wpAny_dictEpoch hoo hdo' ?_)
    refine wpAny_bind (wpAny_dictEntries hoo hdo' ?_)
    refine wpAny_bind ?_
    rw [Std.Legacy.Range.forIn_eq_forIn_range']
    simp only [Std.Legacy.Range.size, Nat.sub_zero, Nat.add_sub_cancel, Nat.div_one]
    refine wpAny_forIn_list _
      (fun rest _ s' => RS.Ex3 fun (h' : Heap) (i : Nat) (xs' : List (List Int × Addr × Value)) => RS.A5 (s' = { s with heap := h' }) (rest = List.range' i (eso.size - i)) (i ≤ eso.size) (MgAt W h' d (mergeD es (es'.take i)) xs') (Heap.SameBut d s.heap h'))
      _ ?_ ?_ _ _ ⟨s.heap, 0, xs, rfl, by simp, Nat.zero_le _, hd, Heap.SameBut.refl _ _⟩
    · rintro x rest b s' ⟨h', i, xs', rfl, hr, hi, M, hs'⟩
      have hlt : i < eso.size := by
        rcases Nat.lt_or_ge i eso.size with h | h
        · exact h
        · rw [Nat.sub_eq_zero_of_le h] at hr; simp at hr
      obtain ⟨rfl, hrest⟩ : x = i ∧ rest = List.range' (i + 1) (eso.size - (i + 1)) := by
        have e : eso.size - i = (eso.size - (i + 1)) + 1 := (Nat.succ_pred_eq_of_pos (Nat.sub_pos_of_lt hlt)).symm
        rw [e, List.range'_succ] at hr
        injection hr with h1 h2
        exact ⟨h1, h2⟩
      have hoo' : h'.get? o = some oo := (hs'.2 o (Ne.symm hdo)).trans hoo
      have hyl : x < ys.length := by rw [← size_of_entries heo]; exact hlt
      obtain ⟨⟨k, b', v⟩, hy?⟩ : ∃ y, ys[x]? = some y := ⟨_, List.getElem?_eq_getElem hyl⟩
      have hxl : x < es'.length := hlen ▸ hlt
      have he1 : (es'[x]).1 = k := by
        have h1 : (es'.map (·.1))[x]? = (ys.map (·.1))[x]? := by rw [ho.m]
        rw [List.getElem?_map, List.getElem?_map, List.getElem?_eq_getElem hxl, hy?] at h1
        exact Option.some.inj h1
      have hv1 : Rep W s.heap (es'[x]).2 v := by
        obtain ⟨u, hu, ru⟩ := ho.q.get (i := x) (v := (es'[x]).2) (by rw [List.getElem?_map, List.getElem?_eq_getElem hxl]; rfl)
        rw [List.getElem?_map, hy?] at hu
        have e : v = u := Option.some.inj hu
        exact e ▸ ru
      have kt : TupKeep s.heap h' := tups_but hs'.extBut ⟨od, hod, notTup_dict hdd⟩
      have hkey : (tk W).is h' k b' := kt.key _ _ (hio _ (List.mem_of_getElem? hy?))
      refine wpAny_bind (wpAny_dictEntries hoo' hdo' ?_)
      rw [entry_at heo x, hy?]
      show wpAny _ _ (holding [Value.ref b', v] (dictSetHashed d (.ref b') ((tk W).hash k) v) >>= _) _ _ _
      have hml := mergeD_len (es'.take x) es
      refine wpAny_bind (wpAny_holding (setH (s := { s with heap := h' }) hu hkey M.D (by rw [← hlx M]; exact Nat.le_trans hml (Nat.le_trans (Nat.add_le_add_left (List.length_take_le' _ _) _) (Nat.le_trans hl (by decide)))) fun h'' hD'' hs'' => ?_))
      have hoo'' : h''.get? o = some oo := (hs''.2 o (Ne.symm hdo)).trans hoo'
      refine wpAny_bind (wpAny_dictEpoch hoo'' hdo' ?_)
      rw [if_neg (by simp)]
      have kt'' : TupKeep h' h'' := by
        obtain ⟨o1, e1, p1, g1, _, d1, _⟩ := M.D
        exact tups_but hs''.extBut ⟨o1, g1, notTup_dict d1⟩
      obtain ⟨m', q'⟩ := dput_stored M.m (M.q.mono kt'') k b' ((hv1.mono kt).mono kt'')
      refine wpAny_pure ⟨h'', x + 1, _, rfl, hrest, hlt, ⟨hD'', ?_, ?_, fun z hz => ?_⟩, hs'.trans hs''⟩
      · rw [mergeD_take (List.getElem?_eq_getElem hxl), he1]; exact m'
      · rw [mergeD_take (List.getElem?_eq_getElem hxl), he1]; exact q'
      · rcases PyProof.Rows.mem_storedH hz with ⟨y, hy, e1, e2⟩ | ⟨e1, e2⟩
        · rw [e1, e2]; exact (M.rk y hy).mono kt''
        · rw [e1, e2]; exact ((ho.rk _ (List.mem_of_getElem? hy?)).mono kt).mono kt''
    · rintro b s' ⟨h', i, xs', rfl, hr, hi, M, hs'⟩
      have hin : i = eso.size := by
        rcases Nat.lt_or_ge i eso.size with h | h
        · have e : eso.size - i = (eso.size - (i + 1)) + 1 := (Nat.succ_pred_eq_of_pos (Nat.sub_pos_of_lt h)).symm
          rw [e, List.range'_succ] at hr; exact nomatch hr
        · exact Nat.le_antisymm hi h
      refine wpAny_pure (hR h' xs' ?_ hs')
      rw [hin, ← hlen, List.take_length] at M; exact M
  dsimp only
  split
  · refine wpAny_bind (wpAny_dictEntries hod hdd ?_)
    have hemp : esd.isEmpty = false := by
      have h1 := size_of_entries hed
      rw [← hlx hd] at h1
      cases es with
      | nil => exact absurd rfl hne
      | cons e es => rw [Array.isEmpty_eq_false_iff]; intro h0; rw [h0] at h1; cases h1
    rw [hemp]
    exact loop
  · exact loop

open PySem in
theorem meets_upd (d o : Addr) (hdo : d ≠ o) (hoS : (o == sysModules) = false) : MeetsIn W.prog W.w (Builtin.«dict.update» ⟨[.ref d, .ref o], []⟩) (fun A R s => (tk W).room A.in1 ∧ ∃ es es' xs ys, MgAt W s.heap d es xs ∧ MgAt W s.heap o es' ys ∧ es ≠ [] ∧ lenOk (es.length + es'.length) ∧
      ∀ h' xs', MgAt W h' d (mergeD es es') xs' → Heap.SameBut d s.heap h' → R (.ok (.ret .none)) { s with heap := h' }) :=
  .of_wp fun A R s hx => by
    obtain ⟨hu, es, es', xs, ys, hd, ho, hne, hl, h⟩ := hx
    unfold Builtin.«dict.update»
    refine wpAny_bind ?_
    unfold Builtin.Dict.selfAndRest
    refine wpAny_bind (wpAny_notOrdered_dict hd.D.typeIs ?_)
    show wpAny _ _ (pure (d, [Value.ref o])) _ _ s
    refine wpAny_pure ?_
    show wpAny _ _ (Builtin.Dict.updateFrom "dict.update" d (.ref o) [] .none) _ _ s
    unfold Builtin.Dict.updateFrom
    refine wpAny_bind (wpAny_typeOf ho.D.typeIs ?_)
    rw [if_neg (by decide)]
    refine wpAny_bind ?_
    unfold Builtin.Dict.merge
    refine wpAny_bind ?_
    unfold Builtin.Dict.readDirectly
    refine wpAny_bind (wpAny_isInstance ho.D.typeIs isSubtype_dict_dict ?_)
    simp only [Bool.not_true, Bool.false_eq_true, if_false]
    refine wpAny_bind (wpAny_specialOf ho.D.typeIs F.slot_dict_iter.lookup (wpAny_pure ?_))
    simp only [beq_self_eq_true, if_true]
    refine wpAny_bind (wpAny_pure ?_)
    refine merge_s hu hdo hoS hne hl hd ho fun h' xs' M hs' => ?_
    show wpAny _ _ (Builtin.Dict.addKeywords d [] >>= _) _ _ _
    exact wpAny_bind (wpAny_pure (wpAny_pure ⟨.none, rfl, h h' xs' M hs'⟩))
theorem update_s {a b : Addr} {es es' : List (List Int × V)} {ep ep' : Nat} (hA : Room A k) (hW : WOk W) (r : HR W σ s) (ha : σ a = some (.dct es ep)) (hb : σ b = some (.dct es' ep')) (hab : a ≠ b) (hne : es ≠ []) (hl : lenOk (es.length + es'.length)) (hq : ∀ ep'', Q .none (σ.set a (.dct (mergeD es es') ep''))) (hP : Kt W σ s Q P) :
    wpAny (model W.prog W.w) A (PySem.call (.builtin "dict.update") [.ref a, .ref b]) P E s := by
  obtain ⟨z, e, D, d, is, n, m, q, rk, l, dl⟩ := r.dct ha
  obtain ⟨z', e', D', d', is', n', m', q', rk', l', dl'⟩ := r.dct hb
  refine PySem.call_meetsIn PySem.F.slot_dict_update D.typeIs PySem.F.entry_dict_update (PySem.F.args_dict_update_2 _ _) (meets_upd (W := W) a b hab (r.notSys hW hb)) ⟨hA.kr, es, es', _, _, ⟨D, m, q, rk⟩, ⟨D', m', q', rk'⟩, hne, hl, fun h' xs' M hs => ?_⟩
  obtain ⟨o'', des, ep'', ho, ⟨c1, c2, c3⟩, hd, dd, ii, nn⟩ := M.D
  have ho'' : h'.get? a = some { cls := .type "dict", data := .dict des ep'' } := by
    rw [ho]; cases o''; simp only at c1 c2 c3 hd; subst c1 c2 c3 hd; rfl
  have hlx : (mergeD es es').length = xs'.length := by have := congrArg List.length M.m; rwa [List.length_map, List.length_map] at this
  refine hP _ _ _ _ (hq ep'') .none (r.upd ha hs.extBut (.dct ?_ ho'' dd ii nn M.m M.q M.rk) s.toks [])
  rw [← hlx]
  exact Nat.le_trans (mergeD_len es' es) (Nat.le_succ_of_le hl)
end
end RS

namespace RS
open PySem.W PyProof.Rows

/-! ## the sort's tree of questions, over a strict order -/
section
variable {n : Nat} {lt : Nat → Nat → Bool}
noncomputable def KOk (n : Nat) (lt : Nat → Nat → Bool) {α : Type} : KasT α → (α → Prop) → Prop
  | .ret a, Q => Q a
  | .ask i j k, Q => i < n ∧ j < n ∧ KOk n lt (k (lt i j)) Q
theorem KOk.mono {α : Type} {Q Q' : α → Prop} (hq : ∀ a, Q a → Q' a) : ∀ {t : KasT α}, KOk n lt t Q → KOk n lt t Q'
  | .ret a, h => hq a h
  | .ask _ _ _, h => ⟨h.1, h.2.1, KOk.mono hq h.2.2⟩
theorem KOk.bind {α β : Type} {f : α → KasT β} {Q : β → Prop} : ∀ {t : KasT α}, KOk n lt t (fun a => KOk n lt (f a) Q) → KOk n lt (t.bind f) Q
  | .ret _, h => h
  | .ask _ _ _, h => ⟨h.1, h.2.1, KOk.bind h.2.2⟩
structure LtOk (n : Nat) (lt : Nat → Nat → Bool) : Prop where
  irrefl : ∀ i, i < n → lt i i = false
  trans : ∀ i j k, i < n → j < n → k < n → lt i j = true → lt j k = true → lt i k = true
  total : ∀ i j, i < n → j < n → i ≠ j → lt i j = false → lt j i = true
noncomputable def IsP (n : Nat) (p : Array Nat) : Prop := p.toList.Perm (List.range n)
theorem IsP.size {p : Array Nat} (h : IsP n p) : p.size = n := by have := h.length_eq; simpa using this
theorem IsP.get {p : Array Nat} (h : IsP n p) {i : Nat} (hi : i < n) : p.getD i 0 = p[i]'(by rw [h.size]; exact hi) := by simp [Array.getD, h.size, hi]
theorem IsP.bd {p : Array Nat} (h : IsP n p) {i : Nat} (hi : i < n) : p.getD i 0 < n := by
  rw [h.get hi]
  have : p[i]'(by rw [h.size]; exact hi) ∈ List.range n := h.mem_iff.mp (by simp)
  simpa using this
theorem IsP.ne {p : Array Nat} (h : IsP n p) {i j : Nat} (hi : i < n) (hj : j < n) (hij : i ≠ j) : p.getD i 0 ≠ p.getD j 0 := by
  rw [h.get hi, h.get hj]
  have nd : p.toList.Nodup := h.nodup_iff.mpr List.nodup_range
  intro e
  apply hij
  have := (List.getElem_inj (xs := p.toList) (i := i) (j := j) (h₀ := by simp [h.size, hi]) (h₁ := by simp [h.size, hj]) nd).mp (by simpa using e)
  exact this
noncomputable def STo (lt : Nat → Nat → Bool) (p : Array Nat) (k : Nat) : Prop := ∀ i j, i < j → j < k → lt (p.getD i 0) (p.getD j 0) = true
/-- the order, turned -/
theorem LtOk.flip (O : LtOk n lt) : LtOk n fun i j => lt j i :=
  ⟨O.irrefl, fun i j k hi hj hk h1 h2 => O.trans k j i hk hj hi h2 h1, fun i j hi hj hij h => O.total j i hj hi hij.symm h⟩
theorem STo.succ (O : LtOk n lt) {p : Array Nat} (h : IsP n p) {m : Nat} (hm : m + 1 < n) (s : STo lt p (m + 1)) (e : lt (p.getD m 0) (p.getD (m + 1) 0) = true) : STo lt p (m + 2) := by
  intro i j hij hj
  rcases Nat.lt_or_eq_of_le (Nat.le_of_lt_succ hj) with hjm | rfl
  · exact s i j hij hjm
  · rcases Nat.lt_or_eq_of_le (Nat.le_of_lt_succ hij) with h2 | rfl
    · exact O.trans _ (p.getD m 0) _ (h.bd (Nat.lt_trans hij hm)) (h.bd (Nat.lt_of_succ_lt hm)) (h.bd hm) (s i m h2 (Nat.lt_succ_self _)) e
    · exact e
theorem asc_ok (O : LtOk n lt) {p : Array Nat} (h : IsP n p) : ∀ (f m : Nat), m + 1 + f = n → STo lt p (m + 1) → KOk n lt (kas_asc p f (m + 1)) (fun r => ∃ r', r = r' + 1 ∧ r' + 1 ≤ n ∧ STo lt p (r' + 1) ∧ (r' + 1 < n → lt (p.getD (r' + 1) 0) (p.getD r' 0) = true))
  | 0, m, hm, s => ⟨m, rfl, Nat.le_of_eq hm, s, fun hr => absurd (hm ▸ hr) (Nat.lt_irrefl _)⟩
  | f + 1, m, hm, s => by
    have h1 : m + 1 < n := hm ▸ Nat.lt_add_of_pos_right (Nat.succ_pos f)
    have h0 := Nat.lt_of_succ_lt h1
    refine ⟨h.bd h1, h.bd h0, ?_⟩
    show KOk n lt (if lt (p.getD (m + 1) 0) (p.getD m 0) = true then _ else _) _
    cases e : lt (p.getD (m + 1) 0) (p.getD m 0) with
    | true => exact ⟨m, rfl, Nat.le_of_lt h1, s, fun _ => e⟩
    | false => exact asc_ok O h f (m + 1) ((Nat.succ_add_eq_add_succ (m + 1) f).trans hm) (s.succ O h h1 (O.total _ _ (h.bd h1) (h.bd h0) (h.ne h1 h0 (Nat.succ_ne_self m)) e))
theorem desc_ok (O : LtOk n lt) {p : Array Nat} (h : IsP n p) : ∀ (f m : Nat), m + 1 + f = n → STo (fun i j => lt j i) p (m + 1) → KOk n lt (kas_desc f p (m + 1) 0) (fun r => r.1 = p ∧ r.2.2 = 0 ∧ ∃ r', r.2.1 = r' + 1 ∧ r' + 1 ≤ n ∧ STo (fun i j => lt j i) p (r' + 1))
  | 0, m, hm, s => ⟨rfl, rfl, m, rfl, Nat.le_of_eq hm, s⟩
  | f + 1, m, hm, s => by
    have h1 : m + 1 < n := hm ▸ Nat.lt_add_of_pos_right (Nat.succ_pos f)
    have h0 := Nat.lt_of_succ_lt h1
    refine ⟨h.bd h1, h.bd h0, ?_⟩
    show KOk n lt (if lt (p.getD (m + 1) 0) (p.getD m 0) = true then _ else _) _
    cases e : lt (p.getD (m + 1) 0) (p.getD m 0) with
    | true => exact desc_ok O h f (m + 1) ((Nat.succ_add_eq_add_succ (m + 1) f).trans hm) (s.succ O.flip h h1 e)
    | false =>
      refine ⟨h.bd h0, h.bd h1, ?_⟩
      show KOk n lt (if lt (p.getD m 0) (p.getD (m + 1) 0) = true then _ else _) _
      rw [O.total _ _ (h.bd h1) (h.bd h0) (h.ne h1 h0 (Nat.succ_ne_self m)) e]
      exact ⟨rfl, rfl, m, rfl, Nat.le_of_lt h1, s⟩
theorem getD_of {p q : Array Nat} {i j : Nat} (h : p[i]? = q[j]?) : p.getD i 0 = q.getD j 0 := by
  rw [Array.getD_eq_getD_getElem?, Array.getD_eq_getD_getElem?, h]
theorem rev_ok {p : Array Nat} (h : IsP n p) {m : Nat} (hm : m + 1 ≤ n) (s : STo (fun i j => lt j i) p (m + 1)) : IsP n (kas_rev p 0 (m + 1)) ∧ STo lt (kas_rev p 0 (m + 1)) (m + 1) := by
  refine ⟨((mirror_perm p 0 (m + 1) _).toList).trans h, fun i j hij hj => ?_⟩
  have e : ∀ k, k < m + 1 → (kas_rev p 0 (m + 1)).getD k 0 = p.getD (0 + (m + 1) - 1 - k) 0 := fun k hk => getD_of ((getElem?_mirror_all (xs := p) (i := 0) (j := m + 1) (by rw [h.size]; exact hm) k).trans (if_pos ⟨Nat.zero_le _, hk⟩))
  rw [e i (Nat.lt_trans hij hj), e j hj, Nat.zero_add]
  exact s _ _ (Nat.sub_lt_sub_left (Nat.lt_of_lt_of_le hij (Nat.le_of_lt_succ hj)) hij) (Nat.lt_succ_of_le (Nat.sub_le _ _))
theorem count_ok (O : LtOk n lt) {p : Array Nat} (h : IsP n p) (h2 : 2 ≤ n) : KOk n lt (kas_count n p) (fun r => 1 ≤ r.1 ∧ r.1 ≤ n ∧ IsP n r.2 ∧ STo lt r.2 r.1) := by
  unfold kas_count
  refine KOk.bind (KOk.mono (fun r hr => ?_) (asc_ok O h (n - 1) 0 (Nat.add_sub_of_le (Nat.le_of_succ_le h2)) (fun i j hij hj => absurd (Nat.lt_of_lt_of_le hij (Nat.le_of_lt_succ hj)) (Nat.not_lt_zero _))))
  obtain ⟨r, rfl, hrn, hs, he⟩ := hr
  by_cases hrn' : r + 1 = n
  · subst hrn'
    rw [if_pos (beq_self_eq_true _)]
    exact ⟨Nat.succ_pos r, Nat.le_refl _, h, hs⟩
  · rw [if_neg fun e => hrn' (eq_of_beq e)]
    by_cases hr : r + 1 > 1
    · rw [if_pos hr]
      refine ⟨h.bd (Nat.lt_of_succ_le (Nat.le_of_succ_le h2)), h.bd hrn, ?_⟩
      show KOk n lt (if lt (p.getD 0 0) (p.getD r 0) = true then _ else _) _
      rw [hs 0 r (Nat.lt_of_succ_lt_succ hr) (Nat.lt_succ_self _)]
      exact ⟨Nat.succ_pos r, hrn, h, hs⟩
    · rw [if_neg hr]
      have hr1 : r = 0 := Nat.eq_zero_of_not_pos fun q => hr (Nat.succ_lt_succ q)
      subst hr1
      have e := he h2
      unfold kas_descPart
      have D2 : STo (fun i j => lt j i) p (1 + 1) := fun i j hij hj => by
        rcases Nat.lt_or_eq_of_le (Nat.le_of_lt_succ hj) with q | rfl
        · exact absurd (Nat.lt_of_lt_of_le hij (Nat.le_of_lt_succ q)) (Nat.not_lt_zero _)
        · rw [Nat.lt_one_iff.mp hij]; exact e
      refine KOk.bind (KOk.mono (fun q hq => ?_) (desc_ok O h (n - (1 + 1)) 1 (Nat.add_sub_of_le h2) D2))
      obtain ⟨q1, q2, q3⟩ := q
      obtain ⟨e1, e2, m, e3, hmn, hD⟩ := hq
      dsimp only at e1 e2 e3
      subst e1 e2 e3
      obtain ⟨hP, hS⟩ := rev_ok h hmn hD
      show KOk n lt (kas_tail3 _ _ _) _
      unfold kas_tail3
      refine KOk.bind (KOk.mono (fun r hr => ?_) (asc_ok O hP (n - (m + 1)) m (Nat.add_sub_of_le hmn) hS))
      obtain ⟨r, rfl, h1, h2, _⟩ := hr
      exact ⟨Nat.succ_pos _, h1, hP, h2⟩
theorem mid_le {l r : Nat} (h : l ≤ r) : l ≤ (l + r) / 2 := (Nat.le_div_iff_mul_le (by decide)).mpr (by rw [Nat.mul_two]; exact Nat.add_le_add_left h l)
theorem mid_lt {l r : Nat} (h : l < r) : (l + r) / 2 < r := Nat.div_lt_of_lt_mul (by rw [Nat.two_mul]; exact Nat.add_lt_add_right h r)
theorem place_ok (O : LtOk n lt) {p : Array Nat} (h : IsP n p) {k : Nat} (hk : k < n) (s : STo lt p k) : ∀ (f l r : Nat), l ≤ r → r ≤ k → r - l ≤ f → (∀ i, i < l → lt (p.getD i 0) (p.getD k 0) = true) → (∀ i, r ≤ i → i < k → lt (p.getD k 0) (p.getD i 0) = true) →
    KOk n lt (kas_place p k f l r) (fun l' => l' ≤ k ∧ (∀ i, i < l' → lt (p.getD i 0) (p.getD k 0) = true) ∧ (∀ i, l' ≤ i → i < k → lt (p.getD k 0) (p.getD i 0) = true))
  | 0, l, r, hlr, hrk, hf, hl, hr => by
    have e := Nat.le_antisymm hlr (Nat.sub_eq_zero_iff_le.mp (Nat.le_zero.mp hf))
    subst e
    exact ⟨hrk, hl, hr⟩
  | f + 1, l, r, hlr, hrk, hf, hl, hr => by
    unfold kas_place
    by_cases hge : l ≥ r
    · rw [if_pos hge]
      have e := Nat.le_antisymm hlr hge
      subst e
      exact ⟨hrk, hl, hr⟩
    · rw [if_neg hge]
      have hlt := Nat.not_le.mp hge
      have m1 := mid_le hlr
      have m2 := mid_lt hlt
      generalize (l + r) / 2 = m at *
      have mk := Nat.lt_of_lt_of_le m2 hrk
      have mn := Nat.lt_trans mk hk
      refine ⟨h.bd hk, h.bd mn, ?_⟩
      show KOk n lt (if lt (p.getD k 0) (p.getD m 0) = true then _ else _) _
      cases e : lt (p.getD k 0) (p.getD m 0) with
      | true =>
        refine place_ok O h hk s f l m m1 (Nat.le_of_lt mk) (Nat.le_of_lt_succ (Nat.lt_of_lt_of_le (Nat.sub_lt_sub_right m1 m2) hf)) hl fun i hi hik => ?_
        rcases Nat.lt_or_eq_of_le hi with hi | rfl
        · exact O.trans _ _ _ (h.bd hk) (h.bd mn) (h.bd (Nat.lt_trans hik hk)) e (s _ _ hi hik)
        · exact e
      | false =>
        have e' := O.total _ _ (h.bd hk) (h.bd mn) (h.ne hk mn (Nat.ne_of_gt mk)) e
        refine place_ok O h hk s f (m + 1) r m2 hrk (Nat.le_of_lt_succ (Nat.lt_of_lt_of_le (Nat.sub_lt_sub_left hlt (Nat.lt_succ_of_le m1)) hf)) (fun i hi => ?_) hr
        rcases Nat.lt_or_eq_of_le (Nat.le_of_lt_succ hi) with hi | rfl
        · exact O.trans _ _ _ (h.bd (Nat.lt_trans hi mn)) (h.bd mn) (h.bd hk) (s _ _ hi mk) e'
        · exact e'
theorem bin_ok (O : LtOk n lt) : ∀ (f : Nat) {p : Array Nat} (k : Nat), IsP n p → k + f = n → STo lt p k → KOk n lt (kas_bin f p k) (fun p' => IsP n p' ∧ STo lt p' n)
  | 0, p, k, h, hk, s => ⟨h, hk ▸ s⟩
  | f + 1, p, k, h, hk, s => by
    unfold kas_bin
    have kn : k < n := hk ▸ Nat.lt_add_of_pos_right (Nat.succ_pos f)
    refine KOk.bind (KOk.mono (fun l hl => ?_) (place_ok O h kn s k 0 k (Nat.zero_le _) (Nat.le_refl _) (Nat.le_refl _) (fun i hi => absurd hi (Nat.not_lt_zero _)) (fun i hi hi' => absurd hi' (Nat.not_lt.mpr hi))))
    obtain ⟨hlk, ha, hb⟩ := hl
    refine bin_ok O f (k + 1) (((bubble_perm p k _).toList).trans h) ((Nat.succ_add_eq_add_succ k f).trans hk) ?_
    have e := fun i => getElem?_bubble (xs := p) (src := k) (by rw [h.size]; exact kn) (k - l) (Nat.sub_le _ _) i
    rw [Nat.sub_sub_self hlk] at e
    have Eq : (bubble p k (k - l)).getD l 0 = p.getD k 0 := getD_of ((e l).trans (if_pos rfl))
    have Elo : ∀ i, i < l → (bubble p k (k - l)).getD i 0 = p.getD i 0 := fun i hi => getD_of ((e i).trans ((if_neg (Nat.ne_of_lt hi)).trans (if_neg fun q => Nat.lt_asymm q.1 hi)))
    have Ehi : ∀ i, l ≤ i → i < k → (bubble p k (k - l)).getD (i + 1) 0 = p.getD i 0 := fun i h1 h2 => getD_of ((e (i + 1)).trans ((if_neg (Nat.ne_of_gt (Nat.lt_succ_of_le h1))).trans (if_pos ⟨Nat.lt_succ_of_le h1, h2⟩)))
    intro i j hij hj
    rcases Nat.lt_trichotomy i l with hi | rfl | hi
    · rw [Elo i hi]
      rcases Nat.lt_trichotomy j l with hj' | rfl | hj'
      · rw [Elo j hj']; exact s i j hij (Nat.lt_of_lt_of_le hj' hlk)
      · rw [Eq]; exact ha i hi
      · cases j with
        | zero => exact absurd hij (Nat.not_lt_zero _)
        | succ j => rw [Ehi j (Nat.le_of_lt_succ hj') (Nat.lt_of_succ_lt_succ hj)]; exact s i j (Nat.lt_of_lt_of_le hi (Nat.le_of_lt_succ hj')) (Nat.lt_of_succ_lt_succ hj)
    · cases j with
      | zero => exact absurd hij (Nat.not_lt_zero _)
      | succ j => rw [Eq, Ehi j (Nat.le_of_lt_succ hij) (Nat.lt_of_succ_lt_succ hj)]; exact hb j (Nat.le_of_lt_succ hij) (Nat.lt_of_succ_lt_succ hj)
    · cases j with
      | zero => exact absurd hij (Nat.not_lt_zero _)
      | succ j => cases i with
        | zero => exact absurd hi (Nat.not_lt_zero _)
        | succ i =>
          have hj := Nat.lt_of_succ_lt_succ hj
          have hij := Nat.lt_of_succ_lt_succ hij
          have hi := Nat.le_of_lt_succ hi
          rw [Ehi i hi (Nat.lt_trans hij hj), Ehi j (Nat.le_trans hi (Nat.le_of_lt hij)) hj]
          exact s i j hij hj
theorem sort_ok (O : LtOk n lt) (h2 : 2 ≤ n) : KOk n lt (kas_sort n) (fun p => IsP n p ∧ STo lt p n) := by
  unfold kas_sort
  refine KOk.bind (KOk.mono (fun r hr => ?_) (count_ok O (p := List.toArray (List.range n)) (List.Perm.refl _) h2))
  obtain ⟨h1, hn, hP, hS⟩ := hr
  by_cases hlt : r.1 < n
  · rw [if_pos hlt, Nat.max_eq_left h1]
    exact bin_ok O _ _ hP (Nat.add_sub_of_le hn) hS
  · rw [if_neg hlt]
    rw [Nat.le_antisymm hn (Nat.not_lt.mp hlt)] at hS
    exact ⟨hP, hS⟩
end

/-! ## tuples of ints in their order -/
theorem ltL_irrefl : ∀ k : List Int, ltL k k = false
  | [] => rfl
  | a :: r => by simp [ltL, ltL_irrefl r]
theorem ltL_trans : ∀ {a b c : List Int}, ltL a b = true → ltL b c = true → ltL a c = true
  | [], _, [], h1, h2 => by cases ‹List Int› <;> simp [ltL] at h1 h2
  | [], _, _ :: _, _, _ => rfl
  | _ :: _, [], _, h1, _ => by simp [ltL] at h1
  | _ :: _, _ :: _, [], _, h2 => by simp [ltL] at h2
  | x :: a, y :: b, z :: c, h1, h2 => by
    simp only [ltL, Bool.or_eq_true, decide_eq_true_eq, Bool.and_eq_true, beq_iff_eq] at *
    rcases h1 with h1 | ⟨rfl, h1⟩
    · rcases h2 with h2 | ⟨rfl, h2⟩
      · exact .inl (by lia)
      · exact .inl h1
    · rcases h2 with h2 | ⟨rfl, h2⟩
      · exact .inl h2
      · exact .inr ⟨rfl, ltL_trans h1 h2⟩
theorem ltL_total : ∀ {a b : List Int}, a ≠ b → ltL a b = false → ltL b a = true
  | [], [], h, _ => absurd rfl h
  | [], _ :: _, _, h => by simp [ltL] at h
  | _ :: _, [], _, _ => rfl
  | x :: a, y :: b, hne, h => by
    simp only [ltL, Bool.or_eq_false_iff, decide_eq_false_iff_not, Bool.and_eq_false_iff, beq_eq_false_iff_ne, Bool.or_eq_true, decide_eq_true_eq, Bool.and_eq_true, beq_iff_eq] at *
    rcases Int.lt_trichotomy y x with h' | h' | h'
    · exact .inl h'
    · subst h'
      refine .inr ⟨rfl, ltL_total (fun e => hne (by rw [e])) ?_⟩
      rcases h.2 with h2 | h2
      · exact absurd rfl h2
      · exact h2
    · exact absurd h' h.1

open PySem
section
variable {W : Wd} {A : Around} {E : Value → Shared → Prop} {s : Shared} {σ : Hp}
theorem oneLt_any {a b : Int} {t u : Tok} {c : Bool} {Q : Bool → Shared → Prop} (h : Q (decide (a < b)) s) : wpAny (model W.prog W.w) A (oneLt' c (.int a t) (.int b u)) Q E s := by
  cases c with
  | true => exact oneLt_int h
  | false => exact kat_one _ _ (PyProof.Rows.lt_int h)

theorem lex_ints {Q : Bool → Shared → Prop} {fin : Bool} (ks : List Int) : ∀ {ls : List Int} {xs ys : List Value} (i : Nat), IntsAre xs ks → IntsAre ys ls → fin = decide (xs.length < ys.length) → Q (ltL ks ls) s → KatLex W.prog W.w A true fin Q (xs.zip ys) i s := by
  induction ks with
  | nil =>
    intro ls xs ys i q q' hf h
    cases q
    cases q' with
    | nil => subst hf; exact h
    | cons _ _ _ => subst hf; simpa [ltL, KatLex] using h
  | cons k ks ih =>
    intro ls xs ys i q q' hf h
    cases q with
    | cons _ t q =>
      cases q' with
      | nil => subst hf; simpa [ltL, KatLex] using h
      | cons l u q' =>
        rename_i ls _
        refine kat_cons (wpAny_eqBool_int ?_)
        by_cases e : k = l
        · subst e
          rw [beq_self_eq_true]
          refine kat_yes (ih (i + 1) q q' (by rw [hf]; simp) ?_)
          simpa [ltL] using h
        · rw [beq_false_of_ne e]
          refine kat_no (oneLt_any ?_)
          simpa [ltL, beq_false_of_ne e] using h
end

section
variable {W : Wd} {A : Around} {E : Value → Shared → Prop} {s : Shared} {σ : Hp}
theorem kv_at {h : Heap} {k : List Int} {x : Value} (r : Rep W h (kv k) x) : ∃ a items n, x = .ref a ∧ h.get? a = some { cls := .type "tuple", data := .seq items n } ∧ IntsAre items.toList k := by
  obtain ⟨a, items, n, rfl, z, e, q⟩ := r.tup_inv
  exact ⟨a, items, n, rfl, e, ints_ind (I := fun xs ks => IntsAre xs ks) .nil (fun _ _ _ _ q => .cons _ _ q) k _ q⟩
theorem kat_tups {h : Heap} {ks : List (List Int)} : ∀ {vs : List Value}, Reps W h (ks.map kv) vs → (∀ k ∈ ks, k ≠ []) → ∃ fs, KatTups h vs fs ∧ fs.length = vs.length ∧ ∀ f ∈ fs, ∃ i t, f = Value.int i t := by
  induction ks with
  | nil => intro vs q _; cases q.nil_inv; exact ⟨[], trivial, rfl, fun _ h => by cases h⟩
  | cons k ks ih =>
    intro vs q hne
    obtain ⟨x, xs, rfl, r, rs⟩ := q.cons_inv
    obtain ⟨fs, t, hl, hf⟩ := ih rs fun k hk => hne k (by simp [hk])
    obtain ⟨a, items, n, rfl, e, q⟩ := kv_at r
    have hk := hne k (by simp)
    have : ∃ f : Value, items[0]? = some f ∧ ∃ i t, f = Value.int i t := by
      have h0 : items[0]? = items.toList[0]? := by simp
      rw [h0]
      generalize items.toList = l at q
      cases q with
      | nil => exact absurd rfl hk
      | cons i t q' => exact ⟨_, rfl, i, t, rfl⟩
    obtain ⟨f, hf0, hf1⟩ := this
    refine ⟨f :: fs, .cons e rfl rfl hf0 t, by simp [hl], fun g hg => ?_⟩
    rcases List.mem_cons.mp hg with rfl | hg
    · exact hf1
    · exact hf g hg

/-- a tree of questions that change nothing -/
theorem kasWp_of {n : Nat} {lt : Nat → Nat → Bool} {α : Type} {cmp : Nat → Nat → (Bool → Shared → Prop) → Shared → Prop} {Q : α → Shared → Prop} (hc : ∀ i j C, i < n → j < n → C (lt i j) s → cmp i j C s) : ∀ {t : KasT α}, KOk n lt t (fun a => Q a s) → t.kasWp cmp Q s
  | .ret _, h => h
  | .ask i j k, h => hc i j _ h.1 h.2.1 (kasWp_of hc h.2.2)

theorem ltL_ok {ks : List (List Int)} (nd : ks.Nodup) : LtOk ks.length (fun i j => ltL (ks.getD i []) (ks.getD j [])) where
  irrefl i _ := ltL_irrefl _
  trans i j k _ _ _ h1 h2 := ltL_trans h1 h2
  total i j hi hj hij h := by
    refine ltL_total (fun e => hij ?_) h
    simp only [List.getD_eq_getElem?_getD, List.getElem?_eq_getElem hi, List.getElem?_eq_getElem hj, Option.getD_some] at e
    exact (List.getElem_inj nd).mp e

theorem sort_tups {a : Addr} {vs : List Value} {ks : List (List Int)} {n : Nat} {P : PySem.Fin → Shared → Prop} (ho : s.heap.get? a = some (seqObj "list" vs.toArray n)) (h64 : vs.length < 64)
    (hk : Reps W s.heap (ks.map kv) vs) (hne : ∀ k ∈ ks, k ≠ []) (nd : ks.Nodup)
    (h : ∀ h' (p : List Nat) c, h'.get? a = some (seqObj "list" (p.map fun i => vs.getD i Value.none).toArray c) → (∀ b o, b ≠ a → s.heap.get? b = some o → h'.get? b = some o) → p.Perm (List.range vs.length) →
      (p.map fun i => ks.getD i []).Pairwise (fun x y => ltL x y = true) → P (.done (.ret .none)) { s with heap := h' }) :
    wpAny (model W.prog W.w) A (Builtin.«list.sort» ⟨[.ref a], []⟩) P E s := by
  have hlen : ks.length = vs.length := by have := hk.length; simpa using this
  have ha : a < s.heap.objs.size := Heap.lt_size ho
  have s1 := Heap.SameBut.update s.heap a (Obj.mapSeq fun _ => (#[] : Array Value))
  obtain ⟨e1, ho1⟩ : ∃ e1, (s.heap.update a (Obj.mapSeq fun _ => (#[] : Array Value))).get? a = some (seqObj "list" #[] e1) := ⟨_, get?_update_seq ho fun _ => #[]⟩
  have ho6 : (((s.heap.update a (Obj.mapSeq fun _ => (#[] : Array Value))).push (seqObj "tuple" vs.toArray 0)).push (seqObj "list" #[] 0)).get? a = some (seqObj "list" #[] e1) := Heap.get?_push_of_some _ (Heap.get?_push_of_some _ ho1)
  have keep : ∀ b o, b ≠ a → s.heap.get? b = some o → (((s.heap.update a (Obj.mapSeq fun _ => (#[] : Array Value))).push (seqObj "tuple" vs.toArray 0)).push (seqObj "list" #[] 0)).get? b = some o := fun b o hb e =>
    Heap.get?_push_of_some _ (Heap.get?_push_of_some _ ((s1.2 b hb).trans e))
  generalize hh3 : ((s.heap.update a (Obj.mapSeq fun _ => (#[] : Array Value))).push (seqObj "tuple" vs.toArray 0)).push (seqObj "list" #[] 0) = h3 at ho6 keep
  have kt : TupKeep s.heap h3 := fun b o e q => keep b o (fun hb => by subst hb; rw [ho] at e; cases e; exact absurd q.1 (by simp [seqObj])) e
  have hk3 := hk.mono kt
  rw [list_sort_plain]
  refine wpAny_bind (listItems_at ho rfl ?_)
  refine wpAny_bind (listUpdate_at ho rfl ?_ (by rw [List.size_toArray, sizeLine_eq]; lia) (Nat.zero_le _))
  refine wpAny_bind (seqEpoch_at ho1 rfl ?_)
  refine wpAny_bind (wpAny_newTuple ?_ (by show vs.length ≤ _; rw [sizeLine_eq]; omega))
  refine wpAny_bind (wpAny_newList ?_ (Nat.zero_le _))
  refine wpAny_holding ?_
  have fin : ∀ (p : List Nat) (out : Array Value), out = (p.map fun i => vs.getD i Value.none).toArray → p.Perm (List.range vs.length) → (p.map fun i => ks.getD i []).Pairwise (fun x y => ltL x y = true) → P (.done (.ret .none)) { s with heap := h3.update a (Obj.mapSeq fun _ => out) } := by
    rintro p out rfl hp hs
    obtain ⟨c2, hc2⟩ : ∃ c2, (h3.update a (Obj.mapSeq fun _ => (p.map fun i => vs.getD i Value.none).toArray)).get? a = some (seqObj "list" (p.map fun i => vs.getD i Value.none).toArray c2) := ⟨_, get?_update_seq ho6 fun _ => (p.map fun i => vs.getD i Value.none).toArray⟩
    exact h _ p c2 hc2 (fun b o hb e => ((Heap.SameBut.update h3 a (Obj.mapSeq fun _ => (p.map fun i => vs.getD i Value.none).toArray)).2 b hb).trans (keep b o hb e)) hp hs
  show wpAny (model W.prog W.w) A _ P E { s with heap := ((s.heap.update a (Obj.mapSeq fun _ => (#[] : Array Value))).push (seqObj "tuple" vs.toArray 0)).push (seqObj "list" #[] 0) }
  rw [hh3]
  dsimp only
  have hsz : vs.toArray.size = vs.length := by simp
  by_cases h2 : vs.toArray.size < 2
  · rw [if_pos h2, if_pos h2]
    refine wpAny_bind (wpAny_pure ?_)
    rw [StateT.run_pure]
    refine wpAny_bind (wpAny_pure ?_)
    dsimp only
    refine wpAny_bind (seqEpoch_at ho6 rfl ?_)
    have hout : (arrOf (SortSt.mk' general' (vs.toArray.zip vs.toArray) #[] 7 none)).map (·.2) = ((List.range vs.length).map fun i => vs.getD i Value.none).toArray := by
      show (vs.toArray.zip vs.toArray).map (·.2) = _
      apply Array.toList_inj.mp
      apply List.ext_getElem?
      intro i
      by_cases hi : i < vs.length
      · simp [hi]
      · simp [hi, Nat.le_of_not_lt hi]
    refine wpAny_bind (listUpdate_at ho6 rfl ?_ (Nat.zero_le _) (by rw [hout, List.size_toArray, List.length_map, List.length_range, sizeLine_eq]; (clear h2 hsz ha hlen; lia)))
    simp only [bne_self_eq_false, Bool.false_eq_true, if_false]
    refine wpAny_pure (fin (List.range vs.length) _ hout (List.Perm.refl _) ?_)
    rw [hsz] at h2
    have : vs.length = 0 ∨ vs.length = 1 := by lia
    rcases this with e | e <;> rw [e] <;> simp [List.range_succ]
  · rw [if_neg h2, if_neg h2]
    have h2' : 2 ≤ vs.length := by rw [hsz] at h2; lia
    obtain ⟨fs, tf, hfl, hfi⟩ := kat_tups hk3 hne
    refine wpAny_bind (kat_kind (s := { s with heap := h3 }) (T := .type "int") tf (by (clear h2' ha hlen h64; lia)) (fun v hv => ?_) (by decide) ?_)
    · obtain ⟨i, t, rfl⟩ := hfi v hv
      exact Looks.of_pure rfl
    have hlt : ∀ i j C, i < vs.length → j < vs.length → C (ltL (ks.getD i []) (ks.getD j [])) { s with heap := h3 } → kas_ask W.prog W.w A (tuples' (Value.type "int" != Value.type "tuple")) vs i j C { s with heap := h3 } := by
      intro i j C hi hj hC
      obtain ⟨x, hx, rx⟩ := hk3.get (i := i) (v := kv (ks.getD i [])) (by simp [hlen, hi])
      obtain ⟨y, hy, ry⟩ := hk3.get (i := j) (v := kv (ks.getD j [])) (by simp [hlen, hj])
      unfold kas_ask
      rw [show vs.getD i Value.none = x from by simp [hx], show vs.getD j Value.none = y from by simp [hy]]
      obtain ⟨xa, xi, xn, rfl, ex, qx⟩ := kv_at rx
      obtain ⟨ya, yi, yn, rfl, ey, qy⟩ := kv_at ry
      rw [show (Value.type "int" != Value.type "tuple") = true from by decide]
      exact kat_lt ex rfl ey rfl (lex_ints _ 0 qx qy (by simp) hC)
    have O := ltL_ok nd
    rw [hlen] at O
    have run := kasWp_of (s := { s with heap := h3 }) (Q := fun p s' => s' = { s with heap := h3 } ∧ IsP vs.length p ∧ STo (fun i j => ltL (ks.getD i []) (ks.getD j [])) p vs.length) hlt (KOk.mono (fun p hp => ⟨rfl, hp⟩) (sort_ok O h2'))
    refine wpAny_bind (wpAny_mono (kat_run (Q := fun st' s' => ∃ p : Array Nat, p.size = vs.length ∧ arrOf st' = p.map (kas_item (vs.toArray.zip vs.toArray)) ∧ failedOf st' = none ∧ s' = { s with heap := h3 } ∧ IsP vs.length p ∧ STo (fun i j => ltL (ks.getD i []) (ks.getD j [])) p vs.length)
      rfl h2' h64 (fun p' st' s' a1 a2 a3 a4 => ⟨p', a1, a2, a3, a4⟩) run) ?_ fun _ _ e => e)
    rintro ⟨⟨⟩, st'⟩ s' ⟨p, hp, har, hf, rfl, hP, hS⟩
    dsimp only
    have hout : (arrOf st').map (·.2) = (p.toList.map fun i => vs.getD i Value.none).toArray := kat_snds rfl har
    refine wpAny_bind (seqEpoch_at ho6 rfl ?_)
    refine wpAny_bind (listUpdate_at ho6 rfl ?_ (Nat.zero_le _) (by rw [hout, List.size_toArray, List.length_map, Array.length_toList, hp, sizeLine_eq]; lia))
    rw [hf]
    simp only [bne_self_eq_false, Bool.false_eq_true, if_false]
    refine wpAny_pure (fin p.toList _ hout hP ?_)
    rw [List.pairwise_iff_getElem]
    intro i j hi hj hij
    simp only [List.length_map, Array.length_toList] at hi hj
    have := hS i j hij (by lia)
    simp only [Array.getD_eq_getD_getElem?, Array.getElem?_eq_getElem hi, Array.getElem?_eq_getElem hj, Option.getD_some] at this
    simpa using this
end
end RS

namespace RS
open PySem (Program World Shared Addr Value Obj Heap Str Around wpAny codeAny model Scope NameKind Expr Stmt FuncData cLine recursionLimit sizeLine mainGlobals builtinsNs PyData)
section
variable {W : Wd} {A : Around} {E : Value → Shared → Prop} {s : Shared} {σ : Hp} {Q : VP} {P : Value → Shared → Prop}

open PySem PySem.W PyProof.Rows in
theorem reps_pick {h : Heap} {ks : List (List Int)} {vs : List Value} (hk : Reps W h (ks.map kv) vs) (p : List Nat) (hp : ∀ i ∈ p, i < vs.length) : Reps W h ((p.map fun i => ks.getD i []).map kv) (p.map fun i => vs.getD i Value.none) := by
  have hlen : ks.length = vs.length := by have := hk.length; rwa [List.length_map] at this
  induction p with
  | nil => exact .nil
  | cons i p ih => exact .cons (hk.at_ i (kv (ks.getD i [])) (by simp [hlen, hp i (.head _)])) (ih fun j hj => hp j (.tail _ hj))
theorem pick_all {α : Type} (ks : List α) (d : α) : (List.range ks.length).map (fun i => ks.getD i d) = ks := by
  apply List.ext_getElem?
  intro i
  by_cases hi : i < ks.length
  · simp [hi]
  · simp [hi, Nat.le_of_not_lt hi]

open PySem PySem.W PyProof.Rows in
theorem sorted_s {v : V} {x : Value} {ks : List (List Int)} {k : Nat} (hA : Room A k) (hW : WOk W) (r : HR W σ s) (hx : Rep W s.heap v x) (hsrc : keysP σ ks v) (nd : ks.Nodup) (h64 : ks.length < 64) (hne : ∀ k ∈ ks, k ≠ [])
    (h : ∀ ys : List (List Int), ys.Perm ks → ys.Pairwise (fun x y => ltL x y = true) → newP σ (.lst (ys.map kv)) Q) (hP : Kt W σ s Q P) :
    wpAny (model W.prog W.w) A (PySem.call (.builtin "sorted") [x]) P E s := by
  refine Calls.call_function_entry kind_sorted plain_sorted entry_sorted (args_sorted1 _) ?_
  unfold Builtin.«sorted»
  refine wpAny_bind (m := checkCount "sorted" 1 1 _) (wpAny_pure ?_)
  have fin : ∀ (h' : Heap) (tk : Nat) (vs : List Value), (∀ b o, s.heap.get? b = some o → h'.get? b = some o) → Reps W h' (ks.map kv) vs →
      wpAny (model W.prog W.w) A.in1 (do
        let l ← newList vs
        let _ ← holding [l] (call (.builtin "list.sort") [l])
        ret l) (fun fin s' => ∃ v, fin = .done (.ret v) ∧ P v s') E { s with heap := h', toks := tk } := by
    intro h' tk vs hk rr
    have hlen : ks.length = vs.length := by have := rr.length; rwa [List.length_map] at this
    rw [hlen] at h64
    refine wpAny_bind (wpAny_newList ?_ (fits (Nat.le_trans (Nat.le_of_lt h64) (by decide))))
    have hoL : (h'.push (seqObj "list" vs.toArray 0)).get? h'.objs.size = some (seqObj "list" vs.toArray 0) := Heap.get?_push_size _ rfl
    have kp : ∀ b o, h'.get? b = some o → (h'.push (seqObj "list" vs.toArray 0)).get? b = some o := fun b o e => Heap.get?_push_of_some _ e
    refine wpAny_bind (wpAny_holding (wpAny_call_entry slot_list_sort ⟨_, hoL, rfl⟩ entry_list_sort (sort_tups (W := W) (s := { s with heap := h'.push (seqObj "list" vs.toArray 0), toks := tk }) (ks := ks) hoL h64 (rr.mono (.of kp)) hne nd
      fun h'' p c hg hkeep hp hs => ⟨_, rfl, wpAny_pure ⟨_, rfl, ?_⟩⟩) (args_list_sort _)))
    have hno : s.heap.get? h'.objs.size = none := by
      cases e : s.heap.get? h'.objs.size with
      | none => rfl
      | some o => exact absurd ((hk _ _ e).symm.trans (size_none _)) (Option.some_ne_none _)
    have kk : ∀ b o, s.heap.get? b = some o → h''.get? b = some o := fun b o e => hkeep b o (ne_get e hno) (kp _ _ (hk b o e))
    have kt : TupKeep h' h'' := fun b o e q => hkeep b o (ne_get e (size_none _)) (kp _ _ e)
    have hpm : ∀ i ∈ p, i < vs.length := fun i hi => List.mem_range.mp (hp.mem_iff.mp hi)
    have hperm : (p.map fun i => ks.getD i []).Perm ks := by
      have := hp.map (fun i => ks.getD i [])
      rwa [← hlen, pick_all] at this
    refine hP _ _ _ _ (h _ hperm hs _ (r.fresh hno)) (.ref _) (r.new hno kk (.lst ?_ hg ((reps_pick rr p hpm).mono kt)) tk)
    rw [List.size_toArray, List.length_map, hp.length_eq, List.length_range]
    exact Nat.le_trans (Nat.le_of_lt h64) (by decide)
  cases hsrc with
  | lst ha =>
    cases hx.ref_inv
    obtain @⟨items, n, z, e, q, l⟩ := r.lst ha
    refine wpAny_bind (collect_list (vs := items.toList) ⟨_, e, rfl, n, rfl⟩ ?_ (fits z))
    have keep : ∀ b o, s.heap.get? b = some o → ((s.heap.push (seqObj "list" #[] 0)).update s.heap.objs.size (Obj.mapSeq (· ++ items.toList.toArray))).get? b = some o := fun b o q => by
      have hlt : b < s.heap.objs.size := Heap.lt_size q
      rw [Heap.get?_update_ne _ _ _ _ (Nat.ne_of_lt hlt), Heap.get?_push_ne _ _ _ (Nat.ne_of_lt hlt)]
      exact q
    exact fin _ s.toks _ keep (q.mono (.of keep))
  | dct ha hks =>
    subst hks
    cases hx.ref_inv
    obtain @⟨des, xs, z, e, D, d, i, n, m, q, rk, l, dl⟩ := r.dct ha
    refine wpAny_bind (kdu_collect (A := A.in1) (srcE (es := des) (ep := _) (r.notSys hW ha)) hA.hand e (by rw [dl]; exact fits z) fun h' tk acc hk hacc => ?_)
    have rr := keys_reps (h := h') d m (fun x hx => (rk x hx).mono (.of hk)) hacc
    refine fin h' tk _ hk ?_
    rwa [List.map_map]


theorem bi_sound {g : Glb} {f : Bi} {vs : List V} {xs : List Value} {k : Nat} (hg : g.ns = W.ns) (hW : WOk W) (hA : Room A k) (r : HR W σ s) (hx : Reps W s.heap vs xs) (h : biP g σ Q f vs) (hP : Kt W σ s Q P) :
    wpAny (model W.prog W.w) A (PySem.call (biV f) xs) P E s := by
  cases h with
  | lenS h =>
    obtain ⟨x, rfl, q⟩ := hx.one_inv
    cases q.script_inv
    obtain ⟨items, n, z, e, q⟩ := hW.script
    refine PySem.Calls.call_len_list ⟨_, r.base _ _ e, rfl, n, rfl⟩ (by lia) (hP _ _ _ _ h ?_ (r.tok _ _))
    have hl := (q s.heap).len
    rw [List.length_map] at hl
    rw [hg, hl]; exact .int _ _
  | lenL ha h =>
    obtain ⟨x, rfl, q⟩ := hx.one_inv
    cases q.ref_inv
    obtain ⟨z, e, q, l⟩ := r.lst ha
    refine PySem.Calls.call_len_list ⟨_, e, rfl, _, rfl⟩ (by (clear l; omega)) (hP _ _ _ _ h ?_ (r.tok _ _))
    rw [l]; exact .int _ _
  | lenD ha h => obtain ⟨x, rfl, q⟩ := hx.one_inv; cases q.ref_inv; exact len_dct_s hW r ha h hP
  | min2 h =>
    obtain ⟨x, y, rfl, q, q'⟩ := hx.two_inv; obtain ⟨t, rfl⟩ := q.int_inv; obtain ⟨u, rfl⟩ := q'.int_inv
    refine PySem.min_two_ints hA.hand fun h' tk hk => hP _ _ _ _ h ?_ (r.grow hk tk [])
    split
    · rename_i c; rw [Int.min_eq_right (Int.le_of_lt c)]; exact .int _ _
    · rename_i c; rw [Int.min_eq_left (Int.not_lt.mp c)]; exact .int _ _
  | max2 h =>
    obtain ⟨x, y, rfl, q, q'⟩ := hx.two_inv; obtain ⟨t, rfl⟩ := q.int_inv; obtain ⟨u, rfl⟩ := q'.int_inv
    refine PySem.max_two_ints hA.hand fun h' tk hk => hP _ _ _ _ h ?_ (r.grow hk tk [])
    split
    · rename_i c; rw [Int.max_eq_right (Int.le_of_lt c)]; exact .int _ _
    · rename_i c; rw [Int.max_eq_left (Int.not_lt.mp c)]; exact .int _ _
  | maxL ha hn h =>
    obtain ⟨x, rfl, q⟩ := hx.one_inv; cases q.ref_inv
    obtain ⟨z, e, q, l⟩ := r.lst ha
    obtain ⟨xs, rfl, rfl⟩ := ints_items q
    have hsz : 0 < xs.size := Nat.pos_of_ne_zero fun h0 => hn (by rw [Array.eq_empty_of_size_eq_zero h0]; rfl)
    refine PySem.max_intList hA.hand ⟨_, e, rfl, _, rfl⟩ hsz fun v h' tk hv hk => ?_
    obtain ⟨t, rfl⟩ := PySem.intItems_at hv
    obtain ⟨h1, h2⟩ := PySem.argBest_gt (PySem.numAt xs) (xs.size - 1)
    refine hP _ _ _ _ (h _ (numAt_get (by (clear l hn z; omega))) fun b hb => ?_) (.int _ t) (r.grow hk tk [])
    obtain ⟨i, hi', rfl⟩ := numAt_mem hb
    exact h2 i (Nat.le_sub_one_of_lt hi')
  | sum ha h =>
    obtain ⟨x, rfl, q⟩ := hx.one_inv; cases q.ref_inv
    obtain ⟨z, e, q, l⟩ := r.lst ha
    obtain ⟨xs, rfl, rfl⟩ := ints_items q
    refine PySem.sum_intListG hA.hand ⟨_, e, rfl, _, rfl⟩ fun h' tk t' hk => ?_
    rw [preSum_is]
    exact hP _ _ _ _ h (.int _ _) (r.grow hk tk [])
  | int h => obtain ⟨x, rfl, q⟩ := hx.one_inv; cases q.bool_inv; exact PySem.call_int_bool (hP _ _ _ _ h (.int _ _) (r.tok _ _))
  | isi hT hb h => obtain ⟨x, y, rfl, q, q'⟩ := hx.two_inv; cases q'.typ_inv; exact isi_sound r q hT hb h hP
  | listT h => obtain ⟨x, rfl, q⟩ := hx.one_inv; obtain ⟨a, items, n, rfl, z, e, q2⟩ := q.tup_inv; exact seqList r (.inr rfl) z e q2 h hP
  | listD ha h => obtain ⟨x, rfl, q⟩ := hx.one_inv; cases q.ref_inv; exact list_dct_s hA hW r ha h hP
  | tuple ha h =>
    obtain ⟨x, rfl, q⟩ := hx.one_inv; cases q.ref_inv
    obtain ⟨z, e, q, l⟩ := r.lst ha
    refine PySem.call_tuple_list ⟨_, e, rfl, _, rfl⟩ (fun h' hk => ?_) (fits z)
    have st := r.grow hk s.toks []
    exact newTuple_s (xs := _) st.hr z (q.mono (st.tup0 r)) h s.toks (hP.step st)
  | all ha h => obtain ⟨x, rfl, q⟩ := hx.one_inv; cases q.ref_inv; exact all_s hA r ha h hP
  | set ha hk hn h => obtain ⟨x, rfl, q⟩ := hx.one_inv; cases q.ref_inv; exact set_s hA r ha hk hn h hP
  | lenSet ha h => obtain ⟨x, rfl, q⟩ := hx.one_inv; cases q.ref_inv; exact lenset_s r ha h hP
  | sort2 ha h => obtain ⟨x, rfl, q⟩ := hx.one_inv; cases q.ref_inv; exact sort2_s r ha h hP
  | sorted hk nd hl hne h => obtain ⟨x, rfl, q⟩ := hx.one_inv; exact sorted_s hA hW r q hk nd hl hne h hP
end
end RS

namespace RS
open PySem (Program World Shared Addr Value Obj Heap Str Around wpAny codeAny model Scope NameKind Expr Stmt FuncData cLine recursionLimit sizeLine mainGlobals builtinsNs PyData)

/-- an iterator over items -/
structure Iter (W : Wd) (A : Around) (I : Addr) (vs : List V) (chk : Hp → Prop) (St : Nat → Heap → Prop) : Prop where
  frame : ∀ i h h', St i h → (∀ o, h.get? I = some o → h'.get? I = some o) → TupKeep h h' → St i h'
  it : ∀ i h, St i h → ∃ o, h.get? I = some o ∧ ¬ isTup o ∧ ∀ es ep, o.data ≠ .dict es ep
  item : ∀ i (s : Shared) (σ : Hp) (v : V) (Q : Option Value → Shared → Prop) (E : Value → Shared → Prop), vs[i]? = some v → St i s.heap → HR W σ s → chk σ →
    (∀ x h' tk, Rep W h' v x → St (i + 1) h' → PySem.Heap.ExtBut I s.heap h' → Q (some x) { s with heap := h', toks := tk }) → wpAny (model W.prog W.w) A (PySem.pyNext (.ref I)) Q E s
  done : ∀ (s : Shared) (σ : Hp) (Q : Option Value → Shared → Prop) (E : Value → Shared → Prop), St vs.length s.heap → HR W σ s → chk σ →
    (∀ h' tk, PySem.Heap.ExtBut I s.heap h' → Q none { s with heap := h', toks := tk }) → wpAny (model W.prog W.w) A (PySem.pyNext (.ref I)) Q E s
  self : ∀ i (s : Shared) (Q : Value → Shared → Prop) (E : Value → Shared → Prop), St i s.heap → Q (.ref I) s → wpAny (model W.prog W.w) A (PySem.pyIter (.ref I)) Q E s

section
variable {W : Wd} {A : Around} {I : Addr} {vs : List V} {chk : Hp → Prop} {St : Nat → Heap → Prop} {σ σ' : Hp} {s s' : Shared} {own : List Addr} {i : Nat}
theorem Iter.nt (x : Iter W A I vs chk St) {h : Heap} (st : St i h) : ∃ o, h.get? I = some o ∧ ¬ isTup o := (by obtain ⟨o, e, n, _⟩ := x.it i h st; exact ⟨o, e, n⟩)
/-- it stays, over a step that does not touch it -/
theorem Iter.step (x : Iter W A I vs chk St) (g : Step W own σ s σ' s') (r : HR W σ s) (ow : Own own s.heap) (hσ : σ I = none) (hI : I ∉ own) (st : St i s.heap) : St i s'.heap ∧ σ' I = none := by
  obtain ⟨o, e, n, hf⟩ := x.it _ _ st
  exact ⟨x.frame _ _ _ st (fun o' e' => by
    obtain rfl := Option.some.inj (e.symm.trans e')
    exact g.exact e hσ hI hf) (g.tups r ow), g.none_ _ _ e hσ⟩

theorem Iter.list (hh : A.handled = none) (I a : Addr) (vs : List V) :
    Iter W A I vs (fun σ => σ a = some (.lst vs)) (fun i h => h.IsListIter I a i) where
  frame i h h' st k _ := st.at k
  it i h st := (by obtain ⟨o, e, c, d⟩ := st; exact ⟨o, e, notTup_cls fun q => absurd (Value.type.inj (c.symm.trans q)) (by decide), fun _ _ q => PySem.Data.noConfusion (d.symm.trans q)⟩)
  item i s σ v Q E hv st r hc hQ := by
    obtain ⟨z, e, q, l⟩ := r.lst hc
    obtain ⟨x, hx, rx⟩ := q.get hv
    refine PySem.wpAny_pyNext_list_item st ⟨_, e, rfl, _, rfl⟩ (by rwa [← Array.getElem?_toList]) fun h' hit hs => ?_
    obtain ⟨o, eo, co, _⟩ := st
    exact hQ x h' s.toks (rx.mono (tups_but hs.extBut ⟨o, eo, notTup_cls fun q => absurd (Value.type.inj (co.symm.trans q)) (by decide)⟩)) hit hs.extBut
  done s σ Q E st r hc hQ := by
    obtain ⟨z, e, q, l⟩ := r.lst hc
    exact PySem.wpAny_pyNext_list_end hh st ⟨_, e, rfl, _, rfl⟩ (by rw [l]; exact Array.getElem?_size) fun h' he => hQ h' s.toks he
  self i s Q E st h := PySem.wpAny_pyIter_listiter st h

theorem Iter.tuple (hh : A.handled = none) (I a : Addr) (vs : List V) :
    Iter W A I vs (fun _ => True) (fun i h => h.IsTupleIter I a i ∧ Rep W h (.tup vs) (.ref a)) where
  frame i h h' st k kt := ⟨(by obtain ⟨o, e, r⟩ := st.1; exact ⟨o, k o e, r⟩), st.2.mono kt⟩
  it i h st := (by obtain ⟨⟨o, e, c, d⟩, _⟩ := st; exact ⟨o, e, notTup_cls fun q => absurd (Value.type.inj (c.symm.trans q)) (by decide), fun _ _ q => PySem.Data.noConfusion (d.symm.trans q)⟩)
  item i s σ v Q E hv st r hc hQ := by
    obtain ⟨a', items, n, ha, z, e, q⟩ := st.2.tup_inv
    cases ha
    obtain ⟨x, hx, rx⟩ := q.get hv
    refine PySem.wpAny_pyNext_tuple_item st.1 ⟨_, e, rfl, n, rfl⟩ (by rwa [← Array.getElem?_toList]) fun h' hit hs => ?_
    obtain ⟨⟨o, eo, co, _⟩, _⟩ := id st
    have kt := tups_but hs.extBut ⟨o, eo, notTup_cls fun q => absurd (Value.type.inj (co.symm.trans q)) (by decide)⟩
    exact hQ x h' s.toks (rx.mono kt) ⟨hit, st.2.mono kt⟩ hs.extBut
  done s σ Q E st r hc hQ := by
    obtain ⟨a', items, n, ha, z, e, q⟩ := st.2.tup_inv
    cases ha
    exact PySem.wpAny_pyNext_tuple_end hh st.1 ⟨_, e, rfl, n, rfl⟩ (by rw [q.len]; exact Array.getElem?_size) fun h' he => hQ h' s.toks he
  self i s Q E st h := PySem.wpAny_pyIter_tupleiter st.1 h

theorem Iter.dct (hh : A.handled = none) (I a : Addr) (es : List (List Int × V)) (ep : Nat) :
    Iter W A I (es.map fun e => kv e.1) (fun σ => σ a = some (.dct es ep)) (fun i h => h.IsKeyIter I a i es.length ep) where
  frame i h h' st k _ := st.at k
  it i h st := (by obtain ⟨o, e, c, d⟩ := st; exact ⟨o, e, notTup_cls fun q => absurd (Value.type.inj (c.symm.trans q)) (by decide), fun _ _ q => PySem.Data.noConfusion (d.symm.trans q)⟩)
  item i s σ v Q E hv st r hc hQ := by
    obtain @⟨des, xs, z, e, D, d, is, nd, m, q, rk, l, dl⟩ := r.dct hc
    rw [map_kv m, List.getElem?_map] at hv
    obtain ⟨x, hx, rfl⟩ := Option.map_eq_some_iff.mp hv
    have hi : i < des.size := dl ▸ (List.getElem?_eq_some_iff.mp hx).1
    rw [l.trans dl.symm] at st
    refine keysE_item st e hi fun h' hit hs => ?_
    obtain ⟨o, eo, co, _⟩ := st
    have kt := tups_but hs.extBut ⟨o, eo, notTup_cls fun q => absurd (Value.type.inj (co.symm.trans q)) (by decide)⟩
    have hkey : des[i].key = .ref x.2.1 := by
      have h1 : des[i]? = (xs[i]?).map (PySem.entryOfKey (tk W)) := PySem.entry_at d i
      rw [Array.getElem?_eq_getElem hi, hx] at h1
      rw [Option.some.inj h1]; rfl
    rw [hkey]
    exact hQ _ h' s.toks ((rk _ (List.mem_of_getElem? hx)).mono kt) (by rw [l.trans dl.symm]; exact hit) hs.extBut
  done s σ Q E st r hc hQ := by
    obtain @⟨des, xs, z, e, D, d, is, nd, m, q, rk, l, dl⟩ := r.dct hc
    rw [List.length_map, l.trans dl.symm] at st
    exact keysE_end hh st e (Nat.le_refl _) fun h' he => hQ h' s.toks he
  self i s Q E st h := PySem.wpAny_pyIter_keyiter st h

theorem rangeL_get {lo hi : Int} {i : Nat} {v : V} (h : (rangeL lo hi)[i]? = some v) : v = .int (lo + i) ∧ i < (hi - lo).toNat := by
  unfold rangeL at h
  rw [List.getElem?_map] at h
  obtain ⟨j, hj, rfl⟩ := Option.map_eq_some_iff.mp h
  obtain ⟨hj', e⟩ := List.getElem?_eq_some_iff.mp hj
  rw [List.getElem_range] at e
  subst e
  exact ⟨rfl, by rwa [List.length_range] at hj'⟩
theorem rangeL_length (lo hi : Int) : (rangeL lo hi).length = (hi - lo).toNat := by unfold rangeL; rw [List.length_map, List.length_range]
theorem range_up (lo : Int) (i : Nat) : lo + ((i + 1 : Nat) : Int) = lo + i + 1 := by lia
theorem range_down (d : Int) (i : Nat) : d - ((i + 1 : Nat) : Int) = d - i - 1 := by lia

theorem Iter.range (hh : A.handled = none) (I : Addr) (lo hi : Int) :
    Iter W A I (rangeL lo hi) (fun _ => True) (fun i h => PySem.IsRangeIter h I (lo + i) (((hi - lo).toNat : Int) - i) 1) where
  frame i h h' st k _ := k _ st
  it i h st := ⟨_, st, notTup_type (by decide), fun _ _ q => PySem.Data.noConfusion q⟩
  item i s σ v Q E hv st r hc hQ := by
    obtain ⟨rfl, hi'⟩ := rangeL_get hv
    refine PySem.wpAny_pyNext_range_item st (Int.sub_pos_of_lt (Int.ofNat_lt.mpr hi')) fun h' hit hs => hQ _ h' _ (.int _ _) ?_ hs.extBut
    rw [range_up, range_down]; exact hit
  done s σ Q E st r hc hQ := by
    rw [rangeL_length] at st
    exact PySem.wpAny_pyNext_range_end hh st (by rw [Int.sub_self]; decide) fun h' he => hQ h' s.toks he
  self i s Q E st h := PySem.wpAny_pyIter_rangeiter st h
theorem Iter.longrange (hh : A.handled = none) (I : Addr) (lo hi : Int) :
    Iter W A I (rangeL lo hi) (fun _ => True) (fun i h => PySem.IsLongIter h I (lo + i) (((hi - lo).toNat : Int) - i) 1) where
  frame i h h' st k _ := k _ st
  it i h st := ⟨_, st, notTup_type (by decide), fun _ _ q => PySem.Data.noConfusion q⟩
  item i s σ v Q E hv st r hc hQ := by
    obtain ⟨rfl, hi'⟩ := rangeL_get hv
    refine PySem.wpAny_pyNext_long_item st (Int.sub_pos_of_lt (Int.ofNat_lt.mpr hi')) fun h' hit hs => hQ _ h' _ (.int _ _) ?_ hs.extBut
    rw [range_up, range_down]; exact hit
  done s σ Q E st r hc hQ := by
    rw [rangeL_length] at st
    exact PySem.wpAny_pyNext_long_end hh st (by rw [Int.sub_self]; decide) fun h' he => hQ h' s.toks he
  self i s Q E st h := PySem.wpAny_pyIter_longiter st h

/-- what comes behind the head of a loop -/
noncomputable def SrcK (W : Wd) (A : Around) (σ : Hp) (s : Shared) (K : SrcP) (P : Value → Shared → Prop) : Prop :=
  ∀ I items chk St σ' s', Iter W A I items chk St → St 0 s'.heap → σ' I = none → s.heap.get? I = none → K items chk σ' → Step W [] σ s σ' s' → P (.ref I) s'
theorem SrcK.step {K : SrcP} {P : Value → Shared → Prop} (k : SrcK W A σ s K P) (st : Step W [] σ s σ' s') : SrcK W A σ' s' K P :=
  fun I items chk St τ s'' it h0 hσ hn hK st' => k I items chk St τ s'' it h0 hσ (st.fresh hn) hK (st.trans st')
theorem newFs {t : String} {fs : Array Value} (b : Addr) (o : Obj) (e : s.heap.get? b = some o) : (s.heap.push { cls := .type t, data := .fields fs }).get? b = some o := PySem.Heap.get?_push_of_some _ e

theorem src_sound {E : Value → Shared → Prop} {P : Value → Shared → Prop} {v : V} {x : Value} {k : Nat} {K : SrcP} (hA : Room A k) (hW : WOk W) (r : HR W σ s) (hx : Rep W s.heap v x) (h : srcP σ K v) (hP : SrcK W A σ s K P) : wpAny (model W.prog W.w) A (PySem.pyIter x) P E s := by
  cases h with
  | tup h =>
    obtain ⟨a, items, n, rfl, z, e, q⟩ := hx.tup_inv
    refine PySem.wpAny_pyIter_tuple ⟨_, e, rfl, n, rfl⟩ ?_
    have st := r.grow (newFs (t := "tuple_iterator") (fs := #[.ref a, .int 0 0])) s.toks []
    exact hP _ _ _ _ _ _ (Iter.tuple hA.hand _ a _) ⟨⟨_, PySem.Heap.get?_push_size _ rfl, rfl, rfl⟩, hx.mono (st.tup0 r)⟩ r.fresh' (size_none _) h st
  | lst ha h =>
    cases hx.ref_inv
    obtain ⟨z, e, q, l⟩ := r.lst ha
    refine PySem.wpAny_pyIter_list ⟨_, e, rfl, _, rfl⟩ ?_
    exact hP _ _ _ _ _ _ (Iter.list hA.hand _ _ _) ⟨_, PySem.Heap.get?_push_size _ rfl, rfl, rfl⟩ r.fresh' (size_none _) h (r.grow newFs s.toks [])
  | dct ha h =>
    cases hx.ref_inv
    obtain @⟨des, xs, z, e, D, d, i, n, m, q, rk, l, dl⟩ := r.dct ha
    refine keysE_iter (r.notSys hW ha) e ?_
    rw [dl, ← l]
    exact hP _ _ _ _ _ _ (Iter.dct hA.hand _ _ _ _) ⟨_, PySem.Heap.get?_push_size _ rfl, rfl, rfl⟩ r.fresh' (size_none _) h (r.grow newFs s.toks [])

theorem range_any {E : Value → Shared → Prop} {P : Value → Shared → Prop} {lo hi : Int} {t u r₀ : Nat} {x k : Nat} {K : SrcP} (hA : Room A k) (r : HR W σ s) (hr : PySem.IsRange s.heap x lo hi 1 t u r₀) (hK : K (rangeL lo hi) (fun _ => True) σ) (hP : SrcK W A σ s K P) :
    wpAny (model W.prog W.w) A (PySem.pyIter (.ref x)) P E s := by
  have hsz : PySem.Builtin.Range.rangeSize lo hi 1 = ((hi - lo).toNat : Int) := by
    unfold PySem.Builtin.Range.rangeSize; rw [if_pos (by decide)]; split <;> lia
  have e0 : ∀ d : Int, d - ((0 : Nat) : Int) = d := fun d => Int.sub_zero d
  have e1 : lo + ((0 : Nat) : Int) = lo := Int.add_zero lo
  cases hs : PySem.Builtin.Range.small lo hi 1 with
  | true =>
    refine PySem.wpAny_pyIter_range hr hs ?_
    rw [hsz]
    exact hP _ _ _ _ _ _ (Iter.range hA.hand _ lo hi) (by rw [e0, e1]; exact PySem.Heap.get?_push_size _ rfl) r.fresh' (size_none _) hK (r.grow newFs s.toks [])
  | false =>
    refine PySem.wpAny_pyIter_longrange hr hs ?_
    rw [hsz]
    exact hP _ _ _ _ _ _ (Iter.longrange hA.hand _ lo hi) (by rw [e0, e1]; exact PySem.Heap.get?_push_size _ rfl) r.fresh' (size_none _) hK (r.grow newFs s.toks [])
end
end RS

namespace RS
open PySem (Program World Shared Addr Value Obj Heap Str Around wpAny codeAny model Scope NameKind Expr Stmt FuncData cLine recursionLimit sizeLine mainGlobals builtinsNs PyData)

/-! ## from the text's trees to the small language -/
abbrev Ks := List (Str × NameKind)
noncomputable def nm (s : Str) : Option String := if Str.ofString s.toString = s then some s.toString else none
theorem nm_is {s : Str} {x : String} (h : nm s = some x) : s = Str.ofString x := by
  unfold nm at h; split at h
  · rename_i e; cases h; exact e.symm
  · cases h
noncomputable def isVar (ks : Ks) (s : Str) : Bool := match ks.lookup s with | some .local | some .cell | some .free => true | _ => false
noncomputable def isGlob (ks : Ks) (s : Str) : Bool := ks.lookup s == some .globalImplicit
noncomputable def isOwn (ks : Ks) (s : Str) : Bool := match ks.lookup s with | some .local | some .cell => true | _ => false
noncomputable def bopOf : PySem.Operator → Option Bop
  | .Add => some .add | .Sub => some .sub | .Mult => some .mul | .FloorDiv => some .fdiv | .Mod => some .mod | _ => none
noncomputable def copOf : PySem.CmpOp → Cop
  | .Eq => .eq | .NotEq => .ne | .Lt => .lt | .LtE => .le | .Gt => .gt | .GtE => .ge | .Is => .is | .IsNot => .isNot | .In => .isIn | .NotIn => .notIn
noncomputable def biOf (x : String) : Option Bi := List.lookup x [("len", .len), ("min", .min), ("max", .max), ("sum", .sum), ("int", .int), ("isinstance", .isinstance), ("list", .list), ("tuple", .tuple), ("set", .set), ("all", .all), ("sorted", .sorted)]
noncomputable def meOf (n : Nat) (m : String) : Me := match List.lookup m [("append", Me.append), ("pop", if n = 0 then .pop else .own m), ("index", .index), ("get", .get), ("update", .update)] with
  | some k => k
  | none => .own m
noncomputable def meStr : Me → String
  | .append => "append" | .pop => "pop" | .index => "index" | .get => "get" | .update => "update"
  | .own m => m
/-- the base of a method or an attribute: no super() -/
noncomputable def plainBase : Expr → Bool
  | .Name .. | .Attribute .. | .Subscript .. => true
  | _ => false
noncomputable def isSetE : Expr → Bool
  | .Set .. => true
  | _ => false
noncomputable def isSlice : Expr → Bool
  | .Slice .. => true
  | _ => false
noncomputable def isComp : Expr → Bool
  | .ListComp .. | .SetComp .. | .DictComp .. => true
  | _ => false
noncomputable def relabelK (ks names : Ks) : Ks := names.map fun (n, k) => if k == .free && ks.lookup n == some .cell then (n, .cell) else (n, k)
noncomputable def notStar : Expr → Bool
  | .Starred .. => false
  | _ => true

section
variable {α β γ δ : Type}
noncomputable def oif (c : Bool) (a : Option α) : Option α := if c = true then a else none
noncomputable def o1 (f : α → γ) (a : Option α) : Option γ := match a with | some x => some (f x) | none => none
noncomputable def o2 (f : α → β → γ) (a : Option α) (b : Option β) : Option γ := match a, b with | some x, some y => some (f x y) | _, _ => none
noncomputable def o3 (f : α → β → δ → γ) (a : Option α) (b : Option β) (c : Option δ) : Option γ := o2 (fun f z => f z) (o2 f a b) c
theorem oif_inv {c : Bool} {a : Option α} {z : α} {C : Prop} (h : oif c a = some z) (k : c = true → a = some z → C) : C := by
  cases c with
  | true => exact k rfl h
  | false => cases h
theorem ob_inv {a : Option α} {f : α → Option β} {z : β} {C : Prop} (h : Option.bind a f = some z) (k : ∀ x, a = some x → f x = some z → C) : C := by
  cases a with
  | none => cases h
  | some x => exact k x rfl h
@[elab_as_elim] theorem o1_inv {f : α → γ} {a : Option α} {z : γ} {P : γ → Prop} (h : o1 f a = some z) (k : ∀ x, a = some x → P (f x)) : P z := by
  cases a with
  | none => cases h
  | some x => cases h; exact k x rfl
@[elab_as_elim] theorem o2_inv {f : α → β → γ} {a : Option α} {b : Option β} {z : γ} {P : γ → Prop} (h : o2 f a b = some z) (k : ∀ x y, a = some x → b = some y → P (f x y)) : P z := by
  cases a with
  | none => cases h
  | some x => cases b with
    | none => cases h
    | some y => cases h; exact k x y rfl rfl
@[elab_as_elim] theorem o3_inv {f : α → β → δ → γ} {a : Option α} {b : Option β} {c : Option δ} {z : γ} {P : γ → Prop} (h : o3 f a b c = some z) (k : ∀ x y w, a = some x → b = some y → c = some w → P (f x y w)) : P z :=
  o2_inv (P := P) h fun g w e1 e2 => by
    cases a with
    | none => cases e1
    | some x => cases b with
      | none => cases e1
      | some y => cases e1; exact k x y w rfl rfl e2
end

noncomputable def constX : PySem.Const → Option X
  | .none => some .none
  | .bool b => some (.bool b)
  | .int i => some (.num i)
  | .str s => o1 .str (nm s)
  | _ => none
noncomputable def nameX (ks : Ks) (id : Str) : Option X := oif (!(id == ("__debug__" : Str) || id == ("__classdict__" : Str) || id == (".0" : Str))) (if isVar ks id then o1 .var (nm id) else oif (isGlob ks id) (o1 .glob (nm id)))
section
variable (rec : Ks → Expr → Option X)
noncomputable def listX (ks : Ks) (es : List Expr) : Option (List X) := optAll (fun e => oif (notStar e) (rec ks e)) es
noncomputable def optX (ks : Ks) : Option Expr → Option X
  | none => some .none
  | some e => rec ks e
noncomputable def bopL (ks : Ks) : Expr → List Expr → Option (List X × X)
  | e, [] => o1 (fun x => ([], x)) (rec ks e)
  | e, e' :: es => o2 (fun x p => (x :: p.1, p.2)) (rec ks e) (bopL ks e' es)
noncomputable def callX (x : String) (as : List X) : Option X := match biOf x with
  | some b => some (.bi b as)
  | none => oif (!(x == "range")) (some (.call x as))
noncomputable def rangeX (ks : Ks) (args : List Expr) : Option Src := match args with
  | [hi] => oif (notStar hi) (o1 .range1 (rec ks hi))
  | [lo, hi] => oif (notStar lo && notStar hi) (o2 .range2 (rec ks lo) (rec ks hi))
  | _ => none
noncomputable def srcX (ks : Ks) : Expr → Option Src
  | .Call (.Name f p) args kws pos => if (f == ("range" : Str) && isGlob ks f) = true then oif kws.isEmpty (rangeX rec ks args) else o1 .of (rec ks (.Call (.Name f p) args kws pos))
  | e => o1 .of (rec ks e)
noncomputable def compOk (ks : Ks) (sc : Scope) (x : Str) (iter : Expr) (ifs : List Expr) : Bool :=
  !isSetE iter && (sc.kind == .function) && (sc.names.all fun y => y.2 != .cell) && (sc.names.lookup x == some .local) && (sc.names.all fun y => y.2 != .local || sc.names.lookup y.1 == some .local)
    && (sc.names.all fun y => y.2 != .free || ks.lookup y.1 == some .cell) && (sc.names.all fun y => y.1 == x || y.1 == (".0" : Str) || y.2 != .local) && !(x == (".0" : Str)) && decide (ifs.length ≤ 1)

noncomputable def stepE (ks : Ks) : Expr → Option X
  | .Constant c _ _ => constX c
  | .Name id _ => nameX ks id
  | .BinOp l op r _ => o3 .bin (bopOf op) (rec ks l) (rec ks r)
  | .UnaryOp op x _ => match op with
    | .USub => o1 .neg (rec ks x)
    | .Not => o1 .not (rec ks x)
    | _ => none
  | .BoolOp op vs _ => match vs with
    | v :: v' :: vs => o1 (fun p => .bop (op == .And) p.1 p.2) (bopL rec ks v (v' :: vs))
    | _ => none
  | .Compare l ops cs _ => match ops, cs with
    | [op], [r] => oif (!isSetE r) (o2 (fun a b => .cmp a (copOf op) b) (rec ks l) (rec ks r))
    | [op, op2], [r, r2] => oif (!isSetE r2) (o3 (fun a b c => .cmp2 a (copOf op) b (copOf op2) c) (rec ks l) (rec ks r) (rec ks r2))
    | _, _ => none
  | .Call f args kws pos => match f, kws with
    | .Name f _, [] => oif (!(f == ("__debug__" : Str)) && isGlob ks f && !args.isEmpty) (Option.bind (nm f) fun x => Option.bind (listX rec ks args) fun as => callX x as)
    | .Attribute o m apos, [] => oif (plainBase o && (apos.endLine == pos.line) && decide (args.length ≤ 20)) (Option.bind (nm m) fun m' => oif (meStr (meOf args.length m') == m') (o2 (fun x as => .meth x (meOf args.length m') as) (rec ks o) (listX rec ks args)))
    | _, _ => none
  | .Subscript v sl _ => match sl with
    | .Slice l u step _ => match step with
      | none => o3 .slice (rec ks v) (optX rec ks l) (optX rec ks u)
      | _ => none
    | i => o2 .idx (rec ks v) (rec ks i)
  | .Attribute o a _ => oif (plainBase o) (o2 .attr (rec ks o) (nm a))
  | .Tuple es _ _ => oif (decide (es.length ≤ 100)) (o1 .tup (listX rec ks es))
  | .List es _ => oif (decide (es.length ≤ 100)) (o1 .lst (listX rec ks es))
  | .Dict keys vals _ => match keys, vals with
    | [], [] => some .emptyDict
    | [some k], [v] => o2 .dict1 (rec ks k) (rec ks v)
    | _, _ => none
  | .ListComp elt gens sc _ => match gens with
    | [g] => match g.target with
      | .Name x _ => oif (decide (g.is_async = 0) && compOk ks sc x g.iter g.ifs) (o2 (fun p q => X.comp q.1 p.2 p.1 q.2) (o2 Prod.mk (srcX rec ks g.iter) (nm x)) (o2 Prod.mk (rec (relabelK ks sc.names) elt) (optAll (rec (relabelK ks sc.names)) g.ifs)))
      | _ => none
    | _ => none
  | _ => none
end
noncomputable def compE : Nat → Ks → Expr → Option X
  | 0 => fun _ _ => none
  | n + 1 => stepE (compE n)

section
variable (n : Nat)
noncomputable def targetT (ks : Ks) : Expr → Option T
  | .Name x _ => oif (isOwn ks x) (o1 .var (nm x))
  | .Subscript o i _ => oif (!isSlice i) (o2 .idx (compE n ks o) (compE n ks i))
  | .Attribute o a _ => oif (plainBase o) (o2 .attr (compE n ks o) (nm a))
  | _ => none
/-- an exception, made and raised -/
noncomputable def raiseS (ks : Ks) (e c : Option Expr) : Option S := match c with
  | some _ => none
  | none => match e with
    | none => none
    | some e => match e with
      | .Call f as kws _ => match f, as, kws with
        | .Name c _, [a], [] => match a with
          | .Constant t _ _ => match t with
            | .str _ => oif (isGlob ks c && (excNames.map Str.ofString).contains c && !(c == ("__debug__" : Str))) (o1 .raise (nm c))
            | _ => none
          | _ => none
        | _, _, _ => none
      | _ => none
/-- what is done with it -/
noncomputable def excAll : List String := "SheetError" :: excNames
noncomputable def constV : PySem.Const → Option V
  | .none => some .none
  | .bool b => some (.bool b)
  | .str t => o1 .str (nm t)
  | _ => none
noncomputable def retH (n : Option Str) (e : Expr) : Option Hb := match n with
  | none => match e with
    | .Constant c _ _ => o1 .ret (constV c)
    | _ => none
  | some _ => none
noncomputable def hdOf (ks : Ks) : PySem.ExceptHandler → Option Hd
  | .ExceptHandler t n b _ => match t, b with
    | some t, [b] => match t, b with
      | .Name c _, .Return (some e) _ => oif (isGlob ks c && (excAll.map Str.ofString).contains c && !(c == ("__debug__" : Str))) (o2 Hd.mk (nm c) (retH n e))
      | _, _ => none
    | _, _ => none
noncomputable def stepS (rec : Ks → Stmt → Option S) (ks : Ks) : Stmt → Option S
  | .Return e _ => match e with
    | some e => o1 .ret (compE n ks e)
    | none => none
  | .Expr e _ => oif (!isComp e) (o1 .expr (compE n ks e))
  | .Assign ts v _ => match ts with
    | [t] => o2 .assign (targetT n ks t) (compE n ks v)
    | _ => none
  | .If t b o _ => o3 .ite (compE n ks t) (optAll (rec ks) b) (optAll (rec ks) o)
  | .For t iter b o _ => match t, o with
    | .Name x _, [] => oif (isOwn ks x && !isSetE iter) (o3 .for_ (nm x) (srcX (compE n) ks iter) (optAll (rec ks) b))
    | _, _ => none
  | .While t b o _ => match o with
    | [] => o2 .while_ (compE n ks t) (optAll (rec ks) b)
    | _ => none
  | .Raise e c _ => raiseS ks e c
  | .Try b hs o f _ => match hs, o, f with
    | h :: hs, [], [] => o2 .try_ (optAll (rec ks) b) (optAll (hdOf ks) (h :: hs))
    | _, _, _ => none
  | _ => none
end
noncomputable def compS : Nat → Ks → Stmt → Option S
  | 0 => fun _ _ => none
  | n + 1 => stepS n (compS n)
noncomputable def compSs (n : Nat) (ks : Ks) (ss : List Stmt) : Option (List S) := optAll (compS n ks) ss
end RS

namespace RS
open PySem (Program World Shared Addr Value Obj Heap Str Around wpAny codeAny model Scope NameKind Expr Stmt FuncData cLine recursionLimit sizeLine mainGlobals builtinsNs PyData)
open PySem PyProof.Rows

/-! ## objects of a plain class  -/
noncomputable def methAll : List String := "__init__" :: methNames
/-- a class of the text, as its top leaves it -/
structure ClsIs (W : Wd) (c : String) (C N : Addr) (mN : Str → Option Value) : Prop where
  at_ : W.cls c = some C
  cls : ClsAt W.s₀.heap C N mN
  q1 : mN "__getattribute__" = none
  q2 : mN "__getattr__" = none
  q3 : mN "__setattr__" = none
  attr : ∀ n ∈ attrNames, mN (Str.ofString n) = none
  meth : ∀ n ∈ methAll, Ex3 fun (f : Addr) (o : Obj) (fd : FuncData) => A5 (mN (Str.ofString n) = some (.ref f)) (W.s₀.heap.get? f = some o) (o.cls = .type "function") (o.data = .func fd) (W.fn (c ++ "." ++ n) = some f)
theorem meth_type : ∀ n ∈ methNames, typeLookup (.type "object") (Str.ofString n) = pure none := by
  intro n hn
  simp only [methNames, List.mem_cons, List.not_mem_nil, or_false] at hn
  rcases hn with rfl | rfl | rfl | rfl | rfl | rfl | rfl | rfl <;> (rw [typeLookup_type, builtinLookup_eq_fast]; kernel_rfl)
theorem attr_type : ∀ n ∈ attrNames, typeLookup (.type "object") (Str.ofString n) = pure none := by
  intro n hn
  simp only [attrNames, List.mem_cons, List.not_mem_nil, or_false] at hn
  rcases hn with rfl | rfl | rfl <;> (rw [typeLookup_type, builtinLookup_eq_fast]; kernel_rfl)

section
variable {W : Wd} {A : Around} {E : Value → Shared → Prop} {s : Shared} {σ : Hp} {Q : VP}

theorem HR.inst {c : String} {a d : Nat} {l : List (String × V)} (r : HR W σ s) (ha : σ a = some (.inst c d)) (hd : σ d = some (.attrs l)) :
    Ex2 fun (C : Addr) (m' : Str → Option Value) => A8 (W.cls c = some C) (s.heap.Inst a C m') (∃ o, s.heap.get? a = some o ∧ o.dict = some d) (s.heap.Ns1 d m') (d ≠ a) (∀ n v, alook l n = some v → ∃ x, m' (Str.ofString n) = some x ∧ Rep W s.heap v x) (∀ n, alook l n = none → m' (Str.ofString n) = none) (∀ y, m' y ≠ none → y ∈ l.map fun e => Str.ofString e.1) := by
  have hne : d ≠ a := fun e => by subst e; rw [ha] at hd; cases hd
  cases r.cell a _ ha with
  | inst hc e c1 c2 c3 =>
    cases r.cell d _ hd with
    | attrs q m n w => exact ⟨_, _, hc, ⟨_, e, c1, c3, .inr ⟨d, c2, hne, q⟩⟩, ⟨_, e, c2⟩, q, hne, m, n, w⟩

theorem handed {h : Heap} {v : V} {x : Value} (r : Rep W h v x) : handedOut x = pure x := by cases r <;> rfl

/-- an attribute is read -/
theorem getattr_s {c n : String} {C N a d : Addr} {mN : Str → Option Value} {l : List (String × V)} {v : V} {expr : Bool} (K : ClsIs W c C N mN) (r : HR W σ s) (ha : σ a = some (.inst c d)) (hd : σ d = some (.attrs l)) (hv : alook l n = some v)
    (hna : mN (Str.ofString n) = none) (hB : typeLookup (.type "object") (Str.ofString n) = pure none) (h : Q v σ) {P : Value → Shared → Prop} (hP : Kt W σ s Q P) : wpAny (model W.prog W.w) A (getAttr (.ref a) (Str.ofString n) expr) P E s := by
  obtain ⟨C', m', hc, I, _, q, hne, hm, hn, hw⟩ := r.inst ha hd
  obtain rfl : C' = C := by rw [K.at_] at hc; exact (Option.some.inj hc).symm
  obtain ⟨x, hx, rx⟩ := hm n v hv
  have X := K.cls.keeps r.base
  have st := r.tok (s.toks + 1) []
  obtain ⟨hh, g, dd, t, os⟩ := s
  obtain ⟨nm, q', bs, sn, sub, col, dd', k0, k1, k2, k3, k5, hC⟩ := X.obj
  exact load_attr hC X.ns K.q1 hna hB I hx (handed rx) (hP v σ _ _ h rx st)

theorem alook_aset (l : List (String × V)) (n : String) (v : V) (y : String) : alook (aset l n v) y = if y = n then some v else alook l y := by
  unfold alook aset
  by_cases h : y = n
  · subst h; simp
  · have h' : ¬ n = y := fun e => h e.symm
    simp only [List.find?_cons, h', decide_false, Bool.false_eq_true, if_false, h]
    congr 1
    induction l with
    | nil => rfl
    | cons e l ih =>
      by_cases he : e.1 = n
      · have : ¬ e.1 = y := fun e' => h (e'.symm.trans he)
        rw [List.filter_cons_of_neg (by simp [he]), ih, List.find?_cons_of_neg (by simpa using this)]
      · rw [List.filter_cons_of_pos (by simp [he]), List.find?_cons, List.find?_cons, ih]

/-- an attribute is set -/
theorem setattr_s {c n : String} {C N a d : Addr} {mN : Str → Option Value} {l : List (String × V)} {v : V} {x : Value} {P : Unit → Shared → Prop} (K : ClsIs W c C N mN) (r : HR W σ s) (ha : σ a = some (.inst c d)) (hd : σ d = some (.attrs l)) (hx : Rep W s.heap v x) (hl : l.length ≤ 1000)
    (hna : mN (Str.ofString n) = none) (hB : typeLookup (.type "object") (Str.ofString n) = pure none) (h : ∀ s', Step W [] σ s (σ.set d (.attrs (aset l n v))) s' → P () s') : wpAny (model W.prog W.w) A (setAttr (.ref a) (Str.ofString n) x) P E s := by
  obtain ⟨C', m', hc, I, ⟨oa, hoa, hda⟩, q, hne, hm, hn, hw⟩ := r.inst ha hd
  obtain rfl : C' = C := by rw [K.at_] at hc; exact (Option.some.inj hc).symm
  have X := K.cls.keeps r.base
  obtain ⟨nm, q', bs, sn, sub, col, dd', k0, k1, k2, k3, k5, hC₀⟩ := K.cls.obj
  have haC : a ≠ C' := fun e => by
    subst e
    have := r.free _ _ hC₀
    rw [this] at ha; cases ha
  have rr := r
  obtain ⟨hh, g, dd, t, os⟩ := s
  refine store_attr PySem.F.store_object (r.base _ _ hC₀) X.ns K.q3 hna hB haC I (fun h' tk' I' hk hsame => ?_) hw (by rw [List.length_map, sizeLine_is]; lia)
  obtain ⟨o₁, e₁, c₁, dt₁, sl₁, dk₁⟩ := hsame oa hoa
  have eo : o₁ = oa := by
    have hd1 := dk₁ d hda
    cases o₁; cases oa; simp_all
  subst eo
  have ext : Heap.ExtBut d hh h' := fun b o hb e => by
    by_cases hba : b = a
    · subst hba
      have : o = o₁ := by have := hoa; simp only at e this; rw [e] at this; exact Option.some.inj this
      rw [this]; exact e₁
    · exact hk b o hba (fun o₀ dx e₀ ed => by
        obtain rfl := Option.some.inj (hoa.symm.trans e₀)
        obtain rfl := Option.some.inj (hda.symm.trans ed)
        exact hb) e
  obtain ⟨o', e', _, _, hd'⟩ := I'
  obtain rfl := Option.some.inj (e₁.symm.trans e')
  have kt : TupKeep hh h' := fun b o e q2 => ext b o (fun hbd => by
    subst hbd
    obtain ⟨od, es, ep, ed, dd2, _⟩ := q
    simp only at ed e
    rw [ed] at e; cases e
    exact notTup_dict dd2 q2) e
  rcases hd' with ⟨hn0, _⟩ | ⟨d', hd', _, hns'⟩
  · rw [hda] at hn0; cases hn0
  · obtain rfl := Option.some.inj (hda.symm.trans hd')
    refine h _ (rr.upd hd ext (.attrs hns' (fun y u hy => ?_) (fun y hy => ?_) fun y hy => ?_) tk' [])
    · rw [alook_aset] at hy
      by_cases hyn : y = n
      · subst hyn
        rw [if_pos rfl] at hy; cases hy
        exact ⟨x, by simp, hx.mono kt⟩
      · rw [if_neg hyn] at hy
        obtain ⟨z, hz, rz⟩ := hm y u hy
        refine ⟨z, ?_, rz.mono kt⟩
        have : Str.ofString y ≠ Str.ofString n := fun e => hyn (by
          have := Str.ofString_beq y n
          rw [e, beq_self_eq_true] at this
          exact of_decide_eq_true this.symm)
        simp [this, hz]
    · rw [alook_aset] at hy
      by_cases hyn : y = n
      · rw [if_pos hyn] at hy; cases hy
      · rw [if_neg hyn] at hy
        have : Str.ofString y ≠ Str.ofString n := fun e => hyn (by
          have := Str.ofString_beq y n
          rw [e, beq_self_eq_true] at this
          exact of_decide_eq_true this.symm)
        simp [this, hn y hy]
    · by_cases hyn : y = Str.ofString n
      · subst hyn; simp [aset]
      · simp only [if_neg hyn] at hy
        have := hw y hy
        simp only [aset, List.map_cons, List.mem_cons, List.mem_map, List.mem_filter] at this ⊢
        obtain ⟨e, he, rfl⟩ := this
        refine .inr ⟨e, ⟨he, ?_⟩, rfl⟩
        simpa using fun hen => hyn (by rw [hen])

/-- a method is looked up -/
theorem method_s {c n : String} {C N a d f : Addr} {mN : Str → Option Value} {l : List (String × V)} {of : Obj} {pl : Sem Bool} {y : Option Value} {P : Value × List Value → Shared → Prop} (K : ClsIs W c C N mN) (r : HR W σ s) (ha : σ a = some (.inst c d)) (hd : σ d = some (.attrs l)) (hl : alook l n = none)
    (hf : mN (Str.ofString n) = some (.ref f)) (hfo : W.s₀.heap.get? f = some of) (hfc : of.cls = .type "function") (hB : typeLookup (.type "object") (Str.ofString n) = pure y) (h : P (.ref f, [.ref a]) s) : wpAny (model W.prog W.w) A (getMethod (.ref a) (Str.ofString n) pl) P E s := by
  obtain ⟨C', m', hc, I, _, q, hne, hm, hn, hw⟩ := r.inst ha hd
  obtain rfl : C' = C := by rw [K.at_] at hc; exact (Option.some.inj hc).symm
  have X := K.cls.keeps r.base
  have hfo' := r.base _ _ hfo
  obtain ⟨hh, g, dd, t, os⟩ := s
  obtain ⟨nm, q', bs, sn, sub, col, dd', k0, k1, k2, k3, k5, hC⟩ := X.obj
  exact method_of hC X.ns K.q1 K.q2 hf hfo' hfc hB I (hn n hl) h

/-- a new object, before its __init__ -/
theorem new_s {c : String} {C N fI : Addr} {mN : Str → Option Value} {oI : Obj} {rest : List Value} {P : Value → Shared → Prop} (K : ClsIs W c C N mN) (r : HR W σ s) (hi : mN "__init__" = some (.ref fI)) (hfI : W.s₀.heap.get? fI = some oI) (hfc : oI.cls = .type "function")
    (h : ∀ s' x dx, Step W [] σ s ((σ.set dx (.attrs [])).set x (.inst c dx)) s' → σ x = none → σ dx = none → x ≠ dx →
      wpAny (model W.prog W.w) (A.under (.builtin "type.__call__" ⟨.ref C :: rest, []⟩)) (call (.ref fI) (.ref x :: rest)) (fun v s'' => v = .none ∧ P (.ref x) s'') E s') : wpAny (model W.prog W.w) A (call (.ref C) rest) P E s := by
  have X := K.cls.keeps r.base
  have hfI' := r.base _ _ hfI
  have rr := r
  obtain ⟨hh, g, dd, t, os⟩ := s
  obtain ⟨nm, q', bs, sn, sub, col, dd', k0, k1, k2, k3, k5, hC⟩ := X.obj
  refine wpAny_call_obj_init PySem.F.objNew hC X.ns hi hfI' hfc fun h' x dx Mk => ?_
  obtain ⟨ox, hx, hcx, hncx, hdx⟩ := Mk.inst
  have hdd := Mk.dict ox hx
  have hns : dx ≠ x ∧ h'.Ns1 dx fun _ => none := by
    rcases hdx with ⟨hn0, _⟩ | ⟨d', hd', hne', hns'⟩
    · rw [hn0] at hdd; cases hdd
    · obtain rfl := Option.some.inj (hd'.symm.trans hdd); exact ⟨hne', hns'⟩
  have st1 := rr.new (c := .attrs []) Mk.newD Mk.keeps (.attrs hns.2 (fun n v hv => by simp [alook] at hv) (fun _ _ => rfl) fun y hy => absurd rfl hy) t
  have hσx : σ x = none := rr.fresh Mk.newX
  have hσd : σ dx = none := rr.fresh Mk.newD
  have cx : CellR W h' x (.inst c dx) := .inst K.at_ hx hcx hdd hncx
  exact h _ x dx (st1.add rr Mk.newX cx) hσx hσd (Ne.symm hns.1)
end
end RS

namespace RS
open PySem (Program World Shared Addr Value Obj Heap Str Around wpAny codeAny model Scope NameKind Expr Stmt FuncData cLine recursionLimit sizeLine mainGlobals builtinsNs PyData)

/-- the classes of the text's exceptions -/
noncomputable def excTl (C0 : Addr) (c : String) : List Value := if c = "SheetError" then bmVE else .ref C0 :: bmVE
inductive ExcObj (W : Wd) (C : Addr) (tl : List Value) : Prop
  | mk (N : Addr) (nm q : Str) (bs : List Value) (hdct : Bool) (sn : List Str) (sub : List Value) (ab : Bool) (col : Option Bool) (dd : Option Addr) (k0 k1 k2 k3 k5 : Option Value) (mN : Str → Option Value) : W.s₀.heap.get? C = some (PySem.excClassObj nm q C N bs tl hdct sn sub ab col dd k0 k1 k2 k3 k5 "ValueError.__new__") → W.s₀.heap.Ns N mN → (∀ n ∈ PySem.quietNames, mN n = none) → PySem.OwnTailQ W.s₀.heap bmVE tl → ExcObj W C tl
structure ExcCls (W : Wd) (c : String) (C : Addr) (tl : List Value) : Prop where
  cls : W.exc c = some C
  mg : W.mg (Str.ofString c) = some (.ref C)
  obj : ExcObj W C tl
/-- what is known of the top -/
structure TopOk (W : Wd) : Prop extends WOk W where
  lim : W.s₀.heap.NoLimit
  hg : W.s₀.heap.Ns mainGlobals W.mg
  hb : W.s₀.heap.Ns builtinsNs W.mb
  fnF : ∀ f ∈ W.names, ∃ fa, W.fn f = some fa ∧ W.mg (Str.ofString f) = some (.ref fa) ∧ ((∃ o fd, W.s₀.heap.get? fa = some o ∧ o.data = .func fd) ∨ ∃ N mN, PyProof.Rows.ClsAt W.s₀.heap fa N mN)
  globV : ∀ x v, W.glob x = some v → ∃ y, (W.mg (Str.ofString x) = some y ∨ (W.mg (Str.ofString x) = none ∧ W.mb (Str.ofString x) = some y)) ∧ ∀ h, Rep W h v y
  biB : ∀ x b, biOf x = some b → W.mg (Str.ofString x) = none ∧ W.mb (Str.ofString x) = some (biV b)
  clsK : ∀ c C, W.cls c = some C → ∃ N mN, ClsIs W c C N mN
  excK : ∃ C0, W.exc "SheetError" = some C0 ∧ ∀ c ∈ excAll, ∃ C, ExcCls W c C (excTl C0 c)
  excI : ∀ c ∈ excAll, ∀ d ∈ excAll, W.exc c = W.exc d → c = d
  rng : W.mg "range" = none ∧ W.mb "range" = some (.type "range")

/-- a frame about: its names lie apart from the abstract heap -/
inductive FrO (W : Wd) (σ : Hp) (h : Heap) (env : PySem.Env) : Prop
  | mk (k : env.scope.kind ≠ .module) (L : Addr) (m : Str → Option Value) : env.frame = some L → W.s₀.heap.get? L = none → σ L = none → h.Ns L m → FrO W σ h env
noncomputable def Frs (W : Wd) (A : Around) (σ : Hp) (h : Heap) : Prop := ∃ l, A.frames = some l ∧ ∀ env ∈ l, FrO W σ h env
theorem ns_obj {h : Heap} {a : Addr} {m : Str → Option Value} (x : h.Ns a m) : ∃ o, h.get? a = some o := (by obtain ⟨o, _, _, e, _⟩ := x; exact ⟨o, e⟩)
theorem Frs.step {W : Wd} {A : Around} {σ σ' : Hp} {s s' : Shared} (x : Frs W A σ s.heap) (st : Step W [] σ s σ' s') : Frs W A σ' s'.heap :=
  (by obtain ⟨l, hl, h⟩ := x; exact ⟨l, hl, fun env he => (by obtain ⟨k, L, m, hf, hb, hn, hm⟩ := h env he; obtain ⟨o, ho⟩ := ns_obj hm; exact ⟨k, L, m, hf, hb, st.none_ _ o ho hn, st.ns hm hn List.not_mem_nil⟩)⟩)

/-- where the tale of an exception stands: none yet, or one whose flight is told -/
noncomputable def TaleAt (σ : Hp) (h₀ h : Heap) (e : Addr) (vs : Array Value) : Option Value → Prop
  | none => vs[1]? = some .none
  | some fl => Ex3 fun (T : Addr) (oT : Obj) (ts : Array Value) => A7 (vs[1]? = some (.ref T)) (T ≠ e) (h.get? T = some oT) (oT.data = .fields ts) (ts[3]? = some fl) (σ T = none) (h₀.get? T = none)
/-- an exception of the text's own, made since -/
inductive ExcAt (W : Wd) (c : String) (σ : Hp) (h₀ h : Heap) (e : Addr) (m : Option Value) : Prop
  | mk (nm : c ∈ excNames) (C : Addr) (oe : Obj) (vs : Array Value) (a0 : Value) : W.exc c = some C → h.get? e = some oe → oe.cls = .ref C → oe.data = .fields vs → vs[0]? = some a0 → σ e = none → h₀.get? e = none → TaleAt σ h₀ h e vs m → ExcAt W c σ h₀ h e m
theorem TaleAt.back {σ : Hp} {h₀ h₁ h : Heap} {e : Addr} {vs : Array Value} {m : Option Value} (k : ∀ b, h₁.get? b = none → h₀.get? b = none) (x : TaleAt σ h₁ h e vs m) : TaleAt σ h₀ h e vs m := by
  cases m with
  | none => exact x
  | some fl => obtain ⟨T, oT, ts, h1, h2, h3, h4, h5, h6, h7⟩ := x; exact ⟨T, oT, ts, h1, h2, h3, h4, h5, h6, k _ h7⟩
theorem ExcAt.back {W : Wd} {c : String} {σ : Hp} {h₀ h₁ h : Heap} {e : Addr} {m : Option Value} (k : ∀ b, h₁.get? b = none → h₀.get? b = none) (x : ExcAt W c σ h₁ h e m) : ExcAt W c σ h₀ h e m :=
  (by obtain ⟨nm, C, oe, vs, a0, h1, h2, h3, h4, h5, h6, h7, h8⟩ := x; exact ⟨nm, C, oe, vs, a0, h1, h2, h3, h4, h5, h6, k _ h7, h8.back k⟩)

/-- the exceptions of a call -/
noncomputable def XC (W : Wd) (_A : Around) (σ : Hp) (s : Shared) (X : XP) (E : Value → Shared → Prop) : Prop := ∀ c σ' s' e, X c σ' → Step W [] σ s σ' s' → ExcAt W c σ' s.heap s'.heap e (some .none) → E (.ref e) s'
theorem XC.step {W : Wd} {A : Around} {σ σ' : Hp} {s s' : Shared} {X : XP} {E : Value → Shared → Prop} (h : XC W A σ s X E) (st : Step W [] σ s σ' s') : XC W A σ' s' X E :=
  fun c τ s'' e hx g ea => h c τ s'' e hx (st.trans g) (ea.back fun _ hb => st.fresh hb)
theorem XC.never {W : Wd} {A : Around} {σ : Hp} {s : Shared} {E : Value → Shared → Prop} : XC W A σ s (fun _ _ => False) E := fun _ _ _ _ h => h.elim

/-- a call of the text's own -/
noncomputable def callP (W : Wd) (k : Nat) : CallT := fun f vs σ Q X => ∃ fa, W.fn f = some fa ∧ ∀ A s xs P E, Room A k → HR W σ s → Frs W A σ s.heap → Reps W s.heap vs xs → XC W A σ s X E → Kt W σ s Q P →
  wpAny (model W.prog W.w) A (PySem.call (.ref fa) xs []) P E s

noncomputable def glb (W : Wd) (k : Nat) : Glb := ⟨W.ns, W.glob, fun f => decide (f ∈ W.names), callP W k⟩

/-- where a name's value lies -/
noncomputable def VarAt (W : Wd) (env : PySem.Env) (σ : Hp) (h : Heap) (X : Str) (v : V) : Prop :=
  (env.scope.names.lookup X = some .local → Ex2 fun (m : Str → Option Value) (y : Value) => A4 (h.Ns env.locals m) (m X = some y) (Rep W h v y) (σ env.locals = none)) ∧
  (env.scope.names.lookup X = some .cell ∨ env.scope.names.lookup X = some .free → Ex2 fun (c : Addr) (y : Value) => A4 (env.cells.lookup X = some c) (h.IsCell c (some y)) (Rep W h v y) (σ c = none))

structure EnvR (W : Wd) (env : PySem.Env) (ρ : Env) (σ : Hp) (h : Heap) : Prop where
  kind : env.scope.kind = .function
  glob : env.globals = mainGlobals
  blt : env.builtins = builtinsNs
  var : ∀ x v, ρ x = some v → Str.ofString x ≠ ".0" → VarAt W env σ h (Str.ofString x) v
  cells : ∀ X, env.scope.names.lookup X = some .cell → ∃ c, env.cells.lookup X = some c

section
variable {W : Wd} {k : Nat} {ks : Ks} {A : Around} {E : Value → Shared → Prop} {s s' : Shared} {σ σ' : Hp} {Q : VP} {X : XP} {P : Value → Shared → Prop} {env : PySem.Env} {ρ : Env}

theorem ns_here {h : Heap} {a : Addr} {m : Str → Option Value} (x : h.Ns a m) : ∃ o, h.get? a = some o := (by obtain ⟨o, _, _, e, _⟩ := x; exact ⟨o, e⟩)
theorem cell_here {h : Heap} {a : Addr} {v : Option Value} (x : h.IsCell a v) : ∃ o, h.get? a = some o := (by obtain ⟨o, e, _⟩ := x; exact ⟨o, e⟩)
theorem EnvR.step (x : EnvR W env ρ σ s.heap) (r : HR W σ s) (st : Step W [] σ s σ' s') : EnvR W env ρ σ' s'.heap where
  kind := x.kind
  glob := x.glob
  blt := x.blt
  cells := x.cells
  var n v e e0 := by
    have kt := st.tup0 r
    refine ⟨fun hl => ?_, fun hc => ?_⟩
    · obtain ⟨m, y, hn, hm, hr, hs⟩ := (x.var n v e e0).1 hl
      obtain ⟨o, ho⟩ := ns_here hn
      exact ⟨m, y, st.ns hn hs List.not_mem_nil, hm, hr.mono kt, st.none_ _ o ho hs⟩
    · obtain ⟨c, y, hl, hn, hr, hs⟩ := (x.var n v e e0).2 hc
      obtain ⟨o, ho⟩ := cell_here hn
      exact ⟨c, y, hl, st.cell hn hs List.not_mem_nil, hr.mono kt, st.none_ _ o ho hs⟩

/-- the place at which an expression is read -/
structure Cx (W : Wd) (k : Nat) (ks : Ks) (A : Around) (env : PySem.Env) (ρ : Env) (σ : Hp) (s : Shared) : Prop where
  room : Room A k
  names : env.scope.names = ks
  R : EnvR W env ρ σ s.heap
  r : HR W σ s
  fr : Frs W A σ s.heap
  top : ∃ env₀ outer, A.frames = some (env₀ :: outer) ∧ env₀.frame = env.frame
theorem Cx.step (C : Cx W k ks A env ρ σ s) (st : Step W [] σ s σ' s') : Cx W k ks A env ρ σ' s' := ⟨C.room, C.names, C.R.step C.r st, st.hr, C.fr.step st, C.top⟩

/-- its exceptions -/
noncomputable def XH (W : Wd) (_A : Around) (_env : PySem.Env) (σ : Hp) (s : Shared) (X : XP) (E : Value → Shared → Prop) : Prop := ∀ c σ' s' e m, X c σ' → Step W [] σ s σ' s' → ExcAt W c σ' s.heap s'.heap e m → E (.ref e) s'
theorem XH.step (h : XH W A env σ s X E) (st : Step W [] σ s σ' s') : XH W A env σ' s' X E := fun c τ s'' e m hx g ea => h c τ s'' e m hx (st.trans g) (ea.back fun _ hb => st.fresh hb)
theorem XH.call (h : XH W A env σ s X E) : XC W A σ s X E := fun c σ' s' e hx st ea => h c σ' s' e _ hx st ea
theorem XH.never : XH W A env σ s (fun _ _ => False) E := fun _ _ _ _ _ h => h.elim

theorem ld_any {X : Str} {y : Value} (T : TopOk W) (hn : env.scope.names = ks) (R : EnvR W env ρ σ s.heap) (r : HR W σ s) (hx : isGlob ks X = true) (hy : W.mg X = some y ∨ (W.mg X = none ∧ W.mb X = some y)) (h : P y s) :
    wpAny (model W.prog W.w) A (PySem.loadName env X) P E s := by
  have hx' : env.kindOf X = some .globalImplicit := by show env.scope.names.lookup X = _; rw [hn]; exact eq_of_beq hx
  rw [PyProof.Rows.loadName_read R.kind hx']
  have hg : s.heap.Ns env.globals W.mg := by rw [R.glob]; exact T.hg.keeps r.base
  have hb : s.heap.Ns env.builtins W.mb := by rw [R.blt]; exact T.hb.keeps r.base
  unfold PySem.loadGlobal
  refine PySem.wpAny_bind (PySem.wpAny_nsGet hg ?_)
  rcases hy with hy | ⟨h0, hy⟩
  · rw [hy]; exact PySem.wpAny_pure h
  · rw [h0]
    refine PySem.wpAny_bind (PySem.wpAny_nsGet hb ?_)
    rw [hy]; exact PySem.wpAny_pure h

theorem ld_glob {X : Str} {y : Value} (T : TopOk W) (C : Cx W k ks A env ρ σ s) (hx : isGlob ks X = true) (hy : W.mg X = some y ∨ (W.mg X = none ∧ W.mb X = some y)) (h : P y s) :
    wpAny (model W.prog W.w) A (PySem.loadName env X) P E s := ld_any T C.names C.R C.r hx hy h
theorem ld_vany {x : String} {v : V} (hn : env.scope.names = ks) (R : EnvR W env ρ σ s.heap) (r : HR W σ s) (hx : isVar ks (Str.ofString x) = true) (hcd : (Str.ofString x == ("__classdict__" : Str)) = false) (h0 : Str.ofString x ≠ ".0") (hv : ρ x = some v) (h : Q v σ) (hP : Kt W σ s Q P) :
    wpAny (model W.prog W.w) A (PySem.loadName env (Str.ofString x)) P E s := by
  have V := R.var x v hv h0
  have hnm := hn
  subst hnm
  cases hk : env.scope.names.lookup (Str.ofString x) with
  | none => unfold isVar at hx; rw [hk] at hx; cases hx
  | some kd =>
    cases kd with
    | «local» =>
      obtain ⟨m, y, hn, hm, hr, _⟩ := V.1 hk
      exact PySem.wpAny_loadName_local R.kind hk hn hm (hP _ _ _ _ h hr (.refl r))
    | cell =>
      obtain ⟨c, y, hl, hc, hr, _⟩ := V.2 (.inl hk)
      exact PySem.wpAny_loadName_cell R.kind hk hl hc (hP _ _ _ _ h hr (.refl r))
    | free =>
      obtain ⟨c, y, hl, hc, hr, _⟩ := V.2 (.inr hk)
      exact PySem.wpAny_loadName_free R.kind hk hl hc (hP _ _ _ _ h hr (.refl r)) hcd
    | _ => unfold isVar at hx; rw [hk] at hx; cases hx
theorem ld_var {x : String} {v : V} (C : Cx W k ks A env ρ σ s) (hx : isVar ks (Str.ofString x) = true) (hcd : (Str.ofString x == ("__classdict__" : Str)) = false) (h0 : Str.ofString x ≠ ".0") (hv : ρ x = some v) (h : Q v σ) (hP : Kt W σ s Q P) :
    wpAny (model W.prog W.w) A (PySem.loadName env (Str.ofString x)) P E s := ld_vany C.names C.R C.r hx hcd h0 hv h hP

theorem truthy_sound {v : V} {x : Value} {b : Bool} {P : Bool → Shared → Prop} {h : Heap} (hx : Rep W h v x) (ht : truth v = some b) (hp : P b s) : wpAny (model W.prog W.w) A (PySem.truthy x) P E s := by
  cases v with
  | none => cases ht; cases hx.none_inv; exact PyProof.Rows.truthy_none hp
  | bool b => cases ht; cases hx.bool_inv; exact PySem.wpAny_truthy_bool hp
  | int i => cases ht; obtain ⟨t, rfl⟩ := hx.int_inv; exact PyProof.Rows.truthy_int hp
  | _ => cases ht
end

/-- the transformer is sound for an expression's tree -/
noncomputable def SE (W : Wd) (k : Nat) (cE : Ks → Expr → Option RS.X) : Prop := ∀ ks e x, cE ks e = some x → ∀ A env ρ σ s Q X E P, Cx W k ks A env ρ σ s → x (glb W k) ρ σ Q X → XH W A env σ s X E → Kt W σ s Q P →
  wpAny (model W.prog W.w) A (PySem.eval e env) P E s
/-- and for its truth -/
noncomputable def STr (W : Wd) (k : Nat) (cE : Ks → Expr → Option RS.X) : Prop := ∀ ks e x, cE ks e = some x → ∀ A env ρ σ s Q X E (P : Bool → Shared → Prop), Cx W k ks A env ρ σ s → x (glb W k) ρ σ Q X → XH W A env σ s X E → (∀ v σ', Q v σ' → (truth v).isSome = true) →
  (∀ v b σ' s', Q v σ' → truth v = some b → Step W [] σ s σ' s' → P b s') → wpAny (model W.prog W.w) A (PySem.isTrue e env (PySem.eval e env)) P E s

/-- what comes behind the values of a list -/
noncomputable def KtL (W : Wd) (σ : Hp) (s : Shared) (m : Nat) (Q : List V → Hp → Prop) (P : List Value → Shared → Prop) : Prop := ∀ vs σ' xs s', Q vs σ' → Reps W s'.heap vs xs → Step W [] σ s σ' s' → xs.length = m → P xs s'

section
variable {W : Wd} {k : Nat} {cE : Ks → Expr → Option RS.X} {ks : Ks} {A : Around} {E : Value → Shared → Prop} {s : Shared} {σ : Hp} {env : PySem.Env} {ρ : Env} {X : XP}

theorem starEach_cons {e : Expr} (es : List Expr) (env : PySem.Env) (h : notStar e = true) : PySem.starEach (e :: es) env = (false, PySem.eval e env) :: PySem.starEach es env := by
  cases e <;> first | rfl | cases h
theorem listX_cons {e : Expr} {es : List Expr} {xs : List RS.X} (h : listX cE ks (e :: es) = some xs) : Ex2 fun (x : RS.X) (xs' : List RS.X) => A4 (notStar e = true) (cE ks e = some x) (listX cE ks es = some xs') (xs = x :: xs') := by
  obtain ⟨x, xs', h1, h2, rfl⟩ := optAll_cons h
  exact oif_inv h1 fun hs hx => ⟨x, xs', hs, hx, h2, rfl⟩

theorem sEs (IE : SE W k cE) (pos : PySem.Pos) : ∀ (es : List Expr) (xs : List RS.X), listX cE ks es = some xs → ∀ σ s Q P, Cx W k ks A env ρ σ s → wpEs xs (glb W k) ρ σ Q X → XH W A env σ s X E → KtL W σ s es.length Q P →
    wpAny (model W.prog W.w) A (PySem.spliced (PySem.backTo pos (PySem.starEach es env))) P E s := by
  intro es
  induction es with
  | nil => intro xs h σ s Q P C hw hE hP; cases h; exact PySem.Calls.spliced_nil (hP _ _ _ _ hw .nil (.refl C.r) rfl)
  | cons e es ih =>
    intro xs h σ s Q P C hw hE hP
    obtain ⟨x, xs', hs, hx, hxs, rfl⟩ := listX_cons h
    rw [starEach_cons es env hs]
    refine PySem.Calls.spliced_cons (IE ks e x hx A env ρ σ s _ X E _ C hw hE fun v σ₁ y s₁ hw₁ rv st => ?_)
    exact ih xs' hxs σ₁ s₁ _ _ (C.step st) hw₁ (hE.step st) fun vs σ₂ ys s₂ hq rs st₂ hl => hP _ _ _ _ hq (.cons (rv.mono (st₂.tup0 st.hr)) rs) (st.trans st₂) (congrArg (· + 1) hl)

theorem listX_star : ∀ {es : List Expr} {xs : List RS.X}, listX cE ks es = some xs → ∀ e ∈ es, notStar e = true := by
  intro es
  induction es with
  | nil => intro xs _ e he; cases he
  | cons e es ih =>
    intro xs h e' he
    obtain ⟨x, xs', hs, hx, hxs, rfl⟩ := listX_cons h
    rcases List.mem_cons.mp he with rfl | he
    · exact hs
    · exact ih hxs e' he
theorem stars {pos : PySem.Pos} {es : List Expr} (h : ∀ e ∈ es, notStar e = true) : (PySem.backTo pos (PySem.starEach es env)).any (·.1) = false := by
  induction es with
  | nil => rfl
  | cons e es ih =>
    rw [starEach_cons es env (h e (.head _))]
    show (false || (PySem.backTo pos (PySem.starEach es env)).any (·.1)) = false
    rw [ih fun e' he => h e' (.tail _ he)]; rfl
theorem evalArgs_s {M : PySem.Model} {pos : PySem.Pos} {f : Value} {es : List Expr} {P : PySem.Args → Shared → Prop} (hs : ∀ e ∈ es, notStar e = true)
    (h : wpAny M A (PySem.spliced (PySem.backTo pos (PySem.starEach es env))) (fun vs s' => P ⟨vs, []⟩ s') E s) : wpAny M A (PySem.evalArgs f true (PySem.backTo pos (PySem.starEach es env)) []) P E s := by
  cases es with
  | nil => exact fun Γ p hΓ => PyProof.Rows.evalArgs_empty (h Γ p hΓ) Γ p hΓ
  | cons e es =>
    rw [starEach_cons es env (hs e (.head _))] at h ⊢
    exact PySem.Calls.evalArgs_plain h
theorem subs_any (slice : Expr) (x y : Value) : ∃ ops, PySem.subscripted slice false x y = PySem.operate ops (PySem.getItem x y) := by
  unfold PySem.subscripted
  split <;> first | exact ⟨_, rfl⟩ | (rename_i h; cases h)
theorem beh_of {op : PySem.CmpOp} {e : Expr} (h : (!isSetE e) = true) : PySem.behindInMarks op e = false := by
  cases e <;> first | rfl | cases h
theorem opC (op : PySem.CmpOp) : op = cmpOf (copOf op) := by cases op <;> rfl
theorem opB {op : PySem.Operator} {o : Bop} (h : bopOf op = some o) : op = opOf o := by cases op <;> cases h <;> rfl

/-- and, or -/
theorem sBop (IE : SE W k cE) (isAnd : Bool) (pos : PySem.Pos) : ∀ (es : List Expr) (e : Expr) (p : List RS.X × RS.X), bopL cE ks e es = some p → ∀ σ s Q P, Cx W k ks A env ρ σ s → wpBop isAnd p.2 p.1 (glb W k) ρ σ Q X → XH W A env σ s X E → Kt W σ s Q P →
    wpAny (model W.prog W.w) A (PySem.eval (.BoolOp (if isAnd then .And else .Or) (e :: es) pos) env) P E s := by
  intro es
  induction es with
  | nil =>
    intro e p h σ s Q P
    refine o1_inv h fun x hx C hw hE hP => ?_
    exact PyProof.Rows.BoolOp_one (IE ks e x hx A env ρ σ s Q X E _ C hw hE hP)
  | cons e₂ es ih =>
    intro e p h σ s Q P
    refine o2_inv h fun x p' hx hp C hw hE hP => ?_
    have rest : ∀ v σ₁ y s₁, (∃ b, truth v = some b ∧ if b = isAnd then wpBop isAnd p'.2 p'.1 (glb W k) ρ σ₁ Q X else Q v σ₁) → Rep W s₁.heap v y → Step W [] σ s σ₁ s₁ →
        wpAny (model W.prog W.w) A (PySem.truthy y) (fun b s₂ => if b = isAnd then wpAny (model W.prog W.w) A (PySem.eval (.BoolOp (if isAnd then .And else .Or) (e₂ :: es) pos) env) P E s₂ else P y s₂) E s₁ := by
      rintro v σ₁ y s₁ ⟨b, hb, hq⟩ rv st
      refine truthy_sound rv hb ?_
      by_cases hb' : b = isAnd
      · rw [if_pos hb'] at hq ⊢; exact ih e₂ p' hp σ₁ s₁ Q P (C.step st) hq (hE.step st) (hP.step st)
      · rw [if_neg hb'] at hq ⊢; exact hP _ _ _ _ hq rv st
    cases isAnd with
    | true => exact PyProof.Rows.BoolOp_and (IE ks e x hx A env ρ σ s _ X E _ C hw hE fun v σ₁ y s₁ hq rv st => PySem.wpAny_mono (rest v σ₁ y s₁ hq rv st) (fun b s₂ q => by cases b <;> exact q) fun _ _ q => q)
    | false => exact PyProof.Rows.BoolOp_or (IE ks e x hx A env ρ σ s _ X E _ C hw hE fun v σ₁ y s₁ hq rv st => PySem.wpAny_mono (rest v σ₁ y s₁ hq rv st) (fun b s₂ q => by cases b <;> exact q) fun _ _ q => q)

theorem sBopT (IT : STr W k cE) (isAnd : Bool) (pos : PySem.Pos) (whole : PySem.Sem Value) : ∀ (es : List Expr) (e : Expr) (p : List RS.X × RS.X), bopL cE ks e es = some p → ∀ σ s (Q : VP) (P : Bool → Shared → Prop), Cx W k ks A env ρ σ s → wpBop isAnd p.2 p.1 (glb W k) ρ σ Q X → XH W A env σ s X E → (∀ v σ', Q v σ' → (truth v).isSome = true) →
    (∀ v b σ' s', Q v σ' → truth v = some b → Step W [] σ s σ' s' → P b s') → wpAny (model W.prog W.w) A (PySem.isTrue (.BoolOp (if isAnd then .And else .Or) (e :: es) pos) env whole) P E s := by
  intro es
  induction es with
  | nil =>
    intro e p h σ s Q P
    refine o1_inv h fun x hx C hw hE hT hP => ?_
    have H := fun (P' : Bool → Shared → Prop) hP' => IT ks e x hx A env ρ σ s Q X E P' C hw hE hT hP'
    cases isAnd with
    | true =>
      refine PyProof.Rows.isTrue_and (H _ fun v b σ' s' hq hb st => ?_)
      have := hP v b σ' s' hq hb st
      cases b with
      | true => exact PyProof.Rows.isTrue_and_nil this
      | false => exact this
    | false =>
      refine PyProof.Rows.isTrue_or (H _ fun v b σ' s' hq hb st => ?_)
      have := hP v b σ' s' hq hb st
      cases b with
      | true => exact this
      | false => exact PyProof.Rows.isTrue_or_nil this
  | cons e₂ es ih =>
    intro e p h σ s Q P
    refine o2_inv h fun x p' hx hp C hw hE hT hP => ?_
    have H := fun (P' : Bool → Shared → Prop) hP' => IT ks e x hx A env ρ σ s _ X E P' C hw hE (fun v σ' hq => by obtain ⟨b, hb, _⟩ := hq; rw [hb]; rfl) hP'
    have rest : ∀ v b σ₁ s₁, (∃ b, truth v = some b ∧ if b = isAnd then wpBop isAnd p'.2 p'.1 (glb W k) ρ σ₁ Q X else Q v σ₁) → truth v = some b → Step W [] σ s σ₁ s₁ →
        if b = isAnd then wpAny (model W.prog W.w) A (PySem.isTrue (.BoolOp (if isAnd then .And else .Or) (e₂ :: es) pos) env whole) P E s₁ else P b s₁ := by
      rintro v b σ₁ s₁ ⟨b', hb', hq⟩ hb st
      obtain rfl : b = b' := Option.some.inj (hb.symm.trans hb')
      by_cases hbb : b = isAnd
      · rw [if_pos hbb] at hq ⊢
        exact ih e₂ p' hp σ₁ s₁ Q P (C.step st) hq (hE.step st) hT fun v b σ' s' hq hb st' => hP v b σ' s' hq hb (st.trans st')
      · rw [if_neg hbb] at hq ⊢; exact hP _ _ _ _ hq hb st
    cases isAnd with
    | true => exact PyProof.Rows.isTrue_and (H _ fun v b σ' s' hq hb st => by have := rest v b σ' s' hq hb st; cases b <;> exact this)
    | false => exact PyProof.Rows.isTrue_or (H _ fun v b σ' s' hq hb st => by have := rest v b σ' s' hq hb st; cases b <;> exact this)
end
end RS

namespace RS
open PySem (Program World Shared Addr Value Obj Heap Str Around wpAny codeAny model Scope NameKind Expr Stmt FuncData cLine recursionLimit sizeLine mainGlobals builtinsNs PyData)
open PySem PySem.W PyProof.Rows

/-! ### an exception on its way -/
/-- what its way changes: places of the frames, and what was made since -/
noncomputable def Pass (W : Wd) (σ : Hp) (h₀ h h' : Heap) : Prop := ∀ b o, h.get? b = some o →
  (h₀.get? b = none ∧ σ b = none ∧ ∃ vs, o.data = .fields vs) ∨ ∃ sl, h'.get? b = some { o with slots := sl } ∧ (sl = o.slots ∨ (σ b = none ∧ W.s₀.heap.get? b = none ∧ ∃ es ep, o.data = .dict es ep))
section
variable {W : Wd} {own : List Addr} {σ σ' : Hp} {s s' : Shared} {h₀ h h' : Heap} {env : PySem.Env} {ρ : Env}
theorem Pass.refl : Pass W σ h₀ h h := fun _ o e => .inr ⟨o.slots, e, .inl rfl⟩
theorem Pass.back {h₁ : Heap} (p : Pass W σ h₁ h h') (k : ∀ b, h₁.get? b = none → h₀.get? b = none) : Pass W σ h₀ h h' := fun b o e => (p b o e).imp (fun q => ⟨k b q.1, q.2⟩) id
theorem Pass.tups (p : Pass W σ h₀ h h') : TupKeep h h' := fun b o e t => by
  obtain ⟨_, i, n, d⟩ := t
  rcases p b o e with ⟨_, _, vs, q⟩ | ⟨sl, q, rfl | ⟨_, _, es, ep, q'⟩⟩
  · rw [d] at q; cases q
  · exact q
  · rw [d] at q'; cases q'
theorem Pass.step (p : Pass W σ' s.heap s'.heap h') (r : HR W σ s) (st : Step W own σ s σ' s') : Step W own σ s σ' { s' with heap := h' } where
  hr := {
    same := st.hr.at h' s'.toks
    free := st.hr.free
    base := fun b o e => by
      rcases p b o (st.hr.base b o e) with ⟨q, _⟩ | ⟨sl, q, rfl | ⟨_, q', _⟩⟩
      · rw [r.base b o e] at q; cases q
      · exact q
      · rw [e] at q'; cases q'
    cell := fun a c hc => (st.hr.cell a c hc).mono p.tups fun o e => by
      rcases p a o e with ⟨_, q, _⟩ | ⟨sl, q, rfl | ⟨q', _⟩⟩
      · rw [hc] at q; cases q
      · exact q
      · rw [hc] at q'; cases q' }
  keep b o e hn ho := (st.keep b o e hn ho).trans fun o' e' => by
    rcases p b o' e' with ⟨q, _⟩ | ⟨sl, q, rfl | ⟨_, _, es, ep, q'⟩⟩
    · rw [e] at q; cases q
    · exact .same q
    · exact ⟨sl, q, fun hd => absurd q' (hd es ep)⟩
  none_ := st.none_
  live b o e := by
    obtain ⟨o', e', k⟩ := st.live b o e
    rcases p b o' e' with ⟨q, _⟩ | ⟨sl, q, _⟩
    · rw [e] at q; cases q
    · exact ⟨_, q, fun t => k t⟩
theorem Pass.ns {a : Addr} {m : Str → Option Value} (p : Pass W σ h₀ h h') (hn : h.Ns a m) : h'.Ns a m := by
  obtain ⟨o, es, ep, ho, hd, r⟩ := hn
  rcases p a o ho with ⟨_, _, vs, q⟩ | ⟨sl, q, _⟩
  · rw [hd] at q; cases q
  · exact ⟨_, es, ep, q, hd, r⟩
theorem Pass.cell {a : Addr} {v : Option Value} (p : Pass W σ h₀ h h') (hn : h.IsCell a v) : h'.IsCell a v := by
  obtain ⟨o, ho, hd⟩ := hn
  rcases p a o ho with ⟨_, _, vs, q⟩ | ⟨sl, q, _⟩
  · rw [hd] at q; cases q
  · exact ⟨_, q, hd⟩
/-- the kit's word for what stays -/
theorem pass_of {l : List PySem.Env} {ds : List Addr} (hF : ∀ x ∈ l, FrO W σ h x) (hd : ∀ b ∈ ds, h₀.get? b = none ∧ σ b = none ∧ ∀ o, h.get? b = some o → ∃ vs, o.data = .fields vs)
    (hB : (hideAll h (ds ++ l.filterMap (·.frame))).StaysIn h') (hu : h.UpToSlots h') : Pass W σ h₀ h h' := fun b o e => by
  by_cases hb : b ∈ ds
  · obtain ⟨h1, h2, h3⟩ := hd b hb
    exact .inl ⟨h1, h2, h3 o e⟩
  by_cases hf : b ∈ l.filterMap (·.frame)
  · obtain ⟨x, hx, hxf⟩ := List.mem_filterMap.mp hf
    obtain ⟨_, L, m, hL, hb0, hσ, o', es, ep, ho, hdd, _⟩ := hF x hx
    obtain rfl : L = b := Option.some.inj (hL.symm.trans hxf)
    obtain rfl : o' = o := Option.some.inj (ho.symm.trans e)
    obtain ⟨sl, q⟩ := hu L o' e fun vs q => by rw [hdd] at q; cases q
    exact .inr ⟨sl, q, .inr ⟨hσ, hb0, es, ep, hdd⟩⟩
  · exact .inr ⟨o.slots, hB b o (hideAll_get _ e fun q => (List.mem_append.mp q).elim hb hf), .inl rfl⟩
theorem frames_of {l : List PySem.Env} {B : Heap} (hF : ∀ x ∈ l, FrO W σ h x) (hn : ∀ L ∈ l.filterMap (·.frame), B.get? L = none) : h.FunFrames B l := by
  induction l with
  | nil => trivial
  | cons x l ih =>
    obtain ⟨hk, L, m, hL, _, _, o, es, ep, ho, hd, _⟩ := hF x (.head _)
    exact ⟨hk, ⟨L, o, hL, hn L (List.mem_filterMap.mpr ⟨x, .head _, hL⟩), ho, fun vs q => by rw [hd] at q; cases q⟩, ih (fun y hy => hF y (.tail _ hy)) fun L' hL' => hn L' (by
      obtain ⟨y, hy, e⟩ := List.mem_filterMap.mp hL'; exact List.mem_filterMap.mpr ⟨y, .tail _ hy, e⟩)⟩
theorem stays_hide (ds : List Addr) : (hideAll h ds).StaysIn h := fun _ _ e => of_hideAll ds e
/-- the tale, told anew -/
theorem excAt_of {c : String} {e C : Addr} {ds : List Addr} {l : List PySem.Env} {a0 fl : Value} (nm : c ∈ excNames) (hC : W.exc c = some C) (hσe : σ e = none) (he₀ : h₀.get? e = none) (hσ : ∀ b, h.get? b = none → σ b = none ∧ h₀.get? b = none)
    (hd : ∀ b ∈ ds, h₀.get? b = none ∧ σ b = none) (hF : ∀ x ∈ l, FrO W σ h x) (hu : h.UpToSlots h')
    (x : h'.TracedAtW (hideAll h (ds ++ l.filterMap (·.frame))) e (.ref C) a0 fl) : ExcAt W c σ h₀ h' e (some fl) := by
  obtain ⟨oe, vs, T, oT, ts, he, ⟨hc, h0⟩, hde, h1, hT, hTe, hT', hdT, h3⟩ := x
  have hTn : σ T = none ∧ h₀.get? T = none := by
    by_cases hb : T ∈ ds
    · exact (hd T hb).symm
    by_cases hf : T ∈ l.filterMap (·.frame)
    · obtain ⟨y, hy, hyf⟩ := List.mem_filterMap.mp hf
      obtain ⟨_, L, m, hL, _, _, o', es, ep, ho, hdd, _⟩ := hF y hy
      obtain rfl : L = T := Option.some.inj (hL.symm.trans hyf)
      obtain ⟨sl, q⟩ := hu L o' ho fun vs q => by rw [hdd] at q; cases q
      rw [hT'] at q
      cases q
      rw [hdd] at hdT; cases hdT
    · cases q : h.get? T with
      | none => exact hσ T q
      | some o => rw [hideAll_get _ q fun q => (List.mem_append.mp q).elim hb hf] at hT; cases hT
  exact ⟨nm, C, oe, vs, a0, hC, he, hc, hde, h0, hσe, he₀, T, oT, ts, h1, hTe, hT', hdT, h3, hTn.1, hTn.2⟩
end

section
variable {M : Model} {W : Wd} {A : Around} {E : Value → Shared → Prop} {σ : Hp} {s : Shared} {h₀ : Heap} {env : PySem.Env} {outer : List PySem.Env} {c : String} {e : Addr} {m : Option Value}

/-- it is noted in a frame -/
theorem note_air {Q : Unit → Shared → Prop} {L : Addr} (hfr : A.frames = some (env :: outer)) (hF : ∀ x ∈ env :: outer, FrO W σ s.heap x) (hf : env.frame = some L) (hσ : ∀ b, s.heap.get? b = none → σ b = none ∧ h₀.get? b = none) (x : ExcAt W c σ h₀ s.heap e m)
    (hQ : ∀ h' fl, Pass W σ h₀ s.heap h' → ExcAt W c σ h₀ h' e (some fl) → Q () { s with heap := h' }) : wpAny M A (noteFrame (.ref e) env) Q E s := by
  obtain ⟨nm, C, oe, vs, a0, hC, he, hc, hd, h0, hσe, he₀, ht⟩ := x
  cases m with
  | none =>
    have hds : ∀ b ∈ [e], h₀.get? b = none ∧ σ b = none ∧ ∀ o, s.heap.get? b = some o → ∃ vs, o.data = .fields vs := fun b hb => by
      obtain rfl := List.mem_singleton.mp hb
      exact ⟨he₀, hσe, fun o ho => ⟨vs, by rw [he] at ho; cases ho; exact hd⟩⟩
    unfold noteFrame
    simp only [hf]
    refine wpAny_bind (wpAny_field he hd ht ?_)
    rw [if_neg (by decide)]
    refine wpAny_entryW (base := hideAll s.heap ([e] ++ (env :: outer).filterMap (·.frame))) hfr (frames_of hF fun L hL => hideAll_none _ (List.mem_append_right _ hL)) hf he (stays_hide _) (hideAll_none _ (List.mem_append_left _ (.head _))) hd (Array.getElem?_eq_some_iff.mp ht).1 h0 fun h' hN => ?_
    obtain ⟨k1, _, k3, k4⟩ := hN
    exact hQ h' _ (pass_of hF hds k1 k4) (excAt_of nm hC hσe he₀ hσ (fun b hb => ⟨(hds b hb).1, (hds b hb).2.1⟩) hF k4 (hc ▸ k3))
  | some fl =>
    obtain ⟨T, oT, ts, h1, hTe, hT, hdT, h3, hσT, hT₀⟩ := id ht
    have hds : ∀ b ∈ [e, T], h₀.get? b = none ∧ σ b = none ∧ ∀ o, s.heap.get? b = some o → ∃ vs, o.data = .fields vs := fun b hb => by
      rcases List.mem_cons.mp hb with rfl | hb
      · exact ⟨he₀, hσe, fun o ho => ⟨vs, by rw [he] at ho; cases ho; exact hd⟩⟩
      · obtain rfl := List.mem_singleton.mp hb
        exact ⟨hT₀, hσT, fun o ho => ⟨ts, by rw [hT] at ho; cases ho; exact hdT⟩⟩
    unfold noteFrame
    simp only [hf]
    refine wpAny_bind (wpAny_field he hd h1 ?_)
    rw [if_pos (show (Value.ref T != Value.none) = true from by simp)]
    refine wpAny_bind (wpAny_field hT hdT h3 ?_)
    by_cases hfl : (fl == rawInt L) = true
    · rw [if_pos hfl]
      exact wpAny_pure (hQ s.heap fl Pass.refl ⟨nm, C, oe, vs, a0, hC, he, hc, hd, h0, hσe, he₀, ht⟩)
    rw [if_neg hfl]
    refine wpAny_bind (wpAny_setField hT hdT (Array.getElem?_eq_some_iff.mp h3).1 ?_)
    have other : ∀ b, b ≠ T → (s.heap.update T (Obj.mapFields (·.setIfInBounds 3 Value.none))).get? b = s.heap.get? b := fun b hb => Heap.get?_update_other _ _ (Ne.symm hb)
    have plain : ∀ b o, s.heap.get? b = some o → (∀ vs, o.data ≠ .fields vs) → b ≠ T := fun b o hb hnf q => by
      rw [q, hT] at hb; injection hb with hb; subst hb; exact hnf ts hdT
    have hB : ∀ b o, (hideAll s.heap ([e, T] ++ (env :: outer).filterMap (·.frame))).get? b = some o → b ≠ T := fun b o hbo q => by
      rw [q, hideAll_none _ (List.mem_append_left _ (.tail _ (.head _)))] at hbo; cases hbo
    have hl := frames_of (B := hideAll s.heap ([e, T] ++ (env :: outer).filterMap (·.frame))) hF fun L hL => hideAll_none _ (List.mem_append_right _ hL)
    refine wpAny_entryW (base := hideAll s.heap ([e, T] ++ (env :: outer).filterMap (·.frame))) hfr (hl.of_keeps fun b o hb hnf => ⟨o, (other b (plain b o hb hnf)).trans hb, rfl⟩) hf ((other e (Ne.symm hTe)).trans he)
      (fun b o hbo => (other b (hB b o hbo)).trans (stays_hide _ b o hbo)) (hideAll_none _ (List.mem_append_left _ (.head _))) hd (Array.getElem?_eq_some_iff.mp h1).1 h0 fun h' hN => ?_
    obtain ⟨k1, _, k3, k4⟩ := hN
    have k4' : s.heap.UpToSlots h' := fun b o hb hnf => k4 b o ((other b (plain b o hb hnf)).trans hb) hnf
    exact hQ h' _ (pass_of hF hds k1 k4') (excAt_of nm hC hσe he₀ hσ (fun b hb => ⟨(hds b hb).1, (hds b hb).2.1⟩) hF k4' (hc ▸ k3))
/-- it is noted in what stands for the frame -/
theorem note_frame {env' : PySem.Env} (h : env.frame = env'.frame) (x : Value) : noteFrame x env = noteFrame x env' := by
  unfold noteFrame PySem.frameOf
  rw [h]

/-- its flight is told -/
theorem flight_air {Q : Unit → Shared → Prop} {fl : Value} {f : Option Addr} (x : ExcAt W c σ h₀ s.heap e (some fl))
    (hQ : ∀ h', Pass W σ h₀ s.heap h' → ExcAt W c σ h₀ h' e (some (f.elim Value.none fun f => rawInt f)) → Q () { s with heap := h' }) : wpAny M A (setFlight (.ref e) f) Q E s := by
  obtain ⟨nm, C, oe, vs, a0, hC, he, hc, hd, h0, hσe, he₀, T, oT, ts, h1, hTe, hT, hdT, h3, hσT, hT₀⟩ := x
  have hsz3 : 3 < ts.size := (Array.getElem?_eq_some_iff.mp h3).1
  have other : ∀ b, b ≠ T → (s.heap.update T (Obj.mapFields (·.setIfInBounds 3 (f.elim Value.none fun f => rawInt f)))).get? b = s.heap.get? b :=
    fun b hb => Heap.get?_update_other _ _ (Ne.symm hb)
  unfold setFlight
  refine wpAny_bind (wpAny_field he hd h1 ?_)
  rw [if_pos (show (Value.ref T != Value.none) = true from by simp)]
  refine wpAny_setField hT hdT hsz3 (hQ _ (fun b o ho => ?_) ?_)
  · by_cases hb : b = T
    · subst hb; exact .inl ⟨hT₀, hσT, ts, by rw [hT] at ho; cases ho; exact hdT⟩
    · exact .inr ⟨o.slots, (other b hb).trans ho, .inl rfl⟩
  · exact ⟨nm, C, oe, vs, a0, hC, (other e (Ne.symm hTe)).trans he, hc, hd, h0, hσe, he₀, T, _, _, h1, hTe, Heap.get?_update_self _ hT (Obj.isFreed_of_fields (Obj.data_mapFields hdT _)), Obj.data_mapFields hdT _, by simp [hsz3], hσT, hT₀⟩

/-- it leaves a frame -/
theorem leave_air {Q : Unit → Shared → Prop} {L : Addr} (hfr : A.frames = some (env :: outer)) (hF : ∀ x ∈ env :: outer, FrO W σ s.heap x) (hf : env.frame = some L) (hσ : ∀ b, s.heap.get? b = none → σ b = none ∧ h₀.get? b = none) (x : ExcAt W c σ h₀ s.heap e m)
    (hQ : ∀ h' h'', Pass W σ h₀ s.heap h' → Pass W σ h₀ h' h'' → ExcAt W c σ h₀ h'' e (some .none) → Q () { s with heap := h'' }) : wpAny M A (leaving env (.ref e)) Q E s := by
  unfold leaving
  refine wpAny_bind (note_air hfr hF hf hσ x fun h' fl p x' => ?_)
  exact flight_air (f := none) (s := { s with heap := h' }) x' fun h'' p' x'' => hQ h' h'' p p' x''
end
end RS

namespace RS
open PySem (Program World Shared Addr Value Obj Heap Str Around wpAny codeAny model Scope NameKind Expr Stmt FuncData cLine recursionLimit sizeLine mainGlobals builtinsNs PyData)

/-! ### comprehensions -/
noncomputable def clOf (env : PySem.Env) : Ks → List (Str × Addr) → List (Str × Addr)
  | [], acc => acc
  | (n, k) :: r, acc => if k == .free then clOf env r ((n, (env.cells.lookup n).getD 0) :: acc) else clOf env r acc

theorem clOf_is (env : PySem.Env) (sc : Scope) (h : ∀ y ∈ sc.names, y.2 = .free → ∃ c, env.cells.lookup y.1 = some c) : PySem.closureFor sc env = pure (clOf env sc.names []) := by
  unfold PySem.closureFor
  suffices H : ∀ (names : Ks) (acc : List (Str × Addr)), (∀ y ∈ names, y.2 = .free → ∃ c, env.cells.lookup y.1 = some c) →
      (forIn names acc fun x r => match x with | (name, kind) => do
        if (kind == NameKind.free) = true then do
          let c ← PySem.cellOf env name
          pure (ForInStep.yield ((name, c) :: r))
        else pure (ForInStep.yield r) : PySem.Sem (List (Str × Addr))) = pure (clOf env names acc) by
    have := H sc.names [] h
    simpa using this
  intro names
  induction names with
  | nil => intro acc _; rfl
  | cons y names ih =>
    intro acc hy
    obtain ⟨n, kd⟩ := y
    rw [List.forIn_cons]
    by_cases hk : (kd == NameKind.free) = true
    · obtain ⟨c, hc⟩ := hy (n, kd) (by simp) (by simpa using hk)
      simp only at hc
      have hcell : PySem.cellOf env n = pure c := by unfold PySem.cellOf; rw [hc]
      simp only [hk, if_true, hcell, pure_bind]
      rw [ih _ fun y hy' => hy y (by simp [hy'])]
      simp [clOf, hk, hc]
    · have hk' : (kd == NameKind.free) = false := by simpa using hk
      simp only [hk', Bool.false_eq_true, if_false, pure_bind]
      rw [ih _ fun y hy' => hy y (by simp [hy'])]
      simp [clOf, hk']

theorem clOf_lookup (env : PySem.Env) : ∀ (names : Ks) (acc : List (Str × Addr)), (∀ y ∈ names, y.2 = .free → ∃ c, env.cells.lookup y.1 = some c) → (∀ X c, acc.lookup X = some c → env.cells.lookup X = some c) →
    (∀ X c, (clOf env names acc).lookup X = some c → env.cells.lookup X = some c) ∧ (∀ X, (X, NameKind.free) ∈ names ∨ (acc.lookup X).isSome = true → ((clOf env names acc).lookup X).isSome = true)
  | [], acc, _, ha => ⟨ha, fun X h => h.elim (fun h => by cases h) id⟩
  | (n, kd) :: r, acc, hy, ha => by
    unfold clOf
    by_cases hk : (kd == NameKind.free) = true
    · obtain ⟨c, hc⟩ := hy (n, kd) (by simp) (by simpa using hk)
      simp only at hc
      rw [if_pos hk]
      have ih := clOf_lookup env r ((n, (env.cells.lookup n).getD 0) :: acc) (fun y hy' => hy y (by simp [hy'])) (fun X c' hX => by
        rw [List.lookup_cons] at hX
        split at hX
        · rename_i hXn
          cases hX; rw [eq_of_beq hXn, hc]; rfl
        · exact ha X c' hX)
      refine ⟨ih.1, fun X hX => ih.2 X ?_⟩
      by_cases hXn : X = n
      · subst hXn; right; simp [List.lookup_cons]
      · rcases hX with hX | hX
        · rcases List.mem_cons.mp hX with h | h
          · cases h; exact absurd rfl hXn
          · exact .inl h
        · right
          have hb : (X == n) = false := by simpa using hXn
          rw [List.lookup_cons, hb]; exact hX
    · rw [if_neg hk]
      have ih := clOf_lookup env r acc (fun y hy' => hy y (by simp [hy'])) ha
      refine ⟨ih.1, fun X hX => ih.2 X ?_⟩
      rcases hX with hX | hX
      · rcases List.mem_cons.mp hX with h | h
        · cases h; exact absurd rfl hk
        · exact .inl h
      · exact .inr hX

section
variable {W : Wd} {k : Nat}

theorem folded_id {e : Expr} (env : PySem.Env) (h : (!isSetE e) = true) (x : Value) : PySem.foldedSetIterable e env x = pure x := by
  cases e <;> first | rfl | cases h

theorem relabel_is (sc : Scope) (env : PySem.Env) (hk : env.scope.kind = .function) : (PySem.relabel sc env).names = relabelK env.scope.names sc.names := by
  unfold PySem.relabel relabelK PySem.Env.kindOf
  simp [hk]

theorem relabelK_lookup (ks : Ks) : ∀ (names : Ks) (X : Str) (kd : NameKind), (relabelK ks names).lookup X = some kd → ∃ kd', names.lookup X = some kd' ∧ (X, kd') ∈ names ∧ kd = (if kd' == .free && ks.lookup X == some .cell then .cell else kd')
  | [], _, _, h => by simp [relabelK] at h
  | (y, q) :: r, X, kd, h => by
    have hh : ((if (q == NameKind.free && ks.lookup y == some .cell) = true then (y, NameKind.cell) else (y, q)) :: relabelK ks r).lookup X = some kd := h
    have hsplit : (if (q == NameKind.free && ks.lookup y == some .cell) = true then (y, NameKind.cell) else (y, q)) = (y, if (q == NameKind.free && ks.lookup y == some .cell) = true then NameKind.cell else q) := by split <;> rfl
    rw [hsplit, List.lookup_cons] at hh
    by_cases hX : X = y
    · subst hX
      simp only [beq_self_eq_true, Option.some.injEq] at hh
      exact ⟨q, by simp [List.lookup_cons], by simp, hh.symm⟩
    · have hb : (X == y) = false := by simpa using hX
      rw [hb] at hh
      obtain ⟨kd', h1, h2, h3⟩ := relabelK_lookup ks r X kd hh
      exact ⟨kd', by rw [List.lookup_cons, hb]; exact h1, by simp [h2], h3⟩

/-- what the scope of a comprehension must be -/
structure CompSc (ks : Ks) (sc : Scope) (x : Str) : Prop where
  kind : sc.kind = .function
  nocell : ∀ y ∈ sc.names, y.2 ≠ .cell
  loc : sc.names.lookup x = some .local
  locs : ∀ y ∈ sc.names, y.2 = .local → sc.names.lookup y.1 = some .local
  free : ∀ y ∈ sc.names, y.2 = .free → ks.lookup y.1 = some .cell
  only : ∀ y ∈ sc.names, y.2 = .local → y.1 = x ∨ y.1 = ".0"
  ne0 : x ≠ ".0"

theorem EnvR.comp {env : PySem.Env} {ρ : Env} {σ : Hp} {h : Heap} {sc : Scope} {x : String} {v : V} {y : Value} {C : Addr} {m : Str → Option Value} (R : EnvR W env ρ σ h) (cs : CompSc env.scope.names sc (Str.ofString x))
    (hn : h.Ns C m) (hm : m (Str.ofString x) = some y) (hv : Rep W h v y) (hσ : σ C = none) : EnvR W (PySem.compEnvC sc (clOf env sc.names []) C env) (ρ.set x v) σ h := by
  have cells : ∀ z ∈ sc.names, z.2 = .free → ∃ c, env.cells.lookup z.1 = some c := fun z hz hf => R.cells _ (cs.free z hz hf)
  obtain ⟨cl1, cl2⟩ := clOf_lookup env sc.names [] cells (fun _ _ e => by cases e)
  have names : (PySem.compEnvC sc (clOf env sc.names []) C env).scope.names = relabelK env.scope.names sc.names := relabel_is sc env R.kind
  have kindOf : ∀ X kd, (relabelK env.scope.names sc.names).lookup X = some kd → kd = .cell ∨ kd = .free → (X, NameKind.free) ∈ sc.names ∧ env.scope.names.lookup X = some .cell := by
    intro X kd e hk
    obtain ⟨kd', h1, h2, h3⟩ := relabelK_lookup _ _ _ _ e
    have hf : kd' = .free := by
      by_cases hq : kd' = .free
      · exact hq
      · have hb : (kd' == NameKind.free) = false := by simpa using hq
        rw [hb] at h3; simp only [Bool.false_and, Bool.false_eq_true, if_false] at h3
        rcases hk with hk | hk
        · exact absurd (h3.symm.trans hk) (cs.nocell _ h2)
        · exact h3.symm.trans hk
    subst hf
    exact ⟨h2, cs.free _ h2 rfl⟩
  refine ⟨cs.kind, R.glob, R.blt, fun z u hz h0 => ⟨fun hl => ?_, fun hc => ?_⟩, fun X hX => ?_⟩
  · rw [names] at hl
    obtain ⟨kd', h1, h2, h3⟩ := relabelK_lookup _ _ _ _ hl
    have hkd : kd' = .local := by
      by_cases hq : (kd' == NameKind.free && env.scope.names.lookup (Str.ofString z) == some .cell) = true
      · rw [if_pos hq] at h3; cases h3
      · rw [if_neg hq] at h3; exact h3.symm
    subst hkd
    rcases cs.only _ h2 rfl with he | he
    · have hzx : z = x := Str.ofString_inj he
      subst hzx
      rw [Env.set_same] at hz; cases hz
      exact ⟨m, y, hn, hm, hv, hσ⟩
    · exact absurd he h0
  · rw [names] at hc
    have hk : (Str.ofString z, NameKind.free) ∈ sc.names ∧ env.scope.names.lookup (Str.ofString z) = some .cell := by
      rcases hc with hc | hc
      · exact kindOf _ _ hc (.inl rfl)
      · exact kindOf _ _ hc (.inr rfl)
    have hzx : z ≠ x := fun q => by
      subst q
      have hl := cs.loc
      rcases hc with hc | hc <;>
      · obtain ⟨kd', h1, h2, h3⟩ := relabelK_lookup _ _ _ _ hc
        rw [hl] at h1; cases h1
        simp at h3
    rw [Env.set_ne _ _ hzx] at hz
    obtain ⟨c, y', hl, hcell, hr, hs⟩ := (R.var z u hz h0).2 (.inl hk.2)
    refine ⟨c, y', ?_, hcell, hr, hs⟩
    have hsome := cl2 _ (.inl hk.1)
    obtain ⟨c', hc'⟩ := Option.isSome_iff_exists.mp hsome
    have := cl1 _ _ hc'
    rw [hl] at this; cases this; exact hc'
  · rw [names] at hX
    exact Option.isSome_iff_exists.mp (cl2 _ (.inl (kindOf _ _ hX (.inl rfl)).1))


theorem ns_notTup {h : Heap} {C : Addr} {m : Str → Option Value} (hn : h.Ns C m) : ∃ o, h.get? C = some o ∧ ¬ isTup o := (by obtain ⟨o, _, _, ho, hd, _⟩ := hn; exact ⟨o, ho, notTup_dict hd⟩)
theorem LstAt.nt {h : Heap} {a : Addr} {vs : List V} (x : LstAt W h a vs) : ∃ o, h.get? a = some o ∧ ¬ isTup o := by obtain ⟨_, e, _, _⟩ := x; exact ⟨_, e, notTup_type (by decide)⟩
theorem LstAt.but {h h' : Heap} {a I : Addr} {vs : List V} (x : LstAt W h a vs) (k : PySem.Heap.ExtBut I h h') (hI : ∃ o, h.get? I = some o ∧ ¬ isTup o) (ne : a ≠ I) : LstAt W h' a vs := by
  obtain ⟨z, e, q, l⟩ := x; exact ⟨z, k _ _ ne e, q.mono (tups_but k hI), l⟩
theorem LstAt.step {σ σ' : Hp} {s s' : Shared} {a : Addr} {vs : List V} (x : LstAt W s.heap a vs) (r : HR W σ s) (st : Step W [] σ s σ' s') (hσ : σ a = none) : LstAt W s'.heap a vs := by
  obtain ⟨z, e, q, l⟩ := x; exact ⟨z, st.exact e hσ List.not_mem_nil (fun _ _ q => PySem.Data.noConfusion q), q.mono (st.tup0 r), l⟩
theorem ns_but {h h' : Heap} {C I : Addr} {m : Str → Option Value} (hn : h.Ns C m) (k : PySem.Heap.ExtBut I h h') (ne : C ≠ I) : h'.Ns C m := (by obtain ⟨o, es, ep, ho, q⟩ := hn; exact ⟨o, es, ep, k _ _ ne ho, q⟩)

/-- in the midst of a comprehension's loop -/
structure CompAt (W : Wd) (σ : Hp) (s : Shared) (D C : Addr) (acc : List V) (σ' : Hp) (s' : Shared) : Prop where
  g : Step W [] σ s σ' s'
  nD : σ' D = none
  nC : σ' C = none
  d : LstAt W s'.heap D acc
  ns : ∃ m, s'.heap.Ns C m
theorem CompAt.step {σ σ' σ'' : Hp} {s s' s'' : Shared} {D C : Addr} {acc : List V} (x : CompAt W σ s D C acc σ' s') (st : Step W [] σ' s' σ'' s'') : CompAt W σ s D C acc σ'' s'' := by
  obtain ⟨m, hn⟩ := x.ns
  obtain ⟨o, ho⟩ := ns_here hn
  obtain ⟨z, e, q, l⟩ := id x.d
  exact ⟨x.g.trans st, st.none_ _ _ e x.nD, st.none_ _ _ ho x.nC, x.d.step x.g.hr st x.nD, m, st.ns hn x.nC List.not_mem_nil⟩
theorem CompAt.over {σ σ' : Hp} {s s' : Shared} {D C I : Addr} {acc : List V} {h' : Heap} (x : CompAt W σ s D C acc σ' s') (r : HR W σ s) (hI : s.heap.get? I = none) (hσ : σ' I = none) (hIt : ∃ o, s'.heap.get? I = some o ∧ ¬ isTup o) (kx : PySem.Heap.ExtBut I s'.heap h') (nD : D ≠ I) (nC : C ≠ I) (tk : Nat) : CompAt W σ s D C acc σ' { s' with heap := h', toks := tk } := by
  obtain ⟨m, hn⟩ := x.ns
  exact ⟨x.g.over r hI hσ hIt kx tk, x.nD, x.nC, x.d.but kx hIt nD, m, ns_but hn kx nC⟩

theorem LstAt.pass {σ : Hp} {h₀ h h' : Heap} {a : Addr} {vs : List V} (x : LstAt W h a vs) (p : Pass W σ h₀ h h') : LstAt W h' a vs := by
  obtain ⟨z, e, q, l⟩ := x
  rcases p a _ e with ⟨_, _, us, d⟩ | ⟨sl, d, rfl | ⟨_, _, es, ep, d'⟩⟩
  · cases d
  · exact ⟨z, d, q.mono p.tups, l⟩
  · cases d'
theorem CompAt.pass {σ σ' : Hp} {s s' : Shared} {D C : Addr} {acc : List V} {h' : Heap} (x : CompAt W σ s D C acc σ' s') (r : HR W σ s) (p : Pass W σ' s.heap s'.heap h') : CompAt W σ s D C acc σ' { s' with heap := h' } := by
  obtain ⟨m, hn⟩ := x.ns
  exact ⟨p.step r x.g, x.nD, x.nC, x.d.pass p, m, p.ns hn⟩
/-- an exception from within: it is noted -/
theorem comp_air {σ σ₁ : Hp} {s s₁ : Shared} {A : Around} {env cenv : PySem.Env} {ρ : Env} {ks : Ks} {D C : Addr} {acc : List V} {X : XP} {RR : PySem.Result → Shared → Prop} (cx : Cx W k ks A env ρ σ s) (hf : cenv.frame = env.frame) (at₁ : CompAt W σ s D C acc σ₁ s₁)
    (hRX : ∀ c acc σ' s' e fl, X c σ' → CompAt W σ s D C acc σ' s' → ExcAt W c σ' s.heap s'.heap e (some fl) → RR (.error (.ref e)) s') :
    XH W A cenv σ₁ s₁ X (PySem.notedBy (model W.prog W.w) A cenv fun e s' => RR (.error e) s') := fun c σ' s' e m hx st ea => by
  obtain ⟨env₀, outer, hfr, hf₀⟩ := cx.top
  have at' := at₁.step st
  obtain ⟨l, hl, hF⟩ := cx.fr.step at'.g
  cases Option.some.inj (hfr.symm.trans hl)
  obtain ⟨_, L, _, hL, _⟩ := hF env₀ (.head _)
  show wpAny (model W.prog W.w) A (PySem.noteFrame (.ref e) cenv) _ _ s'
  rw [note_frame (env' := env₀) (hf.trans hf₀.symm)]
  refine note_air (h₀ := s.heap) hfr hF hL (fun b hb => ⟨at'.g.hr.fresh hb, at'.g.fresh hb⟩) (ea.back fun b hb => at₁.g.fresh hb) fun h' fl p ea' => ?_
  exact hRX c acc σ' _ e fl hx (at'.pass cx.r p) ea'

/-- in the midst of its loop -/
abbrev CompInv (W : Wd) (σ : Hp) (s : Shared) (I D C : Addr) (St : Nat → Heap → Prop) (one : V → Hp → (Option V → Hp → Prop) → Prop) (chk : Hp → Prop) (items : List V) (K : List V → Hp → Prop) (q : Nat) (s' : Shared) : Prop :=
  Ex3 fun (i : Nat) (σ' : Hp) (acc : List V) => A5 (q + i = items.length) (CompAt W σ s D C acc σ' s') (St i s'.heap) (σ' I = none) (compL one chk (items.drop i) acc σ' K)
theorem compLoop_sound {cE : Ks → Expr → Option RS.X} (IE : SE W k cE) (IT : STr W k cE) {elt iter : Expr} {x : String} {px : PySem.Pos} {ifs : List Expr} {sc : Scope} {pos : PySem.Pos} {ks : Ks} {xe : RS.X} {xifs : List RS.X} {A : Around} {env : PySem.Env} {ρ : Env} {σ : Hp} {s : Shared} {K : List V → Hp → Prop}
    {I D C : Addr} {items : List V} {chk : Hp → Prop} {St : Nat → Heap → Prop} {RR : PySem.Result → Shared → Prop} {X : XP}
    (hce : cE (relabelK ks sc.names) elt = some xe) (hci : optAll (cE (relabelK ks sc.names)) ifs = some xifs) (hil : ifs.length ≤ 1) (cx : Cx W k ks A env ρ σ s) (cs : CompSc ks sc (Str.ofString x))
    (hit : Iter W A I items chk St) (hI : s.heap.get? I = none) (hC : s.heap.get? C = none) (hD : s.heap.get? D = none) (hDC : D ≠ C) (hDI : D ≠ I) (hCI : C ≠ I)
    (hRR : ∀ vs σ' s', K vs σ' → CompAt W σ s D C vs σ' s' → RR (.ok .next) s')
    (hRX : ∀ c acc σ' s' e fl, X c σ' → CompAt W σ s D C acc σ' s' → ExcAt W c σ' s.heap s'.heap e (some fl) → RR (.error (.ref e)) s')
    (s₀ : Shared) (σ₀ : Hp) (at₀ : CompAt W σ s D C [] σ₀ s₀) (hst : St 0 s₀.heap) (hσI : σ₀ I = none)
    (hw : compL (fun v σ₂ K => wpIfs xifs (glb W k) (ρ.set x v) σ₂ (fun b σ₃ => if b = true then xe (glb W k) (ρ.set x v) σ₃ (fun r σ₄ => K (some r) σ₄) X else K Option.none σ₃) X) chk items [] σ₀ K) :
    codeAny (model W.prog W.w) A (.compLoop (.ListComp elt [⟨.Name (Str.ofString x) px, iter, ifs, 0⟩] sc pos) 0 (.ref I) (.ref D) (PySem.compEnvC sc (clOf env sc.names []) C env)) RR s₀ := by
  generalize hone : (fun v σ₂ K => wpIfs xifs (glb W k) (ρ.set x v) σ₂ (fun b σ₃ => if b = true then xe (glb W k) (ρ.set x v) σ₃ (fun r σ₄ => K (some r) σ₄) X else K Option.none σ₃) X : V → Hp → (Option V → Hp → Prop) → Prop) = one at hw
  have hks := cx.names
  subst hks
  have R := cx.R
  have r := cx.r
  refine PySem.codeAny_compLoop_tests (CompInv W σ s I D C St one chk items K) ?_ items.length ⟨0, σ₀, [], rfl, at₀, hst, hσI, hw⟩
  rintro q s' ⟨i, σ', acc, hqi, at', hst, hσI, hw⟩
  have hIt := hit.nt hst
  cases hdr : items.drop i with
  | nil =>
    rw [hdr] at hw
    obtain ⟨hchk, hK⟩ := hw
    have hil' : i = items.length := Nat.le_antisymm (hqi ▸ Nat.le_add_left _ _) (List.drop_eq_nil_iff.mp hdr)
    subst hil'
    exact hit.done s' σ' _ _ hst at'.g.hr hchk fun h' tk kx => hRR _ _ _ hK (at'.over r hI hσI hIt kx hDI hCI tk)
  | cons v vs =>
    rw [hdr] at hw
    obtain ⟨hchk, hlen, hw⟩ := hw
    have hv : items[i]? = some v := by rw [← List.head?_drop, hdr]; rfl
    have hlt : i < items.length := (List.getElem?_eq_some_iff.mp hv).1
    have hdr' : items.drop (i + 1) = vs := by rw [← List.tail_drop, hdr]; rfl
    obtain ⟨q, rfl⟩ : ∃ q', q = q' + 1 := ⟨q - 1, by lia⟩
    have hqi' : q + (i + 1) = items.length := by rw [← hqi, Nat.add_assoc, Nat.add_comm 1 i]
    refine hit.item i s' σ' v _ _ hv hst at'.g.hr hchk fun xv h₁ tk₁ rx hst₁ kx => ?_
    have at₁ := at'.over r hI hσI hIt kx hDI hCI tk₁
    obtain ⟨m₁, hns₁⟩ := at₁.ns
    refine PySem.wpAny_assign_Name (PySem.wpAny_storeName_local (PySem.lookup_relabel_local cs.loc) hns₁ (fun h₂ hn₂ hs₂ => ?_) (by simp [PySem.compEnvC, PySem.relabel, cs.kind]))
    change h₂.Ns C _ at hn₂
    change PySem.Heap.SameBut C h₁ h₂ at hs₂
    have kt₂ := tups_but hs₂.extBut (ns_notTup hns₁)
    have at₂ : CompAt W σ s D C acc σ' { s' with heap := h₂, toks := tk₁ + 1 } := ⟨at₁.g.over r hC at'.nC (ns_notTup hns₁) hs₂.extBut (tk₁ + 1), at'.nD, at'.nC, at₁.d.but hs₂.extBut (ns_notTup hns₁) hDC, _, hn₂⟩
    have hst₂ : St (i + 1) h₂ := hit.frame _ _ _ hst₁ (fun o e => hs₂.extBut _ _ (Ne.symm hCI) e) kt₂
    have R₂ : EnvR W (PySem.compEnvC sc (clOf env sc.names []) C env) (ρ.set x v) σ' h₂ := EnvR.comp (R.step r at₂.g) cs hn₂ (by simp) (rx.mono kt₂) at'.nC
    have cx₂ : Cx W k (relabelK env.scope.names sc.names) A (PySem.compEnvC sc (clOf env sc.names []) C env) (ρ.set x v) σ' { s' with heap := h₂, toks := tk₁ + 1 } := ⟨cx.room, relabel_is sc env R.kind, R₂, at₂.g.hr, cx.fr.step at₂.g, cx.top⟩
    have next : ∀ σ₅ s₅ acc₅, CompAt W σ s D C acc₅ σ₅ s₅ → St (i + 1) s₅.heap → σ₅ I = none → compL one chk vs acc₅ σ₅ K → ∃ m, m < q + 1 ∧ CompInv W σ s I D C St one chk items K m s₅ :=
      fun σ₅ s₅ acc₅ a b c d => ⟨q, Nat.lt_succ_self q, i + 1, σ₅, acc₅, hqi', a, b, c, by rw [hdr']; exact d⟩
    have rest : ∀ (b : Bool) (σ₃ : Hp) (s₃ : Shared), Step W [] σ' { s' with heap := h₂, toks := tk₁ + 1 } σ₃ s₃ → (if b = true then xe (glb W k) (ρ.set x v) σ₃ (fun r σ₄ => compL one chk vs (acc ++ [r]) σ₄ K) X else compL one chk vs acc σ₃ K) →
        if b = true then wpAny (model W.prog W.w) A (PySem.eval elt (PySem.compEnvC sc (clOf env sc.names []) C env)) (fun y s₄ =>
          wpAny (model W.prog W.w) A (PySem.call (.builtin "list.append") [.ref D, y]) (fun _ s₅ => ∃ m, m < q + 1 ∧ CompInv W σ s I D C St one chk items K m s₅)
            (PySem.notedBy (model W.prog W.w) A (PySem.compEnvC sc (clOf env sc.names []) C env) fun e s' => RR (.error e) s') s₄) (PySem.notedBy (model W.prog W.w) A (PySem.compEnvC sc (clOf env sc.names []) C env) fun e s' => RR (.error e) s') s₃
        else ∃ m, m < q + 1 ∧ CompInv W σ s I D C St one chk items K m s₃ := by
      intro b σ₃ s₃ st hb
      have at₃ := at₂.step st
      obtain ⟨hst₃, hσI₃⟩ := hit.step st at₂.g.hr (Own.nil _) hσI List.not_mem_nil hst₂
      cases b with
      | false => exact next σ₃ s₃ acc at₃ hst₃ hσI₃ hb
      | true =>
        refine IE _ elt xe hce A _ _ σ₃ s₃ _ X _ _ (cx₂.step st) hb (comp_air cx rfl at₃ hRX) fun u σ₄ y s₄ hw₄ ru st₄ => ?_
        have at₄ := at₃.step st₄
        obtain ⟨hst₄, hσI₄⟩ := hit.step st₄ st.hr (Own.nil _) hσI₃ List.not_mem_nil hst₃
        obtain @⟨arr, n', hz, hd, hra, hl⟩ := id at₄.d
        have hal : arr.size ≤ 1000000 := by rw [← hl]; exact hlen
        refine PySem.wpAny_list_append_plain (items := arr) ⟨n', hd⟩ (fun h₅ hp₅ hs₅ => ?_) (fits hz)
        have kt₅ := tups_but hs₅.extBut at₄.d.nt
        obtain ⟨n₅, hd₅⟩ := hp₅
        obtain ⟨m₄, hn₄⟩ := at₄.ns
        refine next σ₄ _ (acc ++ [u]) ⟨at₄.g.over r hD at₄.nD at₄.d.nt hs₅.extBut s₄.toks, at₄.nD, at₄.nC, ⟨by rw [Array.size_push]; exact Nat.succ_le_succ hal, hd₅, ?_, by rw [List.length_append, hl, Array.size_push]; rfl⟩, m₄, ns_but hn₄ hs₅.extBut (Ne.symm hDC)⟩ (hit.frame _ _ _ hst₄ (fun o' e => hs₅.extBut _ _ (Ne.symm hDI) e) kt₅) hσI₄ hw₄
        rw [Array.toList_push]; exact (hra.mono kt₅).append (.one (ru.mono kt₅))
    subst hone
    cases ifs with
    | nil => cases hci; exact PySem.wpAny_tests_nil (rest true σ' _ (.refl at₂.g.hr) hw)
    | cons c cs' =>
      cases cs' with
      | cons _ _ => exact absurd hil (by simp)
      | nil =>
        obtain ⟨xc, xr, hxc, hxr, rfl⟩ := optAll_cons hci
        cases hxr
        refine PySem.wpAny_tests_one (IT _ c xc hxc A _ _ σ' _ _ X _ _ cx₂ hw (comp_air cx rfl at₂ hRX) (fun v σ' hq => by obtain ⟨b, hb, _⟩ := hq; rw [hb]; rfl) fun u b σ₃ s₃ ⟨b', hb', hw₃⟩ hb st => rest b σ₃ s₃ st ?_)
        obtain rfl : b = b' := Option.some.inj (hb.symm.trans hb')
        cases b <;> exact hw₃
end
end RS

namespace RS
open PySem (Program World Shared Addr Value Obj Heap Str Around wpAny codeAny model Scope NameKind Expr Stmt FuncData cLine recursionLimit sizeLine mainGlobals builtinsNs PyData)

section
variable {W : Wd} {k : Nat} {cE : Ks → Expr → Option RS.X} {ks : Ks} {A : Around} {E : Value → Shared → Prop} {s : Shared} {σ : Hp} {env : PySem.Env} {ρ : Env} {X : XP} {Q : VP} {P : Value → Shared → Prop}

/-! ### the head of a loop -/
inductive SrcC (cE : Ks → Expr → Option RS.X) (ks : Ks) : Expr → Src → Prop
  | of {e : Expr} {x : RS.X} : cE ks e = some x → SrcC cE ks e (.of x)
  | r1 {p : PySem.Pos} {hi : Expr} {pos : PySem.Pos} {xh : RS.X} : isGlob ks ("range" : Str) = true → notStar hi = true → cE ks hi = some xh → SrcC cE ks (.Call (.Name ("range" : Str) p) [hi] [] pos) (.range1 xh)
  | r2 {p : PySem.Pos} {lo hi : Expr} {pos : PySem.Pos} {xl xh : RS.X} : isGlob ks ("range" : Str) = true → notStar lo = true → notStar hi = true → cE ks lo = some xl → cE ks hi = some xh → SrcC cE ks (.Call (.Name ("range" : Str) p) [lo, hi] [] pos) (.range2 xl xh)
theorem srcX_is {e : Expr} {x : Src} (h : srcX cE ks e = some x) : SrcC cE ks e x := by
  have gen : o1 Src.of (cE ks e) = some x → SrcC cE ks e x := fun h => o1_inv h fun x' hx' => .of hx'
  cases e with
  | Call f args kws pos =>
    cases f with
    | Name f p =>
      have h' : (if (f == ("range" : Str) && isGlob ks f) = true then oif kws.isEmpty (rangeX cE ks args) else o1 Src.of (cE ks (.Call (.Name f p) args kws pos))) = some x := h
      by_cases hf : (f == ("range" : Str) && isGlob ks f) = true
      · clear h gen
        rw [if_pos hf] at h'
        obtain ⟨hf1, hg⟩ := Bool.and_eq_true_iff.mp hf
        cases eq_of_beq hf1
        refine oif_inv h' fun hk h => ?_
        clear h'
        cases List.isEmpty_iff.mp hk
        cases args with
        | nil => cases h
        | cons a args => cases args with
          | nil => exact oif_inv h fun hs h => o1_inv h fun xh hh => .r1 hg hs hh
          | cons b args => cases args with
            | nil => exact oif_inv h fun hs h => o2_inv h fun xl xh hl hh => .r2 hg (Bool.and_eq_true_iff.mp hs).1 (Bool.and_eq_true_iff.mp hs).2 hl hh
            | cons _ _ => cases h
      · rw [if_neg hf] at h'; exact gen h'
    | _ => exact gen h
  | _ => exact gen h

theorem sSrc (T : TopOk W) (IE : SE W k cE) {K : SrcP} {e : Expr} {x : Src} (h : srcX cE ks e = some x) (C : Cx W k ks A env ρ σ s) (hw : x (glb W k) ρ σ K X) (hE : XH W A env σ s X E) (hP : SrcK W A σ s K P) :
    wpAny (model W.prog W.w) A (PySem.eval e env) (fun xv s₁ => wpAny (model W.prog W.w) A (PySem.pyIter xv) P E s₁) E s := by
  cases srcX_is h with
  | of hx' => exact IE ks e _ hx' A env ρ σ s _ X E _ C hw hE fun v σ₁ y s₁ hw₁ rv st => src_sound C.room T.toWOk st.hr rv hw₁ (hP.step st)
  | @r1 p hi pos xh hg hs hh =>
    refine PySem.wpAny_Call_NameR (PySem.wpAny_Name (ld_glob T C hg (.inr T.rng) ?_) (by decide))
    rw [starEach_cons [] env hs]
    refine PySem.callWith_type rfl (PySem.Calls.evalArgs_plain (PySem.Calls.spliced_cons (IE ks hi xh hh A env ρ σ s _ X E _ C hw hE fun v σ₁ y s₁ hw₁ rv st => PySem.Calls.spliced_nil ?_)))
    cases hw₁ with
    | @mk _ b hl hK =>
      obtain ⟨t, rfl⟩ := rv.int_inv
      refine PySem.call_range_1 ?_
      have st₂ := st.hr.grow (newFs (t := "range") (fs := #[.int 0 s₁.toks, .int b t, .int 1 (s₁.toks + 1)])) (s₁.toks + 1 + 1) []
      exact range_any C.room st₂.hr (PySem.Heap.get?_push_size _ rfl) hK ((hP.step st).step st₂)
  | @r2 p lo hi pos xl xh hg hs1 hs2 hl hh =>
    refine PySem.wpAny_Call_NameR (PySem.wpAny_Name (ld_glob T C hg (.inr T.rng) ?_) (by decide))
    rw [starEach_cons [hi] env hs1, starEach_cons [] env hs2]
    refine PySem.callWith_type rfl (PySem.Calls.evalArgs_plain (PySem.Calls.spliced_cons (IE ks lo xl hl A env ρ σ s _ X E _ C hw hE fun v σ₁ y s₁ hw₁ rv st =>
      PySem.Calls.spliced_cons (IE ks hi xh hh A env ρ σ₁ s₁ _ X E _ (C.step st) hw₁ (hE.step st) fun v' σ₂ y' s₂ hw₂ rv' st' => PySem.Calls.spliced_nil ?_))))
    cases hw₂ with
    | @mk a b hl hK =>
      obtain ⟨t, rfl⟩ := rv.int_inv
      obtain ⟨u, rfl⟩ := rv'.int_inv
      refine PySem.call_range_2 ?_
      have st₂ := st'.hr.grow (newFs (t := "range") (fs := #[.int a t, .int b u, .int 1 s₂.toks])) (s₂.toks + 1) []
      exact range_any C.room st₂.hr (PySem.Heap.get?_push_size _ rfl) hK (((hP.step st).step st').step st₂)

/-! ### comprehensions -/
theorem compSc_of {sc : Scope} {x : Str} {iter : Expr} {ifs : List Expr} (h : compOk ks sc x iter ifs = true) : (!isSetE iter) = true ∧ CompSc ks sc x ∧ ifs.length ≤ 1 := by
  simp only [compOk, Bool.and_eq_true, List.all_eq_true, bne_iff_ne, beq_iff_eq, Bool.or_eq_true, Bool.not_eq_true', beq_eq_false_iff_ne, decide_eq_true_eq] at h
  obtain ⟨⟨⟨⟨⟨⟨⟨⟨hset, hkind⟩, hcell⟩, hloc⟩, hlocs⟩, hfree⟩, honly⟩, hne0⟩, hil⟩ := h
  exact ⟨by rw [hset]; rfl, ⟨hkind, hcell, hloc, fun y hy e => (hlocs y hy).resolve_left fun q => q e, fun y hy e => (hfree y hy).resolve_left fun q => q e, fun y hy e => (honly y hy).resolve_right fun q => q e, hne0⟩, hil⟩

theorem ExcAt.but {σ : Hp} {h₀ h h' : Heap} {c : String} {e I : Addr} {m : Option Value} (x : ExcAt W c σ h₀ h e m) (k : PySem.Heap.ExtBut I h h') (hI : ∃ o es ep, h.get? I = some o ∧ o.data = .dict es ep) : ExcAt W c σ h₀ h' e m := by
  obtain ⟨nm, C, oe, vs, a0, hC, he, hc, hd, h0, hσe, he₀, ht⟩ := x
  obtain ⟨o, es, ep, ho, hod⟩ := hI
  have ne : ∀ {b : Addr} {o' : Obj} {us : Array Value}, h.get? b = some o' → o'.data = .fields us → b ≠ I := fun hb hu q => by
    rw [q, ho] at hb; cases hb; rw [hod] at hu; cases hu
  refine ⟨nm, C, oe, vs, a0, hC, k _ _ (ne he hd) he, hc, hd, h0, hσe, he₀, ?_⟩
  cases m with
  | none => exact ht
  | some fl =>
    obtain ⟨T, oT, ts, h1, h2, h3, h4, h5, h6, h7⟩ := ht
    exact ⟨T, oT, ts, h1, h2, k _ _ (ne h3 h4) h3, h4, h5, h6, h7⟩
open PySem in
/-- an exception leaves a comprehension -/
theorem comp_out {c : String} {acc : List V} {σ' : Hp} {s' : Shared} {e D C' : Addr} {fl : Value} {use : Option (Value → PySem.Sem Unit)} {Q' : Value → Shared → Prop} (r : HR W σ s) (fC : s.heap.get? C' = none) (hE : XH W A env σ s X E) (hx : X c σ') (at' : CompAt W σ s D C' acc σ' s') (ea : ExcAt W c σ' s.heap s'.heap e (some fl)) :
    PySem.compPost (model W.prog W.w) A E use Q' (.ref D) C' (.error (.ref e)) s' := by
  obtain ⟨m, hn⟩ := at'.ns
  have hI : ∃ o es ep, s'.heap.get? C' = some o ∧ o.data = .dict es ep := (by obtain ⟨o, es, ep, ho, hd, _⟩ := hn; exact ⟨o, es, ep, ho, hd⟩)
  have : ∃ m, s'.heap.Ns C' m ∧ ∀ h', Heap.SameBut C' s'.heap h' → ∀ cenv : PySem.Env, cenv.locals = C' → wpAny (model W.prog W.w) A (passOn "comprehension.variables-let-go" (.ref e) cenv : Sem Value) (fun _ _ => False) E { s' with heap := h' } := by
    refine ⟨m, hn, fun h' hs cenv _ => ?_⟩
    have g := at'.g.over r fC at'.nC (ns_notTup hn) hs.extBut s'.toks
    have ea' := ea.but hs.extBut hI
    obtain ⟨_, _, oe, vs, _, _, he, _, hd, _, _, _, T', _, _, hT, _⟩ := id ea'
    unfold passOn
    refine wpAny_bind (wpAny_field (s := { s' with heap := h' }) he hd hT ?_)
    rw [if_neg (show ¬ ((Value.ref T' == Value.none) = true) from by simp)]
    have fin : wpAny (model W.prog W.w) A (setFlight (.ref e) cenv.frame) (fun _ s'' => wpAny (model W.prog W.w) A (throw (Value.ref e) : Sem Value) (fun _ _ => False) E s'') E { s' with heap := h' } :=
      flight_air (f := cenv.frame) (s := { s' with heap := h' }) ea' fun h'' p ea'' => wpAny_throw (hE c σ' _ e _ hx (p.step r g) ea'')
    first
      | exact wpAny_bind fin
      | exact wpAny_bind (wpAny_pure (wpAny_bind fin))
  cases use <;> exact this

theorem sComp (T : TopOk W) (IE : SE W k cE) (IT : STr W k cE) {elt : Expr} {gens : List PySem.Comprehension} {sc : Scope} {pos : PySem.Pos} {x : RS.X} (h : stepE cE ks (.ListComp elt gens sc pos) = some x)
    (C : Cx W k ks A env ρ σ s) (hw : x (glb W k) ρ σ Q X) (hE : XH W A env σ s X E) {use : Option (Value → PySem.Sem Unit)} {Q' : Value → Shared → Prop}
    (hp : ∀ vs σ' D C' s', newP σ' (.lst vs) Q → CompAt W σ s D C' vs σ' s' → s.heap.get? D = none → s.heap.get? C' = none → D ≠ C' → PySem.compPost (model W.prog W.w) A E use Q' (.ref D) C' (.ok .next) s') (pos' : PySem.Pos) :
    wpAny (model W.prog W.w) A (PySem.comprehension (.ListComp elt gens sc pos) sc env pos' (PySem.newList []) (PySem.firstAsync gens) (PySem.firstIter gens env) use) Q' E s := by
  cases gens with
  | nil => cases h
  | cons g gs =>
  cases gs with
  | cons g' gs => cases h
  | nil =>
  obtain ⟨target, iter, ifs, isa⟩ := g
  cases target with
  | Name xn px =>
    refine oif_inv h fun hok h => ?_
    obtain ⟨h0, hok⟩ := Bool.and_eq_true_iff.mp hok
    cases of_decide_eq_true h0
    obtain ⟨hset, cs, hil⟩ := compSc_of hok
    revert hw
    refine o2_inv h fun p q hp' hq' => ?_
    revert hq'
    refine o2_inv hp' fun src x' hsrc hx' hq' => ?_
    refine o2_inv hq' fun xe xifs hxe hxifs hw => ?_
    cases nm_is hx'
    have hcl : PySem.closureFor sc env = pure (clOf env sc.names []) := clOf_is env sc fun y hy e => C.R.cells _ (by rw [C.names]; exact cs.free y hy e)
    refine PySem.wpAny_comprehension_free (g := ⟨.Name (Str.ofString x') px, iter, ifs, 0⟩) (gs := []) rfl (folded_id env hset) hcl cs.kind cs.locs ?_
    refine sSrc T IE hsrc C hw hE fun I items chk St σ₁ s₂ hit hst hσI hI hK st => ?_
    refine PySem.wpAny_newObj_type (PySem.wpAny_newFunctionEnv cs.nocell (by intro y hy; cases hy) (fun h₁ hns₁ hsb₁ => ?_) cs.kind)
    dsimp only at hns₁ hsb₁ ⊢
    generalize hH2 : s₂.heap.push { cls := .type "list", dict := none, data := .seq ([] : List Value).toArray } = H2 at hns₁ hsb₁ ⊢
    have hC : H2.objs.size = s₂.heap.objs.size + 1 := by rw [← hH2, PySem.Heap.size_push]
    have below : ∀ b o, s₂.heap.get? b = some o → b ≠ H2.objs.size ∧ b ≠ s₂.heap.objs.size := fun b o e => by
      have := PySem.Heap.lt_size e
      exact ⟨by rw [hC]; exact Nat.ne_of_lt (Nat.lt_succ_of_lt this), Nat.ne_of_lt this⟩
    have old : ∀ b o, s₂.heap.get? b = some o → h₁.get? b = some o := fun b o e => hsb₁.extBut b o (below b o e).1 (PySem.Heap.get?_push_of_some _ (hH2 ▸ PySem.Heap.get?_push_of_some _ e))
    have hDC : s₂.heap.objs.size ≠ H2.objs.size := by rw [hC]; exact Nat.ne_of_lt (Nat.lt_succ_self _)
    have hd : h₁.get? s₂.heap.objs.size = some { cls := .type "list", data := .seq #[] 0 } := hsb₁.extBut _ _ hDC (PySem.Heap.get?_push_of_some _ (hH2 ▸ PySem.Heap.get?_push_size _ rfl))
    have f2 : s₂.heap.get? H2.objs.size = none := PySem.Heap.get?_none_of_le (by rw [hC]; exact Nat.le_succ _)
    have fD := st.fresh (size_none s₂.heap)
    have fC := st.fresh f2
    have stg := st.hr.grow (h' := h₁) old s₂.toks []
    obtain ⟨oI, eI, _⟩ := hit.nt hst
    have loop : codeAny (model W.prog W.w) A (.compLoop (.ListComp elt [⟨.Name (Str.ofString x') px, iter, ifs, 0⟩] sc pos) 0 (.ref I) (.ref s₂.heap.objs.size) (PySem.compEnvC sc (clOf env sc.names []) H2.objs.size env))
        (PySem.compPost (model W.prog W.w) A E use Q' (.ref s₂.heap.objs.size) H2.objs.size) { s₂ with heap := h₁, toks := s₂.toks } :=
      compLoop_sound IE IT hxe hxifs hil C cs hit hI fC fD hDC (Ne.symm (below _ _ eI).2) (Ne.symm (below _ _ eI).1) (fun vs σ' s' hK at' => hp vs σ' _ _ s' hK at' fD fC hDC) (fun c acc σ' s' e fl hx at' ea => comp_out C.r fC hE hx at' ea) _ σ₁
        ⟨st.trans stg, st.hr.fresh (size_none _), st.hr.fresh f2, ⟨Nat.zero_le _, hd, .nil, rfl⟩, _, hns₁⟩ (hit.frame _ _ _ hst (fun o e => old _ _ e) (.of old)) hσI hK
    exact PySem.codeAny_compStart_list loop (hit.self 0 _ _ _ (hit.frame _ _ _ hst (fun o e => old _ _ e) (.of old)) loop)
  | _ => cases h
end
end RS

namespace RS
open PySem (Program World Shared Addr Value Obj Heap Str Around wpAny codeAny model sizeLine PyData HeapKind DictEntry)
open PySem

section
variable {W : Wd} {k : Nat} {A : Around} {E : Value → Shared → Prop} {s : Shared} {σ : Hp} {Q : VP} {P : Value → Shared → Prop}
theorem index_s {a : Addr} {vs : List V} {v : V} {x : Value} {d : PyData} {ds : List PyData} {j : Nat} (hA : Room A k) (r : HR W σ s) (ha : σ a = some (.lst vs)) (hd : snap σ 40 v = some d) (hds : optAll (snap σ 40) vs = some ds) (hj : ds.findIdx? (fun e => PyData.eqv e d) = some j) (hx : Rep W s.heap v x) (hq : Q (.int j) σ) (hP : Kt W σ s Q P) :
    wpAny (model W.prog W.w) A (PySem.call (.builtin "list.index") [.ref a, x]) P E s := by
  obtain @⟨items, n, z, e, q, l⟩ := r.lst ha
  obtain ⟨rx, cx, lx⟩ := snap_reads r 40 _ _ _ hd hx
  obtain ⟨rs, cs, _⟩ := snaps_reads (snap_reads r 40) _ _ _ hds q
  have hmap := PySem.SeqAt.readsAll_map _ _ _ cs rs
  obtain ⟨hjl, h1, h2⟩ := List.findIdx?_eq_some_iff_getElem.mp hj
  have hsz : ds.length = items.size := by rw [← hmap, List.length_map, Array.length_toList]
  have hat : ∀ m (hm : m < items.size) (hm' : m < ds.length), PySem.SeqAt.readOf s.heap items[m] = ds[m] := by
    intro m hm hm'
    have : ds[m]? = some (PySem.SeqAt.readOf s.heap items[m]) := by
      rw [← hmap, List.getElem?_map, Array.getElem?_toList, Array.getElem?_eq_getElem hm]; rfl
    rw [List.getElem?_eq_getElem hm'] at this
    exact (Option.some.inj this).symm
  refine PySem.call_meets PySem.F.slot_list_index ⟨_, e, rfl⟩ PySem.F.entry_list_index (PySem.F.args_list_index_2 _ _)
    (PySem.SeqAt.list_indexAt a items n none #[] x (fun y => PyData.eqv (PySem.SeqAt.readOf s.heap y) d) j (by lia) (by lia) (by rw [hat j (by omega) hjl]; exact h1)
      (fun m hm hlt => by rw [hat m hm (by (clear hlt lx l; lia))]; exact Bool.eq_false_iff.mpr (h2 m hlt)))
    ⟨e, PySem.SeqAt.items_eqAt rs rx cs cx (Nat.add_assoc A.units 1 _ ▸ hA.u _ (Nat.le_trans (Nat.add_le_add_left (Nat.le_trans (Nat.min_le_right _ _) lx) 1) (by decide))), hP _ _ _ _ hq (.int _ _) (r.tok _ _)⟩
end
end RS

namespace RS
open PySem (Program World Shared Addr Value Obj Heap Str Around wpAny codeAny model Scope NameKind Expr Stmt FuncData cLine recursionLimit sizeLine mainGlobals builtinsNs PyData)

section
variable {W : Wd} {k : Nat} {cE : Ks → Expr → Option RS.X} {ks : Ks} {A : Around} {E : Value → Shared → Prop} {s : Shared} {σ : Hp} {env : PySem.Env} {ρ : Env} {X : XP} {Q : VP} {P : Value → Shared → Prop}

/-! ### methods -/
theorem meth_eval {o : Expr} {m : Str} {apos pos : PySem.Pos} {args : List Expr} (hb : plainBase o = true) (hp : (apos.endLine == pos.line) = true) (hs : ∀ e ∈ args, notStar e = true) (hl : args.length ≤ 20) :
    PySem.eval (.Call (.Attribute o m apos) args [] pos) env = (do
      let ov ← PySem.eval o env
      PySem.standAt apos.atName
      let (f, first) ← PySem.holding [ov] (PySem.getMethod ov m (do return (← PySem.importBound o env).getD true))
      PySem.callWith pos f first (PySem.backTo pos (PySem.starEach args env)) []) := by
  have hbase : PySem.attributeBase o m env (PySem.eval o env) = PySem.eval o env := by cases o <;> first | rfl | cases hb
  have hform : PySem.methodCallForm (args.length + ([] : List PySem.Keyword).length) (PySem.backTo pos (PySem.starEach args env)) (PySem.backToKw pos (PySem.keywordEach [] env)) = true := by
    unfold PySem.methodCallForm
    have h1 : (PySem.backTo pos (PySem.starEach args env)).all (fun x => !x.1) = true := by
      have := stars (env := env) (pos := pos) hs
      rw [List.any_eq_false] at this
      rw [List.all_eq_true]
      intro x hx; simpa using this x hx
    rw [h1]
    simp only [PySem.keywordEach, PySem.backToKw, List.map_nil, List.all_nil, Bool.true_and, List.length_nil, List.isEmpty_nil, if_true, decide_eq_true_eq]
    lia
  show (do
    let ov ← PySem.attributeBase o m env (PySem.eval o env)
    PySem.standAt apos.atName
    PySem.methodCall o m apos pos env ov (args.length + ([] : List PySem.Keyword).length) (PySem.backTo pos (PySem.starEach args env)) (PySem.backToKw pos (PySem.keywordEach [] env))) = _
  rw [hbase]
  unfold PySem.methodCall PySem.calleeOf PySem.methodCallPos
  rw [hform]
  simp only [if_true, Bool.not_true, Bool.false_or, hp, pure_bind]
  rfl

theorem mapSeq_get {h : Heap} {a : Addr} {items : Array Value} {n : Nat} (f : Array Value → Array Value) (e : h.get? a = some { cls := .type "list", data := .seq items n }) :
    ∃ n', (h.update a (PySem.Obj.mapSeq f)).get? a = some { cls := .type "list", data := .seq (f items) n' } := ⟨_, PySem.Heap.get?_update_self _ e rfl⟩
/-- a list is changed -/
theorem lst_upd {a : Addr} {vs ws : List V} {n : Nat} {items : Array Value} (r : HR W σ s) (ha : σ a = some (.lst vs)) (e : s.heap.get? a = some { cls := .type "list", data := .seq items n }) (f : Array Value → Array Value) (hl : (f items).size ≤ 1000001) (q : Reps W s.heap ws (f items).toList) (tk : Nat) :
    Step W [] σ s (σ.set a (.lst ws)) { s with heap := s.heap.update a (PySem.Obj.mapSeq f), toks := tk } := by
  obtain ⟨n', e'⟩ := mapSeq_get f e
  have kx := (PySem.Heap.SameBut.update s.heap a (PySem.Obj.mapSeq f)).extBut
  exact r.upd ha kx (.lst hl e' (q.mono (tups_but kx ⟨_, e, notTup_type (by decide)⟩))) tk []

theorem pop_s {a : Addr} {vs : List V} {v : V} {pos : PySem.Pos} (r : HR W σ s) (ha : σ a = some (.lst vs)) (hv : vs.getLast? = some v) (hq : Q v (σ.set a (.lst vs.dropLast))) (hP : Kt W σ s Q P) :
    wpAny (model W.prog W.w) A (PySem.callWith pos (.builtin "list.pop") [.ref a] [] []) P E s := by
  obtain @⟨items, n, z, e, q, l⟩ := r.lst ha
  have hne : vs.length ≠ 0 := fun h0 => by rw [List.eq_nil_of_length_eq_zero h0] at hv; cases hv
  rw [List.getLast?_eq_getElem?, l] at hv
  obtain ⟨y, hy, ry⟩ := q.get hv
  have hlt : items.size - 1 < items.size := Nat.sub_lt (Nat.pos_of_ne_zero (l ▸ hne)) Nat.one_pos
  have ed : (items.eraseIdxIfInBounds (items.size - 1)).toList = items.toList.take (items.size - 1) := by
    unfold Array.eraseIdxIfInBounds
    rw [dif_pos hlt, Array.toList_eraseIdx, List.eraseIdx_eq_dropLast (by simp; (clear hne l z; lia)), List.dropLast_eq_take, Array.length_toList]
  have st : Step W [] σ s (σ.set a (.lst vs.dropLast)) { s with heap := s.heap.update a (PySem.Obj.mapSeq fun xs => xs.eraseIdxIfInBounds (items.size - 1)), toks := s.toks } := by
    refine lst_upd r ha e _ (Nat.le_trans ?_ z) ?_ s.toks
    · show (items.eraseIdxIfInBounds (items.size - 1)).toList.length ≤ _
      rw [ed, List.length_take]; exact Nat.min_le_right _ _
    · rw [ed, List.dropLast_eq_take, l]; exact q.take _
  exact PySem.P.pop_list e (by rwa [← Array.getElem?_toList]) (hP _ _ _ _ hq (ry.mono (st.tup0 r)) st) (fits z)
theorem getMethod_lst {a : Addr} {vs : List V} {name : Str} {id : String} {pl : PySem.Sem Bool} {P : Value × List Value → Shared → Prop} (slot : PySem.Slot "list" name id) (hty : PySem.typeOf (.builtin id) = pure (.type "method_descriptor")) (r : HR W σ s) (ha : σ a = some (.lst vs)) (h : P (.builtin id, [.ref a]) s) :
    wpAny (model W.prog W.w) A (PySem.getMethod (.ref a) name pl) P E s := by
  obtain ⟨z, e, q, l⟩ := r.lst ha
  exact PyProof.Rows.getMethod_list_of slot hty ⟨_, e, rfl, _, rfl⟩ ⟨_, e, rfl⟩ h
theorem getMethod_dct {a : Addr} {es : List (List Int × V)} {ep : Nat} {name : Str} {id : String} {pl : PySem.Sem Bool} {P : Value × List Value → Shared → Prop} (slot : PySem.Slot "dict" name id) (hty : PySem.typeOf (.builtin id) = pure (.type "method_descriptor")) (r : HR W σ s) (ha : σ a = some (.dct es ep)) (h : P (.builtin id, [.ref a]) s) :
    wpAny (model W.prog W.w) A (PySem.getMethod (.ref a) name pl) P E s := by
  obtain ⟨z, e, D, _⟩ := r.dct ha
  exact PySem.getMethod_builtin D.typeIs PySem.F.plainAttrs_dict slot hty (PyProof.Rows.dictOfH_noDict D) h

theorem get_s {a : Addr} {es : List (List Int × V)} {ep : Nat} {i : V} {x : Value} {kk : List Int} (hA : Room A k) (hW : WOk W) (r : HR W σ s) (ha : σ a = some (.dct es ep)) (hk : i.key = some kk) (hx : Rep W s.heap i x) (hq : Q ((dget es kk).getD .none) σ) (hP : Kt W σ s Q P) :
    wpAny (model W.prog W.w) A (PySem.call (.builtin "dict.get") [.ref a, x]) P E s := by
  obtain ⟨z, e, D, d, is, n, m, q, rk, l, dl⟩ := r.dct ha
  obtain ⟨b, rfl, kb⟩ := key_tuple hk hx
  refine PySem.call_meetsIn PySem.F.slot_dict_get D.typeIs PySem.F.entry_dict_get (PySem.F.args_dict_get_2 _ _) (PySem.meetsH_dict_get (tk W) a b (r.notSys hW ha)) ⟨hA.kr, kk, _, kb, D, ?_⟩
  rcases dget_at kk m q with ⟨h1, h2⟩ | ⟨v, p, h1, h2, rv⟩
  · rw [h1] at hq; rw [h2]; exact hP _ _ _ _ hq .none (r.tok _ _)
  · rw [h1] at hq; rw [h2]; exact hP _ _ _ _ hq rv (r.tok _ _)
/-- a method of an object -/
theorem sMeth (T : TopOk W) (IE : SE W k cE) {o : Expr} {m : String} {me : Me} {apos pos : PySem.Pos} {args : List Expr} {xo : RS.X} {as : List RS.X} (hme : meStr me = m) (hb : plainBase o = true) (hpos : (apos.endLine == pos.line) = true) (hl : args.length ≤ 20) (hxo : cE ks o = some xo) (has : listX cE ks args = some as)
    (C : Cx W k ks A env ρ σ s) (hw : RS.X.meth xo me as (glb W k) ρ σ Q X) (hE : XH W A env σ s X E) (hP : Kt W σ s Q P) :
    wpAny (model W.prog W.w) A (PySem.eval (.Call (.Attribute o (Str.ofString m) apos) args [] pos) env) P E s := by
  have hst := listX_star has
  subst hme
  rw [meth_eval hb hpos hst hl]
  refine PySem.wpAny_bind (IE ks o xo hxo A env ρ σ s _ X E _ C hw hE fun v σ₁ ov s₁ hw₁ rv st => PySem.wpAny_bind (PySem.wpAny_standAt ?_))
  obtain ⟨hrecv, hw₁⟩ := hw₁
  have hP := hP.step st
  have r := st.hr
  have go := fun (id : String) (first : List Value) (hgo : ∀ vs σ₂ ys s₂, methP (glb W k) σ₂ Q X v me vs → Reps W s₂.heap vs ys → Step W [] σ₁ s₁ σ₂ s₂ → ys.length = args.length → wpAny (model W.prog W.w) A (PySem.call (.builtin id) (first ++ ys) []) P E s₂) =>
    PySem.Calls.callWith_builtin (pos := pos) (id := id) (first := first) (Q := P) (stars (env := env) (pos := pos) hst) (evalArgs_s hst (sEs IE pos args as has σ₁ s₁ _ _ (C.step st) hw₁ (hE.step st) fun vs σ₂ ys s₂ hq rs st₂ hl => hgo vs σ₂ ys s₂ hq rs st₂ hl))
  cases hrecv with
  | append ha =>
    cases rv.ref_inv
    refine PySem.wpAny_bind (PySem.wpAny_holding (getMethod_lst PySem.slot_list_append (by with_unfolding_all rfl) r ha (go _ _ fun ws σ₂ ys s₂ hq rs st₂ _ => ?_)))
    cases hq with
    | append ha' hlen hq =>
      obtain ⟨x, rfl, rx⟩ := rs.one_inv
      obtain @⟨items, nn, z, e, q, l⟩ := st₂.hr.lst ha'
      rw [l] at hlen
      refine PySem.wpAny_list_append_plain (items := items) ⟨nn, e⟩ (fun h₅ hp₅ hs₅ => ?_) (fits z)
      obtain ⟨n₅, hd₅⟩ := hp₅
      have kt := tups_but hs₅.extBut ⟨_, e, notTup_type (by decide)⟩
      refine hP _ _ _ _ hq .none (st₂.trans (st₂.hr.upd ha' hs₅.extBut (.lst ?_ hd₅ ?_) s₂.toks []))
      · rw [Array.size_push]; exact Nat.succ_le_succ hlen
      · rw [Array.toList_push]; exact (q.mono kt).append (.one (rx.mono kt))
  | pop ha =>
    cases rv.ref_inv
    refine PySem.wpAny_bind (PySem.wpAny_holding (getMethod_lst PySem.F.slot_list_pop (by with_unfolding_all rfl) r ha ?_))
    cases args with
    | nil => cases has; cases (show methP (glb W k) σ₁ Q X (.ref _) .pop [] from hw₁) with | pop ha' hu hq => exact pop_s r ha' hu hq hP
    | cons e es => exact go _ _ fun ws σ₂ ys s₂ hq rs st₂ hl => by cases hq; cases rs.nil_inv; cases hl
  | index ha =>
    cases rv.ref_inv
    refine PySem.wpAny_bind (PySem.wpAny_holding (getMethod_lst PySem.F.slot_list_index (by with_unfolding_all rfl) r ha (go _ _ fun ws σ₂ ys s₂ hq rs st₂ _ => ?_)))
    cases hq with
    | index ha' hd hds hj hq => obtain ⟨x, rfl, rx⟩ := rs.one_inv; exact index_s C.room st₂.hr ha' hd hds hj rx hq (hP.step st₂)
  | update ha =>
    cases rv.ref_inv
    refine PySem.wpAny_bind (PySem.wpAny_holding (getMethod_dct PySem.F.slot_dict_update PySem.F.type_dict_update r ha (go _ _ fun ws σ₂ ys s₂ hq rs st₂ _ => ?_)))
    cases hq with
    | update ha' hb hab hne hl hq => obtain ⟨x, rfl, rx⟩ := rs.one_inv; cases rx.ref_inv; exact update_s C.room T.toWOk st₂.hr ha' hb hab hne hl hq (hP.step st₂)
  | get ha =>
    cases rv.ref_inv
    refine PySem.wpAny_bind (PySem.wpAny_holding (getMethod_dct PySem.F.slot_dict_get PySem.F.type_dict_get r ha (go _ _ fun ws σ₂ ys s₂ hq rs st₂ _ => ?_)))
    cases hq with
    | get ha' hk hq => obtain ⟨x, rfl, rx⟩ := rs.one_inv; exact get_s C.room T.toWOk st₂.hr ha' hk rx hq (hP.step st₂)
  | own ha hn hd hl' =>
    cases rv.ref_inv
    obtain ⟨C', _, hc, _⟩ := r.inst ha hd
    obtain ⟨N, mN, K⟩ := T.clsK _ C' hc
    obtain ⟨f, of, fd, hf, hfo, hfc, hfd, hfn⟩ := K.meth _ (.tail _ hn)
    refine PySem.wpAny_bind (PySem.wpAny_holding (method_s K r ha hd hl' hf hfo hfc (meth_type _ hn) ?_))
    refine PySem.Calls.callWith_function (o := of) (fd := fd) (evalArgs_s hst (sEs IE pos args as has σ₁ s₁ _ _ (C.step st) hw₁ (hE.step st) fun vs σ₂ ys s₂ hq rs st₂ _ => ?_))
    cases hq with
    | own hcl =>
      obtain ⟨fa, hfa, hcl⟩ := hcl
      obtain rfl : fa = f := Option.some.inj (hfa.symm.trans hfn)
      exact ⟨⟨st₂.hr.base _ _ hfo, hfd⟩, hcl A s₂ (.ref _ :: ys) _ _ C.room st₂.hr ((C.fr.step st).step st₂) (.cons (.ref _) rs) ((hE.step st).step st₂).call (hP.step st₂)⟩
end
end RS

namespace RS
open PySem (Program World Shared Addr Value Obj Heap Str Around wpAny codeAny model Scope NameKind Expr Stmt FuncData cLine recursionLimit sizeLine mainGlobals builtinsNs PyData)

section
variable {W : Wd} {k : Nat} {cE : Ks → Expr → Option RS.X}

/-- a dict of one entry -/
theorem dict1_s (T : TopOk W) (IE : SE W k cE) {ks : Ks} {kx vx : Expr} {pos : PySem.Pos} {x : RS.X} (h : o2 RS.X.dict1 (cE ks kx) (cE ks vx) = some x) {A : Around} {env : PySem.Env} {ρ : Env} {σ : Hp} {s : Shared} {Q : VP} {X : XP} {E : Value → Shared → Prop} {P : Value → Shared → Prop} (C : Cx W k ks A env ρ σ s) :
    x (glb W k) ρ σ Q X → XH W A env σ s X E → Kt W σ s Q P → wpAny (model W.prog W.w) A (PySem.eval (.Dict [some kx] [vx] pos) env) P E s := by
  refine o2_inv h fun xk xv hk hv hw hE hP => ?_
  have hpush : ∀ b o, s.heap.get? b = some o → (s.heap.push { cls := .type "dict", data := .dict #[] }).get? b = some o := fun b o e => PySem.Heap.get?_push_of_some _ e
  have hD : (s.heap.push { cls := .type "dict", data := .dict #[] }).get? s.heap.objs.size = some { cls := .type "dict", data := .dict #[] } := PySem.Heap.get?_push_size _ rfl
  have st0 : Step W [] σ s (σ.set s.heap.objs.size (.dct [] 0)) _ := C.r.new (size_none _) hpush (.dct (xs := []) (Nat.zero_le _) hD rfl (fun _ h => by cases h) List.nodup_nil rfl .nil (fun _ h => by cases h)) s.toks
  have hw := hw _ C.r.fresh'
  refine PySem.wpAny_Dict_any rfl rfl (List.cons_ne_nil _ _) (by show 1 ≤ 15; decide) (PySem.pairTrees_cons_walk (IE ks kx xk hk A env ρ _ _ _ X E _ (C.step st0) hw (hE.step st0) fun i σ₁ yk s₁ hw₁ ri st₁ => IE ks vx xv hv A env ρ σ₁ s₁ _ X E _ ((C.step st0).step st₁) hw₁ ((hE.step st0).step st₁) fun v σ₂ yv s₂ hw₂ rv st₂ => PySem.pairTrees_nil_walk ?_))
  have ri := ri.mono (st₂.tup0 st₁.hr)
  have st02 := (st0.trans st₁).trans st₂
  cases hw₂ with
  | dct ha hk' hl hn =>
    obtain @⟨des, xs, z, e, D0, d, is, n, m, q, rk, l, dl⟩ := st₂.hr.dct ha
    obtain ⟨b, rfl, kb⟩ := key_tuple hk' ri
    unfold PySem.storeAll
    rw [List.forIn_cons]
    refine PySem.wpAny_bind (PySem.wpAny_bind (PySem.wpAny_dictSet_heap (knd := tk W) (hsz := fits (l ▸ hl.fits)) (C.room.u 0 (by decide)) kb D0 fun h' hm' hs' => PySem.wpAny_pure ?_))
    show wpAny _ A (forIn ([] : List (Value × Value)) PUnit.unit _) _ _ _
    rw [List.forIn_nil]
    refine PySem.wpAny_pure ?_
    have kt : TupKeep s₂.heap h' := tups_but hs'.extBut ⟨_, e, notTup_type (by decide)⟩
    obtain ⟨ep', hc⟩ := stored_cell m q rk hl (V.key_of hk' ▸ ri) rv kt hm'
    exact hP _ _ _ _ (hn ep') (.ref _) (st02.trans (st₂.hr.upd ha hs'.extBut hc _ []))

theorem sE_step (T : TopOk W) (IE : SE W k cE) (IT : STr W k cE) : SE W k (stepE cE) := by
  intro ks e x h A env ρ σ s Q X E P C
  cases e with
  | Constant c kk pos =>
    cases c with
    | none => cases h; exact fun hw _ hP => PySem.wpAny_pure (hP _ _ _ _ hw .none (.refl C.r))
    | bool b => cases h; exact fun hw _ hP => PySem.wpAny_pure (hP _ _ _ _ hw (.bool _) (.refl C.r))
    | int i => cases h; exact fun hw _ hP => PySem.wpAny_Constant_int (hP _ _ _ _ hw (.int _ _) (C.r.tok _ _))
    | str t => exact o1_inv h fun a ha hw _ hP => by cases nm_is ha; exact fun _ _ _ => hP _ _ _ _ hw (.str _ _) (C.r.tok _ _)
    | _ => cases h
  | Name id pos =>
    refine oif_inv h fun hd h => ?_
    simp only [Bool.not_eq_true', Bool.or_eq_false_iff] at hd
    by_cases hv : isVar ks id = true
    · rw [if_pos hv] at h
      refine o1_inv h fun a ha hw _ hP => ?_
      cases nm_is ha
      obtain ⟨v, hv', hq⟩ := hw
      exact PySem.wpAny_Name (ld_var C hv hd.1.2 (by simpa using hd.2) hv' hq hP) hd.1.1
    · rw [if_neg hv] at h
      refine oif_inv h fun hg h => o1_inv h fun a ha hw _ hP => ?_
      cases nm_is ha
      obtain ⟨v, hv', hq⟩ := hw
      obtain ⟨y, hy, hr⟩ := T.globV _ _ hv'
      exact PySem.wpAny_Name (ld_glob T C hg hy (hP _ _ _ _ hq (hr _) (.refl C.r))) hd.1.1
  | BinOp l op rr pos =>
    refine o3_inv h fun o xl xr ho hl hr hw hE hP => ?_
    refine PySem.wpAny_BinOp (IE ks l xl hl A env ρ σ s _ X E _ C hw hE fun v σ₁ a s₁ hw₁ rv st => IE ks rr xr hr A env ρ σ₁ s₁ _ X E _ (C.step st) hw₁ (hE.step st) fun w σ₂ b s₂ hw₂ rw' st₂ => ?_)
    rw [opB ho]
    exact bin_sound st₂.hr (rv.mono (st₂.tup0 st.hr)) rw' hw₂ ((hP.step st).step st₂)
  | UnaryOp op a pos =>
    cases op with
    | Not =>
      refine o1_inv h fun xa ha hw hE hP => PyProof.Rows.UnaryOp_ (IE ks a xa ha A env ρ σ s _ X E _ C hw hE fun v σ₁ y s₁ hw₁ rv st => ?_)
      obtain ⟨b, hb, hq⟩ := hw₁
      exact PyProof.Rows.not_of (truthy_sound rv hb (hP _ _ _ _ hq (.bool _) st))
    | USub =>
      refine o1_inv h fun xa ha hw hE hP => PyProof.Rows.UnaryOp_ (IE ks a xa ha A env ρ σ s _ X E _ C hw hE fun v σ₁ y s₁ hw₁ rv st => ?_)
      obtain ⟨i, rfl, hq⟩ := hw₁
      obtain ⟨t, rfl⟩ := rv.int_inv
      exact PyProof.Rows.neg_int (hP _ _ _ _ hq (.int _ _) (st.trans (st.hr.tok _ _)))
    | _ => cases h
  | BoolOp op vs pos =>
    cases vs with
    | nil => cases h
    | cons v vs => cases vs with
      | nil => cases h
      | cons v' vs =>
        refine o1_inv h fun p hp hw hE hP => ?_
        have := sBop IE (op == .And) pos (v' :: vs) v p hp σ s Q P C hw hE hP
        cases op <;> exact this
  | Compare l ops cs pos =>
    cases ops with
    | nil => cases h
    | cons op ops => cases ops with
      | nil => cases cs with
        | nil => cases h
        | cons rr cs => cases cs with
          | cons _ _ => cases h
          | nil =>
            refine oif_inv h fun hset h => o2_inv h fun xl xr hl hr hw hE hP => ?_
            rw [opC op, ← opC op]
            refine PySem.wpAny_Compare1 (IE ks l xl hl A env ρ σ s _ X E _ C hw hE fun v σ₁ a s₁ hw₁ rv st => IE ks rr xr hr A env ρ σ₁ s₁ _ X E _ (C.step st) hw₁ (hE.step st) fun w σ₂ b s₂ hw₂ rw' st₂ => ?_) (beh_of hset)
            rw [opC op]
            exact cmp_sound T.toWOk C.room st₂.hr (rv.mono (st₂.tup0 st.hr)) rw' hw₂ fun b tk hb => hP _ _ _ _ hb (.bool _) ((st.trans st₂).trans (st₂.hr.tok _ _))
      | cons op2 ops => cases ops with
        | cons _ _ => cases cs with
          | nil => cases h
          | cons _ cs => cases cs with
            | nil => cases h
            | cons _ cs => cases cs <;> cases h
        | nil => cases cs with
          | nil => cases h
          | cons rr cs => cases cs with
            | nil => cases h
            | cons r2 cs => cases cs with
              | cons _ _ => cases h
              | nil =>
                refine oif_inv h fun hset h => o3_inv h fun xl xr xr2 hl hr hr2 hw hE hP => ?_
                refine PyProof.Rows.Compare_chain (rs := []) (ops := []) (IE ks l xl hl A env ρ σ s _ X E _ C hw hE fun v σ₁ a s₁ hw₁ rv st => PyProof.Rows.chain_link (IE ks rr xr hr A env ρ σ₁ s₁ _ X E _ (C.step st) hw₁ (hE.step st) fun w σ₂ b s₂ hw₂ rw' st₂ => ?_)) (beh_of hset)
                rw [opC op]
                refine cmp_sound T.toWOk C.room st₂.hr (rv.mono (st₂.tup0 st.hr)) rw' hw₂ fun c tk hc => PySem.wpAny_truthy_bool ?_
                have st3 := (st.trans st₂).trans (st₂.hr.tok tk [])
                cases c with
                | false => exact hP _ _ _ _ hc (.bool _) st3
                | true =>
                  refine PyProof.Rows.chain_last (IE ks r2 xr2 hr2 A env ρ σ₂ _ _ X E _ (C.step st3) hc (hE.step st3) fun u σ₃ b' s₃ hw₃ ru st4 => ?_)
                  rw [opC op2]
                  exact cmp_sound T.toWOk C.room st4.hr ((rw'.mono ((st₂.hr.tok tk []).tup0 st₂.hr)).mono (st4.tup0 st3.hr)) ru hw₃ fun b tk hb => hP _ _ _ _ hb (.bool _) ((st3.trans st4).trans (st4.hr.tok _ _))
  | Call f args kws pos =>
    cases f with
    | Name f p =>
      cases kws with
      | cons _ _ => cases h
      | nil =>
        refine oif_inv h fun hf h1 => ob_inv h1 fun x' hx' h2 => ob_inv h2 fun as has h3 => ?_
        clear h h1 h2
        simp only [Bool.and_eq_true, Bool.not_eq_true'] at hf
        cases nm_is hx'
        have hst := listX_star has
        unfold callX at h3
        split at h3
        · rename_i b hb
          cases h3
          intro hw hE hP
          refine PySem.wpAny_Call_NameR (PySem.wpAny_Name (ld_glob T C hf.1.2 (.inr (T.biB _ _ hb)) ?_) hf.1.1)
          have go : wpAny (model W.prog W.w) A (PySem.spliced (PySem.backTo pos (PySem.starEach args env))) (fun ys s₁ => wpAny (model W.prog W.w) A (PySem.call (biV b) ([] ++ ys) []) P E s₁) E s :=
            sEs IE pos args as has σ s _ _ C hw hE fun vs σ₁ ys s₁ hq rs st _ => bi_sound rfl T.toWOk C.room st.hr rs hq (hP.step st)
          cases b <;> first | exact PySem.Calls.callWith_builtin (stars hst) (evalArgs_s hst go) | exact PySem.callWith_type (stars hst) (evalArgs_s hst go)
        · refine oif_inv h3 fun _ h4 => ?_
          cases h4
          rintro ⟨hhas, hw⟩ hE hP
          obtain ⟨fa, hfa, hmg, hfn⟩ := T.fnF x' (of_decide_eq_true hhas)
          refine PySem.wpAny_Call_NameR (PySem.wpAny_Name (ld_glob T C hf.1.2 (.inl hmg) ?_) hf.1.1)
          rcases hfn with ⟨o, fd, ho, hd⟩ | ⟨N, mN, hcl⟩
          · refine PySem.Calls.callWith_function (o := o) (fd := fd) (evalArgs_s hst (sEs IE pos args as has σ s _ _ C hw hE fun vs σ₁ ys s₁ hq rs st _ => ?_))
            obtain ⟨fa', hfa', hc⟩ := hq
            obtain rfl := Option.some.inj (hfa.symm.trans hfa')
            exact ⟨⟨st.hr.base _ _ ho, hd⟩, hc A s₁ ys _ _ C.room st.hr (C.fr.step st) rs (hE.step st).call (hP.step st)⟩
          · cases args with
            | nil => cases hf.2
            | cons e es =>
              refine PyProof.Rows.callWith_cls hcl (sEs IE pos _ as has σ s _ _ C hw hE fun vs σ₁ ys s₁ hq rs st _ => ?_) (starEach_cons es env (hst e (.head _))) (stars fun e' he => hst e' (.tail _ he))
              obtain ⟨fa', hfa', hc⟩ := hq
              obtain rfl := Option.some.inj (hfa.symm.trans hfa')
              exact ⟨st.hr.base, hc A s₁ ys _ _ C.room st.hr (C.fr.step st) rs (hE.step st).call (hP.step st)⟩
    | Attribute o m apos =>
      cases kws with
      | cons _ _ => cases h
      | nil =>
        refine oif_inv h fun hf h1 => ob_inv h1 fun m' hm' h2 => oif_inv h2 fun hme h3 => ?_
        clear h h1 h2
        simp only [Bool.and_eq_true, decide_eq_true_eq] at hf
        cases nm_is hm'
        exact o2_inv h3 fun xo as hxo has hw hE hP => sMeth T IE (eq_of_beq hme) hf.1.1 hf.1.2 hf.2 hxo has C hw hE hP
    | _ => cases kws <;> cases h
  | Subscript v sl pos =>
    have idx : o2 RS.X.idx (cE ks v) (cE ks sl) = some x → x (glb W k) ρ σ Q X → XH W A env σ s X E → Kt W σ s Q P → wpAny (model W.prog W.w) A (PySem.eval (.Subscript v sl pos) env) P E s := fun h =>
      o2_inv h fun xv xi hv hi hw hE hP => PyProof.Rows.Subscript_ (IE ks v xv hv A env ρ σ s _ X E _ C hw hE fun o σ₁ a s₁ hw₁ rv st => IE ks sl xi hi A env ρ σ₁ s₁ _ X E _ (C.step st) hw₁ (hE.step st) fun w σ₂ b s₂ hw₂ rw' st₂ =>
        idx_sound rfl T.toWOk C.room st₂.hr (rv.mono (st₂.tup0 st.hr)) rw' hw₂ ((hP.step st).step st₂) (subs_any _ _ _))
    cases sl with
    | Slice l u step p =>
      cases step with
      | some e => cases h
      | none =>
        refine o3_inv h fun xv xl xu hv hl hu hw hE hP => ?_
        have part : ∀ (o : Option Expr) (x : RS.X) (σ : Hp) (s : Shared) (Q : VP) (P : Value → Shared → Prop), optX cE ks o = some x → Cx W k ks A env ρ σ s → x (glb W k) ρ σ Q X → XH W A env σ s X E → Kt W σ s Q P → wpAny (model W.prog W.w) A (PySem.evalPart o env) P E s := by
          intro o x σ s Q P h C hw hE hP
          cases o with
          | none => cases h; exact PySem.wpAny_pure (hP _ _ _ _ hw .none (.refl C.r))
          | some e => exact IE ks e x h A env ρ σ s Q X E P C hw hE hP
        refine PyProof.Rows.Subscript_ (IE ks v xv hv A env ρ σ s _ X E _ C hw hE fun o σ₁ a s₁ hw₁ rv st => PySem.wpAny_Slice (part l xl σ₁ s₁ _ _ hl (C.step st) hw₁ (hE.step st) fun vl σ₂ yl s₂ hw₂ rl st₂ =>
          part u xu σ₂ s₂ _ _ hu ((C.step st).step st₂) hw₂ ((hE.step st).step st₂) fun vu σ₃ yu s₃ hw₃ ru st₃ => PySem.wpAny_pure ?_))
        have k3 := st₃.tup0 st₂.hr
        exact slice_sound rfl T.toWOk st₃.hr ((rv.mono (st₂.tup0 st.hr)).mono k3) (rl.mono k3) ru hw₃ (((hP.step st).step st₂).step st₃) fun y => subs_any _ _ _
    | _ => exact idx h
  | Attribute o a pos =>
    refine oif_inv h fun hb h => o2_inv h fun xo a' ho ha hw hE hP => ?_
    cases nm_is ha
    obtain ⟨hn, hw⟩ := hw
    refine PyProof.Rows.Attribute_any_ (IE ks o xo ho A env ρ σ s _ X E _ C hw hE fun v σ₁ ov s₁ hw₁ rv st => ?_) (by cases o <;> first | rfl | cases hb)
    cases hw₁ with
    | mk h1 h2 h3 hq =>
      cases rv.ref_inv
      obtain ⟨C', _, hc, _⟩ := st.hr.inst h1 h2
      obtain ⟨N, mN, K⟩ := T.clsK _ C' hc
      exact getattr_s K st.hr h1 h2 h3 (K.attr _ hn) (attr_type _ hn) hq (hP.step st)
  | Tuple es kk pos =>
    refine oif_inv h fun hl h => o1_inv h fun xs hxs hw hE hP => PyProof.Rows.Tuple_ (sEs IE pos es xs hxs σ s _ _ C hw hE fun vs σ₁ ys s₁ hq rs st hl' => ?_)
    have hz : ys.length ≤ 1000001 := by rw [hl']; exact Nat.le_trans (of_decide_eq_true hl) (by decide)
    exact PySem.wpAny_newObj_type (newTuple_s st.hr hz rs hq s₁.toks (hP.step st)) (fits hz)
  | List es pos =>
    refine oif_inv h fun hl h => o1_inv h fun xs hxs hw hE hP => PyProof.Rows.List_ (sEs IE pos es xs hxs σ s _ _ C hw hE fun vs σ₁ ys s₁ hq rs st hl' => ?_)
    have hz : ys.length ≤ 1000001 := by rw [hl']; exact Nat.le_trans (of_decide_eq_true hl) (by decide)
    exact PySem.wpAny_newObj_type (newList_s st.hr hz rs hq s₁.toks (hP.step st)) (fits hz)
  | Dict keys vals pos =>
    cases keys with
    | nil => cases vals with
      | cons _ _ => cases h
      | nil =>
        cases h
        intro hw hE hP
        refine PySem.wpAny_Dict_empty ?_
        exact hP _ _ _ _ (hw _ C.r.fresh') (.ref _) (C.r.new (size_none _) (fun b o e => PySem.Heap.get?_push_of_some _ e) (.dct (es := []) (xs := []) (des := #[]) (Nat.zero_le _) (PySem.Heap.get?_push_size _ rfl) rfl (fun _ h => by cases h) List.nodup_nil rfl .nil (fun _ h => by cases h)) s.toks)
    | cons kx keys =>
      cases kx with
      | none => cases keys <;> cases vals <;> cases h
      | some kx => cases keys with
        | cons _ _ => cases vals <;> cases h
        | nil => cases vals with
          | nil => cases h
          | cons vx vals => cases vals with
            | cons _ _ => cases h
            | nil => exact dict1_s T IE h C
  | ListComp elt gens sc pos =>
    intro hw hE hP
    rw [PySem.eval_ListComp]
    refine sComp T IE IT h C hw hE (fun vs σ' D C' s' hK at' fD fC hDC => ?_) _
    obtain ⟨m, hns⟩ := at'.ns
    refine ⟨m, hns, fun h' hs => ?_⟩
    have st' := at'.g.over C.r fC at'.nC (ns_notTup hns) hs.extBut s'.toks
    obtain ⟨z, e, q, l⟩ := at'.d.but hs.extBut (ns_notTup hns) hDC
    exact hP _ _ _ _ (hK D at'.nD) (.ref D) (st'.add C.r fD (.lst z e q))
  | _ => cases h
end
end RS

namespace RS
open PySem (Program World Shared Addr Value Obj Heap Str Around wpAny codeAny model Scope NameKind Expr Stmt FuncData cLine recursionLimit sizeLine mainGlobals builtinsNs PyData)

section
variable {W : Wd} {k : Nat} {cE : Ks → Expr → Option RS.X}

theorem sT_step (T : TopOk W) (IE : SE W k cE) (IT : STr W k cE) (IE' : SE W k (stepE cE)) : STr W k (stepE cE) := by
  intro ks e x h A env ρ σ s Q X E P C
  have plain : (PySem.isTrue e env (PySem.eval e env) = (do let v ← PySem.eval e env; PySem.standAt e.pos; PySem.holding [v] (PySem.truthy v))) → x (glb W k) ρ σ Q X → XH W A env σ s X E → (∀ v σ', Q v σ' → (truth v).isSome = true) →
      (∀ v b σ' s', Q v σ' → truth v = some b → Step W [] σ s σ' s' → P b s') → wpAny (model W.prog W.w) A (PySem.isTrue e env (PySem.eval e env)) P E s := fun he hw hE hT hP => by
    refine PyProof.Rows.isTrue_plain (IE' ks e x h A env ρ σ s Q X E _ C hw hE fun v σ₁ y s₁ hq rv st => ?_) he
    obtain ⟨b, hb⟩ := Option.isSome_iff_exists.mp (hT v σ₁ hq)
    exact truthy_sound rv hb (hP v b σ₁ s₁ hq hb st)
  cases e with
  | UnaryOp op a pos =>
    cases op with
    | Not =>
      clear plain
      refine o1_inv h fun xa ha hw hE hT hP => PyProof.Rows.isTrue_not (IT ks a xa ha A env ρ σ s _ X E _ C hw hE (fun v σ' hq => by obtain ⟨b, hb, _⟩ := hq; rw [hb]; rfl) fun v c σ₁ s₁ hw₁ hc st => ?_)
      obtain ⟨b, hb, hq⟩ := hw₁
      obtain rfl : b = c := Option.some.inj (hb.symm.trans hc)
      exact hP _ _ _ _ hq rfl st
    | _ => exact plain rfl
  | BoolOp op vs pos =>
    clear plain
    cases vs with
    | nil => cases h
    | cons v vs => cases vs with
      | nil => cases h
      | cons v' vs =>
        refine o1_inv h fun p hp hw hE hT hP => ?_
        have := sBopT IT (op == .And) pos (PySem.eval (.BoolOp op (v :: v' :: vs) pos) env) (v' :: vs) v p hp σ s Q P C hw hE hT hP
        cases op <;> exact this
  | Compare l ops cs pos =>
    clear plain
    cases ops with
    | nil => cases h
    | cons op ops => cases ops with
      | nil => cases cs with
        | nil => cases h
        | cons rr cs => cases cs with
          | cons _ _ => cases h
          | nil =>
            refine oif_inv h fun hset h => o2_inv h fun xl xr hl hr hw hE hT hP => ?_
            rw [PySem.isTrue_Compare1]
            have hm : PySem.markedBehindIn op rr (PySem.eval rr env) = PySem.eval rr env := by unfold PySem.markedBehindIn; rw [beh_of hset]
            rw [hm]
            refine PySem.wpAny_bind (IE ks l xl hl A env ρ σ s _ X E _ C hw hE fun v σ₁ a s₁ hw₁ rv st => PySem.wpAny_bind (PySem.wpAny_holding (IE ks rr xr hr A env ρ σ₁ s₁ _ X E _ (C.step st) hw₁ (hE.step st) fun w σ₂ b s₂ hw₂ rw' st₂ =>
              PySem.wpAny_bind (PySem.wpAny_standAt (PySem.wpAny_bind (PyProof.Rows.wpAny_operate' ?_))))))
            rw [opC op]
            exact cmp_sound T.toWOk C.room st₂.hr (rv.mono (st₂.tup0 st.hr)) rw' hw₂ fun b tk hb => PySem.wpAny_holding (PySem.wpAny_truthy_bool (hP _ _ _ _ hb rfl ((st.trans st₂).trans (st₂.hr.tok _ _))))
      | cons op2 ops => cases ops with
        | cons _ _ => cases cs with
          | nil => cases h
          | cons _ cs => cases cs with
            | nil => cases h
            | cons _ cs => cases cs <;> cases h
        | nil => cases cs with
          | nil => cases h
          | cons rr cs => cases cs with
            | nil => cases h
            | cons r2 cs => cases cs with
              | cons _ _ => cases h
              | nil =>
                refine oif_inv h fun hset h => o3_inv h fun xl xr xr2 hl hr hr2 hw hE hT hP => ?_
                refine PyProof.Rows.isTrue_chain (rs := []) (ops := []) (IE ks l xl hl A env ρ σ s _ X E _ C hw hE fun v σ₁ a s₁ hw₁ rv st => PyProof.Rows.test_link (IE ks rr xr hr A env ρ σ₁ s₁ _ X E _ (C.step st) hw₁ (hE.step st) fun w σ₂ b s₂ hw₂ rw' st₂ => ?_)) (beh_of hset)
                rw [opC op]
                refine cmp_sound T.toWOk C.room st₂.hr (rv.mono (st₂.tup0 st.hr)) rw' hw₂ fun c tk hc => PySem.wpAny_truthy_bool ?_
                have st3 := (st.trans st₂).trans (st₂.hr.tok tk [])
                cases c with
                | false => exact hP _ _ _ _ hc rfl st3
                | true =>
                  refine PyProof.Rows.test_last (IE ks r2 xr2 hr2 A env ρ σ₂ _ _ X E _ (C.step st3) hc (hE.step st3) fun u σ₃ b' s₃ hw₃ ru st4 => ?_)
                  rw [opC op2]
                  exact cmp_sound T.toWOk C.room st4.hr ((rw'.mono ((st₂.hr.tok tk []).tup0 st₂.hr)).mono (st4.tup0 st3.hr)) ru hw₃ fun b tk hb => PySem.wpAny_truthy_bool (hP _ _ _ _ hb rfl ((st3.trans st4).trans (st4.hr.tok _ _)))
  | IfExp a b c pos => cases h
  | _ => exact plain rfl

theorem sBoth (T : TopOk W) (n : Nat) : SE W k (compE n) ∧ STr W k (compE n) := by
  induction n with
  | zero => exact ⟨fun _ _ _ h => (by cases h), fun _ _ _ h => (by cases h)⟩
  | succ n ih => exact ⟨sE_step T ih.1 ih.2, sT_step T ih.1 ih.2 (sE_step T ih.1 ih.2)⟩

/-! ### frames -/
noncomputable def ownOf (env : PySem.Env) : List Addr := env.locals :: env.cells.filterMap fun x => env.cells.lookup x.1

structure EnvW (W : Wd) (env : PySem.Env) (ρ : Env) (σ : Hp) (s : Shared) : Prop extends EnvR W env ρ σ s.heap where
  ns : ∃ m, s.heap.Ns env.locals m
  cel : ∀ X c, env.cells.lookup X = some c → ∃ v, s.heap.IsCell c v
  own : ∀ b ∈ ownOf env, σ b = none ∧ W.s₀.heap.get? b = none ∧ ∃ o, s.heap.get? b = some o ∧ ¬ isTup o
  apart : ∀ X Y c, env.cells.lookup X = some c → env.cells.lookup Y = some c → X = Y
  neL : ∀ X c, env.cells.lookup X = some c → c ≠ env.locals

section
variable {env : PySem.Env} {ρ : Env} {σ σ' : Hp} {s s' : Shared}
theorem lookup_own {X : Str} {c : Addr} (h : env.cells.lookup X = some c) : c ∈ ownOf env :=
  List.mem_cons_of_mem _ (List.mem_filterMap.mpr ⟨_, PySem.mem_of_lookup h, h⟩)
theorem locals_own : env.locals ∈ ownOf env := List.mem_cons_self
theorem EnvW.owned (x : EnvW W env ρ σ s) : Own (ownOf env) s.heap := fun b hb => (x.own b hb).2.2
theorem EnvW.step (x : EnvW W env ρ σ s) (r : HR W σ s) (st : Step W [] σ s σ' s') : EnvW W env ρ σ' s' where
  toEnvR := x.toEnvR.step r st
  ns := (by obtain ⟨m, hn⟩ := x.ns; exact ⟨m, st.ns hn (x.own _ locals_own).1 List.not_mem_nil⟩)
  cel X c h := (by obtain ⟨v, hn⟩ := x.cel X c h; exact ⟨v, st.cell hn (x.own _ (lookup_own h)).1 List.not_mem_nil⟩)
  own b hb := by
    obtain ⟨h1, h2, o, ho, hn⟩ := x.own b hb
    obtain ⟨o', ho', hn'⟩ := st.live b o ho
    exact ⟨st.none_ b o ho h1, h2, o', ho', hn' hn⟩
  apart := x.apart
  neL := x.neL
/-- the heap's own names at a place are but one map -/
theorem ns_fun {h : Heap} {a : Addr} {m m' : Str → Option Value} (x : h.Ns a m) (y : h.Ns a m') : m = m' := by
  obtain ⟨o, es, ep, ho, hd, _, hm⟩ := x
  obtain ⟨o', es', ep', ho', hd', _, hm'⟩ := y
  rw [ho] at ho'; cases ho'
  rw [hd] at hd'; cases hd'
  funext z; rw [← hm, ← hm']
theorem cell_notTup {h : Heap} {c : Addr} {v : Option Value} (x : h.IsCell c v) : ∃ o, h.get? c = some o ∧ ¬ isTup o := by
  obtain ⟨o, ho, hd⟩ := x
  exact ⟨o, ho, fun k => by obtain ⟨_, _, _, q⟩ := k; exact PySem.Data.noConfusion (hd.symm.trans q)⟩
theorem cell_but {h h' : Heap} {C I : Addr} {v : Option Value} (hn : h.IsCell C v) (k : PySem.Heap.ExtBut I h h') (ne : C ≠ I) : h'.IsCell C v := (by obtain ⟨o, ho, q⟩ := hn; exact ⟨o, k _ _ ne ho, q⟩)

/-- one object is changed: none of the frame's own, or one of them with its names told anew -/
theorem EnvW.but {ρ' : Env} {I : Addr} {h' : Heap} (R : EnvW W env ρ σ s) (kx : PySem.Heap.ExtBut I s.heap h') (hI : ∃ o, s.heap.get? I = some o ∧ ¬ isTup o) (hI' : I ∈ ownOf env → ∃ o, h'.get? I = some o ∧ ¬ isTup o)
    (hns : ∃ m, h'.Ns env.locals m) (hcel : ∀ X c, env.cells.lookup X = some c → c = I → ∃ v, h'.IsCell c v)
    (hvar : ∀ x v, ρ' x = some v → Str.ofString x ≠ ".0" → VarAt W env σ h' (Str.ofString x) v) (tk : Nat) : EnvW W env ρ' σ { s with heap := h', toks := tk } where
  kind := R.kind
  glob := R.glob
  blt := R.blt
  cells := R.cells
  var := hvar
  ns := hns
  cel X c hX := by
    by_cases hc : c = I
    · exact hcel X c hX hc
    · obtain ⟨v, hv⟩ := R.cel X c hX; exact ⟨v, cell_but hv kx hc⟩
  own b hb := by
    obtain ⟨h1, h2, o, ho, hn⟩ := R.own b hb
    by_cases hbI : b = I
    · subst hbI; exact ⟨h1, h2, hI' hb⟩
    · exact ⟨h1, h2, o, kx _ _ hbI ho, hn⟩
  apart := R.apart
  neL := R.neL
theorem EnvW.ext {I : Addr} {h' : Heap} (R : EnvW W env ρ σ s) (kx : PySem.Heap.ExtBut I s.heap h') (hI : ∃ o, s.heap.get? I = some o ∧ ¬ isTup o) (hne : I ∉ ownOf env) (tk : Nat) : EnvW W env ρ σ { s with heap := h', toks := tk } := by
  have kt := tups_but kx hI
  have neL : env.locals ≠ I := fun q => hne (q ▸ locals_own)
  refine R.but kx hI (fun h => absurd h hne) ((by obtain ⟨m, hm⟩ := R.ns; exact ⟨m, ns_but hm kx neL⟩)) (fun X c hX hc => absurd (hc ▸ lookup_own hX) hne) (fun x v hx h0 => ⟨fun hl => ?_, fun hc => ?_⟩) tk
  · obtain ⟨m, y, hn, hm, hr, hs⟩ := (R.var x v hx h0).1 hl
    exact ⟨m, y, ns_but hn kx neL, hm, hr.mono kt, hs⟩
  · obtain ⟨c, y, hl, hn, hr, hs⟩ := (R.var x v hx h0).2 hc
    exact ⟨c, y, hl, cell_but hn kx (fun q => hne (q ▸ lookup_own hl)), hr.mono kt, hs⟩

/-- a name of the frame's own is stored -/
theorem store_sound {A : Around} {E : Value → Shared → Prop} {x : String} {u : V} {y : Value} {P : Unit → Shared → Prop} (R : EnvW W env ρ σ s) (r : HR W σ s) (hx : isOwn env.scope.names (Str.ofString x) = true) (hu : Rep W s.heap u y)
    (h : ∀ s', EnvW W env (ρ.set x u) σ s' → Step W (ownOf env) σ s σ s' → TupKeep s.heap s'.heap → P () s') : wpAny (model W.prog W.w) A (PySem.storeName env (Str.ofString x) y) P E s := by
  cases hk : env.scope.names.lookup (Str.ofString x) with
  | none => unfold isOwn at hx; rw [hk] at hx; cases hx
  | some kd =>
    cases kd with
    | «local» =>
      obtain ⟨m, hm⟩ := R.ns
      refine PySem.wpAny_storeName_local hk hm (fun h' hn hs => ?_) (by rw [R.kind]; rfl)
      obtain ⟨hσ, hb, oL, eL, nL⟩ := R.own _ locals_own
      have kx := hs.extBut
      have kt := tups_but kx ⟨oL, eL, nL⟩
      obtain ⟨o', eo', no'⟩ := ns_notTup hn
      refine h _ (R.but kx ⟨oL, eL, nL⟩ (fun _ => ⟨o', eo', no'⟩) ⟨_, hn⟩ (fun X c hX hc => absurd hc (R.neL X c hX)) (fun z v hz h0 => ⟨fun hl => ?_, fun hc => ?_⟩) _) (r.mine locals_own R.owned hσ hb kx eo' no' _) kt
      · by_cases hzx : z = x
        · subst hzx
          rw [Env.set_same] at hz; cases hz
          exact ⟨_, y, hn, if_pos rfl, hu.mono kt, hσ⟩
        · rw [Env.set_ne _ _ hzx] at hz
          obtain ⟨m', y', hn', hm', hr', _⟩ := (R.var z v hz h0).1 hl
          have := ns_fun hm hn'; subst this
          exact ⟨_, y', hn, (if_neg fun e => hzx (Str.ofString_inj e)).trans hm', hr'.mono kt, hσ⟩
      · have hzx : z ≠ x := fun e => by subst e; rw [hk] at hc; rcases hc with hc | hc <;> cases hc
        rw [Env.set_ne _ _ hzx] at hz
        obtain ⟨c, y', hl, hn', hr', hs'⟩ := (R.var z v hz h0).2 hc
        exact ⟨c, y', hl, cell_but hn' kx (R.neL _ _ hl), hr'.mono kt, hs'⟩
    | cell =>
      obtain ⟨c, hc⟩ := R.cells _ hk
      obtain ⟨v, hv⟩ := R.cel _ _ hc
      refine PySem.wpAny_storeName_cell R.kind hk hc hv fun h' hn hs => ?_
      have hL : c ∈ ownOf env := lookup_own hc
      obtain ⟨hσ, hb, oL, eL, nL⟩ := R.own _ hL
      have kx := hs.extBut
      have kt := tups_but kx ⟨oL, eL, nL⟩
      obtain ⟨o', eo', no'⟩ := cell_notTup hn
      have hcL : env.locals ≠ c := fun e => R.neL _ _ hc e.symm
      refine h _ (R.but kx ⟨oL, eL, nL⟩ (fun _ => ⟨o', eo', no'⟩) ((by obtain ⟨m, hm⟩ := R.ns; exact ⟨m, ns_but hm kx hcL⟩)) (fun X c' hX e => by subst e; exact ⟨_, hn⟩) (fun z v hz h0 => ⟨fun hl => ?_, fun hc' => ?_⟩) s.toks) (r.mine hL R.owned hσ hb kx eo' no' s.toks) kt
      · have hzx : z ≠ x := fun e => by subst e; rw [hk] at hl; cases hl
        rw [Env.set_ne _ _ hzx] at hz
        obtain ⟨m', y', hn', hm', hr', hs'⟩ := (R.var z v hz h0).1 hl
        exact ⟨m', y', ns_but hn' kx hcL, hm', hr'.mono kt, hs'⟩
      · by_cases hzx : z = x
        · subst hzx
          rw [Env.set_same] at hz; cases hz
          exact ⟨c, y, hc, hn, hu.mono kt, hσ⟩
        · rw [Env.set_ne _ _ hzx] at hz
          obtain ⟨c', y', hl, hn', hr', hs'⟩ := (R.var z v hz h0).2 hc'
          have hcc : c' ≠ c := fun e => hzx (Str.ofString_inj (R.apart _ _ _ (e ▸ hl) hc))
          exact ⟨c', y', hl, cell_but hn' kx hcc, hr'.mono kt, hs'⟩
    | _ => unfold isOwn at hx; rw [hk] at hx; cases hx
end
end
section
variable {W : Wd} {σ : Hp} {s : Shared} {h₀ h' : Heap} {env : PySem.Env} {ρ : Env}
theorem Pass.envW (p : Pass W σ h₀ s.heap h') (R : EnvW W env ρ σ s) : EnvW W env ρ σ { s with heap := h' } where
  kind := R.kind
  glob := R.glob
  blt := R.blt
  cells := R.cells
  var n v e e0 := ⟨fun hl => by
      obtain ⟨m, y, hn, hm, hr, hs⟩ := (R.var n v e e0).1 hl
      exact ⟨m, y, p.ns hn, hm, hr.mono p.tups, hs⟩, fun hc => by
      obtain ⟨c, y, hl, hn, hr, hs⟩ := (R.var n v e e0).2 hc
      exact ⟨c, y, hl, p.cell hn, hr.mono p.tups, hs⟩⟩
  ns := (by obtain ⟨m, hm⟩ := R.ns; exact ⟨m, p.ns hm⟩)
  cel X c h := (by obtain ⟨v, hv⟩ := R.cel X c h; exact ⟨v, p.cell hv⟩)
  own b hb := by
    obtain ⟨h1, h2, _⟩ := R.own b hb
    refine ⟨h1, h2, ?_⟩
    rcases List.mem_cons.mp hb with e | hb
    · subst e; obtain ⟨m, hm⟩ := R.ns; exact ns_notTup (p.ns hm)
    · obtain ⟨⟨X, c⟩, _, e⟩ := List.mem_filterMap.mp hb
      obtain ⟨v, hv⟩ := R.cel X b e
      exact cell_notTup (p.cell hv)
  apart := R.apart
  neL := R.neL

end
end RS

namespace RS
open PySem (Program World Shared Addr Value Obj Heap Str Around wpAny codeAny model Scope NameKind Expr Stmt FuncData cLine recursionLimit sizeLine mainGlobals builtinsNs PyData)

/-- the frames about a frame's own code -/
noncomputable def FrW (W : Wd) (A : Around) (env : PySem.Env) (σ : Hp) (h : Heap) : Prop := ∃ outer, A.frames = some (env :: outer) ∧ env.frame = some env.locals ∧ ∀ x ∈ outer, FrO W σ h x ∧ ∀ L, x.frame = some L → L ∉ ownOf env
theorem FrW.step {W : Wd} {A : Around} {env : PySem.Env} {σ σ' : Hp} {s s' : Shared} (x : FrW W A env σ s.heap) (st : Step W (ownOf env) σ s σ' s') : FrW W A env σ' s'.heap :=
  (by obtain ⟨o, h1, h2, h3⟩ := x; exact ⟨o, h1, h2, fun y hy => (by obtain ⟨⟨k, L, m, hf, hb, hn, hm⟩, h5⟩ := h3 y hy; obtain ⟨ob, ho⟩ := ns_obj hm; exact ⟨⟨k, L, m, hf, hb, st.none_ _ ob ho hn, st.ns hm hn (h5 L hf)⟩, h5⟩)⟩)
theorem FrW.all {W : Wd} {A : Around} {env : PySem.Env} {ρ : Env} {σ : Hp} {s : Shared} (x : FrW W A env σ s.heap) (R : EnvW W env ρ σ s) : ∃ outer, A.frames = some (env :: outer) ∧ ∀ y ∈ env :: outer, FrO W σ s.heap y := by
  obtain ⟨o, h1, h2, h3⟩ := x
  refine ⟨o, h1, fun y hy => ?_⟩
  rcases List.mem_cons.mp hy with rfl | hy
  · obtain ⟨hσ, hb, _⟩ := R.own _ locals_own
    obtain ⟨m, hm⟩ := R.ns
    exact ⟨by rw [R.kind]; exact nofun, _, m, h2, hb, hσ, hm⟩
  · exact (h3 y hy).1
/-- the place at which a statement is read -/
structure CW (W : Wd) (k : Nat) (ks : Ks) (A : Around) (env : PySem.Env) (ρ : Env) (σ : Hp) (s : Shared) : Prop where
  room : Room A k
  names : env.scope.names = ks
  R : EnvW W env ρ σ s
  r : HR W σ s
  fr : FrW W A env σ s.heap
/-- its exceptions -/
noncomputable def XHS (W : Wd) (_A : Around) (env : PySem.Env) (σ : Hp) (s : Shared) (X : XPS) (E : Value → Shared → Prop) : Prop := ∀ c ρ' σ' s' e m, X c ρ' σ' → EnvW W env ρ' σ' s' → Step W (ownOf env) σ s σ' s' → ExcAt W c σ' s.heap s'.heap e m → E (.ref e) s'
/-- what comes behind a statement -/
structure KS (W : Wd) (env : PySem.Env) (σ : Hp) (s : Shared) (N : NP) (Rt : VP) (P : PySem.Flow → Shared → Prop) : Prop where
  next : ∀ ρ' σ' s', N ρ' σ' → EnvW W env ρ' σ' s' → Step W (ownOf env) σ s σ' s' → P .next s'
  ret : ∀ u v σ' s', Rt u σ' → Rep W s'.heap u v → Step W (ownOf env) σ s σ' s' → P (.ret v) s'

section
variable {W : Wd} {k : Nat} {ks : Ks} {A : Around} {E : Value → Shared → Prop} {s s' : Shared} {σ σ' : Hp} {env : PySem.Env} {ρ : Env} {X : XPS} {N : NP} {Rt : VP} {P : PySem.Flow → Shared → Prop}
theorem CW.cx (C : CW W k ks A env ρ σ s) : Cx W k ks A env ρ σ s := ⟨C.room, C.names, C.R.toEnvR, C.r, (by obtain ⟨_, h1, h2⟩ := C.fr.all C.R; exact ⟨_, h1, h2⟩), (by obtain ⟨_, h1, _⟩ := C.fr; exact ⟨_, _, h1, rfl⟩)⟩
theorem CW.step (C : CW W k ks A env ρ σ s) (st : Step W [] σ s σ' s') : CW W k ks A env ρ σ' s' := ⟨C.room, C.names, C.R.step C.r st, st.hr, C.fr.step st.weak⟩
theorem CW.to {ρ' : Env} (C : CW W k ks A env ρ σ s) (R : EnvW W env ρ' σ' s') (st : Step W (ownOf env) σ s σ' s') : CW W k ks A env ρ' σ' s' := ⟨C.room, C.names, R, st.hr, C.fr.step st⟩
theorem XHS.step (h : XHS W A env σ s X E) (st : Step W (ownOf env) σ s σ' s') : XHS W A env σ' s' X E := fun c ρ' τ s'' e m hx R g ea => h c ρ' τ s'' e m hx R (st.trans g) (ea.back fun _ hb => st.fresh hb)
theorem XHS.ex (h : XHS W A env σ s X E) (C : CW W k ks A env ρ σ s) : XH W A env σ s (fun c σ' => X c ρ σ') E := fun c σ' s' e m hx st ea => h c ρ σ' s' e m hx (C.R.step C.r st) st.weak ea
theorem CW.fresh (C : CW W k ks A env ρ σ s) (g : Step W (ownOf env) σ s σ' s') : ∀ b, s'.heap.get? b = none → σ' b = none ∧ s.heap.get? b = none := fun _ hb => ⟨g.hr.fresh hb, g.fresh hb⟩
theorem XHS.own (h : XHS W A env σ s X E) (C : CW W k ks A env ρ σ s) : XHS W A env σ s X (PySem.notedBy (model W.prog W.w) A env (PySem.cameBackBy (model W.prog W.w) A env E)) := fun c ρ' σ' s' e m hx R g ea => by
  obtain ⟨outer, h1, h2⟩ := (C.fr.step g).all R
  have hL : env.frame = some env.locals := (by obtain ⟨_, _, q, _⟩ := C.fr; exact q)
  refine note_air h1 h2 hL (C.fresh g) ea fun h' fl p ea' => ?_
  obtain ⟨_, _, oe, vs, _, _, he, _, hd, _, _, _, T, _, _, hT, _⟩ := id ea'
  unfold PySem.cameBackBy
  refine PySem.wpAny_bind (PySem.wpAny_field (s := { s' with heap := h' }) he hd hT ?_)
  rw [if_neg (show ¬ ((Value.ref T == Value.none) = true) from by simp), hL]
  have fin := flight_air (M := model W.prog W.w) (A := A) (E := E) (f := some env.locals) (s := { s' with heap := h' }) (Q := fun _ s'' => E (.ref e) s'') ea' fun h'' p' ea'' => h c ρ' σ' _ e _ hx (p'.envW (p.envW R)) (p'.step C.r (p.step C.r g)) ea''
  first
    | exact fin
    | exact PySem.wpAny_bind (PySem.wpAny_pure fin)
theorem KS.step (h : KS W env σ s N Rt P) (st : Step W (ownOf env) σ s σ' s') : KS W env σ' s' N Rt P :=
  ⟨fun ρ' τ s'' hN R g => h.next ρ' τ s'' hN R (st.trans g), fun u v τ s'' hR hr g => h.ret u v τ s'' hR hr (st.trans g)⟩
end

noncomputable def SS (W : Wd) (k : Nat) (cS : Ks → Stmt → Option S) : Prop := ∀ ks st x, cS ks st = some x → ∀ A env ρ σ s N Rt X E P, CW W k ks A env ρ σ s → x (glb W k) ρ σ N Rt X → XHS W A env σ s X E → KS W env σ s N Rt P → wpAny (model W.prog W.w) A (PySem.exec st env) P E s

section
variable {W : Wd} {k : Nat} {cS : Ks → Stmt → Option S} {ks : Ks} {A : Around} {env : PySem.Env} {X : XPS}

theorem sSs (IS : SS W k cS) {Rt : VP} {E : Value → Shared → Prop} : ∀ (ss : List Stmt) (xs : List S), optAll (cS ks) ss = some xs → ∀ ρ σ s N P, CW W k ks A env ρ σ s → wpSs xs (glb W k) N Rt X ρ σ → XHS W A env σ s X E → KS W env σ s N Rt P → wpAny (model W.prog W.w) A (PySem.execs ss env) P E s := by
  intro ss
  induction ss with
  | nil => intro xs h ρ σ s N P C hw hX hP; cases h; exact PySem.wpAny_execs_nil (hP.next _ _ _ hw C.R (.refl C.r))
  | cons st ss ih =>
    intro xs h ρ σ s N P C hw hX hP
    obtain ⟨x, xs', hx, hxs, rfl⟩ := optAll_cons h
    refine PySem.wpAny_execs_cons (IS ks st x hx A env ρ σ s _ Rt X E _ C hw hX ⟨fun ρ₁ σ₁ s₁ hw₁ R₁ g => ?_, fun u v σ₁ s₁ hR hr g => hP.ret u v σ₁ s₁ hR hr g⟩)
    exact ih xs' hxs ρ₁ σ₁ s₁ N P (C.to R₁ g) hw₁ (hX.step g) (hP.step g)

theorem CW.noOwn {ρ : Env} {σ : Hp} {s : Shared} (C : CW W k ks A env ρ σ s) {b : Addr} (hb : s.heap.get? b = none) : b ∉ ownOf env := fun q => by obtain ⟨_, _, o, ho, _⟩ := C.R.own b q; exact absurd (ho.symm.trans hb) (Option.some_ne_none _)

/-- in the midst of a loop -/
structure ForAt (W : Wd) (k : Nat) (ks : Ks) (A : Around) (env : PySem.Env) (σ : Hp) (s : Shared) (I : Addr) (St : Nat → Heap → Prop) (i : Nat) (ρ' : Env) (σ' : Hp) (s' : Shared) : Prop where
  c : CW W k ks A env ρ' σ' s'
  g : Step W (ownOf env) σ s σ' s'
  st : St i s'.heap
  nI : σ' I = none

abbrev ForInv (W : Wd) (k : Nat) (ks : Ks) (A : Around) (env : PySem.Env) (σ : Hp) (s : Shared) (I : Addr) (St : Nat → Heap → Prop) (body : V → Env → Hp → (Env → Hp → Prop) → Prop) (chk : Hp → Prop) (items : List V) (N : NP) (q : Nat) (s' : Shared) : Prop :=
  Ex3 fun (i : Nat) (ρ' : Env) (σ' : Hp) => A3 (q + i = items.length) (ForAt W k ks A env σ s I St i ρ' σ' s') (forL body chk (items.drop i) ρ' σ' N)
theorem for_sound (IS : SS W k cS) {x : String} {px : PySem.Pos} {body : List Stmt} {xb : List S} {ρ : Env} {σ : Hp} {s s₂ : Shared} {N : NP} {Rt : VP} {σ₁ : Hp} {I : Addr} {items : List V} {chk : Hp → Prop} {St : Nat → Heap → Prop} {E : Value → Shared → Prop} {P : PySem.Flow → Shared → Prop}
    (hcb : optAll (cS ks) body = some xb) (hx : isOwn ks (Str.ofString x) = true) (C : CW W k ks A env ρ σ s) (hX : XHS W A env σ s X E)
    (hit : Iter W A I items chk St) (hst : St 0 s₂.heap) (hσI : σ₁ I = none) (hI : s.heap.get? I = none) (st : Step W [] σ s σ₁ s₂) (hP : KS W env σ s N Rt P)
    (hw : forL (fun v ρ₁ σ₂ N' => wpSs xb (glb W k) N' Rt X (ρ₁.set x v) σ₂) chk items ρ σ₁ N) :
    codeAny (model W.prog W.w) A (.forLoop (.Name (Str.ofString x) px) (.ref I) body [] env) (fun rr s' => match rr with | .ok f => P f s' | .error e => PySem.cameBackBy (model W.prog W.w) A env E e s') s₂ := by
  have hne : I ∉ ownOf env := C.noOwn hI
  refine PySem.codeAny_forLoop_any (ForInv W k ks A env σ s I St (fun v ρ₁ σ₂ N' => wpSs xb (glb W k) N' Rt X (ρ₁.set x v) σ₂) chk items N) ?_ items.length
    ⟨0, ρ, σ₁, rfl, ⟨C.step st, st.weak, hst, hσI⟩, hw⟩
  rintro q s' ⟨i, ρ', σ', hqi, at', hw⟩
  have hIt := hit.nt at'.st
  cases hdr : items.drop i with
  | nil =>
    rw [hdr] at hw
    obtain ⟨hchk, hN⟩ := hw
    have hil' : i = items.length := Nat.le_antisymm (hqi ▸ Nat.le_add_left _ _) (List.drop_eq_nil_iff.mp hdr)
    subst hil'
    exact hit.done s' σ' _ _ at'.st at'.g.hr hchk fun h' tk kx => PySem.wpAny_execs_nil (hP.next _ _ _ hN (at'.c.R.ext kx hIt hne tk) (at'.g.over C.r hI at'.nI hIt kx tk))
  | cons v vs =>
    rw [hdr] at hw
    obtain ⟨hchk, hw⟩ := hw
    have hv : items[i]? = some v := by rw [← List.head?_drop, hdr]; rfl
    have hlt : i < items.length := (List.getElem?_eq_some_iff.mp hv).1
    have hdr' : items.drop (i + 1) = vs := by rw [← List.tail_drop, hdr]; rfl
    obtain ⟨q, rfl⟩ : ∃ q', q = q' + 1 := ⟨q - 1, by lia⟩
    refine hit.item i s' σ' v _ _ hv at'.st at'.g.hr hchk fun xv h₁ tk₁ rx hst₁ kx => ?_
    have g₁ := at'.g.over C.r hI at'.nI hIt kx tk₁
    have R₁ := at'.c.R.ext kx hIt hne tk₁
    refine PySem.wpAny_pure (PySem.wpAny_assign_Name (store_sound R₁ g₁.hr (by rw [C.names]; exact hx) rx fun s₃ R₃ g₃ _ => ?_))
    obtain ⟨hst₃, hσI₃⟩ := hit.step g₃ g₁.hr R₁.owned at'.nI hne hst₁
    have g13 := g₁.trans g₃
    refine sSs IS body xb hcb _ σ' s₃ _ _ ⟨C.room, C.names, R₃, g₃.hr, C.fr.step g13⟩ hw ((hX.step g13).own (C.to R₃ g13)) ⟨fun ρ₄ σ₄ s₄ hw₄ R₄ g₄ => ?_, fun u v σ₄ s₄ hR hr g₄ => hP.ret u v σ₄ s₄ hR hr (g13.trans g₄)⟩
    obtain ⟨hst₄, hσI₄⟩ := hit.step g₄ g₃.hr R₃.owned hσI₃ hne hst₃
    exact ⟨q, Nat.lt_succ_self q, i + 1, ρ₄, σ₄, by rw [← hqi, Nat.add_assoc, Nat.add_comm 1 i], ⟨⟨C.room, C.names, R₄, g₄.hr, C.fr.step (g13.trans g₄)⟩, g13.trans g₄, hst₄, hσI₄⟩, by rw [hdr']; exact hw₄⟩

theorem while_sound {cE : Ks → Expr → Option RS.X} (IT : STr W k cE) (IS : SS W k cS) {test : Expr} {body : List Stmt} {xt : RS.X} {xb : List S} {ρ : Env} {σ : Hp} {s : Shared} {N : NP} {Rt : VP} {E : Value → Shared → Prop} {P : PySem.Flow → Shared → Prop} {fuel : Nat}
    (hct : cE ks test = some xt) (hcb : optAll (cS ks) body = some xb) (C : CW W k ks A env ρ σ s) (hX : XHS W A env σ s X E) (hP : KS W env σ s N Rt P)
    (hw : whileL (fun ρ₁ σ₁ Q => wpT xt (glb W k) ρ₁ σ₁ Q fun _ _ => False) (fun ρ₁ σ₁ N' => wpSs xb (glb W k) N' Rt X ρ₁ σ₁) fuel ρ σ N) :
    codeAny (model W.prog W.w) A (.whileLoop test body [] env) (fun rr s' => match rr with | .ok f => P f s' | .error e => PySem.cameBackBy (model W.prog W.w) A env E e s') s := by
  refine PySem.codeAny_whileLoop (fun q s' => ∃ ρ' σ', CW W k ks A env ρ' σ' s' ∧ Step W (ownOf env) σ s σ' s' ∧
      whileL (fun ρ₁ σ₁ Q => wpT xt (glb W k) ρ₁ σ₁ Q fun _ _ => False) (fun ρ₁ σ₁ N' => wpSs xb (glb W k) N' Rt X ρ₁ σ₁) q ρ' σ' N) ?_ fuel ⟨ρ, σ, C, .refl C.r, hw⟩
  rintro q s' ⟨ρ', σ', C', g, hw⟩
  cases q with
  | zero => exact hw.elim
  | succ q =>
    refine IT ks test xt hct A env ρ' σ' s' _ _ _ _ C'.cx hw XH.never (fun v σ' hq => by obtain ⟨b, hb, _⟩ := hq; rw [hb]; rfl) fun v b σ₂ s₂ hw₂ hb st => ?_
    obtain ⟨b', hb', hw₂⟩ := hw₂
    obtain rfl : b = b' := Option.some.inj (hb.symm.trans hb')
    have g₂ := g.trans st.weak
    cases b with
    | false => exact PySem.wpAny_execs_nil (hP.next _ _ _ hw₂ (C'.step st).R g₂)
    | true =>
      exact sSs IS body xb hcb ρ' σ₂ s₂ _ _ (C'.step st) hw₂ ((hX.step g₂).own (C'.step st)) ⟨fun ρ₄ σ₄ s₄ hw₄ R₄ g₄ => ⟨q, Nat.lt_succ_self q, ρ₄, σ₄, C'.to R₄ (Step.trans st.weak g₄), g₂.trans g₄, hw₄⟩, fun u v σ₄ s₄ hR hr g₄ => hP.ret u v σ₄ s₄ hR hr (g₂.trans g₄)⟩

theorem swaps_no {value : Expr} {t : Option Expr} {line : Nat} (h : (!isComp value) = true) : PySem.swapsWith value t line env = pure false := by
  cases value <;> first | rfl | cases h
theorem swaps_is (value : Expr) (x : Str) (p : PySem.Pos) (line : Nat) : ∃ b, PySem.swapsWith value (some (.Name x p)) line env = pure b := by
  cases value <;> exact ⟨_, rfl⟩
theorem swaps_sub (value o i : Expr) (p : PySem.Pos) (line : Nat) : PySem.swapsWith value (some (.Subscript o i p)) line env = pure false := by
  cases value <;> rfl
theorem swaps_att (v o : Expr) (a : Str) (p : PySem.Pos) (l : Nat) : PySem.swapsWith v (some (.Attribute o a p)) l env = pure false := by
  cases v <;> rfl

/-- a name is given a value -/
theorem assign_var (T : TopOk W) {n : Nat} {x : String} {px : PySem.Pos} {value : Expr} {pos : PySem.Pos} {xv : RS.X} {ρ : Env} {σ : Hp} {s : Shared} {N : NP} {Rt : VP} {E : Value → Shared → Prop} {P : PySem.Flow → Shared → Prop} (hc : compE n ks value = some xv) (hx : isOwn ks (Str.ofString x) = true) (C : CW W k ks A env ρ σ s)
    (hw : S.assign (.var x) xv (glb W k) ρ σ N Rt X) (hX : XHS W A env σ s X E) (hP : KS W env σ s N Rt P) :
    wpAny (model W.prog W.w) A (PySem.exec (.Assign [.Name (Str.ofString x) px] value pos) env) P E s := by
  have hx' : isOwn env.scope.names (Str.ofString x) = true := by rw [C.names]; exact hx
  have plain : PySem.swapsWith value (some (.Name (Str.ofString x) px)) pos.line env = pure false → wpAny (model W.prog W.w) A (PySem.exec (.Assign [.Name (Str.ofString x) px] value pos) env) P E s := by
    intro hs
    rw [PySem.exec_Assign_Name env _ _ _ _ hs]
    refine PySem.wpAny_bind (PySem.wpAny_standAt (PySem.wpAny_bind ((sBoth T n).1 ks value xv hc A env ρ σ s _ _ E _ C.cx hw (hX.ex C) fun v σ₁ y s₁ hN rv st => ?_)))
    exact PySem.wpAny_bind (PySem.wpAny_standAt (PySem.wpAny_bind (PySem.wpAny_bindName (store_sound (C.R.step C.r st) st.hr hx' rv fun s₂ R₂ g₂ _ => PySem.wpAny_pure (hP.next _ _ _ hN R₂ (Step.trans st.weak g₂))))))
  obtain ⟨b, hs⟩ := swaps_is (env := env) value (Str.ofString x) px pos.line
  cases b with
  | false => exact plain hs
  | true =>
    cases value with
    | ListComp elt gens sc cpos =>
      cases n with
      | zero => cases hc
      | succ n =>
      rw [PySem.exec_Assign_Name_used _ _ _ _ hs]
      refine PySem.wpAny_bind (PySem.wpAny_standAt (PySem.wpAny_bind ?_))
      show wpAny _ A (do let _ ← PySem.comprehension (.ListComp elt gens sc cpos) sc env _ (PySem.newList []) (PySem.firstAsync gens) (PySem.firstIter gens env) (some (PySem.assign (.Name (Str.ofString x) px) env))) _ _ s
      refine PySem.wpAny_bind (PySem.wpAny_mono (sComp (Q' := fun _ s' => P .next s') T (sBoth T n).1 (sBoth T n).2 hc C.cx hw (hX.ex C) (fun vs σ' D C' s' hK at' fD fC hDC => ?_) _) (fun _ s' hq => PySem.wpAny_pure (PySem.wpAny_pure hq)) fun _ _ e => e)
      obtain ⟨z, e, q, l⟩ := id at'.d
      have st₁ := at'.g.add C.r fD (.lst z e q)
      have R₁ := C.R.step C.r st₁
      show wpAny _ A (PySem.assign (.Name (Str.ofString x) px) env (.ref D)) _ _ _
      refine PySem.wpAny_assign_Name (store_sound R₁ st₁.hr hx' (.ref D) fun s₂ R₂ g₂ _ => ?_)
      obtain ⟨m, hns⟩ := at'.ns
      have hσC₁ : (σ'.set D (.lst vs)) C' = none := (Hp.set_ne _ _ (Ne.symm hDC)).trans at'.nC
      have hn₂ := g₂.ns hns hσC₁ (C.noOwn fC)
      obtain ⟨o, ho⟩ := ns_here hns
      refine ⟨m, hn₂, fun h₃ hs₃ => ?_⟩
      exact hP.next _ _ _ (hK D at'.nD) (R₂.ext hs₃.extBut (ns_notTup hn₂) (C.noOwn fC) s₂.toks) ((Step.trans st₁.weak g₂).over C.r fC (g₂.none_ _ o ho hσC₁) (ns_notTup hn₂) hs₃.extBut s₂.toks)
    | SetComp => cases n <;> cases hc
    | DictComp => cases n <;> cases hc
    | _ => exact plain rfl

end
end RS

namespace RS
open PySem (Program World Shared Addr Value Obj Heap Str Around wpAny codeAny model Scope NameKind Expr Stmt FuncData cLine recursionLimit sizeLine mainGlobals builtinsNs PyData)

section
variable {W : Wd} {k : Nat}
/-- an item is given a value -/
theorem setItem_sound {A : Around} {E : Value → Shared → Prop} {σ : Hp} {s : Shared} {o i v : V} {ov iv vv : Value} {N : Hp → Prop} {P : Unit → Shared → Prop} (hA : Room A k) (r : HR W σ s) (ho : Rep W s.heap o ov) (hi : Rep W s.heap i iv) (hv : Rep W s.heap v vv) (hw : storeP σ v N o i)
    (h : ∀ σ' s', N σ' → Step W [] σ s σ' s' → P () s') : wpAny (model W.prog W.w) A (PySem.setItem ov iv vv) P E s := by
  cases hw with
  | @dct a i es ep kk ha hk hl hN =>
    cases ho.ref_inv
    obtain @⟨des, xs, z, e, D, d, is, n, m, q, rk, l, dl⟩ := r.dct ha
    obtain ⟨b, rfl, kb⟩ := key_tuple hk hi
    refine PySem.wpAny_setItem_heap hA.kr kb D (fun h' hm' hs' => ?_) (fits (l ▸ hl.fits))
    have kt : TupKeep s.heap h' := tups_but hs'.extBut ⟨_, e, notTup_type (by decide)⟩
    obtain ⟨ep', hc⟩ := stored_cell m q rk hl (V.key_of hk ▸ hi) hv kt hm'
    exact h _ _ (hN ep') (r.upd ha hs'.extBut hc _ [])

/-- an exception is made and raised -/
theorem raise_s (T : TopOk W) {ks : Ks} {e cz : Option Expr} {x : S} {pos : PySem.Pos} (h : raiseS ks e cz = some x) {A : Around} {env : PySem.Env} {ρ : Env} {σ : Hp} {s : Shared} {N : NP} {Rt : VP} {X : XPS} {E : Value → Shared → Prop} {P : PySem.Flow → Shared → Prop} (C : CW W k ks A env ρ σ s)
    (hw : x (glb W k) ρ σ N Rt X) (hX : XHS W A env σ s X E) : wpAny (model W.prog W.w) A (PySem.exec (.Raise e cz pos) env) P E s := by
  cases cz with
  | some _ => cases h
  | none => cases e with
    | none => cases h
    | some e => cases e with
      | Call f as kws cpos => cases f with
        | Name c np => cases as with
          | nil => cases h
          | cons a as => cases as with
            | cons _ _ => cases h
            | nil => cases kws with
              | cons _ _ => cases h
              | nil => cases a with
                | Constant t kk p => cases t with
                  | str t =>
                    revert hw
                    refine oif_inv h fun hc h => o1_inv h fun c' hc' hw => ?_
                    cases nm_is hc'
                    simp only [Bool.and_eq_true, Bool.not_eq_true'] at hc
                    obtain ⟨hm, hx⟩ := hw
                    obtain ⟨C0, _, hK⟩ := T.excK
                    obtain ⟨C', K⟩ := hK c' (.tail _ hm)
                    obtain ⟨Nn, nm, q, bs, hdct, sn, sub, ab, col, dd, k0, k1, k2, k3, k5, mN, hC, hN, hqn, hTQ⟩ := K.obj
                    have hni := hqn _ (.head _)
                    have hT := hTQ.tail
                    refine PySem.wpAny_Raise_call_subT (C := C') (nm := nm) (q := q) (N := Nn) (bs := bs) (bm := excTl C0 c') (hdct := hdct) (sn := sn) (sub := sub) (ab := ab) (col := col) (dd := dd) (k0 := k0) (k1 := k1) (k2 := k2) (k3 := k3) (k5 := k5)
                      PySem.F.excBase_ValueError (mN := mN) (hT.hasType PySem.F.excBase_ValueError.hasBase) C.room.hand rfl hni (PySem.wpAny_Name (ld_glob T C.cx hc.1.1 (.inl K.mg) ⟨rfl, ?_⟩) hc.2)
                    refine PySem.Calls.evalArgs_plain (PySem.Calls.spliced_cons (Q := _) (fun _ _ _ => PySem.Calls.spliced_nil ⟨rfl, (by show 1 ≤ sizeLine; decide), C.r.base _ _ hC, hN.keeps C.r.base, hT.keeps C.r.base, fun h' e hm' => ?_⟩))
                    have st := C.r.grow (h' := h') hm'.keeps (s.toks + 1) []
                    obtain ⟨t', he, _, _⟩ := hm'.there
                    exact hX c' ρ σ _ e none hx (C.R.step C.r st) st.weak ⟨hm, C', _, _, _, K.cls, he, rfl, rfl, rfl, C.r.fresh hm'.new, hm'.new, rfl⟩
                  | _ => cases h
                | _ => cases h
        | _ => cases h
      | _ => cases h

theorem mro_has (T : TopOk W) {c d : String} {C D C0 : Addr} (hc : c ∈ excNames) (hd : d ∈ excAll) (h0 : W.exc "SheetError" = some C0) (hC : W.exc c = some C) (hD : W.exc d = some D) : (Value.ref C :: excTl C0 c).contains (.ref D) = catches c d := by
  have hne : c ≠ "SheetError" := fun q => by subst q; exact absurd hc (by decide)
  have hcd : (C = D) ↔ c = d := ⟨fun e => T.excI c (.tail _ hc) d hd (by rw [hC, hD, e]), fun e => by subst e; exact Option.some.inj (hC.symm.trans hD)⟩
  have h0d : (D = C0) ↔ d = "SheetError" := ⟨fun e => T.excI d hd _ (.head _) (by rw [hD, h0, e]), fun e => by subst e; exact Option.some.inj (hD.symm.trans h0)⟩
  have hb : (bmVE.contains (.ref D)) = false := rfl
  unfold excTl catches
  rw [if_neg hne, List.contains_cons, List.contains_cons, hb, Bool.or_false]
  have e1 : (Value.ref D == Value.ref C) = (c == d) := by
    rw [Bool.eq_iff_iff, beq_iff_eq, beq_iff_eq]
    exact ⟨fun q => hcd.mp (Value.ref.inj q).symm, fun q => by rw [hcd.mpr q]⟩
  have e2 : (Value.ref D == Value.ref C0) = (d == "SheetError") := by
    rw [Bool.eq_iff_iff, beq_iff_eq, beq_iff_eq]
    exact ⟨fun q => h0d.mp (Value.ref.inj q), fun q => by rw [h0d.mpr q]⟩
  rw [e1, e2]
open PySem in
theorem excMatches_s (T : TopOk W) {c d : String} {C D e : Addr} {oe : Obj} {A : Around} {E : Value → Shared → Prop} {σ : Hp} {s : Shared} {Q : Bool → Shared → Prop} (r : HR W σ s) (hc : c ∈ excNames) (hd : d ∈ excAll) (hC : W.exc c = some C) (hD : W.exc d = some D) (he : s.heap.get? e = some oe) (hcls : oe.cls = .ref C)
    (hq : Q (catches c d) s) : wpAny (model W.prog W.w) A (excMatches (.ref e) (.ref D)) Q E s := by
  obtain ⟨C0, h0, hK⟩ := T.excK
  obtain ⟨C', K⟩ := hK c (.tail _ hc)
  obtain rfl : C = C' := Option.some.inj (hC.symm.trans K.cls)
  obtain ⟨D', K'⟩ := hK d hd
  obtain rfl : D = D' := Option.some.inj (hD.symm.trans K'.cls)
  obtain ⟨_, _, _, _, _, _, _, _, _, _, _, _, _, _, _, _, oC, _, _, tC⟩ := K.obj
  obtain ⟨_, _, _, _, _, _, _, _, _, _, _, _, _, _, _, _, oD, _, _, tD⟩ := K'.obj
  have hC' := r.base _ _ oC
  have hD' := r.base _ _ oD
  have hcB : (Value.ref D :: excTl C0 d).contains (.type "BaseException") = true := by rw [List.contains_cons, tD.tail.hasType (F.excBase_ValueError.hasBase), Bool.or_true]
  have hcC := mro_has T hc hd h0 hC hD
  have f := tc_notTuple
  obtain ⟨h, g, dr, t, os⟩ := s
  unfold excMatches
  repeat (first | (with_reducible refine wpAny_loadPart_at he ?_; rw [hcls]) | with_reducible refine wpAny_loadPart_at hD' ?_ | with_reducible refine wpAny_loadPart_at hC' ?_ | (with_reducible refine wpAny_isSubtype_exc hD' ?_; rw [hcB]) | (with_reducible refine wpAny_isSubtype_exc hC' ?_; rw [hcC]) | wp_step)
  cases hb : catches c d <;> (rw [hb] at hq; wp_walk; exact hq)

theorem ret_const {c : PySem.Const} {kk : Nat} {p pos : PySem.Pos} {v : V} (h : constV c = some v) {A : Around} {env : PySem.Env} {σ : Hp} {s : Shared} {E : Value → Shared → Prop} {Q : PySem.Flow → Shared → Prop} (r : HR W σ s) (hQ : ∀ x s', Rep W s'.heap v x → Step W [] σ s σ s' → Q (.ret x) s') :
    wpAny (model W.prog W.w) A (PySem.execs [.Return (some (.Constant c kk p)) pos] env) Q E s := by
  refine PySem.wpAny_execs_cons (PySem.wpAny_Return_some ?_)
  cases c with
  | none => cases h; exact PySem.wpAny_pure (hQ _ _ .none (.refl r))
  | bool b => cases h; exact PySem.wpAny_pure (hQ _ _ (.bool _) (.refl r))
  | str t =>
    revert hQ
    refine o1_inv h fun a ha hQ => ?_
    cases nm_is ha
    exact fun _ _ _ => hQ _ _ (.str _ _) (r.tok _ _)
  | _ => cases h

theorem hd_inv {ks : Ks} {t : Option Expr} {n : Option Str} {b : List Stmt} {pos : PySem.Pos} {x : Hd} (h : hdOf ks (.ExceptHandler t n b pos) = some x) : ∃ d np ex rp, t = some (.Name d np) ∧ b = [.Return (some ex) rp] := by
  cases t with
  | none => cases h
  | some t => cases b with
    | nil => cases h
    | cons b bs => cases bs with
      | cons _ _ => cases h
      | nil => cases t with
        | Name d np => cases b with
          | Return ex rp => cases ex with
            | none => cases h
            | some ex => exact ⟨d, np, ex, rp, rfl, rfl⟩
          | _ => cases h
        | _ => cases h
theorem retH_inv {n : Option Str} {ex : Expr} {hb : Hb} (h : retH n ex = some hb) : ∃ cc kk cp, n = none ∧ ex = .Constant cc kk cp := by
  cases n with
  | none => cases ex with
    | Constant cc kk cp => exact ⟨cc, kk, cp, rfl, rfl⟩
    | _ => cases h
  | some x => cases h
open PySem in
/-- the clauses behind 'try', in turn -/
theorem handle_s (T : TopOk W) {ks : Ks} {A : Around} {env : PySem.Env} {ρ : Env} {σ : Hp} {s : Shared} {X : XPS} {N : NP} {Rt : VP} {E : Value → Shared → Prop} {P : PySem.Flow → Shared → Prop} (C : CW W k ks A env ρ σ s) (hX : XHS W A env σ s X E) (hP : KS W env σ s N Rt P) {c : String} :
    ∀ (hs : List PySem.ExceptHandler) (xs : List Hd), optAll (hdOf ks) hs = some xs → ∀ ρ' σ' s' e, handP xs c ρ' σ' N Rt X → EnvW W env ρ' σ' s' → Step W (ownOf env) σ s σ' s' → ExcAt W c σ' s.heap s'.heap e (some .none) → wpAny (model W.prog W.w) A (PySem.handleBy (.ref e) env hs) P E s' := by
  have hL : env.frame = some env.locals := (by obtain ⟨_, _, q, _⟩ := C.fr; exact q)
  intro hs
  induction hs with
  | nil =>
    intro xs h ρ' σ' s' e hw R g ea
    cases h
    refine wpAny_handleBy_nil ?_
    obtain ⟨_, _, oe, vs, _, _, he, _, hd, _, _, _, T', _, _, hT, _⟩ := id ea
    unfold passOn
    refine wpAny_bind (wpAny_field he hd hT ?_)
    rw [if_neg (show ¬ ((Value.ref T' == Value.none) = true) from by simp), hL]
    have fin : wpAny (model W.prog W.w) A (setFlight (.ref e) (some env.locals)) (fun _ s'' => wpAny (model W.prog W.w) A (throw (Value.ref e)) P E s'') E s' := flight_air (f := some env.locals) ea fun h'' p ea'' => wpAny_throw (hX c ρ' σ' _ e _ hw (p.envW R) (p.step C.r g) ea'')
    first
      | exact wpAny_bind fin
      | exact wpAny_bind (wpAny_pure (wpAny_bind fin))
  | cons h0 hs ih =>
    intro xs h ρ' σ' s' e hw R g ea
    obtain ⟨x, xs', hx, hxs, rfl⟩ := optAll_cons h
    obtain ⟨t, n, b, pos⟩ := h0
    obtain ⟨d, np, ex, rp, rfl, rfl⟩ := hd_inv hx
    refine oif_inv hx fun hc hx => ?_
    revert hw
    refine o2_inv hx fun d' hb hd' hhb hw => ?_
    cases nm_is hd'
    simp only [Bool.and_eq_true, Bool.not_eq_true'] at hc
    have hdm : d' ∈ excAll := by
      obtain ⟨z, hz, e⟩ := List.mem_map.mp (List.contains_iff_mem.mp hc.1.2)
      exact Str.ofString_inj e ▸ hz
    obtain ⟨C0, _, hK⟩ := T.excK
    obtain ⟨D, K⟩ := hK d' hdm
    obtain ⟨hcn, C', oe, vs, a0, hC, he, hcls, hrest⟩ := id ea
    refine wpAny_handleBy_cons (codeAny_handlers_test (wpAny_Name (ld_any T C.names R.toEnvR g.hr hc.1.1 (.inl K.mg) ?_) hc.2)) (by intro q; cases q)
    refine excMatches_s T g.hr hcn hdm hC K.cls he hcls ?_
    have hw : (if catches c d' = true then hbP c ρ' σ' N Rt hb else handP xs' c ρ' σ' N Rt X) := hw
    by_cases hcat : catches c d' = true
    · rw [if_pos hcat] at hw
      rw [hcat]
      obtain ⟨cc, kk, cp, rfl, rfl⟩ := retH_inv hhb
      revert hw
      refine o1_inv hhb fun v hv hw => ?_
      refine codeAny_handlers_suite (flight_air (f := none) ea fun h' p ea' => ?_)
      have g' := p.step C.r g
      exact ret_const hv g'.hr fun y s₂ ry st => hP.ret v y σ' s₂ hw ry (g'.trans st.weak)
    · rw [if_neg hcat] at hw
      rw [show catches c d' = false from Bool.eq_false_iff.mpr hcat]
      exact ih xs' hxs ρ' σ' s' e hw R g ea

theorem sS_step (T : TopOk W) {n : Nat} {cS : Ks → Stmt → Option S} (IS : SS W k cS) : SS W k (stepS n cS) := by
  have I0 : SE W k (compE n) := (sBoth T n).1
  have IT : STr W k (compE n) := (sBoth T n).2
  intro ks st x h A env ρ σ s N Rt X E P C
  cases st with
  | Return e pos =>
    cases e with
    | none => cases h
    | some e => exact o1_inv h fun xe hxe hw hX hP => PySem.wpAny_Return_some (I0 ks e xe hxe A env ρ σ s _ _ E _ C.cx hw (hX.ex C) fun v σ₁ y s₁ hq rv st => hP.ret v y σ₁ s₁ hq rv st.weak)
  | Expr e pos =>
    refine oif_inv h fun hc h => o1_inv h fun xe hxe hw hX hP => ?_
    rw [PySem.exec_Expr env e pos (by unfold PySem.interactive; rw [C.R.kind]; rfl) (swaps_no hc)]
    exact PySem.wpAny_bind (PySem.wpAny_standAt (PySem.wpAny_bind (I0 ks e xe hxe A env ρ σ s _ _ E _ C.cx hw (hX.ex C) fun v σ₁ y s₁ hq rv st => PySem.wpAny_dropValue (hP.next ρ σ₁ s₁ hq (C.step st).R st.weak))))
  | Assign ts v pos =>
    cases ts with
    | nil => cases h
    | cons t ts =>
      cases ts with
      | cons _ _ => cases h
      | nil =>
        refine o2_inv h fun xt xv hxt hxv => ?_
        cases t with
        | Name y py =>
          refine oif_inv hxt fun hy hxt => o1_inv hxt fun y' hy' hw hX hP => ?_
          cases nm_is hy'
          exact assign_var T hxv hy C hw hX hP
        | Subscript o i p =>
          refine oif_inv hxt fun hs hxt => o2_inv hxt fun xo xi hxo hxi hw hX hP => ?_
          rw [PySem.exec_Assign_Subscript _ _ _ _ _ (swaps_sub v o i p pos.line)]
          refine PySem.wpAny_bind (PySem.wpAny_standAt (PySem.wpAny_bind (I0 ks v xv hxv A env ρ σ s _ _ E _ C.cx hw (hX.ex C) fun u σ₁ vv s₁ hw₁ ru st₁ => ?_)))
          rw [PySem.assign_Subscript]
          have C₁ := C.step st₁
          have hX₁ := (hX.ex C).step st₁
          refine PySem.wpAny_bind (PySem.wpAny_bind (PySem.wpAny_holding (I0 ks o xo hxo A env ρ σ₁ s₁ _ _ E _ C₁.cx hw₁ hX₁ fun o' σ₂ ov s₂ hw₂ ro st₂ => PySem.wpAny_bind (PySem.wpAny_holding (I0 ks i xi hxi A env ρ σ₂ s₂ _ _ E _ (C₁.step st₂).cx hw₂ (hX₁.step st₂) fun i' σ₃ iv s₃ hw₃ ri st₃ => ?_)))))
          have k3 := st₃.tup0 st₂.hr
          refine PySem.wpAny_bind (PySem.wpAny_standAt (PySem.wpAny_bind (PySem.wpAny_holding (setItem_sound C.room st₃.hr (ro.mono k3) ri ((ru.mono (st₂.tup0 st₁.hr)).mono k3) hw₃ fun σ₄ s₄ hN st₄ => PyProof.Rows.wpAny_release' (PySem.wpAny_pure ?_)))))
          have stt := ((st₁.trans st₂).trans st₃).trans st₄
          exact hP.next ρ σ₄ s₄ hN (C.step stt).R stt.weak
        | Attribute o an p =>
          refine oif_inv hxt fun hpb hxt => o2_inv hxt fun xo a' hxo ha' hw hX hP => ?_
          cases nm_is ha'
          refine PySem.plainObj_wpAny_Assign_Attribute (I0 ks v xv hxv A env ρ σ s _ _ E _ C.cx hw (hX.ex C) fun u σ₁ vv s₁ hw₁ ru st₁ => ?_) (swaps_att v o _ p pos.line)
          obtain ⟨hn, hw₁⟩ := hw₁
          refine I0 ks o xo hxo A env ρ σ₁ s₁ _ _ E _ (C.step st₁).cx hw₁ ((hX.ex C).step st₁) fun o' σ₂ ov s₂ hw₂ ro st₂ => ?_
          cases hw₂ with
          | mk h1 h2 hl hN =>
            cases ro.ref_inv
            obtain ⟨C', _, hc, _⟩ := st₂.hr.inst h1 h2
            obtain ⟨Nn, mN, K⟩ := T.clsK _ C' hc
            refine setattr_s K st₂.hr h1 h2 (ru.mono (st₂.tup0 st₁.hr)) hl (K.attr _ hn) (attr_type _ hn) fun s₃ st₃ => ?_
            have stt := (st₁.trans st₂).trans st₃
            exact hP.next ρ _ s₃ hN (C.step stt).R stt.weak
        | _ => cases hxt
  | If t b o pos =>
    refine o3_inv h fun xt xb xo hxt hxb hxo hw hX hP => ?_
    refine PySem.wpAny_If (IT ks t xt hxt A env ρ σ s _ _ E _ C.cx hw (hX.ex C) (fun v σ' hq => by obtain ⟨b, hb, _⟩ := hq; rw [hb]; rfl) fun v b σ₂ s₂ hw₂ hb st => ?_)
    obtain ⟨b', hb', hw₂⟩ := hw₂
    obtain rfl : b = b' := Option.some.inj (hb.symm.trans hb')
    cases b with
    | false => exact sSs IS o xo hxo ρ σ₂ s₂ N P (C.step st) hw₂ (hX.step st.weak) (hP.step st.weak)
    | true => exact sSs IS _ xb hxb ρ σ₂ s₂ N P (C.step st) hw₂ (hX.step st.weak) (hP.step st.weak)
  | For t iter b o pos =>
    cases t with
    | Name y py =>
      cases o with
      | cons _ _ => cases h
      | nil =>
        refine oif_inv h fun hy h => o3_inv h fun y' xs xb hy' hxs hxb hw hX hP => ?_
        simp only [Bool.and_eq_true] at hy
        cases nm_is hy'
        exact PySem.wpAny_For (sSrc T I0 hxs C.cx hw (hX.ex C) fun I items chk St σ₁ s₂ hit hst hσI hI hK st => for_sound IS hxb hy.1 C hX hit hst hσI hI st hP hK) (folded_id env hy.2)
    | _ => cases h
  | While t b o pos =>
    cases o with
    | cons _ _ => cases h
    | nil =>
      refine o2_inv h fun xt xb hxt hxb hw hX hP => ?_
      obtain ⟨fuel, hw⟩ := hw
      exact PySem.wpAny_While (while_sound IT IS hxt hxb C hX hP hw)
  | Raise e c pos => exact fun hw hX hP => raise_s T h C hw hX
  | Try b hs o f pos =>
    cases hs with
    | nil => cases h
    | cons h0 hs => cases o with
      | cons _ _ => cases h
      | nil => cases f with
        | cons _ _ => cases h
        | nil =>
          refine o2_inv h fun xb xh hxb hxh hw hX hP => ?_
          refine PySem.wpAny_Try_except (sSs IS _ xb hxb ρ σ s _ _ C hw (fun c ρ' σ' s' e m hx R g ea => ?_) ⟨fun ρ' σ' s' hN R g => PySem.wpAny_execs_nil (hP.next ρ' σ' s' hN R g), fun u v σ' s' hR hr g => hP.ret u v σ' s' hR hr g⟩)
          obtain ⟨outer, h1, h2⟩ := (C.fr.step g).all R
          have hL : env.frame = some env.locals := (by obtain ⟨_, _, q, _⟩ := C.fr; exact q)
          refine note_air h1 h2 hL (C.fresh g) ea fun h' fl p ea' => ?_
          refine flight_air (f := none) (s := { s' with heap := h' }) ea' fun h'' p' ea'' => ?_
          exact handle_s T C hX hP _ xh hxh ρ' σ' _ e hx (p'.envW (p.envW R)) (p'.step C.r (p.step C.r g)) ea''
  | _ => cases h

theorem sS_all (T : TopOk W) (n : Nat) : SS W k (compS n) := by
  induction n with
  | zero => exact fun _ _ _ h => (by cases h)
  | succ n ih => exact sS_step T ih
end
end RS

namespace RS
open PySem (Program World Shared Addr Value Obj Heap Str Around wpAny codeAny model Scope NameKind Expr Stmt FuncData cLine recursionLimit sizeLine mainGlobals builtinsNs PyData)

/-! ### calls -/
/-- a function's data, as it reads -/
structure FdOk (fd : FuncData) (body : List Stmt) (ps : List String) (bs : List S) (n : Nat) : Prop where
  bd : fd.body = .stmts body
  clo : fd.closure = []
  g : fd.globals = mainGlobals
  b : fd.builtins = builtinsNs
  co : fd.scope.isCoroutine = false
  gen : fd.scope.isGenerator = false
  kind : fd.scope.kind = .function
  bind : ∀ xs : List Value, xs.length = ps.length → PySem.bindArgs fd ⟨xs, []⟩ = pure ((ps.map Str.ofString).zip xs)
  comp : compSs n fd.scope.names body = some bs
  own : ∀ p ∈ ps, isOwn fd.scope.names (Str.ofString p) = true
  nd : ps.Nodup
/-- a function of the text, as it lies and as it reads -/
inductive FnOk (W : Wd) (f : String) (ps : List String) (bs : List S) : Prop
  | mk {fa : Addr} {o : Obj} {fd : FuncData} {body : List Stmt} {n : Nat} (at_ : W.fn f = some fa) (o_ : W.s₀.heap.get? fa = some o) (d : o.data = .func fd) (cr : W.s₀.heap.CodeRec fd.code fd.qualname) (ok : FdOk fd body ps bs n)

theorem cellsFrom_lookup : ∀ (names : Ks) (n : Nat) (acc : List (Str × Addr)) (X : Str), ((X, NameKind.cell) ∈ names ∨ (acc.lookup X).isSome = true) → ((PySem.cellsFrom n names acc).lookup X).isSome = true
  | [], _, acc, X, h => h.elim (fun h => by cases h) id
  | (y, kd) :: r, n, acc, X, h => by
    unfold PySem.cellsFrom
    split
    · refine cellsFrom_lookup r _ _ X ?_
      by_cases hX : X = y
      · subst hX; right; simp
      · rcases h with h | h
        · rcases List.mem_cons.mp h with h | h
          · cases h; exact absurd rfl hX
          · exact .inl h
        · right
          have hb : (X == y) = false := by simpa using hX
          rw [List.lookup_cons, hb]; exact h
    · rename_i hk
      refine cellsFrom_lookup r _ _ X ?_
      rcases h with h | h
      · rcases List.mem_cons.mp h with h | h
        · cases h; exact absurd rfl hk
        · exact .inl h
      · exact .inr h

section
variable {W : Wd} {k : Nat}

theorem bindL_notin (kf : Str → Option NameKind) : ∀ (bs : List (Str × Value)) (m : Str → Option Value) (X : Str), X ∉ bs.map (·.1) → PySem.bindL kf bs m X = m X
  | [], _, _, _ => rfl
  | (y, v) :: r, m, X, h => by
    simp only [List.map_cons, List.mem_cons, not_or] at h
    unfold PySem.bindL
    rw [bindL_notin kf r _ X h.2]
    split
    · simp [h.1]
    · rfl
theorem bindC_notin (kf : Str → Option NameKind) : ∀ (bs : List (Str × Value)) (m : Str → Option Value) (X : Str), X ∉ bs.map (·.1) → PySem.bindC kf bs m X = m X
  | [], _, _, _ => rfl
  | (y, v) :: r, m, X, h => by
    simp only [List.map_cons, List.mem_cons, not_or] at h
    unfold PySem.bindC
    rw [bindC_notin kf r _ X h.2]
    split
    · rfl
    · simp [h.1]

theorem notin_zip {ps : List String} {xs : List Value} {x : String} (h : x ∉ ps) : Str.ofString x ∉ ((ps.map Str.ofString).zip xs).map (·.1) := fun q => by
  obtain ⟨⟨y, v⟩, hy, e⟩ := List.mem_map.mp q
  have := (List.of_mem_zip hy).1
  obtain ⟨p, hp, e'⟩ := List.mem_map.mp this
  have : p = x := Str.ofString_inj (e'.trans e)
  exact h (this ▸ hp)

theorem bind_ok (kf : Str → Option NameKind) {h : Heap} (x : String) (v : V) : ∀ (ps : List String) (vs : List V) (xs : List Value) (m cm : Str → Option Value), ps.Nodup → Reps W h vs xs → bindP ps vs x = some v →
    ∃ y, Rep W h v y ∧ (kf (Str.ofString x) = some .local → PySem.bindL kf ((ps.map Str.ofString).zip xs) m (Str.ofString x) = some y) ∧ (kf (Str.ofString x) ≠ some .local → PySem.bindC kf ((ps.map Str.ofString).zip xs) cm (Str.ofString x) = some y) := by
  intro ps
  induction ps with
  | nil => intro vs xs m cm _ _ e; cases vs <;> cases e
  | cons p ps ih =>
    intro vs xs m cm hn q e
    cases vs with
    | nil => cases e
    | cons u vs =>
      obtain ⟨y, xs', rfl, hu, hr⟩ := q.cons_inv
      obtain ⟨hp, hn⟩ := List.nodup_cons.mp hn
      change ((bindP ps vs).set p u) x = some v at e
      rw [List.map_cons, List.zip_cons_cons]
      by_cases hx : x = p
      · subst hx
        rw [Env.set_same] at e; cases e
        refine ⟨y, hu, fun hl => ?_, fun hl => ?_⟩
        · unfold PySem.bindL; rw [bindL_notin _ _ _ _ (notin_zip hp), if_pos hl]; exact if_pos rfl
        · unfold PySem.bindC; rw [bindC_notin _ _ _ _ (notin_zip hp), if_neg hl]; exact if_pos rfl
      · rw [Env.set_ne _ _ hx] at e
        obtain ⟨y', h1, h2, h3⟩ := ih vs xs' _ _ hn hr e
        exact ⟨y', h1, fun hl => by unfold PySem.bindL; exact h2 hl, fun hl => by unfold PySem.bindC; exact h3 hl⟩
theorem bindP_mem {x : String} {v : V} : ∀ (ps : List String) (vs : List V), bindP ps vs x = some v → x ∈ ps := by
  intro ps
  induction ps with
  | nil => intro vs h; cases vs <;> cases h
  | cons p ps ih =>
    intro vs h
    cases vs with
    | nil => cases h
    | cons u vs =>
      by_cases hxp : x = p
      · subst hxp; exact .head _
      · change ((bindP ps vs).set p u) x = some v at h
        rw [Env.set_ne _ _ hxp] at h; exact .tail _ (ih vs h)


theorem isOwn_split {ks : Ks} {s : Str} (h : isOwn ks s = true) : ks.lookup s = some .local ∨ ks.lookup s = some .cell := by
  unfold isOwn at h
  split at h
  · rename_i e; exact .inl e
  · rename_i e; exact .inr e
  · cases h

theorem code_ok (T : TopOk W) {fa : Addr} {o : Obj} {fd : FuncData} {body : List Stmt} {n : Nat} {ps : List String} {bs : List S} (ho : W.s₀.heap.get? fa = some o) (hd : o.data = .func fd) (hcr : W.s₀.heap.CodeRec fd.code fd.qualname) (F : FdOk fd body ps bs n) {vs : List V} {σ : Hp} {Q : VP} {X : XP} (hl : vs.length = ps.length)
    (hw : wpSs bs (glb W k) (fun _ σ' => Q .none σ') Q (fun c _ σ' => X c σ') (bindP ps vs) σ) {A : Around} {s : Shared} {xs : List Value} {P : Value → Shared → Prop} {E : Value → Shared → Prop} (hA : Room A (k + 1)) (r : HR W σ s) (fr : Frs W A σ s.heap) (rs : Reps W s.heap vs xs) (hX : XC W A σ s X E) (hP : Kt W σ s Q P) :
    codeAny (model W.prog W.w) A (.call (.ref fa) ⟨xs, []⟩) (fun r s' => match r with | .ok (.ret v) => P v s' | .ok _ => False | .error e => E e s') s := by
  have hxl : xs.length = ps.length := rs.len.symm.trans hl
  have hA' : A.depth < recursionLimit := Nat.lt_of_le_of_lt (Nat.le_add_right _ _) hA.depth
  have hk2 : ∀ x ∈ (ps.map Str.ofString).zip xs, fd.scope.names.lookup x.1 = some .local ∨ (fd.scope.names.lookup x.1 = some .cell ∧ ((PySem.cellsFrom (s.heap.objs.size + 1) fd.scope.names []).lookup x.1).isSome = true) := by
    intro x hx
    obtain ⟨p, hp, e⟩ := List.mem_map.mp (List.of_mem_zip (a := x.1) (b := x.2) hx).1
    rw [← e]
    exact (isOwn_split (F.own p hp)).imp id fun h => ⟨h, cellsFrom_lookup _ _ _ _ (.inl (PySem.mem_of_lookup h))⟩
  refine PySem.codeAny_call_cells hA' (r.base _ _ ho) hd (T.lim.keeps r.base) (hcr.keeps r.base) F.bd (F.bind xs hxl) F.clo hk2 (fun s₁ C => ?_) F.co F.gen F.kind
  generalize henv : PySem.callEnvC fd s.heap.objs.size fa = env at C ⊢
  have hL : env.locals = s.heap.objs.size := by rw [← henv]; rfl
  have hcells : env.cells = PySem.cellsFrom (s.heap.objs.size + 1) fd.scope.names [] := by rw [← henv]; rfl
  have hsc : env.scope = fd.scope := by rw [← henv]; rfl
  have hRoom : Room (A.deeper env) k := ⟨hA.hand, by have := hA.units; show A.units + 3 + 10 * k + 200 < cLine; lia, by have := hA.depth; show A.depth + 1 + k < recursionLimit; lia⟩
  obtain ⟨⟨h₁, tk, rfl⟩, hns, hkeep, hfresh⟩ := C.toInCall
  have st : Step W [] σ s σ { s with heap := h₁, toks := tk } := r.grow hkeep tk []
  have fresh : ∀ a, s.heap.objs.size ≤ a → s.heap.get? a = none := fun a ha => PySem.Heap.get?_none_of_le ha
  have hown2 : ∀ b ∈ ownOf env, s.heap.get? b = none ∧ ∃ o, h₁.get? b = some o ∧ ¬ isTup o := by
    intro b hb'
    rcases List.mem_cons.mp hb' with e | hb'
    · subst e; exact ⟨fresh _ (by rw [hL]; exact Nat.le_refl _), ns_notTup hns⟩
    · obtain ⟨⟨X, c⟩, hm, e⟩ := List.mem_filterMap.mp hb'
      have hlt := C.above X b (PySem.mem_of_lookup e)
      rw [hL] at hlt
      exact ⟨fresh _ (Nat.le_of_lt hlt), cell_notTup (C.cell X b e)⟩
  have rs₁ : Reps W h₁ vs xs := rs.mono (st.tup0 r)
  have hcell : ∀ X, fd.scope.names.lookup X = some .cell → ∃ c, env.cells.lookup X = some c := fun X hX => by
    rw [hcells]; exact Option.isSome_iff_exists.mp (cellsFrom_lookup _ _ _ _ (.inl (PySem.mem_of_lookup hX)))
  have EW : EnvW W env (bindP ps vs) σ { s with heap := h₁, toks := tk } := {
    kind := by rw [hsc]; exact F.kind
    glob := by rw [← henv]; exact F.g
    blt := by rw [← henv]; exact F.b
    cells := fun X hX => hcell X (by rw [← hsc]; exact hX)
    var := fun x v hx h0 => by
      obtain ⟨y, hy, h1, h2⟩ := bind_ok env.kindOf x v ps vs xs (fun _ => none) (fun _ => none) F.nd rs₁ hx
      refine ⟨fun hl' => ⟨_, y, hns, h1 hl', hy, r.fresh (fresh _ (by rw [hL]; exact Nat.le_refl _))⟩, fun hc => ?_⟩
      have hnl : env.kindOf (Str.ofString x) ≠ some .local := by
        unfold PySem.Env.kindOf
        rcases hc with hc | hc <;> rw [hc] <;> exact fun q => NameKind.noConfusion (Option.some.inj q)
      have hcl : fd.scope.names.lookup (Str.ofString x) = some .cell := by
        rw [hsc] at hc
        refine (isOwn_split (F.own x (bindP_mem ps vs hx))).resolve_left fun q => hnl ?_
        unfold PySem.Env.kindOf; rw [hsc]; exact q
      obtain ⟨c, hc'⟩ := hcell _ hcl
      have := C.cell _ c hc'
      rw [h2 hnl] at this
      exact ⟨c, y, hc', this, hy, r.fresh (hown2 c (lookup_own hc')).1⟩
    ns := ⟨_, hns⟩
    cel := fun X c hX => ⟨_, C.cell X c hX⟩
    own := fun b hb' => ⟨r.fresh (hown2 b hb').1, r.nb (hown2 b hb').1, (hown2 b hb').2⟩
    apart := fun X Y c hX hY => PySem.name_of_addr C.apart (PySem.mem_of_lookup hX) (PySem.mem_of_lookup hY)
    neL := fun X c hX => Nat.ne_of_gt (C.above X c (PySem.mem_of_lookup hX)) }
  have hshr : ∀ {σ' s'}, Step W (ownOf env) σ { s with heap := h₁, toks := tk } σ' s' → Step W [] σ s σ' s' := fun g => st.shrink g fun b hb' => (hown2 b hb').1
  have hfL : env.frame = some env.locals := by rw [← henv]; rfl
  have hW' : FrW W (A.deeper env) env σ h₁ := by
    obtain ⟨l, hl', hF⟩ := fr.step st
    refine ⟨l, by show A.frames.map _ = _; rw [hl']; rfl, hfL, fun x hx => ⟨hF x hx, fun L hL hown => ?_⟩⟩
    obtain ⟨l₂, hl₂, hF₂⟩ := fr
    obtain rfl : l = l₂ := Option.some.inj (hl'.symm.trans hl₂)
    obtain ⟨_, L', m, hf, _, _, hm⟩ := hF₂ x hx
    obtain rfl : L = L' := Option.some.inj (hL.symm.trans hf)
    obtain ⟨o, ho⟩ := ns_obj hm
    rw [(hown2 L hown).1] at ho; cases ho
  have back : ∀ b, h₁.get? b = none → s.heap.get? b = none := fun b hb => st.fresh hb
  exact sSs (sS_all T n) body bs F.comp (bindP ps vs) σ _ _ _ ⟨hRoom, by rw [hsc], EW, st.hr, hW'⟩ hw (fun c ρ' σ' s' e m hx R g ea => by
      obtain ⟨outer, h1, h2⟩ := (hW'.step (s := { s with heap := h₁, toks := tk }) g).all R
      refine leave_air h1 h2 hfL (fun b hb => ⟨g.hr.fresh hb, g.fresh hb⟩) ea fun h' h'' p p' ea' => ?_
      have gs := hshr g
      have q2 := Pass.step (s' := { s' with heap := h' }) (p'.back back) r ((p.back back).step r gs)
      exact hX c σ' _ e hx q2 (ea'.back back)) ⟨fun ρ' σ' s' hq _ g => hP _ _ _ _ hq .none (hshr g), fun u v σ' s' hq hu g => hP _ _ _ _ hq hu (hshr g)⟩

theorem call_ok (T : TopOk W) {f : String} {ps : List String} {bs : List S} (F : FnOk W f ps bs) {vs : List V} {σ : Hp} {Q : VP} {X : XP} (hl : vs.length = ps.length)
    (hw : wpSs bs (glb W k) (fun _ σ' => Q .none σ') Q (fun c _ σ' => X c σ') (bindP ps vs) σ) : callP W (k + 1) f vs σ Q X := by
  obtain ⟨hfa, ho, hd, hcr, F⟩ := F
  exact ⟨_, hfa, fun A s xs P E hA r fr rs hX hP => PySem.wpAny_call (code_ok (X := X) T ho hd hcr F hl hw hA r fr rs hX hP)⟩

theorem cu_make (a : PySem.Args) : (PySem.Code.builtin "type.__call__" a).cUnits ≤ 9 := by
  show 1 + 3 * (PySem.Code.builtin "type.__call__" a).frames ≤ 9
  have : (PySem.Code.builtin "type.__call__" a).frames = 0 := by kernel_rfl
  rw [this]; decide
theorem roomU {A : Around} (hA : Room A (k + 1)) (C : Addr) (xs : List Value) : (A.under (.builtin "type.__call__" ⟨.ref C :: xs, []⟩)).units + 10 * k + 200 < cLine := by
  have := hA.units
  have e := cu_make ⟨.ref C :: xs, []⟩
  show A.units + (PySem.Code.builtin "type.__call__" ⟨.ref C :: xs, []⟩).cUnits + 10 * k + 200 < cLine
  lia
/-- an object of the class is made -/
theorem new_ok (T : TopOk W) {C : Addr} (hC : W.cls "Sheet" = some C) (hfC : W.fn "Sheet" = some C)
    {vs : List V} {σ : Hp} {Q : VP} {X : XP} (h : ∀ x d, σ x = none → σ d = none → x ≠ d → callP W k "Sheet.__init__" (.ref x :: vs) ((σ.set d (.attrs [])).set x (.inst "Sheet" d)) (fun v σ' => v = .none ∧ Q (.ref x) σ') X) : callP W (k + 1) "Sheet" vs σ Q X := by
  refine ⟨C, hfC, fun A s xs P E hA r fr rs hX hP => ?_⟩
  obtain ⟨N, mN, K⟩ := T.clsK _ C hC
  obtain ⟨fI, oI, fd, hI, hfI, hfc, hfd, hfn⟩ := K.meth "__init__" (.head _)
  refine new_s K r hI hfI hfc fun s' x dx st nx nd hne => ?_
  obtain ⟨fa, hfa, hc⟩ := h x dx nx nd hne
  obtain rfl : fI = fa := Option.some.inj (hfn.symm.trans hfa)
  refine hc _ s' (.ref x :: xs) _ E ⟨hA.hand, roomU hA _ _, by have := hA.depth; rw [PyProof.Rows.depth_under_make]; lia⟩ st.hr ((by obtain ⟨l, h1, h2⟩ := fr.step st; exact ⟨l, h1, h2⟩)) (.cons (.ref x) (rs.mono (st.tup0 r))) (hX.step st) fun v σ' y s'' hq rv st' => ?_
  obtain ⟨rfl, hq⟩ := hq
  exact ⟨rv.none_inv, hP _ _ _ _ hq (.ref x) (st.trans st')⟩
end
end RS

namespace RS
open PySem (Program World Shared Addr Value Obj Heap Str Around wpAny codeAny model Scope NameKind Expr Stmt FuncData cLine recursionLimit sizeLine mainGlobals builtinsNs PyData)
open PyProof.Rows
open PySem (ExcName startupNames ClsRec)

theorem zip_lookup : ∀ {ns : List Str} {xs : List Value} {n : Str}, ns.length ≤ xs.length → n ∈ ns → ((ns.zip xs).lookup n).isSome = true
  | [], _, _, _, h => by cases h
  | m :: ns, [], _, hl, _ => by simp at hl
  | m :: ns, x :: xs, n, hl, h => by
    simp only [List.zip_cons_cons, List.lookup_cons]
    by_cases hq : n = m
    · subst hq; simp
    · have hb : (n == m) = false := by simpa using hq
      rw [hb]
      rcases List.mem_cons.mp h with h | h
      · exact absurd h hq
      · exact zip_lookup (by simpa using hl) h

theorem fm_congr {α β : Type} {f g : α → Option β} : ∀ {l : List α}, (∀ x ∈ l, f x = g x) → l.filterMap f = l.filterMap g
  | [], _ => rfl
  | a :: l, h => by
    rw [List.filterMap_cons, List.filterMap_cons, h a (by simp), fm_congr fun x hx => h x (by simp [hx])]

theorem zip_filter : ∀ (ns : List Str) (xs : List Value), ns.Nodup → xs.length = ns.length → ns.filterMap (fun n => ((ns.zip xs).lookup n).map (n, ·)) = ns.zip xs
  | [], [], _, _ => rfl
  | [], _ :: _, _, h => by simp at h
  | m :: ns, [], _, h => by simp at h
  | m :: ns, x :: xs, hn, hl => by
    obtain ⟨hm, hn⟩ := List.nodup_cons.mp hn
    have ih := zip_filter ns xs hn (by simpa using hl)
    rw [List.zip_cons_cons, List.filterMap_cons]
    simp only [List.lookup_cons, beq_self_eq_true, Option.map_some]
    congr 1
    rw [← ih]
    refine fm_congr fun n hnm => ?_
    have hb : (n == m) = false := by
      simp only [beq_eq_false_iff_ne, ne_eq]; rintro rfl; exact hm hnm
    rw [hb, ih]

theorem bindArgs_plain {fd : FuncData} {ns : List Str} {xs : List Value} (h1 : fd.params.posonlyargs = []) (h2 : fd.params.args.map (·.arg) = ns) (h3 : fd.params.kwonlyargs = []) (h4 : fd.params.vararg = none) (h5 : fd.params.kwarg = none) (h6 : fd.defaults = .none)
    (hn : ns.Nodup) (hl : xs.length = ns.length) : PySem.bindArgs fd ⟨xs, []⟩ = pure (ns.zip xs) := by
  have hmiss : (ns.filter fun n => ((ns.zip xs).lookup n).isNone) = [] := by
    rw [List.filter_eq_nil_iff]
    intro n hnm
    have := zip_lookup (xs := xs) (by lia) hnm
    cases h : (ns.zip xs).lookup n with
    | none => rw [h] at this; cases this
    | some _ => simp
  have hseq : PySem.seqItems? (Value.none) = pure none := rfl
  unfold PySem.bindArgs
  simp [h1, h2, h3, h4, h5, h6, hseq, hl, hmiss, zip_filter ns xs hn hl]

/-! ### the top -/
noncomputable def refOf (o : Option Value) : Option Addr := match o with | some (.ref a) => some a | _ => none
/-- a function of the text, or a method of its class -/
noncomputable def fnOf (mg : Str → Option Value) (cl : Option (Addr × (Str → Option Value))) (f : String) : Option Addr := match methAll.find? fun n => decide ("Sheet" ++ "." ++ n = f) with
  | some n => cl.bind fun c => refOf (c.2 (Str.ofString n))
  | none => refOf (mg (Str.ofString f))
noncomputable def typNames : List String := ["int", "bool", "str", "tuple", "list"]
noncomputable def biNames : List String := ["len", "min", "max", "sum", "int", "isinstance", "list", "tuple", "set", "all", "sorted"]
noncomputable def globOf (p : Program) (x : String) : Option V := if x ∈ typNames then some (.typ x) else match valOf p (Str.ofString x) with | some (.int i) => some (.int i) | _ => none
noncomputable def wdOf (prog p : Program) (w : World) (s₁ : Shared) (sa : Addr) (ns : List Int) (names : List String) (mg mb : Str → Option Value) (cl : Option (Addr × (Str → Option Value))) : Wd :=
  ⟨prog, w, s₁, sa, ns, fun c => if c = "Sheet" then cl.map (·.1) else none, fun c => refOf (mg (Str.ofString c)), globOf p, names, fnOf mg cl, mg, mb⟩

theorem exc_cases {c : String} (h : c ∈ excAll) : c = "SheetError" ∨ c = "BadSize" ∨ c = "OffSheet" ∨ c = "TooDeep" := by
  simpa only [excAll, excNames, List.mem_cons, List.not_mem_nil, or_false] using h
inductive ExcX (mg : Str → Option Value) (h : Heap) : Prop
  | mk {C0 C1 C2 C3 : Addr} : mg "SheetError" = some (.ref C0) → mg "BadSize" = some (.ref C1) → mg "OffSheet" = some (.ref C2) → mg "TooDeep" = some (.ref C3) → excChk1 h C0 bmVE = true → excChk1 h C1 (.ref C0 :: bmVE) = true → excChk1 h C2 (.ref C0 :: bmVE) = true → excChk1 h C3 (.ref C0 :: bmVE) = true → [C0, C1, C2, C3].Nodup → ExcX mg h
theorem excX_of {s : Shared} (h : excChk s = true) : ExcX (s.heap.nsMap mainGlobals) s.heap := by
  unfold excChk at h
  split at h
  · rename_i h0 h1 h2 h3
    simp only [Bool.and_eq_true, decide_eq_true_eq] at h
    obtain ⟨⟨⟨⟨q0, q1⟩, q2⟩, q3⟩, q4⟩ := h
    exact .mk h0 h1 h2 h3 q0 q1 q2 q3 q4
  · cases h
theorem excChk1_keeps {h h' : Heap} {C : Addr} {tl : List Value} (k : ∀ b o, h.get? b = some o → h'.get? b = some o) (x : excChk1 h C tl = true) : excChk1 h' C tl = true := by
  unfold excChk1 at x ⊢
  cases e : h.get? C with
  | none => rw [e] at x; cases x
  | some o => rw [e] at x; rw [k _ _ e]; exact x
theorem ExcX.keeps {mg : Str → Option Value} {h h' : Heap} (x : ExcX mg h) (k : ∀ b o, h.get? b = some o → h'.get? b = some o) : ExcX mg h' := by
  obtain ⟨h0, h1, h2, h3, q0, q1, q2, q3, q4⟩ := x
  exact .mk h0 h1 h2 h3 (excChk1_keeps k q0) (excChk1_keeps k q1) (excChk1_keeps k q2) (excChk1_keeps k q3) q4
theorem excChk1_is {h : Heap} {C N : Addr} {nm q : Str} {bs bm tl : List Value} {hdct : Bool} {sn : List Str} {sub : List Value} {ab : Bool} {col : Option Bool} {dd : Option Addr} {k0 k1 k2 k3 k5 : Option Value} {newId : String} (hC : h.get? C = some (PySem.excClassObj nm q C N bs bm hdct sn sub ab col dd k0 k1 k2 k3 k5 newId)) (x : excChk1 h C tl = true) : bm = tl := by
  unfold excChk1 at x
  rw [hC] at x
  exact (List.cons.inj (eq_of_beq x)).2
theorem excCls_of {W : Wd} {c : String} {C : Addr} {tl : List Value} (hm : W.mg (Str.ofString c) = some (.ref C)) (he : W.exc c = some C) (O : PyProof.Rows.OwnClsQ (Str.ofString c) C bmVE "ValueError.__new__" W.mg W.s₀.heap) (h : excChk1 W.s₀.heap C tl = true) : ExcCls W c C tl := by
  obtain ⟨bm, N, nm, q, bs, hdct, sn, sub, ab, col, dd, k0, k1, k2, k3, k5, mN, hC, hN, hq, T⟩ := O.obj
  obtain rfl := excChk1_is hC h
  exact ⟨he, hm, ⟨N, nm, q, bs, hdct, sn, sub, ab, col, dd, k0, k1, k2, k3, k5, mN, hC, hN, hq, T⟩⟩
theorem inj_of_nodup {α β : Type} {f : α → β} : ∀ {l : List α}, (l.map f).Nodup → ∀ c ∈ l, ∀ d ∈ l, f c = f d → c = d
  | [], _, _, hc, _, _, _ => absurd hc List.not_mem_nil
  | a :: l, h, c, hc, d, hd, e => by
    obtain ⟨h1, h2⟩ := List.nodup_cons.mp h
    rcases List.mem_cons.mp hc with ec | hc'
    · rcases List.mem_cons.mp hd with ed | hd'
      · exact ec.trans ed.symm
      · exact absurd (List.mem_map.mpr ⟨d, hd', e.symm.trans (congrArg f ec)⟩) h1
    · rcases List.mem_cons.mp hd with ed | hd'
      · exact absurd (List.mem_map.mpr ⟨c, hc', e.trans (congrArg f ed)⟩) h1
      · exact inj_of_nodup h2 c hc' d hd' e

noncomputable def freeB (p : Program) (loose : List Str) (x : Str) : Bool := !(startupNames.contains x) && !(loose.contains x) && !((recsOf p).map (·.name)).contains x && !((litsOf p).map (·.1)).contains x && !((clssOf p loose).map (·.name)).contains x
noncomputable def plainName (f : String) : Bool := methAll.all fun n => !decide ("Sheet" ++ "." ++ n = f)
noncomputable def topChk (p : Program) (loose : List Str) (names : List String) : Bool :=
  importsNone p && (("range" :: (biNames ++ typNames)).all fun x => freeB p loose (Str.ofString x)) && names.all fun f => plainName f && ((recsOf p).any fun d => d.name == Str.ofString f)
noncomputable def clsRec (p : Program) (loose : List Str) : Option ClsRec := (plainsOf p loose).find? fun c => c.name == ("Sheet" : Str)
noncomputable def clsChk (c : ClsRec) : Bool := (attrNames.all fun n => c.statics.contains (Str.ofString n)) && methAll.all fun n => c.meths.any fun m => m.name == Str.ofString n

section
variable {prog p : Program} {w : World} {s₁ : Shared} {sa : Addr} {ns : List Int} {names : List String} {mg mb : Str → Option Value} {loose : List Str} {mean : ExcName → Option Value}

theorem freeB_is (T : Top p loose mean mg mb s₁.heap) {x : Str} (h : freeB p loose x = true) : mg x = none := by
  simp only [freeB, Bool.and_eq_true, Bool.not_eq_true', List.contains_eq_mem, decide_eq_false_iff_not] at h
  exact T.free x h.1.1.1.1 h.1.1.1.2 h.1.1.2 h.1.2 h.2

theorem lookup_mem {x : String} {b : Bi} : ∀ {l : List (String × Bi)}, l.lookup x = some b → (x, b) ∈ l := by
  intro l
  induction l with
  | nil => intro h; cases h
  | cons y l ih =>
    intro h
    obtain ⟨z, c⟩ := y
    rw [List.lookup_cons] at h
    split at h
    · rename_i e; cases h; rw [eq_of_beq e]; exact .head _
    · exact .tail _ (ih h)
theorem biOf_boot {x : String} {b : Bi} (h : biOf x = some b) : x ∈ biNames ∧ PySem.bootBuiltins (Str.ofString x) = some (biV b) ∧ Str.ofString x ≠ "__name__" := by
  unfold biOf at h
  have := lookup_mem h
  simp only [List.mem_cons, Prod.mk.injEq, List.not_mem_nil, or_false] at this
  rcases this with ⟨rfl, rfl⟩ | ⟨rfl, rfl⟩ | ⟨rfl, rfl⟩ | ⟨rfl, rfl⟩ | ⟨rfl, rfl⟩ | ⟨rfl, rfl⟩ | ⟨rfl, rfl⟩ | ⟨rfl, rfl⟩ | ⟨rfl, rfl⟩ | ⟨rfl, rfl⟩ | ⟨rfl, rfl⟩ <;> exact ⟨by decide, by kernel_rfl, by decide⟩

theorem intsAre_reps {W : Wd} {h : Heap} {l : List Value} {ns : List Int} (hi : IntsAre l ns) : Reps W h (ns.map V.int) l := by
  induction hi with
  | nil => exact .nil
  | cons n t hr ih => exact .cons (.int _ _) ih

theorem fnOf_plain {f : String} {cl : Option (Addr × (Str → Option Value))} (h : plainName f = true) : fnOf mg cl f = refOf (mg (Str.ofString f)) := by
  have : methAll.find? (fun n => decide ("Sheet" ++ "." ++ n = f)) = none := List.find?_eq_none.mpr fun n hn q => by
    have := List.all_eq_true.mp h n hn
    rw [q] at this; cases this
  unfold fnOf; rw [this]
theorem fnOf_meth {C : Addr} {mN : Str → Option Value} : ∀ n ∈ methAll, fnOf mg (some (C, mN)) ("Sheet" ++ "." ++ n) = refOf (mN (Str.ofString n)) := by
  intro n hn
  have hu : methAll.find? (fun m => decide ("Sheet" ++ "." ++ m = "Sheet" ++ "." ++ n)) = some n := by
    revert n; decide +kernel
  unfold fnOf; rw [hu]; rfl

/-- the class, as the top leaves it -/
theorem clsIs_of {c : ClsRec} {C N : Addr} {mN : Str → Option Value} (P : PlainAt s₁.heap c.withCmp C N mN) (hc : clsChk c = true) : ClsIs (wdOf prog p w s₁ sa ns names mg mb (some (C, mN))) "Sheet" C N mN := by
  obtain ⟨h1, h2⟩ := Bool.and_eq_true_iff.mp hc
  have qt := fun n (hn : n ∈ (["__setattr__", "__getattribute__", "__getattr__"] : List Str)) => P.quiet n (List.mem_append_left _ hn)
  refine ⟨rfl, P.cls, qt _ (.tail _ (.head _)), qt _ (.tail _ (.tail _ (.head _))), qt _ (.head _), fun n hn => P.quiet _ (List.mem_append_right _ (List.mem_append_left _ ?_)), fun n hn => ?_⟩
  · exact List.contains_iff_mem.mp (List.all_eq_true.mp h1 n hn)
  · obtain ⟨m, hm, e⟩ := List.any_eq_true.mp (List.all_eq_true.mp h2 n hn)
    obtain ⟨f, o, pm, cd, doc, q1, q2, q3, q4, q5⟩ := P.meths m hm
    rw [eq_of_beq e] at q1
    exact ⟨f, o, _, q1, q2, q3, q4, (fnOf_meth n hn).trans (by rw [q1]; rfl)⟩

theorem topOk_of {cl : Option (Addr × (Str → Option Value))} (T : Top p loose mean mg mb s₁.heap) (hc : topChk p loose names = true) (hs : ∃ items n, items.size ≤ 1000001 ∧ s₁.heap.get? sa = some { cls := .type "list", data := .seq items n } ∧ PyProof.Rows.IntsAre items.toList ns)
    (xs : List String) (hxs : ∀ f ∈ xs, f = "Sheet") (hcl : ∀ x, cl = some x → mg "Sheet" = some (.ref x.1) ∧ ∃ N, ClsIs (wdOf prog p w s₁ sa ns (xs ++ names) mg mb cl) "Sheet" x.1 N x.2) (hx : xs ≠ [] → cl ≠ none) (hX : ExcX mg s₁.heap) (hsp : ∀ c ∈ excAll, specOf p (Str.ofString c) = some ("ValueError.__new__", bmVE)) :
    TopOk (wdOf prog p w s₁ sa ns (xs ++ names) mg mb cl) := by
  simp only [topChk, Bool.and_eq_true, List.all_eq_true] at hc
  obtain ⟨⟨himp, hfree⟩, hnames⟩ := hc
  have hfree' : ∀ x ∈ ("range" :: (biNames ++ typNames)), mg (Str.ofString x) = none := fun x hx => freeB_is T (hfree x hx)
  refine { sys := ?_, script := ?_, lim := T.nolimit, hg := T.g, hb := T.b, fnF := ?_, globV := ?_, biB := ?_, clsK := ?_, excK := ?_, excI := ?_, rng := ⟨hfree' "range" (by simp), (T.builtins _ (by decide)).trans (by kernel_rfl)⟩ }
  · obtain ⟨mm, ⟨o, es, ep, ho, _⟩, _⟩ := (T.seer himp).mods
    show s₁.heap.get? PySem.sysModules ≠ none
    rw [ho]; exact Option.some_ne_none _
  · obtain ⟨items, n, z, e, hi⟩ := hs
    exact ⟨items, n, z, e, fun h => intsAre_reps hi⟩
  · intro f hf
    rcases List.mem_append.mp hf with hf | hf
    · cases hxs f hf
      cases hq : cl with
      | none => exact absurd hq (hx fun q => by rw [q] at hf; cases hf)
      | some x =>
        obtain ⟨h1, N, K⟩ := hcl x hq
        refine ⟨x.1, ?_, h1, .inr ⟨N, x.2, K.cls⟩⟩
        show fnOf mg (some x) "Sheet" = some x.1
        rw [fnOf_plain (by decide +kernel), h1]; rfl
    · obtain ⟨h1, h2⟩ := hnames f hf
      obtain ⟨d, hd, he⟩ := List.any_eq_true.mp h2
      obtain ⟨a, o, pm, code, doc, hmg, ho, hdt, hcr⟩ := T.fn d hd
      rw [eq_of_beq he] at hmg
      exact ⟨a, (fnOf_plain h1).trans (by rw [hmg]; rfl), hmg, .inl ⟨o, _, ho, hdt⟩⟩
  · intro x v hx
    have hx : globOf p x = some v := hx
    unfold globOf at hx
    split at hx
    · rename_i ht
      cases hx
      refine ⟨.type x, .inr ⟨hfree' x (List.mem_cons_of_mem _ (List.mem_append_right _ ht)), ?_⟩, fun h => .typ x⟩
      show mb _ = _
      simp only [typNames, List.mem_cons, List.not_mem_nil, or_false] at ht
      rcases ht with rfl | rfl | rfl | rfl | rfl <;> exact (T.builtins _ (by decide)).trans (by kernel_rfl)
    · split at hx
      · rename_i i hv
        cases hx
        obtain ⟨y, hy, hr⟩ := T.const _ _ hv
        have := hr s₁.heap
        cases this
        exact ⟨_, .inl hy, fun h => .int _ _⟩
      · cases hx
  · intro x b hb
    obtain ⟨h1, h2, h3⟩ := biOf_boot hb
    exact ⟨hfree' x (List.mem_cons_of_mem _ (List.mem_append_left _ h1)), (T.builtins _ h3).trans h2⟩
  · intro c C' h
    have h : (if c = "Sheet" then cl.map (·.1) else none) = some C' := h
    by_cases hc : c = "Sheet"
    · subst hc
      rw [if_pos rfl] at h
      obtain ⟨x, hq, rfl⟩ := Option.map_eq_some_iff.mp h
      obtain ⟨_, N, K⟩ := hcl x hq
      exact ⟨N, x.2, K⟩
    · rw [if_neg hc] at h; cases h
  · obtain ⟨h0, h1, h2, h3, q0, q1, q2, q3, _⟩ := hX
    have rf : ∀ {c : String} {C : Addr}, mg (Str.ofString c) = some (.ref C) → refOf (mg (Str.ofString c)) = some C := fun h => by rw [h]; rfl
    refine ⟨_, rf (c := "SheetError") h0, fun c hc => ?_⟩
    obtain ⟨C, O, _⟩ := T.ownAt (hsp c hc)
    have hb := O.bound
    refine ⟨C, ?_⟩
    simp only [excAll, excNames, List.mem_cons, List.not_mem_nil, or_false] at hc
    rcases hc with rfl | rfl | rfl | rfl
    · cases Option.some.inj (hb.symm.trans h0); exact excCls_of hb (rf hb) O q0
    · cases Option.some.inj (hb.symm.trans h1); exact excCls_of hb (rf hb) O q1
    · cases Option.some.inj (hb.symm.trans h2); exact excCls_of hb (rf hb) O q2
    · cases Option.some.inj (hb.symm.trans h3); exact excCls_of hb (rf hb) O q3
  · obtain @⟨C0, C1, C2, C3, h0, h1, h2, h3, _, _, _, _, hn⟩ := hX
    refine inj_of_nodup (f := fun c => refOf (mg (Str.ofString c))) ?_
    show [refOf (mg "SheetError"), refOf (mg "BadSize"), refOf (mg "OffSheet"), refOf (mg "TooDeep")].Nodup
    rw [h0, h1, h2, h3]
    exact (List.pairwise_map (l := [C0, C1, C2, C3]) (f := some)).mpr (hn.imp fun h e => h (Option.some.inj e))

theorem typ_of {cl : Option (Addr × (Str → Option Value))} : ∀ t ∈ typNames, (wdOf prog p w s₁ sa ns names mg mb cl).glob t = some (.typ t) := fun t ht => if_pos ht

/-- the text's reading of a function -/
noncomputable def dataOk (params : PySem.Arguments) (scope : Scope) (body : List Stmt) (ps : List String) : Option (List S) :=
  oif (params.posonlyargs.isEmpty && params.kwonlyargs.isEmpty && params.vararg.isNone && params.kwarg.isNone && (params.args.map (·.arg) == ps.map Str.ofString) && scope.kind == .function && !scope.isCoroutine && !scope.isGenerator &&
      (ps.all fun x => isOwn scope.names (Str.ofString x)) && decide ps.Nodup) (compSs 60 scope.names body)
theorem dataOk_is {params : PySem.Arguments} {scope : Scope} {body : List Stmt} {ps : List String} {bs : List S} (h : dataOk params scope body ps = some bs) {fd : FuncData} (e1 : fd.params = params) (e2 : fd.scope = scope) (e3 : fd.body = .stmts body) (e4 : fd.closure = []) (e5 : fd.globals = mainGlobals) (e6 : fd.builtins = builtinsNs) (e7 : fd.defaults = .none) : FdOk fd body ps bs 60 := by
  subst e1 e2
  refine oif_inv h fun hc h => ?_
  simp only [Bool.and_eq_true, Bool.not_eq_true', List.isEmpty_iff, Option.isNone_iff_eq_none, beq_iff_eq, List.all_eq_true, decide_eq_true_eq] at hc
  obtain ⟨⟨⟨⟨⟨⟨⟨⟨⟨h1, h2⟩, h3⟩, h4⟩, h5⟩, h6⟩, h7⟩, h8⟩, h9⟩, h10⟩ := hc
  refine ⟨e3, e4, e5, e6, h7, h8, h6, fun xs hl => ?_, h, h9, h10⟩
  refine bindArgs_plain h1 h5 h2 h3 h4 e7 ?_ (by rw [List.length_map]; exact hl)
  rw [List.Nodup, List.pairwise_map]
  exact h10.imp fun hne he => hne (Str.ofString_inj he)
noncomputable def recOk (p : Program) (f : String) (ps : List String) : Option (List S) :=
  Option.bind ((recsOf p).find? fun d => d.name == Str.ofString f) fun d => oif (plainName f) (dataOk d.params d.scope d.body ps)
theorem fnOk_of {cl : Option (Addr × (Str → Option Value))} (T : Top p loose mean mg mb s₁.heap) {f : String} {ps : List String} {bs : List S} (h : recOk p f ps = some bs) : FnOk (wdOf prog p w s₁ sa ns names mg mb cl) f ps bs := by
  refine ob_inv h fun d hd h => oif_inv h fun hp h => ?_
  obtain ⟨a, o, pm, code, doc, hmg, ho, hdt, hcr⟩ := T.fn d (List.mem_of_find?_eq_some hd)
  have hb := List.find?_some hd
  rw [show d.name = Str.ofString f from eq_of_beq hb] at hmg
  exact ⟨(fnOf_plain hp).trans (by rw [hmg]; rfl), ho, hdt, hcr, dataOk_is h rfl rfl rfl rfl rfl rfl rfl⟩
noncomputable def methOk (c : ClsRec) (n : String) (ps : List String) : Option (List S) :=
  Option.bind (c.meths.find? fun d => d.name == Str.ofString n) fun d => oif (decide (n ∈ methAll)) (dataOk d.params d.scope d.body ps)
theorem methOk_of {c : ClsRec} {C N : Addr} {mN : Str → Option Value} (P : PlainAt s₁.heap c.withCmp C N mN) {n : String} {ps : List String} {bs : List S} (h : methOk c n ps = some bs) : FnOk (wdOf prog p w s₁ sa ns names mg mb (some (C, mN))) ("Sheet" ++ "." ++ n) ps bs := by
  refine ob_inv h fun d hd h => oif_inv h fun hp h => ?_
  obtain ⟨f, o, pm, cd, doc, q1, q2, q3, q4, q5⟩ := P.meths d (List.mem_of_find?_eq_some hd)
  have hb := List.find?_some hd
  rw [show d.name = Str.ofString n from eq_of_beq hb] at q1
  exact ⟨(fnOf_meth n (of_decide_eq_true hp)).trans (by rw [q1]; rfl), q2, q4, q5, dataOk_is h rfl rfl rfl rfl rfl rfl rfl⟩
end

/-! ### the law's call -/
theorem roomCaller : Room PySem.callerA 60 := ⟨rfl, by decide +kernel, by decide +kernel⟩
theorem intsAre_length {l : List Value} {ns : List Int} (h : IntsAre l ns) : l.length = ns.length := by
  induction h with
  | nil => rfl
  | cons _ _ _ ih => exact congrArg (· + 1) ih
theorem script_of {P : PySem.Params} {h : Heap} {sa : Addr} {xs : List PySem.W.WData} {vals : List Value} {ns : List Int} (w1 : PySem.W.Well P h (.ref sa) (.list xs)) (hL : h.IsList sa vals.toArray) (hI : IntsAre vals ns) (hn : ns.length ≤ 1000) :
    ∃ items n, items.size ≤ 1000001 ∧ h.get? sa = some { cls := .type "list", data := .seq items n } ∧ IntsAre items.toList ns := by
  cases w1 with
  | list e _ =>
    obtain ⟨o, ho, _, n, hd⟩ := hL
    rw [e] at ho; cases ho
    injection hd with hd _
    exact ⟨_, _, by have := intsAre_length hI; rw [hd]; simp; lia, e, by rw [hd]; exact hI⟩

section
variable {prog p : Program} {w : World} {s₁ : Shared} {sa fa : Addr} {ns : List Int} {names : List String} {mg mb : Str → Option Value} {cl : Option (Addr × (Str → Option Value))}
theorem law_good {k : Nat} {ps : List String} {bs : List S} {c : PySem.W.ClaimW} {cl' : Str → Option Addr} {mean : ExcName → Option Value} {args : List PySem.W.WData}
    (T : TopOk (wdOf prog p w s₁ sa ns names mg mb cl)) (F : FnOk (wdOf prog p w s₁ sa ns names mg mb cl) "law" ps bs) (hk : k + 1 ≤ 60) (hl : ps.length = 1)
    (hw : wpSs bs (glb (wdOf prog p w s₁ sa ns names mg mb cl) k) (fun _ _ => V.none = .bool true) (fun v _ => v = .bool true) (fun _ _ _ => False) (bindP ps [.script]) (fun _ => none))
    (hmg : mg (Str.ofString "law") = some (.ref fa)) (hgens : s₁.gens = #[]) (hpost : c.post args (.bool true) args = true) (hraise : ∀ cls, c.raises args cls = false) :
    codeAny (model prog w) PySem.callerA (.call (.ref fa) ⟨[.ref sa], []⟩) (PySem.W.GoodW c cl' mean args s₁) s₁ := by
  obtain ⟨hfa, ho, hd, hcr, F⟩ := F
  obtain rfl : _ = fa := by
    have h2 : fnOf mg cl "law" = some fa := by rw [fnOf_plain (by decide +kernel), hmg]; rfl
    exact Option.some.inj (hfa.symm.trans h2)
  have r : HR (wdOf prog p w s₁ sa ns names mg mb cl) (fun _ => none) s₁ := ⟨⟨s₁.heap, s₁.toks, rfl⟩, fun b o e => e, fun _ _ _ => rfl, fun a c h => by cases h⟩
  refine PySem.codeAny_mono (code_ok (X := fun _ _ => False) (Q := fun v _ => v = .bool true) (P := fun x s' => x = .bool true ∧ ∃ σ', Step (wdOf prog p w s₁ sa ns names mg mb cl) [] (fun _ => none) s₁ σ' s') (E := fun _ _ => False) (vs := [.script]) T ho hd hcr F hl.symm ?_ (roomCaller.le hk) r ⟨[], rfl, fun _ h => by cases h⟩ (.one .script) XC.never ?_) fun rr s' h => ?_
  · exact hw
  · intro v σ' x s' hq rv st
    subst hq
    exact ⟨rv.bool_inv, σ', st⟩
  · cases rr with
    | error e => exact h.elim
    | ok f =>
      cases f with
      | ret v =>
        obtain ⟨rfl, σ', st⟩ := h
        obtain ⟨h', tk, rfl⟩ := st.hr.same
        exact ⟨.inl ⟨_, .bool true, [], rfl, hraise, .bool true, hpost, fun _ => ⟨List.nodup_nil, fun a ha => by cases ha⟩⟩, fun b o e => st.hr.base b o e, rfl, hgens⟩
      | _ => exact h.elim
end
end RS

namespace RS
open PySem (Program Heap Str Value)
open PyProof.Rows
theorem cls_of {p : Program} {loose : List Str} {mg : Str → Option Value} {h : Heap} (TE : TopE p loose mg h) (hx : (clsRec p loose).isSome = true) : ∃ C N mN, mg "Sheet" = some (.ref C) ∧ PlainAt h ((clsRec p loose).get hx).withCmp C N mN := by
  have e : (plainsOf p loose).find? (fun c => c.name == ("Sheet" : Str)) = some ((clsRec p loose).get hx) := (Option.some_get hx).symm
  obtain ⟨C, N, mN, h1, P⟩ := TE _ (List.mem_of_find?_eq_some e)
  have hb := List.find?_some e
  rw [eq_of_beq hb] at h1
  exact ⟨C, N, mN, h1, P⟩
end RS

namespace RS
open PySem (PyData)

abbrev Pl := Int × Int
/-! ### rules of a sheet, as data -/
structure Ref where
  p : Pl
  a : Bool
  b : Bool
noncomputable def Ref.v (x : Ref) : V := .tup [.int x.p.1, .int x.p.2, .bool x.a, .bool x.b]
inductive Rule where
  | num (i : Int)
  | cell (x : Ref)
  | sum (x y : Ref)
  | most (x y : Ref)
  | add (a b : Rule)
  | pick (a b c : Rule)
  | look (a : Rule) (x y : Ref) (b : Rule)
noncomputable def Rule.tag : Rule → String
  | .num _ => "num"
  | .cell _ => "cell"
  | .sum _ _ => "sum"
  | .most _ _ => "most"
  | .add _ _ => "add"
  | .pick _ _ _ => "pick"
  | .look _ _ _ _ => "look"
noncomputable def Rule.v : Rule → V
  | .num i => .tup [.str "num", .int i]
  | .cell x => .tup [.str "cell", x.v]
  | .sum x y => .tup [.str "sum", x.v, y.v]
  | .most x y => .tup [.str "most", x.v, y.v]
  | .add a b => .tup [.str "add", a.v, b.v]
  | .pick a b c => .tup [.str "pick", a.v, b.v, c.v]
  | .look a x y b => .tup [.str "look", a.v, x.v, y.v, b.v]
noncomputable def Rule.parts : Rule → List Rule
  | .add a b => [a, b]
  | .pick a b c => [a, b, c]
  | .look a _ _ b => [a, b]
  | _ => []
noncomputable def Rule.refs : Rule → List Ref
  | .cell x => [x]
  | .sum x y => [x, y]
  | .most x y => [x, y]
  | .look _ x y _ => [x, y]
  | _ => []
noncomputable def Rule.deep : Rule → Nat
  | .add a b => max a.deep b.deep + 1
  | .pick a b c => max a.deep (max b.deep c.deep) + 1
  | .look a _ _ b => max a.deep b.deep + 1
  | _ => 1
noncomputable def Rule.size : Rule → Nat
  | .add a b => a.size + b.size + 1
  | .pick a b c => a.size + (b.size + c.size) + 1
  | .look a _ _ b => a.size + b.size + 1
  | _ => 1
/-- what is in a rule and in all in it -/
noncomputable def Rule.tr {β : Type} (g : Rule → List β) : Rule → List β
  | .add a b => g (.add a b) ++ (a.tr g ++ b.tr g)
  | .pick a b c => g (.pick a b c) ++ (a.tr g ++ (b.tr g ++ c.tr g))
  | .look a x y b => g (.look a x y b) ++ (a.tr g ++ b.tr g)
  | r => g r
theorem Rule.tr_eq {β : Type} (g : Rule → List β) (r : Rule) : r.tr g = g r ++ r.parts.flatMap (Rule.tr g) := by
  cases r <;> simp [Rule.tr, Rule.parts]
theorem Rule.ind {P : Rule → Prop} (h : ∀ r, (∀ p ∈ r.parts, P p) → P r) : ∀ r, P r := by
  intro r
  have two : ∀ a b : Rule, P a → P b → ∀ p ∈ [a, b], P p := fun a b ha hb p hp => (List.mem_cons.mp hp).elim (fun e => e ▸ ha) fun hp => List.mem_singleton.mp hp ▸ hb
  have no : ∀ p ∈ ([] : List Rule), P p := fun _ hp => (List.not_mem_nil hp).elim
  induction r with
  | add a b iha ihb => exact h _ (two a b iha ihb)
  | pick a b c iha ihb ihc => exact h _ fun p hp => (List.mem_cons.mp hp).elim (fun e => e ▸ iha) (two b c ihb ihc p)
  | look a x y b iha ihb => exact h _ (two a b iha ihb)
  | num i => exact h _ no
  | cell x => exact h _ no
  | sum x y => exact h _ no
  | most x y => exact h _ no
theorem Rule.part_deep {r p : Rule} (h : p ∈ r.parts) : p.deep + 1 ≤ r.deep := by
  cases r with
  | add a b =>
    rcases List.mem_cons.mp h with rfl | h
    · exact Nat.succ_le_succ (Nat.le_max_left _ _)
    · rw [List.mem_singleton.mp h]; exact Nat.succ_le_succ (Nat.le_max_right _ _)
  | look a x y b =>
    rcases List.mem_cons.mp h with rfl | h
    · exact Nat.succ_le_succ (Nat.le_max_left _ _)
    · rw [List.mem_singleton.mp h]; exact Nat.succ_le_succ (Nat.le_max_right _ _)
  | pick a b c =>
    rcases List.mem_cons.mp h with rfl | h
    · exact Nat.succ_le_succ (Nat.le_max_left _ _)
    · rcases List.mem_cons.mp h with rfl | h
      · exact Nat.succ_le_succ (Nat.le_trans (Nat.le_max_left _ _) (Nat.le_max_right _ _))
      · rw [List.mem_singleton.mp h]; exact Nat.succ_le_succ (Nat.le_trans (Nat.le_max_right _ _) (Nat.le_max_right _ _))
  | num i => cases h
  | cell x => cases h
  | sum x y => cases h
  | most x y => cases h
theorem Rule.deep_part (r : Rule) : r.deep = 1 ∨ ∃ p ∈ r.parts, r.deep = p.deep + 1 := by
  have key : ∀ a b : Nat, max a b = a ∨ max a b = b := fun a b => (Nat.le_total a b).elim (fun h => .inr (Nat.max_eq_right h)) fun h => .inl (Nat.max_eq_left h)
  cases r with
  | add a b => exact .inr ((key a.deep b.deep).elim (fun e => ⟨a, .head _, congrArg (· + 1) e⟩) fun e => ⟨b, .tail _ (.head _), congrArg (· + 1) e⟩)
  | look a x y b => exact .inr ((key a.deep b.deep).elim (fun e => ⟨a, .head _, congrArg (· + 1) e⟩) fun e => ⟨b, .tail _ (.head _), congrArg (· + 1) e⟩)
  | pick a b c =>
    refine .inr ((key a.deep (max b.deep c.deep)).elim (fun e => ⟨a, .head _, congrArg (· + 1) e⟩) fun e => ?_)
    exact (key b.deep c.deep).elim (fun e' => ⟨b, .tail _ (.head _), congrArg (· + 1) (e.trans e')⟩) fun e' => ⟨c, .tail _ (.tail _ (.head _)), congrArg (· + 1) (e.trans e')⟩
  | num i => exact .inl rfl
  | cell x => exact .inl rfl
  | sum x y => exact .inl rfl
  | most x y => exact .inl rfl
theorem Rule.deep_pos (r : Rule) : 1 ≤ r.deep := by cases r <;> first | exact Nat.le_refl 1 | exact Nat.succ_pos _
theorem Rule.size_eq (r : Rule) : r.size = (r.parts.map Rule.size).sum + 1 := by cases r <;> rfl
theorem size_pos (r : Rule) : 1 ≤ r.size := by rw [r.size_eq]; exact Nat.succ_pos _

/-- a rule within another, and how deep -/
inductive SubD : Rule → Nat → Rule → Nat → Prop
  | refl (r : Rule) (d : Nat) : SubD r d r d
  | part {r p s : Rule} {d e : Nat} : p ∈ r.parts → SubD p (d + 1) s e → SubD r d s e
theorem SubD.iff {r s : Rule} {d e : Nat} : SubD r d s e ↔ (s = r ∧ e = d) ∨ ∃ p ∈ r.parts, SubD p (d + 1) s e := by
  constructor
  · intro h
    cases h with
    | refl => exact .inl ⟨rfl, rfl⟩
    | part hp h => exact .inr ⟨_, hp, h⟩
  · rintro (⟨rfl, rfl⟩ | ⟨p, hp, h⟩)
    · exact .refl _ _
    · exact .part hp h
theorem SubD.deep {r s : Rule} {d e : Nat} (h : SubD r d s e) : e + s.deep ≤ d + r.deep := by
  induction h with
  | refl => exact Nat.le_refl _
  | part hp _ ih => exact Nat.le_trans ih (by rw [Nat.add_right_comm, Nat.add_assoc]; exact Nat.add_le_add_left (Rule.part_deep hp) _)
theorem most_deep : ∀ (r : Rule) (d : Nat), ∃ s e, SubD r d s e ∧ e + 1 = d + r.deep := by
  refine Rule.ind fun r ih d => ?_
  rcases r.deep_part with e | ⟨p, hp, e⟩
  · exact ⟨r, d, .refl _ _, by rw [e]⟩
  · obtain ⟨s, e', h, he⟩ := ih p hp (d + 1)
    exact ⟨s, e', .part hp h, by rw [he, e, Nat.add_right_comm, Nat.add_assoc]⟩
theorem mem_tr {β : Type} {g : Rule → List β} {x : β} : ∀ (r : Rule) (d : Nat), x ∈ r.tr g ↔ ∃ s e, SubD r d s e ∧ x ∈ g s := by
  refine Rule.ind fun r ih d => ?_
  rw [Rule.tr_eq, List.mem_append, List.mem_flatMap]
  constructor
  · rintro (h | ⟨p, hp, h⟩)
    · exact ⟨r, d, .refl _ _, h⟩
    · obtain ⟨s, e, h1, h2⟩ := (ih p hp (d + 1)).mp h
      exact ⟨s, e, .part hp h1, h2⟩
  · rintro ⟨s, e, h1, h2⟩
    rcases SubD.iff.mp h1 with ⟨rfl, _⟩ | ⟨p, hp, h1⟩
    · exact .inl h2
    · exact .inr ⟨p, hp, (ih p hp (d + 1)).mpr ⟨s, e, h1, h2⟩⟩
/-- moved -/
noncomputable def Ref.mv (d e : Int) (x : Ref) : Ref := ⟨(if x.a then x.p.1 else x.p.1 + d, if x.b then x.p.2 else x.p.2 + e), x.a, x.b⟩
noncomputable def Rule.sh (d e : Int) : Rule → Rule
  | .num i => .num i
  | .cell x => .cell (x.mv d e)
  | .sum x y => .sum (x.mv d e) (y.mv d e)
  | .most x y => .most (x.mv d e) (y.mv d e)
  | .add a b => .add (a.sh d e) (b.sh d e)
  | .pick a b c => .pick (a.sh d e) (b.sh d e) (c.sh d e)
  | .look a x y b => .look (a.sh d e) (x.mv d e) (y.mv d e) (b.sh d e)
theorem Rule.sh_ok (d e : Int) (r : Rule) : (r.sh d e).deep = r.deep ∧ (r.sh d e).size = r.size := by
  induction r with
  | add a b iha ihb => exact ⟨by show max _ _ + 1 = max _ _ + 1; rw [iha.1, ihb.1], by show _ + _ + 1 = _ + _ + 1; rw [iha.2, ihb.2]⟩
  | pick a b c iha ihb ihc => exact ⟨by show max _ (max _ _) + 1 = max _ (max _ _) + 1; rw [iha.1, ihb.1, ihc.1], by show _ + (_ + _) + 1 = _ + (_ + _) + 1; rw [iha.2, ihb.2, ihc.2]⟩
  | look a x y b iha ihb => exact ⟨by show max _ _ + 1 = max _ _ + 1; rw [iha.1, ihb.1], by show _ + _ + 1 = _ + _ + 1; rw [iha.2, ihb.2]⟩
  | _ => exact ⟨rfl, rfl⟩

/-! ### rules, as what Python compares -/
noncomputable def sd (s : String) : PyData := .str (PySem.Str.ofString s)
noncomputable def Ref.d (x : Ref) : PyData := .tuple [.int x.p.1, .int x.p.2, .bool x.a, .bool x.b]
noncomputable def Rule.d : Rule → PyData
  | .num i => .tuple [sd "num", .int i]
  | .cell x => .tuple [sd "cell", x.d]
  | .sum x y => .tuple [sd "sum", x.d, y.d]
  | .most x y => .tuple [sd "most", x.d, y.d]
  | .add a b => .tuple [sd "add", a.d, b.d]
  | .pick a b c => .tuple [sd "pick", a.d, b.d, c.d]
  | .look a x y b => .tuple [sd "look", a.d, x.d, y.d, b.d]
theorem snap_str (σ : Hp) (s : String) (n : Nat) : snap σ n (.str s) = some (sd s) := by cases n <;> rfl
theorem snap_int (σ : Hp) (i : Int) (n : Nat) : snap σ n (.int i) = some (.int i) := by cases n <;> rfl
theorem oc {α β : Type} {f : α → Option β} {a : α} {b : β} {l : List α} {s : List β} (h1 : f a = some b) (h2 : optAll f l = some s) : optAll f (a :: l) = some (b :: s) := by
  show (f a).bind (fun b => (optAll f l).map (b :: ·)) = _; rw [h1, Option.bind_some, h2]; rfl
theorem snap_tup {σ : Hp} {n : Nat} {vs : List V} {ds : List PyData} (h : optAll (snap σ n) vs = some ds) : snap σ (n + 1) (.tup vs) = some (.tuple ds) := congrArg (Option.map PyData.tuple) h
theorem snap_lst {σ : Hp} {n a : Nat} {vs : List V} {ds : List PyData} (ha : σ a = some (.lst vs)) (h : optAll (snap σ n) vs = some ds) : snap σ (n + 1) (.ref a) = some (.list ds) := by
  show (match σ a with | some (.lst vs) => (optAll (snap σ n) vs).map PyData.list | _ => none) = _
  rw [ha]; exact congrArg (Option.map PyData.list) h
theorem lt_pred {d n : Nat} (h : d + 1 ≤ n) : ∃ m, n = m + 1 ∧ d ≤ m := by
  cases n with
  | zero => exact absurd h (Nat.not_succ_le_zero _)
  | succ m => exact ⟨m, rfl, Nat.le_of_succ_le_succ h⟩
theorem snap_ref (σ : Hp) (x : Ref) (n : Nat) : snap σ (n + 1) x.v = some x.d := by cases n <;> rfl
theorem snap_rule (σ : Hp) : ∀ (r : Rule) (n : Nat), r.deep + 1 ≤ n → snap σ n r.v = some r.d := by
  refine Rule.ind fun r ih n h => ?_
  obtain ⟨m, rfl, h1⟩ := lt_pred h
  have pd : ∀ p ∈ r.parts, snap σ m p.v = some p.d := fun p hp => ih p hp m (Nat.le_trans (Rule.part_deep hp) h1)
  have xd : ∀ x : Ref, snap σ m x.v = some x.d := fun x => by
    obtain ⟨k, rfl, _⟩ := lt_pred (Nat.le_trans r.deep_pos h1)
    exact snap_ref σ x k
  cases r with
  | num i => exact snap_tup (oc (snap_str ..) (oc (snap_int ..) rfl))
  | cell x => exact snap_tup (oc (snap_str ..) (oc (xd x) rfl))
  | sum x y => exact snap_tup (oc (snap_str ..) (oc (xd x) (oc (xd y) rfl)))
  | most x y => exact snap_tup (oc (snap_str ..) (oc (xd x) (oc (xd y) rfl)))
  | add a b => exact snap_tup (oc (snap_str ..) (oc (pd a (.head _)) (oc (pd b (.tail _ (.head _))) rfl)))
  | pick a b c => exact snap_tup (oc (snap_str ..) (oc (pd a (.head _)) (oc (pd b (.tail _ (.head _))) (oc (pd c (.tail _ (.tail _ (.head _)))) rfl))))
  | look a x y b => exact snap_tup (oc (snap_str ..) (oc (pd a (.head _)) (oc (xd x) (oc (xd y) (oc (pd b (.tail _ (.head _))) rfl)))))
theorem snap_all {α : Type} {σ : Hp} {n : Nat} (f : α → V) (g : α → PyData) : ∀ (xs : List α), (∀ x ∈ xs, snap σ n (f x) = some (g x)) → optAll (snap σ n) (xs.map f) = some (xs.map g)
  | [], _ => rfl
  | x :: xs, h => oc (h x (.head _)) (snap_all f g xs fun y hy => h y (.tail _ hy))
theorem eqv_nil (ds : List PyData) : PyData.eqv (.list ds) (.list []) = ds.isEmpty := by cases ds <;> rfl
theorem eqP_nil {σ : Hp} {B : Bool → Prop} {a b : Nat} {vs : List V} {ds : List PyData} (ha : σ a = some (.lst vs)) (hb : σ b = some (.lst [])) (hs : optAll (snap σ 49) vs = some ds) (q : B vs.isEmpty) : eqP σ B (.ref a) (.ref b) := by
  refine .gen (snap_lst ha hs) (snap_lst (n := 49) hb rfl) ?_
  rw [eqv_nil]
  have hl := optAll_length hs
  cases vs with
  | nil => cases ds with
    | nil => exact q
    | cons _ _ => cases hl
  | cons v vs => cases ds with
    | nil => cases hl
    | cons _ _ => exact q
theorem s_neL0 {σ : Hp} {B : Bool → Prop} {a b : Nat} {vs : List V} {ds : List PyData} (ha : σ a = some (.lst vs)) (hb : σ b = some (.lst [])) (hs : optAll (snap σ 49) vs = some ds) (q : B (!vs.isEmpty)) : cmpP σ B .ne (.ref a) (.ref b) := .ne (eqP_nil (B := fun b => B (!b)) ha hb hs q)
theorem s_eqL0 {σ : Hp} {B : Bool → Prop} {a b : Nat} {vs : List V} {ds : List PyData} (ha : σ a = some (.lst vs)) (hb : σ b = some (.lst [])) (hs : optAll (snap σ 49) vs = some ds) (q : B vs.isEmpty) : cmpP σ B .eq (.ref a) (.ref b) := .eq (eqP_nil ha hb hs q)
theorem slice_tail (v : V) (vs : List V) : pySlice (v :: vs) (some 1) none = vs := by
  have : List.take vs.length vs = vs := List.take_length
  simp [pySlice, clipLo, clipHi, clip, this]
theorem callP_mono {W : Wd} {n m : Nat} {f : String} {vs : List V} {σ : Hp} {Q : VP} {X : XP} (h : m ≤ n) (c : callP W m f vs σ Q fun _ _ => False) : callP W n f vs σ Q X := by
  obtain ⟨fa, hfa, hc⟩ := c
  exact ⟨fa, hfa, fun A s xs P E hA r fr rs _ hP => hc A s xs P E (hA.le h) r fr rs XC.never hP⟩
/-- with its exceptions -/
theorem gcallX {W : Wd} {n m : Nat} {f : String} {vs : List V} {σ : Hp} {Q : VP} {X : XP} (h : m ≤ n) (c : callP W m f vs σ Q X) : (glb W n).call f vs σ Q X := by
  obtain ⟨fa, hfa, hc⟩ := c
  exact ⟨fa, hfa, fun A s xs P E hA r fr rs hX hP => hc A s xs P E (hA.le h) r fr rs hX hP⟩
noncomputable def noX : XP := fun _ _ => False
theorem gcall {W : Wd} {n m : Nat} {f : String} {vs : List V} {σ : Hp} {Q : VP} {X : XP} (h : m ≤ n) (c : callP W m f vs σ Q noX) : (glb W n).call f vs σ Q X := callP_mono h c


noncomputable def p_rules_in : List String := ["rule"]
noncomputable def b_rules_in : List S := [
  .ite (.bop false [.cmp (.idx (.var "rule") (.num 0)) .eq (.str "add"), .cmp (.idx (.var "rule") (.num 0)) .eq (.str "sub"), .cmp (.idx (.var "rule") (.num 0)) .eq (.str "mul")] (.cmp (.idx (.var "rule") (.num 0)) .eq (.str "pick"))) [
    .ret (.bi .list [.slice (.var "rule") (.num 1) .none])] [],
  .ite (.cmp (.idx (.var "rule") (.num 0)) .eq (.str "look")) [
    .ret (.lst [.idx (.var "rule") (.num 1), .idx (.var "rule") (.num 4)])] [],
  .ret (.lst [])]

noncomputable def p_references_in : List String := ["rule"]
noncomputable def b_references_in : List S := [
  .ite (.bop false [.cmp (.idx (.var "rule") (.num 0)) .eq (.str "cell"), .cmp (.idx (.var "rule") (.num 0)) .eq (.str "sum")] (.cmp (.idx (.var "rule") (.num 0)) .eq (.str "most"))) [
    .ret (.bi .list [.slice (.var "rule") (.num 1) .none])] [],
  .ite (.cmp (.idx (.var "rule") (.num 0)) .eq (.str "look")) [
    .ret (.lst [.idx (.var "rule") (.num 2), .idx (.var "rule") (.num 3)])] [],
  .ret (.lst [])]

noncomputable def p_all_rules : List String := ["rule"]
noncomputable def b_all_rules : List S := [
  .assign (.var "waiting") (.lst [.tup [.var "rule", .num 1]]),
  .assign (.var "found") (.lst []),
  .while_ (.cmp (.var "waiting") .ne (.lst [])) [
    .assign (.var "pair") (.meth (.var "waiting") .pop []),
    .expr (.meth (.var "found") .append [.var "pair"]),
    .assign (.var "waiting") (.bin .add (.var "waiting") (.comp (.tup [.var "one", .bin .add (.idx (.var "pair") (.num 1)) (.num 1)]) "one" (.of (.call "rules_in" [.idx (.var "pair") (.num 0)])) []))],
  .ret (.var "found")]

noncomputable def p_area : List String := ["one", "two"]
noncomputable def b_area : List S := [
  .assign (.var "left") (.bi .min [.idx (.var "one") (.num 1), .idx (.var "two") (.num 1)]),
  .assign (.var "right") (.bi .max [.idx (.var "one") (.num 1), .idx (.var "two") (.num 1)]),
  .assign (.var "found") (.lst []),
  .for_ "row" (.range2 (.bi .min [.idx (.var "one") (.num 0), .idx (.var "two") (.num 0)]) (.bin .add (.bi .max [.idx (.var "one") (.num 0), .idx (.var "two") (.num 0)]) (.num 1))) [
    .assign (.var "found") (.bin .add (.var "found") (.comp (.tup [.var "row", .var "column"]) "column" (.range2 (.var "left") (.bin .add (.var "right") (.num 1))) []))],
  .ret (.var "found")]

noncomputable def p_deep : List String := ["rule"]
noncomputable def b_deep : List S := [
  .ret (.bi .max [.comp (.idx (.var "pair") (.num 1)) "pair" (.of (.call "all_rules" [.var "rule"])) []])]

noncomputable def p_references : List String := ["rule"]
noncomputable def b_references : List S := [
  .assign (.var "found") (.lst []),
  .for_ "pair" (.of (.call "all_rules" [.var "rule"])) [
    .assign (.var "found") (.bin .add (.var "found") (.call "references_in" [.idx (.var "pair") (.num 0)]))],
  .ret (.var "found")]

noncomputable def p_needed : List String := ["rule"]
noncomputable def b_needed : List S := [
  .assign (.var "found") (.emptyDict),
  .for_ "pair" (.of (.call "all_rules" [.var "rule"])) [
    .assign (.var "some") (.call "references_in" [.idx (.var "pair") (.num 0)]),
    .ite (.cmp (.var "some") .ne (.lst [])) [
      .for_ "place" (.of (.call "area" [.idx (.var "some") (.num 0), .idx (.var "some") (.neg (.num 1))])) [
        .assign (.idx (.var "found") (.var "place")) (.bool true)]] []],
  .ret (.bi .sorted [.var "found"])]

noncomputable def p_moved : List String := ["reference", "down", "right"]
noncomputable def b_moved : List S := [
  .assign (.var "row") (.idx (.var "reference") (.num 0)),
  .assign (.var "column") (.idx (.var "reference") (.num 1)),
  .ite (.not (.idx (.var "reference") (.num 2))) [
    .assign (.var "row") (.bin .add (.var "row") (.var "down"))] [],
  .ite (.not (.idx (.var "reference") (.num 3))) [
    .assign (.var "column") (.bin .add (.var "column") (.var "right"))] [],
  .ret (.tup [.var "row", .var "column", .idx (.var "reference") (.num 2), .idx (.var "reference") (.num 3)])]

noncomputable def p_shifted : List String := ["rule", "down", "right"]
noncomputable def b_shifted : List S := [
  .ite (.cmp (.idx (.var "rule") (.num 0)) .eq (.str "num")) [
    .ret (.var "rule")] [],
  .ite (.cmp (.idx (.var "rule") (.num 0)) .eq (.str "look")) [
    .assign (.var "first") (.call "shifted" [.idx (.var "rule") (.num 1), .var "down", .var "right"]),
    .ret (.tup [.str "look", .var "first", .call "moved" [.idx (.var "rule") (.num 2), .var "down", .var "right"], .call "moved" [.idx (.var "rule") (.num 3), .var "down", .var "right"], .call "shifted" [.idx (.var "rule") (.num 4), .var "down", .var "right"]])] [],
  .ite (.cmp (.call "rules_in" [.var "rule"]) .ne (.lst [])) [
    .ret (.bin .add (.tup [.idx (.var "rule") (.num 0)]) (.bi .tuple [.comp (.call "shifted" [.var "one", .var "down", .var "right"]) "one" (.of (.slice (.var "rule") (.num 1) .none)) []]))] [],
  .ret (.bin .add (.tup [.idx (.var "rule") (.num 0)]) (.bi .tuple [.comp (.call "moved" [.var "one", .var "down", .var "right"]) "one" (.of (.slice (.var "rule") (.num 1) .none)) []]))]

noncomputable def p_looked : List String := ["value", "places", "known", "other"]
noncomputable def b_looked : List S := [
  .assign (.var "first") (.idx (.idx (.var "places") (.num 0)) (.num 1)),
  .assign (.var "last") (.idx (.idx (.var "places") (.neg (.num 1))) (.num 1)),
  .for_ "row" (.range2 (.idx (.idx (.var "places") (.num 0)) (.num 0)) (.bin .add (.idx (.idx (.var "places") (.neg (.num 1))) (.num 0)) (.num 1))) [
    .ite (.cmp (.idx (.var "known") (.tup [.var "row", .var "first"])) .eq (.var "value")) [
      .ret (.idx (.var "known") (.tup [.var "row", .var "last"]))] []],
  .ret (.var "other")]

noncomputable def p_told : List String := ["rule", "known"]
noncomputable def b_told : List S := [
  .ite (.cmp (.idx (.var "rule") (.num 0)) .eq (.str "num")) [
    .ret (.bin .mod (.idx (.var "rule") (.num 1)) (.glob "BOUND"))] [],
  .ite (.cmp (.idx (.var "rule") (.num 0)) .eq (.str "cell")) [
    .ret (.idx (.var "known") (.tup [.idx (.idx (.var "rule") (.num 1)) (.num 0), .idx (.idx (.var "rule") (.num 1)) (.num 1)]))] [],
  .ite (.cmp (.idx (.var "rule") (.num 0)) .eq (.str "sum")) [
    .ret (.bin .mod (.bi .sum [.comp (.idx (.var "known") (.var "place")) "place" (.of (.call "area" [.idx (.var "rule") (.num 1), .idx (.var "rule") (.num 2)])) []]) (.glob "BOUND"))] [],
  .ite (.cmp (.idx (.var "rule") (.num 0)) .eq (.str "most")) [
    .ret (.bi .max [.comp (.idx (.var "known") (.var "place")) "place" (.of (.call "area" [.idx (.var "rule") (.num 1), .idx (.var "rule") (.num 2)])) []])] [],
  .ite (.cmp (.idx (.var "rule") (.num 0)) .eq (.str "look")) [
    .assign (.var "other") (.call "told" [.idx (.var "rule") (.num 4), .var "known"]),
    .ret (.call "looked" [.call "told" [.idx (.var "rule") (.num 1), .var "known"], .call "area" [.idx (.var "rule") (.num 2), .idx (.var "rule") (.num 3)], .var "known", .var "other"])] [],
  .assign (.var "one") (.call "told" [.idx (.var "rule") (.num 1), .var "known"]),
  .ite (.cmp (.idx (.var "rule") (.num 0)) .eq (.str "pick")) [
    .ite (.cmp (.var "one") .ne (.num 0)) [
      .ret (.call "told" [.idx (.var "rule") (.num 2), .var "known"])] [],
    .ret (.call "told" [.idx (.var "rule") (.num 3), .var "known"])] [],
  .assign (.var "two") (.call "told" [.idx (.var "rule") (.num 2), .var "known"]),
  .ite (.cmp (.idx (.var "rule") (.num 0)) .eq (.str "add")) [
    .ret (.bin .mod (.bin .add (.var "one") (.var "two")) (.glob "BOUND"))] [],
  .ite (.cmp (.idx (.var "rule") (.num 0)) .eq (.str "sub")) [
    .ret (.bin .mod (.bin .sub (.var "one") (.var "two")) (.glob "BOUND"))] [],
  .ret (.bin .mod (.bin .mul (.var "one") (.var "two")) (.glob "BOUND"))]

noncomputable def p_known_values : List String := ["sheet"]
noncomputable def b_known_values : List S := [
  .assign (.var "left") (.meth (.var "sheet") (.own "places") []),
  .assign (.var "known") (.emptyDict),
  .assign (.var "more") (.bool true),
  .while_ (.var "more") [
    .assign (.var "more") (.bool false),
    .assign (.var "still") (.lst []),
    .for_ "place" (.of (.var "left")) [
      .assign (.var "rule") (.meth (.var "sheet") (.own "rule") [.var "place"]),
      .ite (.bi .all [.comp (.cmp (.var "one") .isIn (.var "known")) "one" (.of (.call "needed" [.var "rule"])) []]) [
        .assign (.idx (.var "known") (.var "place")) (.call "told" [.var "rule", .var "known"]),
        .assign (.var "more") (.bool true)] [
        .expr (.meth (.var "still") .append [.var "place"])]],
    .assign (.var "left") (.var "still")],
  .ret (.var "known")]

noncomputable def p_reckoned : List String := ["sheet"]
noncomputable def b_reckoned : List S := [
  .assign (.var "known") (.call "known_values" [.var "sheet"]),
  .assign (.var "found") (.lst []),
  .for_ "row" (.range1 (.attr (.var "sheet") "high")) [
    .expr (.meth (.var "found") .append [.comp (.meth (.var "known") .get [.tup [.var "row", .var "column"]]) "column" (.range1 (.attr (.var "sheet") "wide")) []])],
  .ret (.var "found")]

noncomputable def p_ring : List String := ["sheet"]
noncomputable def b_ring : List S := [
  .assign (.var "known") (.call "known_values" [.var "sheet"]),
  .assign (.var "left") (.comp (.var "place") "place" (.of (.meth (.var "sheet") (.own "places") [])) [.cmp (.var "place") .notIn (.var "known")]),
  .ite (.cmp (.var "left") .eq (.lst [])) [
    .ret (.none)] [],
  .assign (.var "way") (.lst [.idx (.var "left") (.num 0)]),
  .while_ (.bool true) [
    .assign (.var "place") (.idx (.comp (.var "one") "one" (.of (.call "needed" [.meth (.var "sheet") (.own "rule") [.idx (.var "way") (.neg (.num 1))]])) [.cmp (.var "one") .notIn (.var "known")]) (.num 0)),
    .ite (.cmp (.var "place") .isIn (.var "way")) [
      .ret (.slice (.var "way") (.meth (.var "way") .index [.var "place"]) .none)] [],
    .expr (.meth (.var "way") .append [.var "place"])]]

noncomputable def p_Sheet___init : List String := ["self", "high", "wide"]
noncomputable def b_Sheet___init : List S := [
  .ite (.bop false [.not (.cmp2 (.num 1) .le (.var "high") .le (.glob "MOST"))] (.not (.cmp2 (.num 1) .le (.var "wide") .le (.glob "MOST")))) [
    .raise "BadSize"] [],
  .assign (.attr (.var "self") "high") (.var "high"),
  .assign (.attr (.var "self") "wide") (.var "wide"),
  .assign (.attr (.var "self") "cells") (.emptyDict),
  .for_ "place" (.of (.meth (.var "self") (.own "places") [])) [
    .assign (.idx (.attr (.var "self") "cells") (.var "place")) (.tup [.str "num", .num 0])]]

noncomputable def p_Sheet_places : List String := ["self"]
noncomputable def b_Sheet_places : List S := [
  .ret (.call "area" [.tup [.num 0, .num 0], .tup [.bin .sub (.attr (.var "self") "high") (.num 1), .bin .sub (.attr (.var "self") "wide") (.num 1)]])]

noncomputable def p_Sheet_need_on : List String := ["self", "place"]
noncomputable def b_Sheet_need_on : List S := [
  .ite (.bop false [.not (.cmp2 (.num 0) .le (.idx (.var "place") (.num 0)) .lt (.attr (.var "self") "high"))] (.not (.cmp2 (.num 0) .le (.idx (.var "place") (.num 1)) .lt (.attr (.var "self") "wide")))) [
    .raise "OffSheet"] []]

noncomputable def p_Sheet_need_rule : List String := ["self", "rule"]
noncomputable def b_Sheet_need_rule : List S := [
  .for_ "one" (.of (.call "references" [.var "rule"])) [
    .expr (.meth (.var "self") (.own "need_on") [.var "one"])]]

noncomputable def p_Sheet_rule : List String := ["self", "place"]
noncomputable def b_Sheet_rule : List S := [
  .expr (.meth (.var "self") (.own "need_on") [.var "place"]),
  .ret (.idx (.attr (.var "self") "cells") (.tup [.idx (.var "place") (.num 0), .idx (.var "place") (.num 1)]))]

noncomputable def p_Sheet_put : List String := ["self", "place", "rule"]
noncomputable def b_Sheet_put : List S := [
  .expr (.meth (.var "self") (.own "need_on") [.var "place"]),
  .ite (.cmp (.call "deep" [.var "rule"]) .gt (.glob "MOST_DEEP")) [
    .raise "TooDeep"] [],
  .expr (.meth (.var "self") (.own "need_rule") [.var "rule"]),
  .assign (.idx (.attr (.var "self") "cells") (.tup [.idx (.var "place") (.num 0), .idx (.var "place") (.num 1)])) (.var "rule")]

noncomputable def p_Sheet_copy_for : List String := ["self", "source", "target"]
noncomputable def b_Sheet_copy_for : List S := [
  .expr (.meth (.var "self") (.own "need_on") [.var "source"]),
  .expr (.meth (.var "self") (.own "need_on") [.var "target"]),
  .assign (.var "made") (.call "shifted" [.meth (.var "self") (.own "rule") [.var "source"], .bin .sub (.idx (.var "target") (.num 0)) (.idx (.var "source") (.num 0)), .bin .sub (.idx (.var "target") (.num 1)) (.idx (.var "source") (.num 1))]),
  .expr (.meth (.var "self") (.own "need_rule") [.var "made"]),
  .ret (.var "made")]

noncomputable def p_Sheet_copied : List String := ["self", "source", "target"]
noncomputable def b_Sheet_copied : List S := [
  .assign (.idx (.attr (.var "self") "cells") (.tup [.idx (.var "target") (.num 0), .idx (.var "target") (.num 1)])) (.meth (.var "self") (.own "copy_for") [.var "source", .var "target"])]

noncomputable def p_Sheet_filled : List String := ["self", "source", "one", "two"]
noncomputable def b_Sheet_filled : List S := [
  .expr (.meth (.var "self") (.own "need_on") [.var "source"]),
  .expr (.meth (.var "self") (.own "need_on") [.var "one"]),
  .expr (.meth (.var "self") (.own "need_on") [.var "two"]),
  .assign (.var "made") (.comp (.tup [.var "place", .meth (.var "self") (.own "copy_for") [.var "source", .var "place"]]) "place" (.of (.call "area" [.var "one", .var "two"])) []),
  .for_ "pair" (.of (.var "made")) [
    .assign (.idx (.attr (.var "self") "cells") (.idx (.var "pair") (.num 0))) (.idx (.var "pair") (.num 1))]]

noncomputable def p_touched : List String := ["sheet", "place"]
noncomputable def b_touched : List S := [
  .expr (.meth (.var "sheet") (.own "rule") [.var "place"]),
  .assign (.var "needs") (.emptyDict),
  .for_ "one" (.of (.meth (.var "sheet") (.own "places") [])) [
    .assign (.idx (.var "needs") (.var "one")) (.call "needed" [.meth (.var "sheet") (.own "rule") [.var "one"]])],
  .assign (.var "found") (.dict1 (.tup [.idx (.var "place") (.num 0), .idx (.var "place") (.num 1)]) (.bool true)),
  .assign (.var "waiting") (.bi .list [.var "found"]),
  .while_ (.cmp (.var "waiting") .ne (.lst [])) [
    .assign (.var "here") (.meth (.var "waiting") .pop []),
    .for_ "one" (.of (.var "needs")) [
      .ite (.bop true [.cmp (.var "one") .notIn (.var "found")] (.cmp (.var "here") .isIn (.idx (.var "needs") (.var "one")))) [
        .assign (.idx (.var "found") (.var "one")) (.bool true),
        .expr (.meth (.var "waiting") .append [.var "one"])] []]],
  .ret (.bi .sorted [.var "found"])]


noncomputable def namesS : List String := ["rules_in", "references_in", "all_rules", "area", "deep", "references", "needed", "moved", "shifted", "looked", "told", "known_values", "reckoned", "ring", "touched", "Sheet"]
structure EnvS (W : Wd) : Prop where
  T : TopOk W
  most : W.glob "MOST" = some (.int 12)
  mostD : W.glob "MOST_DEEP" = some (.int 8)
  bound : W.glob "BOUND" = some (.int 1000000000)
  cls : ∃ C, W.cls "Sheet" = some C ∧ W.fn "Sheet" = some C
  rules_in : FnOk W "rules_in" p_rules_in b_rules_in
  references_in : FnOk W "references_in" p_references_in b_references_in
  all_rules : FnOk W "all_rules" p_all_rules b_all_rules
  area : FnOk W "area" p_area b_area
  deep : FnOk W "deep" p_deep b_deep
  references : FnOk W "references" p_references b_references
  needed : FnOk W "needed" p_needed b_needed
  moved : FnOk W "moved" p_moved b_moved
  shifted : FnOk W "shifted" p_shifted b_shifted
  looked : FnOk W "looked" p_looked b_looked
  told : FnOk W "told" p_told b_told
  known_values : FnOk W "known_values" p_known_values b_known_values
  reckoned : FnOk W "reckoned" p_reckoned b_reckoned
  ring : FnOk W "ring" p_ring b_ring
  touched : FnOk W "touched" p_touched b_touched
  s_init : FnOk W "Sheet.__init__" p_Sheet___init b_Sheet___init
  s_places : FnOk W "Sheet.places" p_Sheet_places b_Sheet_places
  s_need_on : FnOk W "Sheet.need_on" p_Sheet_need_on b_Sheet_need_on
  s_need_rule : FnOk W "Sheet.need_rule" p_Sheet_need_rule b_Sheet_need_rule
  s_rule : FnOk W "Sheet.rule" p_Sheet_rule b_Sheet_rule
  s_put : FnOk W "Sheet.put" p_Sheet_put b_Sheet_put
  s_copy_for : FnOk W "Sheet.copy_for" p_Sheet_copy_for b_Sheet_copy_for
  s_copied : FnOk W "Sheet.copied" p_Sheet_copied b_Sheet_copied
  s_filled : FnOk W "Sheet.filled" p_Sheet_filled b_Sheet_filled
  names : ∀ f ∈ namesS, f ∈ W.names

section
variable {W : Wd} {k : Nat}
theorem EnvS.has (E : EnvS W) {k : Nat} {f : String} (h : f ∈ namesS) : (glb W k).has f = true := decide_eq_true (E.names f h)

/-! ### places and areas -/
noncomputable def pv (p : Pl) : V := .tup [.int p.1, .int p.2]
noncomputable def areaP (r0 c0 : Int) (w n : Nat) : List (Pl) := (List.range n).flatMap fun (i : Nat) => (List.range w).map fun (j : Nat) => (r0 + i, c0 + j)
theorem areaP_succ (r0 c0 : Int) (w n : Nat) : areaP r0 c0 w (n + 1) = areaP r0 c0 w n ++ (List.range w).map fun (j : Nat) => (r0 + n, c0 + j) := by
  simp [areaP, List.range_succ, List.flatMap_append]
theorem areaP_length (r0 c0 : Int) (w n : Nat) : (areaP r0 c0 w n).length = n * w := by
  induction n with
  | zero => simp [areaP]
  | succ n ih => rw [areaP_succ, List.length_append, ih, List.length_map, List.length_range, Nat.succ_mul]
theorem off_nat {a x : Int} {n : Nat} : (∃ i, i < n ∧ a + (i : Int) = x) ↔ a ≤ x ∧ x < a + n := by
  constructor
  · rintro ⟨i, hi, rfl⟩
    exact ⟨Int.le_add_of_nonneg_right (Int.natCast_nonneg i), Int.add_lt_add_left (Int.ofNat_lt.mpr hi) a⟩
  · rintro ⟨h1, h2⟩
    obtain ⟨i, hi⟩ := Int.eq_ofNat_of_zero_le (Int.sub_nonneg_of_le h1)
    have e : a + (i : Int) = x := by rw [← hi, Int.add_comm, Int.sub_add_cancel]
    exact ⟨i, Int.ofNat_lt.mp (Int.lt_of_add_lt_add_left (a := a) (by rw [e]; exact h2)), e⟩
theorem mem_areaP {r0 c0 : Int} {w n : Nat} {p : Pl} : p ∈ areaP r0 c0 w n ↔ r0 ≤ p.1 ∧ p.1 < r0 + n ∧ c0 ≤ p.2 ∧ p.2 < c0 + w := by
  rw [← and_assoc, ← off_nat, ← off_nat]
  unfold areaP
  rw [List.mem_flatMap]
  constructor
  · rintro ⟨i, hi, hp⟩
    obtain ⟨j, hj, rfl⟩ := List.mem_map.mp hp
    exact ⟨⟨i, List.mem_range.mp hi, rfl⟩, j, List.mem_range.mp hj, rfl⟩
  · rintro ⟨⟨i, hi, e1⟩, j, hj, e2⟩
    exact ⟨i, List.mem_range.mpr hi, List.mem_map.mpr ⟨j, List.mem_range.mpr hj, Prod.ext e1 e2⟩⟩
noncomputable def boxOf (r1 c1 r2 c2 : Int) : List (Pl) := areaP (min r1 r2) (min c1 c2) (max c1 c2 + 1 - min c1 c2).toNat (max r1 r2 + 1 - min r1 r2).toNat
theorem area_ok (E : EnvS W) (r1 c1 r2 c2 : Int) (t1 t2 : List V) (σ : Hp) (Q : VP)
    (hr : max r1 r2 + 1 - min r1 r2 ≤ 100) (hcc : max c1 c2 + 1 - min c1 c2 ≤ 100)
    (h : ∀ a σ', σ a = none → σ.le σ' → σ' a = some (.lst ((boxOf r1 c1 r2 c2).map pv)) → Q (.ref a) σ') :
    callP W 1 "area" [.tup (.int r1 :: .int c1 :: t1), .tup (.int r2 :: .int c2 :: t2)] σ Q noX := by
  have tl : ∀ {x : Int}, x ≤ 100 → x.toNat ≤ 100 := fun hx => Int.toNat_le.mpr hx
  refine call_ok E.T E.area rfl ?_
  dsimp only [b_area, p_area, bindP]
  refine st_cons ?_
  dsimp only [S.assign, T.var, X.bi, X.idx, X.num, X.var, wpEs]
  refine s_get rfl (s_idxT (v := .int c1) rfl (s_get rfl (s_idxT (v := .int c2) rfl (s_min2 (st_cons ?_)))))
  dsimp only [S.assign, T.var, X.bi, X.idx, X.num, X.var, wpEs]
  refine s_get rfl (s_idxT (v := .int c1) rfl (s_get rfl (s_idxT (v := .int c2) rfl (s_max2 (st_cons ?_)))))
  dsimp only [S.assign, T.var, X.lst, wpEs]
  refine s_newG fun a σ₁ na le₁ ha => st_cons ?_
  dsimp only [S.for_, Src.range2, X.bi, X.bin, X.idx, X.num, X.var, wpEs]
  refine s_get rfl (s_idxT (v := .int r1) rfl (s_get rfl (s_idxT (v := .int r2) rfl (s_min2 (s_get rfl (s_idxT (v := .int r1) rfl (s_get rfl (s_idxT (v := .int r2) rfl (s_max2 (s_add (s_range (Nat.le_trans (tl hr) (by decide)) ?_)))))))))))
  refine forL_range (fun i ρ σ' => A4 (ρ "left" = some (.int (min c1 c2))) (ρ "right" = some (.int (max c1 c2))) (σ.le σ') (∃ b, ρ "found" = some (.ref b) ∧ σ b = none ∧ σ' b = some (.lst ((areaP (min r1 r2) (min c1 c2) (max c1 c2 + 1 - min c1 c2).toNat i).map pv))))
    ⟨rfl, rfl, le₁, a, rfl, na, ha⟩ (fun _ => trivial) ?_ ?_
  · rintro i ρ σ' N' hi ⟨hl, hr', hle, b, hf, hb, hb'⟩ hN
    have hi : i < 100 := Int.ofNat_lt.mp (Int.lt_of_lt_of_le (Int.lt_sub_left_of_add_lt hi) hr)
    refine st_cons ?_
    dsimp only [S.assign, Src.range2, T.var, X.bin, X.comp, X.num, X.tup, X.var, wpEs, wpIfs]
    refine s_get ((Env.set_ne _ _ (by decide)).trans hf) (s_get ((Env.set_ne _ _ (by decide)).trans hl) (s_get ((Env.set_ne _ _ (by decide)).trans hr') (s_add (s_range (Nat.le_trans (tl hcc) (by decide)) ?_))))
    unfold rangeL
    refine compL_lt (fun (j : Nat) => V.int (min c1 c2 + j)) (fun (j : Nat) => pv (min r1 r2 + (i : Int), min c1 c2 + (j : Int))) (fun _ _ => trivial) (by unfold lenOk; rw [List.length_range]; exact Nat.le_trans (tl hcc) (by decide)) (fun j _ σ₂ le₂ K' hK' => ?_) fun σ₂ le₂ => ?_
    · exact s_ifT rfl (s_get ((Env.set_ne _ _ (by decide)).trans (Env.set_same _ _ _)) (s_get (Env.set_same _ _ _) (hK' _ (Hp.le_refl _))))
    refine s_newG fun c σ₃ nc le₃ hc => ?_
    have le23 := Hp.le_trans le₂ le₃
    refine s_lcat (le23 _ _ hb') hc ?_ fun d hd => ?_
    · unfold lenOk
      rw [List.length_map, List.length_map, List.length_range, areaP_length]
      exact Nat.le_trans (Nat.add_le_add (Nat.mul_le_mul (Nat.le_of_lt hi) (tl hcc)) (tl hcc)) (by decide)
    have leA := Hp.le_trans hle le23
    refine st_nil (hN _ _ ⟨(Env.set_ne _ _ (by decide)).trans ((Env.set_ne _ _ (by decide)).trans hl), (Env.set_ne _ _ (by decide)).trans ((Env.set_ne _ _ (by decide)).trans hr'), Hp.le_trans leA (Hp.le_set _ hd), d, Env.set_same _ _ _, Hp.le_none leA hd, ?_⟩)
    rw [Hp.set_same, areaP_succ, List.map_append, List.map_map]; rfl
  · rintro ρ σ' ⟨_, _, hle, b, hf, hb, hb'⟩
    refine st_cons ?_
    dsimp only [S.ret, X.var]
    exact s_get hf (h b σ' hb hle hb')

/-! ### the word of a rule -/
theorem tag_no {g : Glb} {ρ : Env} {σ : Hp} {x t s : String} {vs : List V} {ss rest : List S} {N : NP} {R : VP} {X : XPS} (hx : ρ x = some (.tup (.str s :: vs))) (h : s ≠ t) (q : wpSs rest g N R X ρ σ) : wpSs (.ite (.cmp (.idx (.var x) (.num 0)) .eq (.str t)) ss [] :: rest) g N R X ρ σ := by
  refine st_cons ?_
  dsimp only [RS.X.cmp, RS.X.idx, RS.X.num, RS.X.str, RS.X.var, S.ite, wpT]
  exact s_get hx (s_idxT rfl (s_eqS (s_truth rfl (s_ifF (fun e => h (of_decide_eq_true e)) q))))
theorem tag_yes {g : Glb} {ρ : Env} {σ : Hp} {x t : String} {vs : List V} {ss rest : List S} {N : NP} {R : VP} {X : XPS} (hx : ρ x = some (.tup (.str t :: vs))) (q : wpSs ss g (wpSs rest g N R X) R X ρ σ) : wpSs (.ite (.cmp (.idx (.var x) (.num 0)) .eq (.str t)) ss [] :: rest) g N R X ρ σ := by
  refine st_cons ?_
  dsimp only [RS.X.cmp, RS.X.idx, RS.X.num, RS.X.str, RS.X.var, S.ite, wpT]
  exact s_get hx (s_idxT rfl (s_eqS (s_truth rfl (s_ifT (decide_eq_true rfl) q))))
noncomputable def tagX (x t : String) : RS.X := .cmp (.idx (.var x) (.num 0)) .eq (.str t)
theorem tagsB {g : Glb} {ρ : Env} {σ : Hp} {x s t : String} {vs : List V} {Q : VP} {X : XP} (hx : ρ x = some (.tup (.str s :: vs))) : ∀ (ts : List String), Q (.bool (decide (s ∈ ts ∨ s = t))) σ → wpBop false (tagX x t) (ts.map (tagX x)) g ρ σ Q X
  | [], q => by
    rw [decide_eq_decide.mpr (show (s ∈ ([] : List String) ∨ s = t) ↔ s = t from ⟨fun h => h.resolve_left List.not_mem_nil, .inr⟩)] at q
    exact s_get hx (s_idxT rfl (s_eqS q))
  | u :: ts, q => by
    refine s_get hx (s_idxT rfl (s_eqS (s_truth rfl ?_)))
    by_cases e : s = u
    · rw [decide_eq_true (.inl (e ▸ .head _))] at q
      rw [decide_eq_true e]
      exact s_ifF (by decide) q
    · rw [decide_eq_false e]
      refine s_ifT rfl (tagsB hx ts ?_)
      rw [decide_eq_decide.mpr (show (s ∈ u :: ts ∨ s = t) ↔ (s ∈ ts ∨ s = t) from ⟨fun h => h.imp (fun h => (List.mem_cons.mp h).resolve_left e) id, fun h => h.imp (.tail _) id⟩)] at q
      exact q
theorem tags {g : Glb} {ρ : Env} {σ : Hp} {x s t : String} {vs : List V} {ss rest : List S} {N : NP} {R : VP} {X : XPS} (ts : List String) (hx : ρ x = some (.tup (.str s :: vs)))
    (q : if (s ∈ ts ∨ s = t) then wpSs ss g (wpSs rest g N R X) R X ρ σ else wpSs rest g N R X ρ σ) : wpSs (.ite (.bop false (ts.map (tagX x)) (tagX x t)) ss [] :: rest) g N R X ρ σ := by
  refine st_cons (tagsB (Q := fun v σ₁ => ∃ b, truth v = some b ∧ if b = true then wpSs ss g (wpSs rest g N R X) R X ρ σ₁ else wpSs [] g (wpSs rest g N R X) R X ρ σ₁) hx ts ?_)
  refine s_truth rfl ?_
  by_cases e : s ∈ ts ∨ s = t
  · rw [if_pos e] at q; exact s_ifT (decide_eq_true e) q
  · rw [if_neg e] at q; exact s_ifF (fun h => e (of_decide_eq_true h)) q



/-! ### the parts of a rule -/
theorem rules_in_ok (E : EnvS W) (r : Rule) (σ : Hp) (Q : VP) (h : ∀ a σ', σ a = none → σ.le σ' → σ' a = some (.lst (r.parts.map Rule.v)) → Q (.ref a) σ') : callP W 1 "rules_in" [r.v] σ Q noX := by
  refine call_ok E.T E.rules_in rfl ?_
  dsimp only [b_rules_in, p_rules_in, bindP]
  have yes : ∀ (s : String) (vs : List V) (N : NP), s ∈ ["add", "sub", "mul"] ∨ s = "pick" → r.parts.map Rule.v = vs → wpSs b_rules_in (glb W 0) N Q (fun c _ σ' => noX c σ') (Env.set (fun _ => none) "rule" (.tup (.str s :: vs))) σ := by
    intro s vs N hs hp
    refine tags ["add", "sub", "mul"] rfl (s_ifT hs (st_cons ?_))
    dsimp only [S.ret, X.bi, X.none, X.num, X.slice, X.var, wpEs]
    refine s_get rfl (s_sliceT rfl rfl (s_listT fun c hc => h c _ hc (Hp.le_set _ hc) ?_))
    rw [Hp.set_same, slice_tail, hp]
  have no : ∀ (s : String) (vs : List V) (N : NP), ¬ (s ∈ ["add", "sub", "mul"] ∨ s = "pick") → s ≠ "look" → r.parts = [] → wpSs b_rules_in (glb W 0) N Q (fun c _ σ' => noX c σ') (Env.set (fun _ => none) "rule" (.tup (.str s :: vs))) σ := by
    intro s vs N h1 hs hp
    refine tags ["add", "sub", "mul"] rfl (s_ifF h1 (tag_no rfl hs (st_cons ?_)))
    dsimp only [S.ret, X.lst, wpEs]
    rw [hp] at h
    exact s_newG h
  cases r with
  | add a b => exact yes "add" _ _ (by decide) rfl
  | pick a b c => exact yes "pick" _ _ (by decide) rfl
  | look a x y b =>
    refine tags ["add", "sub", "mul"] rfl (s_ifF (by decide) (tag_yes rfl (st_cons ?_)))
    dsimp only [S.ret, X.idx, X.lst, X.num, X.var, wpEs]
    exact s_get rfl (s_idxT (v := a.v) rfl (s_get rfl (s_idxT (v := b.v) rfl (s_newG h))))
  | num i => exact no "num" _ _ (by decide) (by decide) rfl
  | cell x => exact no "cell" _ _ (by decide) (by decide) rfl
  | sum x y => exact no "sum" _ _ (by decide) (by decide) rfl
  | most x y => exact no "most" _ _ (by decide) (by decide) rfl
theorem references_in_ok (E : EnvS W) (r : Rule) (σ : Hp) (Q : VP) (h : ∀ a σ', σ a = none → σ.le σ' → σ' a = some (.lst (r.refs.map Ref.v)) → Q (.ref a) σ') : callP W 1 "references_in" [r.v] σ Q noX := by
  refine call_ok E.T E.references_in rfl ?_
  dsimp only [b_references_in, p_references_in, bindP]
  have yes : ∀ (s : String) (vs : List V) (N : NP), s ∈ ["cell", "sum"] ∨ s = "most" → r.refs.map Ref.v = vs → wpSs b_references_in (glb W 0) N Q (fun c _ σ' => noX c σ') (Env.set (fun _ => none) "rule" (.tup (.str s :: vs))) σ := by
    intro s vs N hs hp
    refine tags ["cell", "sum"] rfl (s_ifT hs (st_cons ?_))
    dsimp only [S.ret, X.bi, X.none, X.num, X.slice, X.var, wpEs]
    refine s_get rfl (s_sliceT rfl rfl (s_listT fun c hc => h c _ hc (Hp.le_set _ hc) ?_))
    rw [Hp.set_same, slice_tail, hp]
  have no : ∀ (s : String) (vs : List V) (N : NP), ¬ (s ∈ ["cell", "sum"] ∨ s = "most") → s ≠ "look" → r.refs = [] → wpSs b_references_in (glb W 0) N Q (fun c _ σ' => noX c σ') (Env.set (fun _ => none) "rule" (.tup (.str s :: vs))) σ := by
    intro s vs N h1 hs hp
    refine tags ["cell", "sum"] rfl (s_ifF h1 (tag_no rfl hs (st_cons ?_)))
    dsimp only [S.ret, X.lst, wpEs]
    rw [hp] at h
    exact s_newG h
  cases r with
  | cell x => exact yes "cell" _ _ (by decide) rfl
  | sum x y => exact yes "sum" _ _ (by decide) rfl
  | most x y => exact yes "most" _ _ (by decide) rfl
  | look a x y b =>
    refine tags ["cell", "sum"] rfl (s_ifF (by decide) (tag_yes rfl (st_cons ?_)))
    dsimp only [S.ret, X.idx, X.lst, X.num, X.var, wpEs]
    exact s_get rfl (s_idxT (v := x.v) rfl (s_get rfl (s_idxT (v := y.v) rfl (s_newG h))))
  | num i => exact no "num" _ _ (by decide) (by decide) rfl
  | add a b => exact no "add" _ _ (by decide) (by decide) rfl
  | pick a b c => exact no "pick" _ _ (by decide) (by decide) rfl
end


section
variable {W : Wd} {k : Nat}
theorem nodup_len {α : Type} [BEq α] [LawfulBEq α] : ∀ {l U : List α}, l.Nodup → (∀ x ∈ l, x ∈ U) → l.length ≤ U.length
  | [], _, _, _ => Nat.zero_le _
  | x :: l, U, hn, hs => by
    have hx := hs x (.head _)
    rw [List.nodup_cons] at hn
    have := nodup_len (l := l) (U := U.erase x) hn.2 fun y hy => (List.mem_erase_of_ne (fun e : y = x => hn.1 (e ▸ hy))).mpr (hs y (.tail _ hy))
    rw [List.length_erase_of_mem hx] at this
    exact Nat.add_le_of_le_sub (List.length_pos_of_mem hx) this
theorem nodup_add {α : Type} {l : List α} {x : α} (h : l.Nodup) (hx : x ∉ l) : (l ++ [x]).Nodup :=
  List.nodup_append.mpr ⟨h, List.nodup_cons.mpr ⟨List.not_mem_nil, List.nodup_nil⟩, fun y hy z hz e => hx (by rw [← List.mem_singleton.mp hz, ← e]; exact hy)⟩
theorem mem_mid {α : Type} {l pre post : List α} {x : α} (e : l = pre ++ x :: post) : x ∈ l := by rw [e]; exact List.mem_append_right _ (.head _)

noncomputable def pk (p : Pl) : List Int := [p.1, p.2]
noncomputable def plt (p q : Pl) : Prop := ltL (pk p) (pk q) = true
theorem pk_inj {p q : Pl} (h : pk p = pk q) : p = q := by
  have h1 : some p.1 = some q.1 := congrArg (fun l => l[0]?) h
  have h2 : some p.2 = some q.2 := congrArg (fun l => l[1]?) h
  exact Prod.ext (Option.some.inj h1) (Option.some.inj h2)
/-! ### dicts by places -/
theorem dget_iff {es : List (List Int × V)} {k : List Int} : (dget es k).isSome = true ↔ k ∈ es.map (·.1) := by
  unfold dget
  rw [Option.isSome_map, List.find?_isSome, List.mem_map]
  exact ⟨fun ⟨x, h, e⟩ => ⟨x, h, of_decide_eq_true e⟩, fun ⟨x, h, e⟩ => ⟨x, h, decide_eq_true e⟩⟩
noncomputable def mapD (ps : List (Pl)) (g : Pl → V) : List (List Int × V) := ps.map fun p => (pk p, g p)
noncomputable def updF {α : Type} (g : Pl → α) (p : Pl) (v : α) : Pl → α := fun q => if q = p then v else g q
theorem updF_same {α : Type} (g : Pl → α) (p : Pl) (v : α) : updF g p v p = v := if_pos rfl
theorem updF_ne {α : Type} (g : Pl → α) {p q : Pl} (v : α) (h : q ≠ p) : updF g p v q = g q := if_neg h
theorem updF_id {α : Type} (g : Pl → α) (p : Pl) : updF g p (g p) = g := funext fun q => by
  by_cases e : q = p
  · rw [e, updF_same]
  · exact updF_ne g _ e
theorem updF_comp {α β : Type} (F : α → β) (g : Pl → α) (p : Pl) (v : α) : updF (fun q => F (g q)) p (F v) = fun q => F (updF g p v q) := funext fun q => (apply_ite F (q = p) v (g q)).symm
theorem mapD_keys (ps : List (Pl)) (g : Pl → V) : (mapD ps g).map (·.1) = ps.map pk := by unfold mapD; rw [List.map_map]; rfl
theorem mapD_kv (ps : List (Pl)) (g : Pl → V) : (mapD ps g).map (fun e => kv e.1) = ps.map pv := by unfold mapD; rw [List.map_map]; rfl
theorem mapD_length (ps : List (Pl)) (g : Pl → V) : (mapD ps g).length = ps.length := List.length_map _
theorem dget_mapD {g : Pl → V} {p : Pl} : ∀ {ps : List (Pl)}, p ∈ ps → dget (mapD ps g) (pk p) = some (g p)
  | q :: ps, h => by
    by_cases e : q = p
    · subst e
      unfold dget mapD
      rw [List.map_cons, List.find?_cons_of_pos (by exact decide_eq_true rfl)]; rfl
    · have := dget_mapD (g := g) ((List.mem_cons.mp h).resolve_left (fun e' => e e'.symm))
      unfold dget mapD at this ⊢
      rw [List.map_cons, List.find?_cons_of_neg (by intro q'; exact e (pk_inj (of_decide_eq_true q')))]; exact this
theorem dget_mapD_some {g : Pl → V} {p : Pl} {ps : List (Pl)} : (dget (mapD ps g) (pk p)).isSome = decide (p ∈ ps) := by
  rw [Bool.eq_iff_iff, dget_iff, mapD_keys, decide_eq_true_eq, List.mem_map]
  exact ⟨fun ⟨q, hq, e⟩ => pk_inj e ▸ hq, fun h => ⟨p, h, rfl⟩⟩
theorem dput_mapD {g : Pl → V} {p : Pl} {v : V} {ps : List (Pl)} (h : p ∈ ps) : dput (mapD ps g) (pk p) v = mapD ps (updF g p v) := by
  unfold dput
  rw [dget_mapD_some, if_pos (decide_eq_true h)]
  unfold mapD
  rw [List.map_map]
  apply List.map_congr_left
  intro q _
  by_cases e : q = p
  · subst e; show (if pk q = pk q then _ else _) = _; rw [if_pos rfl, updF_same]
  · show (if pk q = pk p then _ else _) = _; rw [if_neg (fun e' => e (pk_inj e')), updF_ne g v e]
theorem dput_mapD_not {g : Pl → V} {p : Pl} {v : V} {ps : List (Pl)} (h : p ∉ ps) : dput (mapD ps g) (pk p) v = mapD (ps ++ [p]) (updF g p v) := by
  unfold dput
  rw [dget_mapD_some, if_neg (fun e => h (of_decide_eq_true e))]
  unfold mapD
  rw [List.map_append, List.map_singleton, updF_same]
  congr 1
  apply List.map_congr_left
  intro q hq
  rw [updF_ne (p := p) (q := q) g v (fun e => by subst e; exact h hq)]

/-! ### the places of a sheet -/
noncomputable def G (h w : Nat) : List (Pl) := areaP 0 0 w h
theorem mem_G {h w : Nat} {p : Pl} : p ∈ G h w ↔ 0 ≤ p.1 ∧ p.1 < h ∧ 0 ≤ p.2 ∧ p.2 < w := by
  unfold G; rw [mem_areaP, Int.zero_add, Int.zero_add]
theorem G_length (h w : Nat) : (G h w).length = h * w := areaP_length 0 0 w h
theorem areaP_nodup (r c : Int) (w : Nat) : ∀ n, (areaP r c w n).Nodup
  | 0 => List.nodup_nil
  | n + 1 => by
    rw [areaP_succ]
    refine List.nodup_append.mpr ⟨areaP_nodup r c w n, ?_, fun x hx y hy e => ?_⟩
    · rw [List.Nodup, List.pairwise_map]
      exact List.pairwise_lt_range.imp fun {i j} hij e => by
        have e : c + i = c + j := congrArg Prod.snd e
        exact Nat.lt_irrefl j (Int.ofNat.inj (Int.add_left_cancel e) ▸ hij)
    · obtain ⟨j, _, rfl⟩ := List.mem_map.mp hy
      have := (mem_areaP.mp hx).2.1
      rw [e] at this
      exact Int.lt_irrefl _ this
theorem G_nodup (w h : Nat) : (G h w).Nodup := areaP_nodup 0 0 w h
theorem box_G (h w : Nat) (hh : 0 < h) (hw : 0 < w) : boxOf 0 0 ((h : Int) - 1) ((w : Int) - 1) = G h w := by
  have key : ∀ n : Nat, 0 < n → min 0 ((n : Int) - 1) = 0 ∧ (max 0 ((n : Int) - 1) + 1 - 0).toNat = n := fun n hn => by
    have h0 : (0 : Int) ≤ (n : Int) - 1 := Int.sub_nonneg_of_le (Int.ofNat_le.mpr hn)
    rw [Int.min_eq_left h0, Int.max_eq_right h0, Int.sub_add_cancel, Int.sub_zero, Int.toNat_natCast]
    exact ⟨rfl, rfl⟩
  unfold boxOf G
  rw [(key h hh).1, (key w hw).1, (key h hh).2, (key w hw).2]
theorem nodup_mid {α : Type} {l pre post : List α} {x : α} (hn : l.Nodup) (e : l = pre ++ x :: post) : x ∉ pre := by
  subst e
  intro h
  exact (List.nodup_append.mp hn).2.2 x h x (.head _) rfl

/-- sizes of sheets -/
structure Sz (h w : Nat) : Prop where
  h0 : 0 < h
  w0 : 0 < w
  h1 : h ≤ 3
  w1 : w ≤ 3
theorem Sz.len {h w : Nat} (s : Sz h w) : (G h w).length ≤ 9 := by rw [G_length]; exact Nat.mul_le_mul s.h1 s.w1
theorem side_ok {n : Nat} (h : n ≤ 3) (h0 : 0 < n) : max 0 ((n : Int) - 1) + 1 - min 0 ((n : Int) - 1) ≤ 100 := by
  have h0 : (0 : Int) ≤ (n : Int) - 1 := Int.sub_nonneg_of_le (Int.ofNat_le.mpr h0)
  rw [Int.min_eq_left h0, Int.max_eq_right h0, Int.sub_add_cancel, Int.sub_zero]
  exact Int.ofNat_le.mpr (Nat.le_trans h (by decide))

/-- places in order -/
noncomputable def kp (k : List Int) : Pl := (k.getD 0 0, k.getD 1 0)
theorem sortP {fs : List Pl} {ys : List (List Int)} (hp : ys.Perm (fs.map pk)) (hs : ys.Pairwise fun x y => ltL x y = true) : ∃ zs : List Pl, ys = zs.map pk ∧ zs.Pairwise plt ∧ ∀ p, p ∈ zs ↔ p ∈ fs := by
  have hys : ys = (ys.map kp).map pk := by
    rw [List.map_map]
    conv => lhs; rw [← List.map_id ys]
    apply List.map_congr_left
    intro k hk
    obtain ⟨p, _, rfl⟩ := List.mem_map.mp (hp.mem_iff.mp hk)
    rfl
  generalize ys.map kp = zs at hys
  subst hys
  refine ⟨zs, rfl, by rw [List.pairwise_map] at hs; exact hs, fun p => ?_⟩
  have mm : ∀ l : List Pl, pk p ∈ l.map pk ↔ p ∈ l := fun l => ⟨fun h => by obtain ⟨p', hp', e⟩ := List.mem_map.mp h; rw [← pk_inj e]; exact hp', fun h => List.mem_map.mpr ⟨p, h, rfl⟩⟩
  rw [← mm zs, ← mm fs]; exact hp.mem_iff
theorem nodup_pk {fs : List Pl} (h : fs.Nodup) : (fs.map pk).Nodup := List.pairwise_map.mpr (h.imp fun hne e => hne (pk_inj e))
theorem pk_ne {fs : List Pl} : ∀ k ∈ fs.map pk, k ≠ [] := fun k hk => by
  obtain ⟨p, _, rfl⟩ := List.mem_map.mp hk
  exact List.cons_ne_nil _ _


theorem put_true (zs : List Pl) (hn : zs.Nodup) (p : Pl) : ∃ zs', dput (mapD zs fun _ => V.bool true) (pk p) (.bool true) = mapD zs' (fun _ => .bool true) ∧ zs'.Nodup ∧ ∀ q, q ∈ zs' ↔ q = p ∨ q ∈ zs := by
  by_cases h : p ∈ zs
  · exact ⟨zs, by rw [dput_mapD h, updF_id (fun _ => V.bool true) p], hn, fun q => ⟨.inr, fun e => e.elim (fun e => e ▸ h) id⟩⟩
  · exact ⟨zs ++ [p], by rw [dput_mapD_not h, updF_id (fun _ => V.bool true) p], nodup_add hn h, fun q => by rw [List.mem_append, List.mem_singleton]; exact Or.comm⟩

/-! ### a rule and all in it -/
noncomputable def Rule.places : Rule → List Pl
  | .cell x => boxOf x.p.1 x.p.2 x.p.1 x.p.2
  | .sum x y => boxOf x.p.1 x.p.2 y.p.1 y.p.2
  | .most x y => boxOf x.p.1 x.p.2 y.p.1 y.p.2
  | .look _ x y _ => boxOf x.p.1 x.p.2 y.p.1 y.p.2
  | _ => []
noncomputable def Rule.On (h w : Nat) (r : Rule) : Prop := ∀ x ∈ r.tr Rule.refs, x.p ∈ G h w
/-- the places that a rule needs -/
noncomputable def Rule.nd (r : Rule) : List Pl := r.tr Rule.places
theorem box_len (a b : Int) : (max a b + 1 - min a b).toNat = (max a b - min a b).toNat + 1 := by
  have h : (0 : Int) ≤ max a b - min a b := Int.sub_nonneg_of_le (Int.le_trans (Int.min_le_left a b) (Int.le_max_left a b))
  rw [Int.add_comm, Int.add_sub_assoc, Int.add_comm, Int.toNat_add h (by decide)]; rfl
theorem mem_boxOf {r1 c1 r2 c2 : Int} {p : Pl} : p ∈ boxOf r1 c1 r2 c2 ↔ (min r1 r2 ≤ p.1 ∧ p.1 ≤ max r1 r2) ∧ (min c1 c2 ≤ p.2 ∧ p.2 ≤ max c1 c2) := by
  have side : ∀ a b x : Int, x < min a b + ((max a b + 1 - min a b).toNat : Int) ↔ x ≤ max a b := fun a b x => by
    have h : (0 : Int) ≤ max a b + 1 - min a b := Int.sub_nonneg_of_le (Int.le_trans (Int.le_trans (Int.min_le_left a b) (Int.le_max_left a b)) (Int.le_add_of_nonneg_right (by decide)))
    rw [Int.toNat_of_nonneg h, Int.add_comm, Int.sub_add_cancel]; exact Int.lt_add_one_iff
  unfold boxOf
  rw [mem_areaP, side, side, and_assoc]
theorem box_G' {h w : Nat} {p q r : Pl} (hp : p ∈ G h w) (hq : q ∈ G h w) (hr : r ∈ boxOf p.1 p.2 q.1 q.2) : r ∈ G h w := by
  obtain ⟨a1, a2, a3, a4⟩ := mem_G.mp hp
  obtain ⟨b1, b2, b3, b4⟩ := mem_G.mp hq
  obtain ⟨⟨c1, c2⟩, c3, c4⟩ := mem_boxOf.mp hr
  exact mem_G.mpr ⟨Int.le_trans (Int.le_min.mpr ⟨a1, b1⟩) c1, Int.lt_of_le_of_lt c2 (Int.max_lt.mpr ⟨a2, b2⟩), Int.le_trans (Int.le_min.mpr ⟨a3, b3⟩) c3, Int.lt_of_le_of_lt c4 (Int.max_lt.mpr ⟨a4, b4⟩)⟩
theorem box_dim {h w : Nat} (s : Sz h w) {p q : Pl} (hp : p ∈ G h w) (hq : q ∈ G h w) : max p.1 q.1 + 1 - min p.1 q.1 ≤ 100 ∧ max p.2 q.2 + 1 - min p.2 q.2 ≤ 100 := by
  obtain ⟨a1, a2, a3, a4⟩ := mem_G.mp hp
  obtain ⟨b1, b2, b3, b4⟩ := mem_G.mp hq
  have key : ∀ (x y : Int) (n : Nat), n ≤ 3 → 0 ≤ x → x < n → 0 ≤ y → y < n → max x y + 1 - min x y ≤ 100 := fun x y n hn hx hx' hy hy' =>
    Int.le_trans (Int.sub_le_self _ (Int.le_min.mpr ⟨hx, hy⟩)) (Int.le_trans (Int.add_one_le_of_lt (Int.max_lt.mpr ⟨hx', hy'⟩)) (Int.ofNat_le.mpr (Nat.le_trans hn (by decide))))
  exact ⟨key _ _ h s.h1 a1 a2 b1 b2, key _ _ w s.w1 a3 a4 b3 b4⟩
theorem nd_on {h w : Nat} {r : Rule} (o : r.On h w) {p : Pl} (hp : p ∈ r.nd) : p ∈ G h w := by
  obtain ⟨s, e, hs, hp⟩ := (mem_tr r 1).mp hp
  have on : ∀ x ∈ s.refs, x.p ∈ G h w := fun x hx => o x ((mem_tr r 1).mpr ⟨s, e, hs, hx⟩)
  cases s with
  | cell x => exact box_G' (on x (.head _)) (on x (.head _)) hp
  | sum x y => exact box_G' (on x (.head _)) (on y (.tail _ (.head _))) hp
  | most x y => exact box_G' (on x (.head _)) (on y (.tail _ (.head _))) hp
  | look a x y b => exact box_G' (on x (.head _)) (on y (.tail _ (.head _))) hp
  | num i => cases hp
  | add a b => cases hp
  | pick a b c => cases hp
noncomputable def pairV (x : Rule × Nat) : V := .tup [x.1.v, .int x.2]
noncomputable def sizes (ws : List (Rule × Nat)) : Nat := (ws.map fun x => x.1.size).sum
theorem sizes_app (ws vs : List (Rule × Nat)) : sizes (ws ++ vs) = sizes ws + sizes vs := by unfold sizes; rw [List.map_append, List.sum_append]
theorem sizes_one (x : Rule × Nat) : sizes [x] = sizes (x.1.parts.map fun p => (p, x.2 + 1)) + 1 := by
  unfold sizes; rw [List.map_map]; exact x.1.size_eq
theorem len_sizes : ∀ (ws : List (Rule × Nat)), ws.length ≤ sizes ws
  | [] => Nat.le_refl _
  | w :: ws => by
    show ws.length + 1 ≤ w.1.size + sizes ws
    rw [Nat.add_comm]; exact Nat.add_le_add (size_pos w.1) (len_sizes ws)
theorem snap_pairs {σ : Hp} {ws : List (Rule × Nat)} (h : ∀ x ∈ ws, x.1.deep ≤ 40) : optAll (snap σ 49) (ws.map pairV) = some (ws.map fun x => .tuple [x.1.d, .int x.2]) :=
  snap_all pairV _ ws fun x hx => snap_tup (oc (snap_rule σ x.1 48 (Nat.le_trans (Nat.succ_le_succ (h x hx)) (by decide))) (oc (snap_int ..) rfl))
theorem all_rules_ok (E : EnvS W) {r : Rule} (hd : r.deep ≤ 40) (hs : r.size ≤ 100) (σ : Hp) (Q : VP)
    (h : ∀ (ps : List (Rule × Nat)) (a : Nat) σ', σ a = none → σ.le σ' → σ' a = some (.lst (ps.map pairV)) → ps.length ≤ 100 → (∀ y, y ∈ ps ↔ SubD r 1 y.1 y.2) → Q (.ref a) σ') : callP W 2 "all_rules" [r.v] σ Q noX := by
  have n1 : (glb W 1).has "rules_in" = true := E.has (by decide)
  refine call_ok E.T E.all_rules rfl ?_
  dsimp only [b_all_rules, p_all_rules, bindP]
  refine st_cons ?_
  dsimp only [S.assign, T.var, X.lst, X.num, X.tup, X.var, wpEs]
  refine s_get rfl (s_newG fun wa σ₁ nwa le₁ hwa => ?_)
  refine st_cons ?_
  dsimp only [S.assign, T.var, X.lst, wpEs]
  refine s_newG fun fo σ₂ nfo le₂ hfo => ?_
  have hwf : wa ≠ fo := fun e => by rw [e, nfo] at hwa; cases hwa
  have nfσ : σ fo = none := Hp.le_none le₁ nfo
  refine st_cons ?_
  dsimp only [S.while_, X.cmp, X.lst, X.var, wpEs, wpT]
  refine whileL_inv (fun m ρ σ' => Ex3 fun (ws ps : List (Rule × Nat)) (wb : Nat) => A11 (σ.le σ') (ρ "found" = some (.ref fo)) (wb ≠ fo) (σ wb = none) (ρ "waiting" = some (.ref wb)) (σ' wb = some (.lst (ws.map pairV))) (σ' fo = some (.lst (ps.map pairV))) (∀ x ∈ ws, x.1.deep ≤ 40) (∀ y, (y ∈ ps ∨ ∃ x ∈ ws, SubD x.1 x.2 y.1 y.2) ↔ SubD r 1 y.1 y.2) (ps.length + sizes ws = r.size) (m = sizes ws)) ?_ (m := r.size)
    ⟨[(r, 1)], [], wa, Hp.le_trans le₁ le₂, Env.set_same _ _ _, hwf, nwa, (Env.set_ne _ _ (by decide)).trans (Env.set_same _ _ _), le₂ _ _ hwa, hfo,
      fun x hx => by rw [List.mem_singleton.mp hx]; exact hd, fun y => ⟨fun h => h.elim (fun h => (List.not_mem_nil h).elim) fun ⟨x, hx, h⟩ => by rw [List.mem_singleton.mp hx] at h; exact h, fun h => .inr ⟨_, .head _, h⟩⟩, Nat.zero_add _, rfl⟩
  rintro m ρ σ' K ⟨ws, ps, wb, le, ef, hbf, nwb, ew, hw, hf, okw, hsub, hsz, hm⟩ hK
  refine s_get ew (s_newG fun z σ₃ nz le₃ hz => ?_)
  have hw3 := le₃ _ _ hw
  have hf3 := le₃ _ _ hf
  refine s_neL0 hw3 hz (snap_pairs okw) (s_truth rfl ?_)
  clear hwa hfo
  rcases List.eq_nil_or_concat ws with rfl | ⟨ws, x, rfl⟩
  · refine s_ifF Bool.false_ne_true (st_cons ?_)
    dsimp only [S.ret, X.var]
    have hsz : ps.length = r.size := hsz
    exact s_get ef (h ps fo σ₃ nfσ (Hp.le_trans le le₃) hf3 (hsz ▸ hs) fun y => ⟨fun hy => (hsub y).mp (.inl hy), fun hy => ((hsub y).mpr hy).elim id fun ⟨_, hx, _⟩ => (List.not_mem_nil hx).elim⟩)
  · rw [List.concat_eq_append] at *
    refine s_ifT (by rw [List.map_append]; cases ws <;> rfl) (st_cons ?_)
    dsimp only [S.assign, T.var, X.meth, X.var, wpEs]
    rw [List.map_append, List.map_singleton] at hw3
    refine s_get ew (s_recv (s_recvL hw3 (.inr rfl)) (s_pop hw3 (v := pairV x) (List.getLast?_concat ..) ?_))
    rw [List.dropLast_concat]
    have hw4 := Hp.set_same σ₃ wb (.lst (ws.map pairV))
    have hf4 := (Hp.set_ne σ₃ (.lst (ws.map pairV)) hbf.symm).trans hf3
    have le4 := Hp.le_upd (.lst (ws.map pairV)) (Hp.le_trans le le₃) nwb
    generalize σ₃.set wb (.lst (ws.map pairV)) = σ₄ at *
    have ew := (Env.set_ne ρ (pairV x) (by decide : "waiting" ≠ "pair")).trans ew
    have ef := (Env.set_ne ρ (pairV x) (by decide : "found" ≠ "pair")).trans ef
    have ep := Env.set_same ρ "pair" (pairV x)
    generalize ρ.set "pair" (pairV x) = ρ₁ at *
    have hlen : ps.length + (ws.length + 1) ≤ 100 := by
      have := len_sizes (ws ++ [x])
      rw [List.length_append] at this
      exact Nat.le_trans (Nat.add_le_add_left this _) (hsz ▸ hs)
    have lok : ∀ n, n ≤ 100 + 100 → lenOk n := fun n hn => Nat.le_trans hn (by decide)
    refine st_cons ?_
    dsimp only [S.expr, X.meth, X.var, wpEs]
    refine s_get ef (s_recv (s_recvL hf4 (.inl rfl)) (s_get ep (s_appendG hf4 (lok _ (by rw [List.length_map]; exact Nat.le_trans (Nat.le_add_right _ _) (Nat.le_trans hlen (by decide)))) fun σ₅ but hf5 => ?_)))
    have hw5 := (but wb hbf).trans hw4
    have le5 := Hp.le_but le4 nfσ but
    refine st_cons ?_
    dsimp only [S.assign, Src.of, T.var, X.bin, X.call, X.comp, X.idx, X.num, X.tup, X.var, wpEs, wpIfs]
    refine s_get ew (s_call n1 (s_get ep (s_idxT (v := x.1.v) rfl ?_)))
    refine gcall (m := 1) (by decide) (rules_in_ok E x.1 σ₅ _ fun a σ₆ na le₆ ha₆ => s_srcL ha₆ ?_)
    have hpl : x.1.parts.length ≤ 3 := by cases x.1 <;> first | exact Nat.le_refl _ | exact Nat.le_succ _ | exact Nat.zero_le _
    refine compL_lt Rule.v (fun p => pairV (p, x.2 + 1)) (fun σ' l => l _ _ ha₆) (lok _ (Nat.le_trans hpl (by decide))) (fun p hp σ₇ le₇ K' hK' => ?_) fun σ₇ le₇ => ?_
    · exact s_ifT rfl (s_get (Env.set_same _ _ _) (s_get ((Env.set_ne _ _ (by decide)).trans ep) (s_idxT (v := .int x.2) rfl (s_add (hK' _ (Hp.le_refl _))))))
    refine s_newG fun b σ₈ nb le₈ hb => ?_
    have le68 := Hp.le_trans le₆ (Hp.le_trans le₇ le₈)
    refine s_lcat (le68 _ _ hw5) hb (lok _ (by rw [List.length_map, List.length_map]; exact Nat.add_le_add (Nat.le_trans (Nat.le_trans (Nat.le_succ _) (Nat.le_add_left _ _)) hlen) (Nat.le_trans hpl (by decide)))) fun c nc => st_nil ?_
    have hf8 := le68 _ _ hf5
    have hcf : c ≠ fo := fun e => by rw [e, hf8] at nc; cases nc
    rw [sizes_app, sizes_one] at hsz hm
    refine hK (sizes (ws ++ x.1.parts.map fun p => (p, x.2 + 1))) _ _ (by rw [hm, sizes_app]; exact Nat.lt_succ_self _) ⟨ws ++ x.1.parts.map (fun p => (p, x.2 + 1)), ps ++ [x], c, Hp.le_trans le5 (Hp.le_trans le68 (Hp.le_set _ nc)), (Env.set_ne _ _ (by decide)).trans ef, hcf, Hp.le_none (Hp.le_trans le5 le68) nc, Env.set_same _ _ _, ?_, ?_, ?_, fun y => ?_, ?_, rfl⟩
    · rw [Hp.set_same, List.map_append, List.map_map]; rfl
    · rw [Hp.set_ne _ _ hcf.symm, hf8, List.map_append]; rfl
    · intro y hy
      rcases List.mem_append.mp hy with hy | hy
      · exact okw y (List.mem_append_left _ hy)
      · obtain ⟨p, hp, rfl⟩ := List.mem_map.mp hy
        exact Nat.le_trans (Nat.le_of_succ_le (Rule.part_deep hp)) (okw x (List.mem_append_right _ (.head _)))
    · rw [← hsub y]
      constructor
      · rintro (h | ⟨z, hz, h⟩)
        · rcases List.mem_append.mp h with h | h
          · exact .inl h
          · rw [List.mem_singleton.mp h]; exact .inr ⟨x, List.mem_append_right _ (.head _), .refl _ _⟩
        · rcases List.mem_append.mp hz with hz | hz
          · exact .inr ⟨z, List.mem_append_left _ hz, h⟩
          · obtain ⟨p, hp, rfl⟩ := List.mem_map.mp hz
            exact .inr ⟨x, List.mem_append_right _ (.head _), .part hp h⟩
      · rintro (h | ⟨z, hz, h⟩)
        · exact .inl (List.mem_append_left _ h)
        · rcases List.mem_append.mp hz with hz | hz
          · exact .inr ⟨z, List.mem_append_left _ hz, h⟩
          · rw [List.mem_singleton.mp hz] at h
            rcases SubD.iff.mp h with ⟨e1, e2⟩ | ⟨p, hp, h⟩
            · exact .inl (List.mem_append_right _ (List.mem_singleton.mpr (Prod.ext e1 e2)))
            · exact .inr ⟨(p, x.2 + 1), List.mem_append_right _ (List.mem_map.mpr ⟨p, hp, rfl⟩), h⟩
    · rw [List.length_append, List.length_singleton, sizes_app, ← hsz, Nat.add_assoc, Nat.add_comm 1, Nat.add_assoc]
theorem ints_of_map {α : Type} (f : α → Int) : ∀ l : List α, V.ints (l.map fun x => V.int (f x)) = some (l.map f)
  | [] => rfl
  | a :: l => by show (V.ints (l.map fun x => V.int (f x))).map (f a :: ·) = _; rw [ints_of_map f l]; rfl
theorem deep_ok (E : EnvS W) {r : Rule} (hd : r.deep ≤ 40) (hs : r.size ≤ 100) (σ : Hp) (Q : VP) (h : ∀ σ', σ.le σ' → Q (.int r.deep) σ') : callP W 3 "deep" [r.v] σ Q noX := by
  have n1 : (glb W 2).has "all_rules" = true := E.has (by decide)
  refine call_ok E.T E.deep rfl ?_
  dsimp only [b_deep, p_deep, bindP]
  refine st_cons ?_
  dsimp only [S.ret, Src.of, X.bi, X.call, X.comp, X.idx, X.num, X.var, wpEs, wpIfs]
  refine s_call n1 (s_get rfl ?_)
  refine gcall (m := 2) (by decide) (all_rules_ok E hd hs σ _ fun ps a σ₁ na le₁ h₁ hl hsub => s_srcL h₁ ?_)
  refine compL_lt pairV (fun x => .int x.2) (fun σ' le => le _ _ h₁) (Nat.le_trans hl (by decide)) (fun x hx σ₂ le₂ K' hK' => s_ifT rfl (s_get (Env.set_same _ _ _) (s_idxT rfl (hK' _ (Hp.le_refl _))))) fun σ₂ le₂ => ?_
  refine s_newG fun b σ₃ nb le₃ hb => ?_
  obtain ⟨s, e, hse, he⟩ := most_deep r 1
  have hin := (hsub (s, e)).mpr hse
  refine s_maxL hb (ints_of_map (fun x : Rule × Nat => (x.2 : Int)) ps) (fun e => by rw [List.map_eq_nil_iff.mp e] at hin; cases hin) fun m hm1 hm2 => ?_
  have hm : m = r.deep := by
    obtain ⟨x, hx, rfl⟩ := List.mem_map.mp hm1
    have h1 := ((hsub x).mp hx).deep
    have h2 : (e : Int) ≤ x.2 := hm2 e (List.mem_map.mpr ⟨(s, e), hin, rfl⟩)
    have h3 := x.1.deep_pos
    have he : e = r.deep := by rw [Nat.add_comm] at he; exact Nat.add_left_cancel he
    refine congrArg Int.ofNat (Nat.le_antisymm ?_ (he ▸ Int.ofNat_le.mp h2))
    exact Nat.le_of_succ_le_succ (Nat.le_trans (Nat.add_le_add_left h3 _) (by rw [Nat.add_comm 1] at h1; exact h1))
  rw [hm]
  exact h σ₃ (Hp.le_trans le₁ (Hp.le_trans le₂ le₃))
theorem refs_len (r : Rule) : r.refs.length ≤ 2 := by cases r <;> first | exact Nat.le_refl _ | exact Nat.le_succ _ | exact Nat.zero_le _
theorem references_ok (E : EnvS W) {r : Rule} (hd : r.deep ≤ 40) (hs : r.size ≤ 100) (σ : Hp) (Q : VP)
    (hQ : ∀ (xs : List Ref) (a : Nat) σ', σ.le σ' → σ' a = some (.lst (xs.map Ref.v)) → (∀ x, x ∈ xs ↔ x ∈ r.tr Rule.refs) → Q (.ref a) σ') : callP W 3 "references" [r.v] σ Q noX := by
  have n1 : (glb W 2).has "all_rules" = true := E.has (by decide)
  have n2 : (glb W 2).has "references_in" = true := E.has (by decide)
  refine call_ok E.T E.references rfl ?_
  dsimp only [b_references, p_references, bindP]
  refine st_cons ?_
  dsimp only [S.assign, T.var, X.lst, wpEs]
  refine s_newG fun b σ₁ nb le₁ hb => st_cons ?_
  dsimp only [S.for_, Src.of, X.call, X.var, wpEs]
  refine s_call n1 (s_get rfl ?_)
  refine gcall (m := 2) (by decide) (all_rules_ok E hd hs σ₁ _ fun ps a σ₂ na le₂ h₂ hl hsub => s_srcL h₂ ?_)
  refine forL_data pairV (fun pre ρ σ' => ∃ (b : Nat), A4 (ρ "found" = some (.ref b)) (σ₂.le σ') (σ' b = some (.lst ((pre.flatMap fun x => x.1.refs).map Ref.v))) ((pre.flatMap fun x => x.1.refs).length ≤ pre.length * 2)) ?_ ?_ ?_ ?_
  · exact ⟨b, rfl, Hp.le_refl _, le₂ _ _ hb, Nat.zero_le _⟩
  · rintro pre ρ σ' ⟨_, _, le, _⟩; exact le _ _ h₂
  · rintro pre x post ρ σ' N' hsp ⟨b, ef, le, hb, hlen⟩ hN
    have hpl := len_lt hsp
    refine st_cons ?_
    dsimp only [S.assign, T.var, X.bin, X.call, X.idx, X.num, X.var, wpEs]
    refine s_get ((Env.set_ne _ _ (by decide)).trans ef) (s_call n2 (s_get (Env.set_same _ _ _) (s_idxT (v := x.1.v) rfl ?_)))
    refine gcall (m := 1) (by decide) (references_in_ok E x.1 σ' _ fun d σ₃ nd le₃ h₃ => ?_)
    have hfm : (pre ++ [x]).flatMap (fun x => x.1.refs) = pre.flatMap (fun x => x.1.refs) ++ x.1.refs := by rw [List.flatMap_append, List.flatMap_cons, List.flatMap_nil, List.append_nil]
    refine s_lcat (le₃ _ _ hb) h₃ ?_ fun e he => ?_
    · unfold lenOk; rw [List.length_map, List.length_map]
      exact Nat.le_trans (Nat.add_le_add (Nat.le_trans hlen (Nat.mul_le_mul_right 2 (Nat.le_trans (Nat.le_of_lt hpl) hl))) (refs_len _)) (by decide)
    refine st_nil (hN _ _ ⟨e, Env.set_same _ _ _, Hp.le_trans (Hp.le_trans le le₃) (Hp.le_set _ he), ?_, ?_⟩)
    · rw [Hp.set_same, hfm, List.map_append]
    · rw [hfm, List.length_append, List.length_append, Nat.add_mul]; exact Nat.add_le_add hlen (refs_len _)
  · rintro ρ σ' ⟨b, ef, le, hb, _⟩
    refine st_cons ?_
    dsimp only [S.ret, X.var]
    refine s_get ef (hQ _ b σ' (Hp.le_trans le₁ (Hp.le_trans le₂ le)) hb fun x => ?_)
    rw [List.mem_flatMap, mem_tr r 1]
    exact ⟨fun ⟨y, hy, hx⟩ => ⟨y.1, y.2, (hsub y).mp hy, hx⟩, fun ⟨s, e, hs, hx⟩ => ⟨(s, e), (hsub (s, e)).mpr hs, hx⟩⟩

/-! ### what a rule needs -/
theorem ref_cases (r : Rule) : (r.refs = [] ∧ r.places = []) ∨ ∃ x y, pyGet (r.refs.map Ref.v) 0 = some x.v ∧ pyGet (r.refs.map Ref.v) (-1) = some y.v ∧ x ∈ r.refs ∧ y ∈ r.refs ∧ r.places = boxOf x.p.1 x.p.2 y.p.1 y.p.2 ∧ r.refs.isEmpty = false := by
  cases r with
  | cell x => exact .inr ⟨x, x, rfl, rfl, .head _, .head _, rfl, rfl⟩
  | sum x y => exact .inr ⟨x, y, rfl, rfl, .head _, .tail _ (.head _), rfl, rfl⟩
  | most x y => exact .inr ⟨x, y, rfl, rfl, .head _, .tail _ (.head _), rfl, rfl⟩
  | look a x y b => exact .inr ⟨x, y, rfl, rfl, .head _, .tail _ (.head _), rfl, rfl⟩
  | num i => exact .inl ⟨rfl, rfl⟩
  | add a b => exact .inl ⟨rfl, rfl⟩
  | pick a b c => exact .inl ⟨rfl, rfl⟩
theorem snap_refs (σ : Hp) (xs : List Ref) : optAll (snap σ 49) (xs.map Ref.v) = some (xs.map Ref.d) := snap_all Ref.v Ref.d xs fun x _ => snap_ref σ x 48
theorem needed_ok (E : EnvS W) {h w : Nat} (z : Sz h w) {r : Rule} (hd : r.deep ≤ 40) (hs : r.size ≤ 100) (on : r.On h w) (σ : Hp) (Q : VP)
    (hQ : ∀ (ys : List Pl) (a : Nat) σ', σ a = none → σ.le σ' → σ' a = some (.lst (ys.map pv)) → ys.Nodup → (∀ p, p ∈ ys ↔ p ∈ r.nd) → Q (.ref a) σ') : callP W 3 "needed" [r.v] σ Q noX := by
  have n1 : (glb W 2).has "all_rules" = true := E.has (by decide)
  have n2 : (glb W 2).has "references_in" = true := E.has (by decide)
  have n3 : (glb W 2).has "area" = true := E.has (by decide)
  refine call_ok E.T E.needed rfl ?_
  dsimp only [b_needed, p_needed, bindP]
  refine st_cons ?_
  dsimp only [S.assign, T.var, X.emptyDict]
  refine s_newG fun d σ₁ nd le₁ h₁ => st_cons ?_
  dsimp only [S.for_, Src.of, X.call, X.var, wpEs]
  refine s_call n1 (s_get rfl ?_)
  refine gcall (m := 2) (by decide) (all_rules_ok E hd hs σ₁ _ fun ps a σ₂ na le₂ h₂ hl hsub => s_srcL h₂ ?_)
  have had : a ≠ d := (Hp.ne_of h₁ na).symm
  have inG : ∀ y ∈ ps, ∀ p ∈ y.1.places, p ∈ G h w := fun y hy p hp => nd_on on ((mem_tr r 1).mpr ⟨y.1, y.2, (hsub y).mp hy, hp⟩)
  have lenG : ∀ zs : List Pl, zs.Nodup → (∀ p ∈ zs, p ∈ G h w) → zs.length ≤ 9 := fun zs hn hz => Nat.le_trans (nodup_len hn hz) z.len
  refine forL_data pairV (fun pre ρ σ' => Ex2 fun (ep : Nat) (zs : List Pl) => A6 (σ' d = some (.dct (mapD zs fun _ => .bool true) ep)) (zs.Nodup) (∀ p, p ∈ zs ↔ ∃ y ∈ pre, p ∈ y.1.places) (σ.le σ') (σ' a = some (.lst (ps.map pairV))) (ρ "found" = some (.ref d))) ?_ ?_ ?_ ?_
  · exact ⟨0, [], le₂ _ _ h₁, List.nodup_nil, fun p => ⟨fun h => (List.not_mem_nil h).elim, fun ⟨_, h, _⟩ => (List.not_mem_nil h).elim⟩, Hp.le_trans le₁ le₂, h₂, rfl⟩
  · rintro pre ρ σ' ⟨_, _, _, _, _, _, hc, _⟩; exact hc
  · rintro pre x post ρ σ' N' hsp ⟨ep, zs, hdd, hnd, hzs, le, haa, ef⟩ hN
    have hx := mem_mid hsp
    refine st_cons ?_
    dsimp only [S.assign, T.var, X.call, X.idx, X.num, X.var, wpEs]
    refine s_call n2 (s_get (Env.set_same _ _ _) (s_idxT (v := x.1.v) rfl ?_))
    refine gcall (m := 1) (by decide) (references_in_ok E x.1 σ' _ fun b σ₃ nb le₃ hb => ?_)
    have f1 := (Env.set_ne (ρ.set "pair" (pairV x)) (.ref b) (by decide : "found" ≠ "some")).trans ((Env.set_ne _ _ (by decide)).trans ef)
    have f2 := Env.set_same (ρ.set "pair" (pairV x)) "some" (.ref b)
    generalize (ρ.set "pair" (pairV x)).set "some" (.ref b) = ρ₁ at *
    refine st_cons ?_
    dsimp only [S.ite, X.cmp, X.lst, X.var, wpEs, wpT]
    refine s_get f2 (s_newG fun c σ₄ nc le₄ hc => ?_)
    have hb4 := le₄ _ _ hb
    refine s_neL0 hb4 hc (snap_refs _ _) (s_truth rfl ?_)
    have le34 := Hp.le_trans le₃ le₄
    have e0 : (x.1.refs.map Ref.v).isEmpty = x.1.refs.isEmpty := by cases x.1.refs <;> rfl
    rw [e0]
    have mid : ∀ (P : Pl → Prop) (zs' : List Pl), (∀ p, p ∈ zs' ↔ P p ∨ p ∈ zs) → (∀ p, P p ↔ p ∈ x.1.places) → ∀ p, p ∈ zs' ↔ ∃ y ∈ pre ++ [x], p ∈ y.1.places := fun P zs' h1 h2 p => by
      rw [h1 p, h2 p, hzs p]
      constructor
      · rintro (h | ⟨y, hy, h⟩)
        · exact ⟨x, List.mem_append_right _ (.head _), h⟩
        · exact ⟨y, List.mem_append_left _ hy, h⟩
      · rintro ⟨y, hy, h⟩
        rcases List.mem_append.mp hy with hy | hy
        · exact .inr ⟨y, hy, h⟩
        · rw [List.mem_singleton.mp hy] at h; exact .inl h
    rcases ref_cases x.1 with ⟨e, ep0⟩ | ⟨u, v, g1, g2, hu, hv, epl, e⟩
    · rw [e]
      refine s_ifF Bool.false_ne_true (st_nil (st_nil (hN _ _ ⟨ep, zs, le34 _ _ hdd, hnd, mid (fun _ => False) zs (fun p => (or_iff_right id).symm) (fun p => by rw [ep0]; exact ⟨False.elim, fun h => by cases h⟩), Hp.le_trans le le34, le34 _ _ haa, f1⟩)))
    · rw [e]
      have hox : ∀ y ∈ x.1.refs, y.p ∈ G h w := fun y hy => on y ((mem_tr r 1).mpr ⟨x.1, x.2, (hsub x).mp hx, hy⟩)
      have dim := box_dim z (hox u hu) (hox v hv)
      refine s_ifT rfl (st_cons ?_)
      dsimp only [S.for_, Src.of, X.call, X.idx, X.neg, X.num, X.var, wpEs]
      refine s_call n3 (s_get f2 (s_idxL hb4 g1 (s_get f2 (s_neg (s_idxL hb4 g2 ?_)))))
      refine gcall (m := 1) (by decide) (area_ok E u.p.1 u.p.2 v.p.1 v.p.2 _ _ σ₄ _ dim.1 dim.2 fun ar σ₅ nu le₅ hu5 => s_srcL hu5 ?_)
      rw [← epl] at hu5 ⊢
      have hud : ar ≠ d := fun e => by rw [e, le34 _ _ hdd] at nu; cases nu
      refine forL_data pv (fun pre2 ρ σ' => Ex2 fun (ep : Nat) (zs' : List Pl) => A7 (σ' d = some (.dct (mapD zs' fun _ => .bool true) ep)) (zs'.Nodup) (∀ p, p ∈ zs' ↔ p ∈ pre2 ∨ p ∈ zs) (σ.le σ') (σ' a = some (.lst (ps.map pairV))) (σ' ar = some (.lst (x.1.places.map pv))) (ρ "found" = some (.ref d))) ?_ ?_ ?_ ?_
      · exact ⟨ep, zs, le₅ _ _ (le34 _ _ hdd), hnd, fun p => (or_iff_right List.not_mem_nil).symm, Hp.le_trans le (Hp.le_trans le34 le₅), le₅ _ _ (le34 _ _ haa), hu5, f1⟩
      · rintro pre2 ρ σ' ⟨_, _, _, _, _, _, _, h, _⟩; exact h
      · rintro pre2 p post2 ρ σ' N'' hsp2 ⟨ep, zs', hdd, hnd', hz', le, haa, har, ef⟩ hN2
        obtain ⟨zs2, e2, nd2, mem2⟩ := put_true zs' hnd' p
        have hz9 := lenG zs' hnd' fun q hq => ((hz' q).mp hq).elim (fun h => inG x hx q (by rw [hsp2]; exact List.mem_append_left _ h)) fun h => by
          obtain ⟨y, hy, h⟩ := (hzs q).mp h
          exact inG y (by rw [hsp]; exact List.mem_append_left _ hy) q h
        refine st_cons ?_
        dsimp only [S.assign, T.idx, X.bool, X.var]
        refine s_get ((Env.set_ne _ _ (by decide)).trans ef) (s_get (Env.set_same _ _ _) (s_storeD hdd (k := pk p) rfl (by unfold lenOk; rw [mapD_length]; exact Nat.le_trans hz9 (by decide)) fun ep' => st_nil (hN2 _ _ ⟨ep', zs2, by rw [Hp.set_same, e2], nd2, fun q => ?_, Hp.le_upd _ le nd, (Hp.set_ne _ _ had).trans haa, (Hp.set_ne _ _ hud).trans har, (Env.set_ne _ _ (by decide)).trans ef⟩)))
        rw [mem2 q, hz' q, List.mem_append, List.mem_singleton]
        exact ⟨fun h => h.elim (fun h => .inl (.inr h)) fun h => h.elim (fun h => .inl (.inl h)) .inr, fun h => h.elim (fun h => h.elim (fun h => .inr (.inl h)) .inl) fun h => .inr (.inr h)⟩
      · rintro ρ σ' ⟨ep, zs', hdd, hnd', hz', le, haa, _, ef⟩
        exact st_nil (st_nil (hN _ _ ⟨ep, zs', hdd, hnd', mid (· ∈ x.1.places) zs' hz' fun p => Iff.rfl, le, haa, ef⟩))
  · rintro ρ σ' ⟨ep, zs, hdd, hnd, hzs, le, haa, ef⟩
    have hz9 := lenG zs hnd fun q hq => by obtain ⟨y, hy, h⟩ := (hzs q).mp hq; exact inG y hy q h
    refine st_cons ?_
    dsimp only [S.ret, X.bi, X.var, wpEs]
    refine s_get ef (s_sortD hdd (by rw [mapD_keys]; exact nodup_pk hnd) (by rw [mapD_length]; exact Nat.lt_of_le_of_lt hz9 (by decide)) (by rw [mapD_keys]; exact pk_ne) fun ys hp hs => ?_)
    rw [mapD_keys] at hp
    obtain ⟨ys, rfl, hy1, hy2⟩ := sortP hp hs
    refine s_newG fun b σ₃ nb le₃ hb => hQ ys b σ₃ (Hp.le_none le nb) (Hp.le_trans le le₃) (by rw [hb, List.map_map]; rfl) ?_ fun p => ?_
    · have : (ys.map pk).Nodup := hp.nodup_iff.mpr (nodup_pk hnd)
      exact (List.pairwise_map.mp this).imp fun h e => h (congrArg pk e)
    · rw [hy2 p, hzs p]
      unfold Rule.nd
      rw [mem_tr r 1]
      exact ⟨fun ⟨y, hy, hx⟩ => ⟨y.1, y.2, (hsub y).mp hy, hx⟩, fun ⟨s, e, hs, hx⟩ => ⟨(s, e), (hsub (s, e)).mpr hs, hx⟩⟩
end


/-! ### what a rule tells -/
noncomputable def B9 : Int := 1000000000
open Classical in
noncomputable def mostL (l : List Int) : Int := if h : ∃ m, m ∈ l ∧ ∀ b ∈ l, b ≤ m then h.choose else 0
theorem mostL_is {l : List Int} {m : Int} (hm : m ∈ l) (hl : ∀ b ∈ l, b ≤ m) : mostL l = m := by
  have h : ∃ m, m ∈ l ∧ ∀ b ∈ l, b ≤ m := ⟨m, hm, hl⟩
  unfold mostL
  rw [dif_pos h]
  exact Int.le_antisymm (hl _ h.choose_spec.1) (h.choose_spec.2 _ hm)
noncomputable def lookN (g1 g2 : Nat → Int) (key oth : Int) : Nat → Nat → Int
  | 0, _ => oth
  | n + 1, i => if g1 i = key then g2 i else lookN g1 g2 key oth n (i + 1)
theorem look_step {g1 g2 : Nat → Int} {key oth : Int} {n i : Nat} (h : i < n) : lookN g1 g2 key oth (n - i) i = if g1 i = key then g2 i else lookN g1 g2 key oth (n - (i + 1)) (i + 1) := by
  obtain ⟨m, e⟩ : ∃ m, n - i = m + 1 := ⟨n - (i + 1), by rw [Nat.sub_succ]; exact (Nat.succ_pred_eq_of_pos (Nat.sub_pos_of_lt h)).symm⟩
  rw [e, Nat.sub_succ, e]; rfl
theorem look_congr {g1 g2 g1' g2' : Nat → Int} {key oth : Int} : ∀ (n i : Nat), (∀ j, j < n → g1 (i + j) = g1' (i + j) ∧ g2 (i + j) = g2' (i + j)) → lookN g1 g2 key oth n i = lookN g1' g2' key oth n i
  | 0, _, _ => rfl
  | n + 1, i, h => by
    have h0 := h 0 (Nat.succ_pos _)
    rw [Nat.add_zero] at h0
    unfold lookN
    rw [h0.1, h0.2, look_congr n (i + 1) fun j hj => by have := h (j + 1) (Nat.succ_lt_succ hj); rw [Nat.add_assoc, Nat.add_comm 1]; exact this]
noncomputable def rows (x y : Ref) : Nat := (max x.p.1 y.p.1 + 1 - min x.p.1 y.p.1).toNat
noncomputable def Rule.ev (v : Pl → Int) : Rule → Int
  | .num i => i % B9
  | .cell x => v x.p
  | .sum x y => ((boxOf x.p.1 x.p.2 y.p.1 y.p.2).map v).sum % B9
  | .most x y => mostL ((boxOf x.p.1 x.p.2 y.p.1 y.p.2).map v)
  | .add a b => (a.ev v + b.ev v) % B9
  | .pick a b c => if a.ev v = 0 then c.ev v else b.ev v
  | .look a x y b => lookN (fun i => v (min x.p.1 y.p.1 + i, min x.p.2 y.p.2)) (fun i => v (min x.p.1 y.p.1 + i, max x.p.2 y.p.2)) (a.ev v) (b.ev v) (rows x y) 0
theorem min_le_max (a b : Int) : min a b ≤ max a b := Int.le_trans (Int.min_le_left _ _) (Int.le_max_left _ _)
theorem row_in {a b : Int} {i : Nat} (h : i < (max a b + 1 - min a b).toNat) : min a b ≤ min a b + i ∧ min a b + i ≤ max a b := by
  refine ⟨Int.le_add_of_nonneg_right (Int.natCast_nonneg i), ?_⟩
  have h0 : (0 : Int) ≤ max a b + 1 - min a b := Int.sub_nonneg_of_le (Int.le_trans (min_le_max a b) (Int.le_add_of_nonneg_right (by decide)))
  have h1 : (i : Int) < max a b + 1 - min a b := by rw [← Int.toNat_of_nonneg h0]; exact Int.ofNat_lt.mpr h
  rw [Int.add_comm]; exact Int.le_of_lt_add_one (Int.add_lt_of_lt_sub_right h1)
theorem box_row {r1 c1 r2 c2 : Int} {i : Nat} (h : i < (max r1 r2 + 1 - min r1 r2).toNat) : (min r1 r2 + (i : Int), min c1 c2) ∈ boxOf r1 c1 r2 c2 ∧ (min r1 r2 + (i : Int), max c1 c2) ∈ boxOf r1 c1 r2 c2 :=
  ⟨mem_boxOf.mpr ⟨row_in h, Int.le_refl _, min_le_max _ _⟩, mem_boxOf.mpr ⟨row_in h, min_le_max _ _, Int.le_refl _⟩⟩
theorem box_cell (p : Pl) : p ∈ boxOf p.1 p.2 p.1 p.2 := mem_boxOf.mpr ⟨⟨Int.min_le_left _ _, Int.le_max_left _ _⟩, Int.min_le_left _ _, Int.le_max_left _ _⟩
theorem nd_here {r : Rule} {p : Pl} (h : p ∈ r.places) : p ∈ r.nd := by unfold Rule.nd; rw [Rule.tr_eq]; exact List.mem_append_left _ h
theorem nd_part {r s : Rule} (h : s ∈ r.parts) {p : Pl} (hp : p ∈ s.nd) : p ∈ r.nd := by unfold Rule.nd; rw [Rule.tr_eq]; exact List.mem_append_right _ (List.mem_flatMap.mpr ⟨s, h, hp⟩)
theorem on_part {h w : Nat} {r s : Rule} (hs : s ∈ r.parts) (o : r.On h w) : s.On h w := fun x hx => o x (by rw [Rule.tr_eq]; exact List.mem_append_right _ (List.mem_flatMap.mpr ⟨s, hs, hx⟩))
theorem on_here {h w : Nat} {r : Rule} (o : r.On h w) {x : Ref} (hx : x ∈ r.refs) : x.p ∈ G h w := o x (by rw [Rule.tr_eq]; exact List.mem_append_left _ hx)
theorem ev_congr {v v' : Pl → Int} : ∀ r : Rule, (∀ p ∈ r.nd, v p = v' p) → r.ev v = r.ev v' := by
  refine Rule.ind fun r ih h => ?_
  have pt : ∀ s ∈ r.parts, s.ev v = s.ev v' := fun s hs => ih s hs fun p hp => h p (nd_part hs hp)
  have hr : ∀ p ∈ r.places, v p = v' p := fun p hp => h p (nd_here hp)
  cases r with
  | num i => rfl
  | cell x => exact hr _ (box_cell _)
  | sum x y => exact congrArg (fun l : List Int => l.sum % B9) (List.map_congr_left (l := boxOf ..) hr)
  | most x y => exact congrArg mostL (List.map_congr_left (l := boxOf ..) hr)
  | add a b => show (a.ev v + b.ev v) % B9 = _; rw [pt a (.head _), pt b (.tail _ (.head _))]; rfl
  | pick a b c => show (if a.ev v = 0 then c.ev v else b.ev v) = _; rw [pt a (.head _), pt b (.tail _ (.head _)), pt c (.tail _ (.tail _ (.head _)))]; rfl
  | look a x y b =>
    show lookN _ _ (a.ev v) (b.ev v) _ _ = _
    rw [pt a (.head _), pt b (.tail _ (.head _))]
    refine look_congr _ _ fun j hj => ?_
    rw [Nat.zero_add]
    exact ⟨hr _ (box_row hj).1, hr _ (box_row hj).2⟩

theorem get_nat {α : Type} {l : List α} {n : Nat} (h : n < l.length) : pyGet l (n : Int) = some l[n] := by
  unfold pyGet; rw [if_pos (Int.natCast_nonneg _), Int.toNat_natCast, List.getElem?_eq_getElem h]
theorem get_last {α : Type} (pre : List α) (x : α) : pyGet (pre ++ [x]) (-1) = some x := by
  unfold pyGet
  rw [if_neg (by decide), List.length_append, List.length_singleton, show (-1 : Int) + ((pre.length + 1 : Nat) : Int) = (pre.length : Int) by rw [Int.add_comm]; exact Int.add_neg_cancel_right (pre.length : Int) 1, if_pos (Int.natCast_nonneg _), Int.toNat_natCast, List.getElem?_concat_length]
theorem box_head (r1 c1 r2 c2 : Int) : pyGet ((boxOf r1 c1 r2 c2).map pv) 0 = some (pv (min r1 r2, min c1 c2)) := by
  have hd : ∀ (n : Nat) (l : List Pl), (areaP (min r1 r2) (min c1 c2) (n + 1) 1 ++ l)[0]? = some (min r1 r2, min c1 c2) := fun n l => by
    simp [areaP, List.range_succ_eq_map]
  have ap : ∀ (w n : Nat), ∃ l, areaP (min r1 r2) (min c1 c2) w (n + 1) = areaP (min r1 r2) (min c1 c2) w 1 ++ l := fun w n => by
    induction n with
    | zero => exact ⟨[], (List.append_nil _).symm⟩
    | succ n ih => obtain ⟨l, e⟩ := ih; exact ⟨_, by rw [areaP_succ, e, List.append_assoc]⟩
  unfold boxOf
  rw [box_len, box_len]
  obtain ⟨l, e⟩ := ap ((max c1 c2 - min c1 c2).toNat + 1) (max r1 r2 - min r1 r2).toNat
  rw [e]
  have := hd (max c1 c2 - min c1 c2).toNat l
  unfold pyGet
  rw [if_pos (Int.le_refl _), List.getElem?_map]
  show Option.map pv _ = _
  rw [show (Int.toNat 0) = 0 from rfl, this]; rfl
theorem box_last (r1 c1 r2 c2 : Int) : pyGet ((boxOf r1 c1 r2 c2).map pv) (-1) = some (pv (max r1 r2, max c1 c2)) := by
  have e1 : ∀ a b : Int, min a b + ((max a b - min a b).toNat : Int) = max a b := fun a b => by
    rw [Int.toNat_of_nonneg (Int.sub_nonneg_of_le (min_le_max a b)), Int.add_comm, Int.sub_add_cancel]
  unfold boxOf
  rw [box_len, box_len, areaP_succ, List.range_succ, List.map_append, List.map_append, List.map_append, ← List.append_assoc]
  show pyGet (_ ++ [pv (_, _)]) (-1) = _
  rw [get_last, e1, e1]

section
variable {W : Wd} {k : Nat}
theorem looked_ok (E : EnvS W) {h w : Nat} (z : Sz h w) {v : Pl → Int} {key oth : Int} {x y : Ref} (hx : x.p ∈ G h w) (hy : y.p ∈ G h w) {a d ep : Nat} {es : List (List Int × V)} (σ : Hp) (ha : σ a = some (.lst ((boxOf x.p.1 x.p.2 y.p.1 y.p.2).map pv))) (hd : σ d = some (.dct es ep))
    (hv : ∀ p ∈ boxOf x.p.1 x.p.2 y.p.1 y.p.2, dget es (pk p) = some (.int (v p))) (Q : VP) (hQ : Q (.int (lookN (fun i => v (min x.p.1 y.p.1 + i, min x.p.2 y.p.2)) (fun i => v (min x.p.1 y.p.1 + i, max x.p.2 y.p.2)) key oth (rows x y) 0)) σ) :
    callP W 1 "looked" [.int key, .ref a, .ref d, .int oth] σ Q noX := by
  have g0 := box_head x.p.1 x.p.2 y.p.1 y.p.2
  have g1 := box_last x.p.1 x.p.2 y.p.1 y.p.2
  refine call_ok E.T E.looked rfl ?_
  dsimp only [b_looked, p_looked, bindP]
  refine st_cons ?_
  dsimp only [S.assign, T.var, X.idx, X.num, X.var]
  refine s_get rfl (s_idxL ha g0 (s_idxT rfl (st_cons ?_)))
  dsimp only [S.assign, T.var, X.idx, X.neg, X.num, X.var]
  refine s_get rfl (s_neg (s_idxL ha g1 (s_idxT rfl (st_cons ?_))))
  dsimp only [S.for_, Src.range2, X.bin, X.idx, X.neg, X.num, X.var]
  refine s_get rfl (s_idxL ha g0 (s_idxT rfl (s_get rfl (s_neg (s_idxL ha g1 (s_idxT rfl (s_add (s_range (Nat.le_trans (Int.toNat_le.mpr (box_dim z hx hy).1) (by decide)) ?_))))))))
  refine forL_range (fun i ρ σ' => A7 (σ' = σ) (ρ "known" = some (.ref d)) (ρ "first" = some (.int (min x.p.2 y.p.2))) (ρ "last" = some (.int (max x.p.2 y.p.2))) (ρ "value" = some (.int key)) (ρ "other" = some (.int oth)) (Q (.int (lookN (fun i => v (min x.p.1 y.p.1 + i, min x.p.2 y.p.2)) (fun i => v (min x.p.1 y.p.1 + i, max x.p.2 y.p.2)) key oth (rows x y - i) i)) σ)) ⟨rfl, rfl, rfl, rfl, rfl, rfl, hQ⟩ (fun _ => trivial) ?_ ?_
  · rintro i ρ σ' N' hi ⟨rfl, e1, e2, e3, e4, e5, hq⟩ hN
    have hi' : i < rows x y := Int.lt_toNat.mpr (Int.lt_sub_left_of_add_lt hi)
    rw [look_step hi'] at hq
    have e1 := (Env.set_ne ρ (.int (min x.p.1 y.p.1 + i)) (by decide : "known" ≠ "row")).trans e1
    have e2 := (Env.set_ne ρ (.int (min x.p.1 y.p.1 + i)) (by decide : "first" ≠ "row")).trans e2
    have e3 := (Env.set_ne ρ (.int (min x.p.1 y.p.1 + i)) (by decide : "last" ≠ "row")).trans e3
    have e4 := (Env.set_ne ρ (.int (min x.p.1 y.p.1 + i)) (by decide : "value" ≠ "row")).trans e4
    have e5 := (Env.set_ne ρ (.int (min x.p.1 y.p.1 + i)) (by decide : "other" ≠ "row")).trans e5
    have e6 := Env.set_same ρ "row" (.int (min x.p.1 y.p.1 + i))
    generalize ρ.set "row" (.int (min x.p.1 y.p.1 + i)) = ρ₁ at *
    refine st_cons ?_
    dsimp only [S.ite, X.cmp, X.idx, X.tup, X.var, wpEs, wpT]
    refine s_get e1 (s_get e6 (s_get e2 (s_idxD hd (k := pk (min x.p.1 y.p.1 + i, min x.p.2 y.p.2)) rfl (hv _ (box_row hi').1) (s_get e4 (s_eqI (s_truth rfl (s_if (fun h0 => st_cons ?_) fun h0 => st_nil (st_nil ?_))))))))
    · dsimp only [S.ret, X.idx, X.tup, X.var, wpEs]
      rw [if_pos (of_decide_eq_true h0)] at hq
      exact s_get e1 (s_get e6 (s_get e3 (s_idxD hd (k := pk (min x.p.1 y.p.1 + i, max x.p.2 y.p.2)) rfl (hv _ (box_row hi').2) hq)))
    · rw [if_neg (fun e => h0 (decide_eq_true e))] at hq
      exact hN _ _ ⟨rfl, e1, e2, e3, e4, e5, hq⟩
  · rintro ρ σ' ⟨rfl, e1, e2, e3, e4, e5, hq⟩
    have hz : rows x y - (max x.p.1 y.p.1 + 1 - min x.p.1 y.p.1).toNat = 0 := Nat.sub_self _
    rw [hz] at hq
    refine st_cons ?_
    dsimp only [S.ret, X.var]
    exact s_get e5 hq
theorem told_ok (E : EnvS W) {h w : Nat} (z : Sz h w) {v : Pl → Int} {es : List (List Int × V)} {ep kn : Nat} :
    ∀ (r : Rule), r.On h w → (∀ p ∈ r.nd, dget es (pk p) = some (.int (v p))) → ∀ (σ : Hp) (Q : VP), σ kn = some (.dct es ep) → (∀ σ', σ.le σ' → Q (.int (r.ev v)) σ') → callP W (r.deep + 1) "told" [r.v, .ref kn] σ Q noX := by
  have gb : ∀ k, (glb W k).glob "BOUND" = some (.int 1000000000) := fun _ => E.bound
  have n1 : ∀ k, (glb W k).has "told" = true := fun k => E.has (by decide)
  have n2 : ∀ k, (glb W k).has "area" = true := fun k => E.has (by decide)
  have n3 : ∀ k, (glb W k).has "looked" = true := fun k => E.has (by decide)
  refine Rule.ind fun r ih on hv σ Q hk hQ => ?_
  have ih : ∀ s ∈ r.parts, ∀ (n : Nat) (σ : Hp) (Q : VP) (X : XP), s.deep + 1 ≤ n → σ kn = some (.dct es ep) → (∀ σ', σ.le σ' → Q (.int (s.ev v)) σ') → (glb W n).call "told" [s.v, .ref kn] σ Q X := fun s hs n σ Q X hn hk hQ => gcall hn (ih s hs (on_part hs on) (fun p hp => hv p (nd_part hs hp)) σ Q hk hQ)
  have dp : ∀ s ∈ r.parts, s.deep + 1 ≤ r.deep := fun s hs => Rule.part_deep hs
  have vals : ∀ (x y : Ref) (n : Nat) (ρ : Env) (i j : Int) (K : VP) (X : XP), x.p ∈ G h w → y.p ∈ G h w → r.places = boxOf x.p.1 x.p.2 y.p.1 y.p.2 → 1 ≤ n → (∃ vs, ρ "rule" = some (.tup vs) ∧ pyGet vs i = some x.v ∧ pyGet vs j = some y.v) → ρ "known" = some (.ref kn) → (∀ b σ', σ.le σ' → σ' b = some (.lst ((boxOf x.p.1 x.p.2 y.p.1 y.p.2).map fun p => V.int (v p))) → K (.ref b) σ') →
      (RS.X.comp (.idx (.var "known") (.var "place")) "place" (.of (.call "area" [.idx (.var "rule") (.num i), .idx (.var "rule") (.num j)])) []) (glb W n) ρ σ K X := by
    intro x y n ρ i j K X hx hy hpl hn ⟨vs, hr, hi, hj⟩ hkn hK
    dsimp only [RS.X.call, RS.X.comp, RS.X.idx, RS.X.num, RS.X.var, Src.of, wpEs, wpIfs]
    refine s_call (n2 _) (s_get hr (s_idxT hi (s_get hr (s_idxT hj ?_))))
    refine gcall (m := 1) hn (area_ok E _ _ _ _ _ _ σ _ (box_dim z hx hy).1 (box_dim z hx hy).2 fun a σ₁ na le₁ ha => s_srcL ha ?_)
    refine compL_lt pv (fun p => .int (v p)) (fun σ' le => le _ _ ha) (Nat.le_trans (by unfold boxOf; rw [areaP_length]; exact Nat.mul_le_mul (Int.toNat_le.mpr (box_dim z hx hy).1) (Int.toNat_le.mpr (box_dim z hx hy).2)) (by decide)) (fun p hp σ' le K' hK' => ?_) fun σ₂ le₂ => s_newG fun b σ₃ nb le₃ hb => hK b σ₃ (Hp.le_trans le₁ (Hp.le_trans le₂ le₃)) hb
    exact s_ifT rfl (s_get ((Env.set_ne _ _ (by decide)).trans hkn) (s_get (Env.set_same _ _ _) (s_idxD (le _ _ (le₁ _ _ hk)) (k := pk p) rfl (hv p (nd_here (by rw [hpl]; exact hp))) (hK' _ (Hp.le_refl _)))))
  cases r with
  | num i =>
    refine call_ok E.T E.told rfl (tag_yes rfl (st_cons ?_))
    dsimp only [S.ret, X.bin, X.glob, X.idx, X.num, X.var]
    exact s_get rfl (s_idxT (v := .int i) rfl (s_get (gb _) (s_mod (by decide) (hQ σ (Hp.le_refl _)))))
  | cell x =>
    refine call_ok E.T E.told rfl (tag_no rfl (by decide) (tag_yes rfl (st_cons ?_)))
    dsimp only [S.ret, X.idx, X.num, X.tup, X.var, wpEs]
    exact s_get rfl (s_get rfl (s_idxT (v := x.v) rfl (s_idxT (v := .int x.p.1) rfl (s_get rfl (s_idxT (v := x.v) rfl (s_idxT (v := .int x.p.2) rfl (s_idxD hk (k := pk x.p) rfl (hv _ (nd_here (box_cell _))) (hQ σ (Hp.le_refl _)))))))))
  | sum x y =>
    refine call_ok E.T E.told rfl (tag_no rfl (by decide) (tag_no rfl (by decide) (tag_yes rfl (st_cons ?_))))
    refine vals x y 1 _ 1 2 _ _ (on_here on (.head _)) (on_here on (.tail _ (.head _))) rfl (Nat.le_refl _) ⟨_, rfl, rfl, rfl⟩ rfl fun b σ' le hb => ?_
    exact s_sum hb (ints_of_map v _) (s_get (gb _) (s_mod (by decide) (hQ σ' le)))
  | most x y =>
    refine call_ok E.T E.told rfl (tag_no rfl (by decide) (tag_no rfl (by decide) (tag_no rfl (by decide) (tag_yes rfl (st_cons ?_)))))
    refine vals x y 1 _ 1 2 _ _ (on_here on (.head _)) (on_here on (.tail _ (.head _))) rfl (Nat.le_refl _) ⟨_, rfl, rfl, rfl⟩ rfl fun b σ' le hb => ?_
    refine s_maxL hb (ints_of_map v _) (fun e => ?_) fun m hm1 hm2 => ?_
    · have : (min x.p.1 y.p.1, min x.p.2 y.p.2) ∈ boxOf x.p.1 x.p.2 y.p.1 y.p.2 := mem_boxOf.mpr ⟨⟨Int.le_refl _, min_le_max _ _⟩, Int.le_refl _, min_le_max _ _⟩
      rw [List.map_eq_nil_iff.mp e] at this; cases this
    · have := hQ σ' le
      rw [show (Rule.most x y).ev v = m from mostL_is hm1 hm2] at this; exact this
  | look a x y b =>
    refine call_ok E.T E.told rfl (tag_no rfl (by decide) (tag_no rfl (by decide) (tag_no rfl (by decide) (tag_no rfl (by decide) (tag_yes rfl (st_cons ?_))))))
    dsimp only [S.assign, T.var, X.call, X.idx, X.num, X.var, wpEs]
    refine s_call (n1 _) (s_get rfl (s_idxT (v := b.v) rfl (s_get rfl (ih b (.tail _ (.head _)) _ σ _ _ (dp b (.tail _ (.head _))) hk fun σ₁ le₁ => st_cons ?_))))
    dsimp only [S.ret, X.call, X.idx, X.num, X.var, wpEs]
    refine s_call (n3 _) (s_call (n1 _) (s_get rfl (s_idxT (v := a.v) rfl (s_get rfl (ih a (.head _) _ σ₁ _ _ (dp a (.head _)) (le₁ _ _ hk) fun σ₂ le₂ => ?_)))))
    have hx := on_here on (x := x) (.head _)
    have hy := on_here on (x := y) (.tail _ (.head _))
    have hp1 : ∀ n : Nat, 1 ≤ n + 1 := fun n => Nat.succ_pos n
    refine s_call (n2 _) (s_get rfl (s_idxT (v := x.v) rfl (s_get rfl (s_idxT (v := y.v) rfl ?_))))
    refine gcall (m := 1) (hp1 _) (area_ok E _ _ _ _ _ _ σ₂ _ (box_dim z hx hy).1 (box_dim z hx hy).2 fun c σ₃ nc le₃ hc => s_get rfl (s_get rfl ?_))
    exact gcall (m := 1) (hp1 _) (looked_ok E z (v := v) (x := x) (y := y) hx hy σ₃ hc (le₃ _ _ (le₂ _ _ (le₁ _ _ hk))) (fun p hp => hv p (nd_here hp)) _ (hQ σ₃ (Hp.le_trans le₁ (Hp.le_trans le₂ le₃))))
  | pick a b c =>
    refine call_ok E.T E.told rfl (tag_no rfl (by decide) (tag_no rfl (by decide) (tag_no rfl (by decide) (tag_no rfl (by decide) (tag_no rfl (by decide) (st_cons ?_))))))
    dsimp only [S.assign, T.var, X.call, X.idx, X.num, X.var, wpEs]
    refine s_call (n1 _) (s_get rfl (s_idxT (v := a.v) rfl (s_get rfl (ih a (.head _) _ σ _ _ (dp a (.head _)) hk fun σ₁ le₁ => tag_yes rfl (st_cons ?_)))))
    dsimp only [S.ite, X.cmp, X.num, X.var, wpT]
    refine s_get rfl (s_neI (s_truth rfl (s_if (fun h0 => st_cons ?_) fun h0 => st_nil (st_cons ?_))))
    · dsimp only [S.ret, X.call, X.idx, X.num, X.var, wpEs]
      refine s_call (n1 _) (s_get rfl (s_idxT (v := b.v) rfl (s_get rfl (ih b (.tail _ (.head _)) _ σ₁ _ _ (dp b (.tail _ (.head _))) (le₁ _ _ hk) fun σ₂ le₂ => ?_))))
      have := hQ σ₂ (Hp.le_trans le₁ le₂)
      rw [show (Rule.pick a b c).ev v = b.ev v from if_neg fun e => by rw [decide_eq_true e] at h0; cases h0] at this; exact this
    · dsimp only [S.ret, X.call, X.idx, X.num, X.var, wpEs]
      refine s_call (n1 _) (s_get rfl (s_idxT (v := c.v) rfl (s_get rfl (ih c (.tail _ (.tail _ (.head _))) _ σ₁ _ _ (dp c (.tail _ (.tail _ (.head _)))) (le₁ _ _ hk) fun σ₂ le₂ => ?_))))
      have := hQ σ₂ (Hp.le_trans le₁ le₂)
      rw [show (Rule.pick a b c).ev v = c.ev v from if_pos (Classical.byContradiction fun e => h0 (by rw [decide_eq_false e]; rfl))] at this; exact this
  | add a b =>
    refine call_ok E.T E.told rfl (tag_no rfl (by decide) (tag_no rfl (by decide) (tag_no rfl (by decide) (tag_no rfl (by decide) (tag_no rfl (by decide) (st_cons ?_))))))
    dsimp only [S.assign, T.var, X.call, X.idx, X.num, X.var, wpEs]
    refine s_call (n1 _) (s_get rfl (s_idxT (v := a.v) rfl (s_get rfl (ih a (.head _) _ σ _ _ (dp a (.head _)) hk fun σ₁ le₁ => tag_no rfl (by decide) (st_cons ?_)))))
    dsimp only [S.assign, T.var, X.call, X.idx, X.num, X.var, wpEs]
    refine s_call (n1 _) (s_get rfl (s_idxT (v := b.v) rfl (s_get rfl (ih b (.tail _ (.head _)) _ σ₁ _ _ (dp b (.tail _ (.head _))) (le₁ _ _ hk) fun σ₂ le₂ => tag_yes rfl (st_cons ?_)))))
    dsimp only [S.ret, X.bin, X.glob, X.var]
    exact s_get rfl (s_get rfl (s_add (s_get (gb _) (s_mod (by decide) (hQ σ₂ (Hp.le_trans le₁ le₂))))))
end


/-! ### lists of places, compared -/
noncomputable def pd (p : Pl) : PyData := .tuple [.int p.1, .int p.2]
theorem snap_pv (σ : Hp) (n : Nat) (p : Pl) : snap σ (n + 1) (pv p) = some (pd p) := by cases n <;> rfl
theorem snap_pvs (σ : Hp) (n : Nat) (ps : List (Pl)) : optAll (snap σ (n + 1)) (ps.map pv) = some (ps.map pd) := snap_all pv pd ps fun p _ => snap_pv σ n p
theorem eqv_pd (p q : Pl) : PyData.eqv (pd p) (pd q) = decide (p = q) := by
  show ((p.1 == q.1) && ((p.2 == q.2) && true)) = _
  rw [Bool.and_true, Bool.eq_iff_iff, Bool.and_eq_true, beq_iff_eq, beq_iff_eq, decide_eq_true_iff]
  exact Prod.ext_iff.symm
theorem eqvAll_pds : ∀ ps qs : List (Pl), PyData.eqvAll (ps.map pd) (qs.map pd) = decide (ps = qs)
  | [], [] => rfl
  | [], _ :: _ => rfl
  | _ :: _, [] => rfl
  | p :: ps, q :: qs => by
    show (PyData.eqv (pd p) (pd q) && PyData.eqvAll (ps.map pd) (qs.map pd)) = _
    rw [eqv_pd, eqvAll_pds ps qs, Bool.eq_iff_iff, Bool.and_eq_true, decide_eq_true_iff, decide_eq_true_iff, decide_eq_true_iff, List.cons.injEq]
theorem eqP_pvs {σ : Hp} {B : Bool → Prop} {a b : Nat} {ps qs : List (Pl)} (ha : σ a = some (.lst (ps.map pv))) (hb : σ b = some (.lst (qs.map pv))) (q : B (decide (ps = qs))) : eqP σ B (.ref a) (.ref b) :=
  .gen (snap_lst ha (snap_pvs σ 48 ps)) (snap_lst hb (snap_pvs σ 48 qs)) (by show B (PyData.eqvAll (ps.map pd) (qs.map pd)); rw [eqvAll_pds]; exact q)
theorem any_pd (p : Pl) : ∀ ps : List (Pl), ((ps.map pd).any fun e => PyData.eqv e (pd p)) = decide (p ∈ ps)
  | [] => rfl
  | q :: ps => by
    show (PyData.eqv (pd q) (pd p) || (ps.map pd).any _) = _
    rw [eqv_pd, any_pd p ps]
    by_cases h1 : q = p
    · rw [decide_eq_true h1, decide_eq_true (show p ∈ q :: ps by rw [h1]; exact .head _)]; rfl
    · rw [decide_eq_false h1, Bool.false_or, decide_eq_decide]
      exact ⟨.tail _, fun h => (List.mem_cons.mp h).resolve_left fun e => h1 e.symm⟩
theorem inP_pvs {σ : Hp} {B : Bool → Prop} {a : Nat} {p : Pl} {ps : List (Pl)} (ha : σ a = some (.lst (ps.map pv))) (q : B (decide (p ∈ ps))) : inP σ B (pv p) (.ref a) := .lst ha (snap_pv σ 39 p) (snap_pvs σ 39 ps) (by rw [any_pd]; exact q)

/-- a sheet in the heap -/
structure SheetAt (σ : Hp) (a d c : Nat) (h w : Nat) (f : Pl → Rule) : Prop where
  ia : σ a = some (.inst "Sheet" d)
  id : σ d = some (.attrs [("cells", .ref c), ("wide", .int w), ("high", .int h)])
  ic : ∃ ep, σ c = some (.dct (mapD (G h w) fun p => (f p).v) ep)
theorem SheetAt.le {σ σ' : Hp} {a d c h w : Nat} {f : Pl → Rule} (s : SheetAt σ a d c h w f) (l : σ.le σ') : SheetAt σ' a d c h w f :=
  ⟨l _ _ s.ia, l _ _ s.id, s.ic.imp fun _ e => l _ _ e⟩
theorem s_ownF {g : Glb} {σ : Hp} {Q : VP} {v : V} {m f : String} {args : List V} {X : XP} (h : "Sheet." ++ m = f) (q : g.call f (v :: args) σ Q X) : methP g σ Q X v (.own m) args := .own (h ▸ q)

/-- the rule of a place, for another one -/
noncomputable def shP (r : Rule) (s q : Pl) : Rule := r.sh (q.1 - s.1) (q.2 - s.2)
/-- the rules when an area was filled -/
noncomputable def fillR (f R : Pl → Rule) (l : List Pl) : Pl → Rule := fun p => if p ∈ l then R p else f p
theorem fillR_add (f R : Pl → Rule) (l : List Pl) (p : Pl) : updF (fillR f R l) p (R p) = fillR f R (l ++ [p]) := by
  funext q
  unfold updF fillR
  by_cases e : q = p
  · subst e; rw [if_pos rfl, if_pos (List.mem_append_right _ (.head _))]
  · rw [if_neg e]
    by_cases hq : q ∈ l
    · rw [if_pos hq, if_pos (List.mem_append_left _ hq)]
    · rw [if_neg hq, if_neg fun h => (List.mem_append.mp h).elim hq fun h => e (List.mem_singleton.mp h)]
theorem box_one (q : Pl) : boxOf q.1 q.2 q.1 q.2 = [q] := by
  have e : ∀ x : Int, (max x x + 1 - min x x).toNat = 1 := fun x => by rw [Int.max_self, Int.min_self, Int.add_comm, Int.add_sub_cancel]; rfl
  unfold boxOf
  rw [e, e, Int.min_self, Int.min_self]
  show [(q.1 + 0, q.2 + 0)] = [q]
  rw [Int.add_zero, Int.add_zero]
theorem fill_one (f R : Pl → Rule) (q : Pl) : updF f q (R q) = fillR f R (boxOf q.1 q.2 q.1 q.2) := by
  rw [box_one]; exact fillR_add f R [] q
theorem box_in (p q : Pl) : p ∈ boxOf p.1 p.2 q.1 q.2 ∧ q ∈ boxOf p.1 p.2 q.1 q.2 := ⟨mem_boxOf.mpr ⟨⟨Int.min_le_left _ _, Int.le_max_left _ _⟩, Int.min_le_left _ _, Int.le_max_left _ _⟩, mem_boxOf.mpr ⟨⟨Int.min_le_right _ _, Int.le_max_right _ _⟩, Int.min_le_right _ _, Int.le_max_right _ _⟩⟩
/-- rules as they may stand -/
noncomputable def Fine (f : Pl → Rule) (h w : Nat) : Prop := ∀ p ∈ G h w, (f p).deep ≤ 8 ∧ (f p).size ≤ 100 ∧ (f p).On h w
theorem box_n {h w : Nat} (z : Sz h w) {p q : Pl} (hp : p ∈ G h w) (hq : q ∈ G h w) : lenOk (boxOf p.1 p.2 q.1 q.2).length := by
  unfold boxOf lenOk; rw [areaP_length]
  exact Nat.le_trans (Nat.mul_le_mul (Int.toNat_le.mpr (box_dim z hp hq).1) (Int.toNat_le.mpr (box_dim z hp hq).2)) (by decide)
/-- a comprehension that may be left by an exception -/
theorem compL_x {α : Type} {one : V → Hp → (Option V → Hp → Prop) → Prop} {chk : Hp → Prop} (p q : α → V) (ok : α → Prop) {xs : List α} {σ : Hp} {K : List V → Hp → Prop}
    (hc : ∀ σ', σ.le σ' → chk σ') (hl : lenOk xs.length) (h1 : ∀ x ∈ xs, ∀ σ', σ.le σ' → ∀ K', (ok x → ∀ σ'', σ'.le σ'' → K' (some (q x)) σ'') → one (p x) σ' K') (hK : (∀ x ∈ xs, ok x) → ∀ σ', σ.le σ' → K (xs.map q) σ') : compL one chk (xs.map p) [] σ K := by
  suffices H : ∀ (xs : List α) (acc : List V) (σ₁ : Hp), σ.le σ₁ → acc.length + xs.length ≤ 1000000 → (∀ x ∈ xs, ∀ σ', σ.le σ' → ∀ K', (ok x → ∀ σ'', σ'.le σ'' → K' (some (q x)) σ'') → one (p x) σ' K') → ((∀ x ∈ xs, ok x) → ∀ σ', σ.le σ' → K (acc ++ xs.map q) σ') → compL one chk (xs.map p) acc σ₁ K by
    exact H xs [] σ (Hp.le_refl σ) (by rw [List.length_nil, Nat.zero_add]; exact hl) h1 hK
  clear hl h1 hK
  intro xs
  induction xs with
  | nil => intro acc σ₁ hle _ _ hK; exact ⟨hc _ hle, by have := hK (fun _ h => (List.not_mem_nil h).elim) _ hle; rwa [List.map_nil, List.append_nil] at this⟩
  | cons v vs ih =>
    intro acc σ₁ hle hl h1 hK
    rw [List.length_cons, ← Nat.add_assoc, Nat.add_right_comm] at hl
    refine ⟨hc _ hle, Nat.le_trans (Nat.le_trans (Nat.le_succ _) (Nat.le_add_right _ _)) hl, h1 v (.head _) σ₁ hle _ fun hok σ₂ h₂ => ?_⟩
    refine ih (acc ++ [q v]) σ₂ (Hp.le_trans hle h₂) (by rw [List.length_append]; exact hl) (fun w hw => h1 w (.tail _ hw)) fun hall σ' h' => ?_
    have := hK (fun x hx => (List.mem_cons.mp hx).elim (fun e => e ▸ hok) (hall x)) σ' h'
    rwa [List.map_cons, List.append_cons] at this
theorem SheetAt.put {σ : Hp} {a d c h w ep ep' : Nat} {f : Pl → Rule} (S : SheetAt σ a d c h w f) (ic : σ c = some (.dct (mapD (G h w) fun p => (f p).v) ep)) {p : Pl} (hp : p ∈ G h w) (r : Rule) : SheetAt (σ.set c (.dct (dput (mapD (G h w) fun p => (f p).v) (pk p) r.v) ep')) a d c h w (updF f p r) := by
  refine ⟨(Hp.set_ne _ _ fun e => ?_).trans S.ia, (Hp.set_ne _ _ fun e => ?_).trans S.id, ep', by rw [Hp.set_same, dput_mapD hp, updF_comp Rule.v]⟩
  · have := S.ia; rw [e, ic] at this; cases this
  · have := S.id; rw [e, ic] at this; cases this

section
variable {W : Wd} {k : Nat}
theorem places_ok (E : EnvS W) {a d c h w : Nat} (s : Sz h w) {σ : Hp} (ia : σ a = some (.inst "Sheet" d)) (id : σ d = some (.attrs [("cells", .ref c), ("wide", .int w), ("high", .int h)])) (Q : VP)
    (hQ : ∀ b σ', σ b = none → σ.le σ' → σ' b = some (.lst ((G h w).map pv)) → Q (.ref b) σ') : callP W 2 "Sheet.places" [.ref a] σ Q noX := by
  have n1 : (glb W 1).has "area" = true := E.has (by decide)
  refine call_ok E.T E.s_places rfl ?_
  dsimp only [b_Sheet_places, p_Sheet_places, bindP]
  refine st_cons ?_
  dsimp only [S.ret, X.attr, X.bin, X.call, X.num, X.tup, X.var, wpEs]
  refine s_call n1 ⟨by decide, s_get rfl (s_attr ia id rfl (s_sub ⟨by decide, s_get rfl (s_attr ia id rfl (s_sub ?_))⟩))⟩
  refine gcall (m := 1) (by decide) (area_ok E _ _ _ _ [] [] σ _ (side_ok s.h1 s.h0) (side_ok s.w1 s.w0) fun b σ' nb le hb => hQ b σ' nb le ?_)
  rw [box_G h w s.h0 s.w0] at hb; exact hb


theorem need_on_ok (E : EnvS W) {a d c h w : Nat} {f : Pl → Rule} {σ : Hp} (S : SheetAt σ a d c h w f) (p : Pl) (t : List V) (Q : VP) (X : XP)
    (hQ : p ∈ G h w → Q .none σ) (hX : p ∉ G h w → X "OffSheet" σ) : callP W 1 "Sheet.need_on" [.ref a, .tup (.int p.1 :: .int p.2 :: t)] σ Q X := by
  rw [mem_G] at hQ hX
  refine call_ok E.T E.s_need_on rfl ?_
  dsimp only [b_Sheet_need_on, p_Sheet_need_on, bindP]
  refine st_cons ?_
  dsimp only [RS.S.ite, RS.X.attr, RS.X.bop, RS.X.cmp2, RS.X.idx, RS.X.not, RS.X.num, RS.X.var, wpBop, wpT]
  refine s_get rfl (s_idxT rfl (s_le ?_))
  by_cases h1 : 0 ≤ p.1
  · refine s_ifT (decide_eq_true h1) ⟨by decide, s_get rfl (s_attr S.ia S.id rfl (s_lt ?_))⟩
    by_cases h2 : p.1 < h
    · rw [decide_eq_true h2]
      refine s_truth rfl (s_truth rfl (s_ifT rfl (s_get rfl (s_idxT rfl (s_le ?_)))))
      by_cases h3 : 0 ≤ p.2
      · refine s_ifT (decide_eq_true h3) ⟨by decide, s_get rfl (s_attr S.ia S.id rfl (s_lt ?_))⟩
        by_cases h4 : p.2 < w
        · rw [decide_eq_true h4]
          exact s_truth rfl (s_truth rfl (s_ifF Bool.false_ne_true (st_nil (st_nil (hQ ⟨h1, h2, h3, h4⟩)))))
        · rw [decide_eq_false h4]
          exact s_truth rfl (s_truth rfl (s_ifT rfl (st_cons ⟨by decide, hX fun q => h4 q.2.2.2⟩)))
      · exact s_ifF (fun q => h3 (of_decide_eq_true q)) (s_truth rfl (s_truth rfl (s_ifT rfl (st_cons ⟨by decide, hX fun q => h3 q.2.2.1⟩))))
    · rw [decide_eq_false h2]
      exact s_truth rfl (s_truth rfl (s_ifF (by decide) (s_truth rfl (s_ifT rfl (st_cons ⟨by decide, hX fun q => h2 q.2.1⟩)))))
  · exact s_ifF (fun q => h1 (of_decide_eq_true q)) (s_truth rfl (s_truth rfl (s_ifF (by decide) (s_truth rfl (s_ifT rfl (st_cons ⟨by decide, hX fun q => h1 q.1⟩))))))
theorem rule_ok (E : EnvS W) {a d c h w : Nat} {f : Pl → Rule} {σ : Hp} (S : SheetAt σ a d c h w f) {p : Pl} (hp : p ∈ G h w) (Q : VP)
    (hQ : Q (f p).v σ) : callP W 2 "Sheet.rule" [.ref a, pv p] σ Q noX := by
  obtain ⟨ep, ic⟩ := S.ic
  refine call_ok E.T E.s_rule rfl ?_
  dsimp only [b_Sheet_rule, p_Sheet_rule, bindP]
  refine st_cons ?_
  dsimp only [RS.S.expr, X.meth, X.var, wpEs]
  refine s_get rfl (s_recv (s_recvI S.ia (by decide) S.id rfl) (s_get rfl (s_ownF (f := "Sheet.need_on") rfl ?_)))
  refine gcallX (m := 1) (by decide) (need_on_ok E S p [] _ _ (fun _ => st_cons ?_) fun h => (h hp).elim)
  dsimp only [RS.S.ret, X.attr, X.idx, X.num, X.tup, X.var, wpEs]
  exact ⟨by decide, s_get rfl (s_attr S.ia S.id rfl (s_get rfl (s_idxT rfl (s_get rfl (s_idxT rfl (s_idxD ic (k := pk p) rfl (dget_mapD hp) hQ))))))⟩
theorem need_rule_ok (E : EnvS W) {a d c h w : Nat} {f : Pl → Rule} {σ : Hp} (S : SheetAt σ a d c h w f) {r : Rule} (hd : r.deep ≤ 40) (hs : r.size ≤ 100) (Q : VP) (X : XP)
    (hQ : r.On h w → ∀ σ', σ.le σ' → Q .none σ') (hX : ¬ r.On h w → ∀ σ', σ.le σ' → X "OffSheet" σ') : callP W 4 "Sheet.need_rule" [.ref a, r.v] σ Q X := by
  have n1 : (glb W 3).has "references" = true := E.has (by decide)
  refine call_ok E.T E.s_need_rule rfl ?_
  dsimp only [b_Sheet_need_rule, p_Sheet_need_rule, bindP]
  refine st_cons ?_
  dsimp only [RS.S.for_, RS.X.call, RS.X.var, Src.of, wpEs]
  refine s_call n1 (s_get rfl ?_)
  refine gcall (m := 3) (by decide) (references_ok E hd hs σ _ fun xs b σ₁ le hb hon => s_srcL hb ?_)
  refine forL_data Ref.v (fun pre ρ σ' => ρ "self" = some (.ref a) ∧ σ' = σ₁ ∧ ∀ x ∈ pre, x.p ∈ G h w) ⟨rfl, rfl, fun _ h => (List.not_mem_nil h).elim⟩ (fun _ _ _ h => h.2.1 ▸ hb) ?_ ?_
  · rintro pre x post ρ σ' N' hsp ⟨e, rfl, hpre⟩ hN
    have S' := S.le le
    refine st_cons ?_
    dsimp only [RS.S.expr, RS.X.meth, RS.X.var, wpEs]
    refine s_get ((Env.set_ne _ _ (by decide)).trans e) (s_recv (s_recvI S'.ia (by decide) S'.id rfl) (s_get (Env.set_same _ _ _) (s_ownF (f := "Sheet.need_on") rfl ?_)))
    refine gcallX (m := 1) (by decide) (need_on_ok E S' x.p [.bool x.a, .bool x.b] _ _ (fun q => st_nil (hN _ _ ⟨(Env.set_ne _ _ (by decide)).trans e, rfl, fun y hy => ?_⟩)) fun q => hX (fun o => q (o x ((hon x).mp (mem_mid hsp)))) _ le)
    rcases List.mem_append.mp hy with hy | hy
    · exact hpre y hy
    · rw [List.mem_singleton.mp hy]; exact q
  · rintro ρ σ' ⟨_, rfl, hall⟩
    exact st_nil (hQ (fun x hx => hall x ((hon x).mpr hx)) _ le)
theorem put_ok (E : EnvS W) {a d c h w : Nat} (s : Sz h w) {f : Pl → Rule} {σ : Hp} (S : SheetAt σ a d c h w f) {p : Pl} (hp : p ∈ G h w) {r : Rule} (hd : r.deep ≤ 40) (hs : r.size ≤ 100) (Q : VP) (X : XP)
    (hQ : r.deep ≤ 8 → r.On h w → ∀ σ', (∀ b x, b ≠ c → σ b = some x → σ' b = some x) → SheetAt σ' a d c h w (updF f p r) → Q .none σ')
    (hX1 : 8 < r.deep → ∀ σ', σ.le σ' → X "TooDeep" σ') (hX2 : r.deep ≤ 8 → ¬ r.On h w → ∀ σ', σ.le σ' → X "OffSheet" σ') : callP W 5 "Sheet.put" [.ref a, pv p, r.v] σ Q X := by
  have n1 : (glb W 4).has "deep" = true := E.has (by decide)
  have gm : (glb W 4).glob "MOST_DEEP" = some (.int 8) := E.mostD
  refine call_ok E.T E.s_put rfl ?_
  dsimp only [b_Sheet_put, p_Sheet_put, bindP]
  refine st_cons ?_
  dsimp only [RS.S.expr, RS.X.meth, RS.X.var, wpEs]
  refine s_get rfl (s_recv (s_recvI S.ia (by decide) S.id rfl) (s_get rfl (s_ownF (f := "Sheet.need_on") rfl ?_)))
  refine gcallX (m := 1) (by decide) (need_on_ok E S p [] _ _ (fun _ => st_cons ?_) fun h => (h hp).elim)
  dsimp only [RS.S.ite, RS.X.call, RS.X.cmp, RS.X.glob, RS.X.var, wpEs, wpT]
  refine s_call n1 (s_get rfl ?_)
  refine gcall (m := 3) (by decide) (deep_ok E hd hs σ _ fun σ₁ le₁ => ?_)
  refine s_get gm (s_gt (s_truth rfl (s_if (fun h8 => st_cons ⟨by decide, hX1 (Int.ofNat_lt.mp (of_decide_eq_true h8)) σ₁ le₁⟩) fun h8 => st_nil (st_cons ?_))))
  have h8 : r.deep ≤ 8 := Nat.not_lt.mp fun e => h8 (decide_eq_true (Int.ofNat_lt.mpr e))
  have S1 := S.le le₁
  dsimp only [RS.S.expr, RS.X.meth, RS.X.var, wpEs]
  refine s_get rfl (s_recv (s_recvI S1.ia (by decide) S1.id rfl) (s_get rfl (s_ownF (f := "Sheet.need_rule") rfl ?_)))
  refine gcallX (m := 4) (by decide) (need_rule_ok E S1 hd hs _ _ (fun o σ₂ le₂ => st_cons ?_) fun o σ₂ le₂ => hX2 h8 o σ₂ (Hp.le_trans le₁ le₂))
  have S2 := S1.le le₂
  obtain ⟨ep, ic⟩ := S2.ic
  dsimp only [RS.S.assign, RS.X.attr, RS.X.idx, RS.X.num, RS.X.tup, RS.X.var, T.idx, wpEs]
  refine s_get rfl ⟨by decide, s_get rfl (s_attr S2.ia S2.id rfl (s_get rfl (s_idxT rfl (s_get rfl (s_idxT rfl (s_storeD ic (k := pk p) rfl (by unfold lenOk; rw [mapD_length]; exact Nat.le_trans s.len (by decide)) fun ep' => st_nil ?_))))))⟩
  exact hQ h8 o _ (fun b x hb hx => (Hp.set_ne _ _ hb).trans (le₂ _ _ (le₁ _ _ hx))) (S2.put ic hp r)
theorem make_ok (E : EnvS W) {h w : Nat} (s : Sz h w) (σ : Hp) (Q : VP)
    (hQ : ∀ a d c σ', σ.le σ' → σ a = none → σ d = none → σ c = none → SheetAt σ' a d c h w (fun _ => .num 0) → Q (.ref a) σ') : callP W 4 "Sheet" [.int h, .int w] σ Q noX := by
  obtain ⟨C, hC, hfC⟩ := E.cls
  have gm : (glb W 2).glob "MOST" = some (.int 12) := E.most
  refine new_ok E.T hC hfC fun a d na nd hne => ?_
  refine call_ok E.T E.s_init rfl ?_
  dsimp only [b_Sheet___init, p_Sheet___init, bindP]
  have le₁ : σ.le ((σ.set d (.attrs [])).set a (.inst "Sheet" d)) := Hp.le_upd _ (Hp.le_set _ nd) na
  have ia : ((σ.set d (.attrs [])).set a (.inst "Sheet" d)) a = some (.inst "Sheet" d) := Hp.set_same _ _ _
  have id : ((σ.set d (.attrs [])).set a (.inst "Sheet" d)) d = some (.attrs []) := (Hp.set_ne _ _ hne.symm).trans (Hp.set_same _ _ _)
  generalize (σ.set d (.attrs [])).set a (.inst "Sheet" d) = σ₁ at *
  have up : ∀ {n : Nat}, n ≤ 3 → (n : Int) ≤ 12 := fun h => Int.ofNat_le.mpr (Nat.le_trans h (by decide))
  have lo : ∀ {n : Nat}, 0 < n → (1 : Int) ≤ n := fun h => Int.ofNat_le.mpr h
  refine st_cons ?_
  dsimp only [S.ite, X.bop, X.cmp2, X.glob, X.not, X.num, X.var, wpBop, wpT]
  refine s_get rfl (s_le (s_ifT (decide_eq_true (lo s.h0)) (s_get gm (s_le ?_))))
  rw [decide_eq_true (up s.h1)]
  refine s_truth rfl (s_truth rfl (s_ifT rfl ?_))
  refine s_get rfl (s_le (s_ifT (decide_eq_true (lo s.w0)) (s_get gm (s_le ?_))))
  rw [decide_eq_true (up s.w1)]
  refine s_truth rfl (s_truth rfl (s_ifF Bool.false_ne_true (st_nil ?_)))
  refine st_cons ?_
  dsimp only [S.assign, T.attr, X.var]
  refine s_get rfl ⟨by decide, s_get rfl (.mk ia id (by decide) ?_)⟩
  refine st_cons ?_
  dsimp only [S.assign, T.attr, X.var]
  have ia2 := (Hp.set_ne σ₁ (.attrs (aset [] "high" (.int h))) hne).trans ia
  refine s_get rfl ⟨by decide, s_get rfl (.mk ia2 (Hp.set_same _ _ _) (by show 1 ≤ 1000; decide) ?_)⟩
  refine st_cons ?_
  dsimp only [S.assign, T.attr, X.emptyDict, X.var]
  refine s_newG fun c σ₃ nc le₃ hc => ⟨by decide, s_get rfl ?_⟩
  have ia3 : σ₃ a = _ := le₃ _ _ ((Hp.set_ne _ (.attrs (aset (aset [] "high" (.int h)) "wide" (.int w))) hne).trans ia2)
  have id3 : σ₃ d = _ := le₃ _ _ (Hp.set_same _ _ _)
  have leA : σ.le σ₃ := Hp.le_trans (Hp.le_upd _ (Hp.le_upd _ le₁ nd) nd) le₃
  have nc' : σ c = none := Hp.le_none (Hp.le_upd _ (Hp.le_upd _ le₁ nd) nd) nc
  have hcd : c ≠ d := fun e => by rw [e, id3] at hc; cases hc
  have hca : c ≠ a := fun e => by rw [e, ia3] at hc; cases hc
  refine .mk ia3 id3 (by show 2 ≤ 1000; decide) ?_
  have ia4 := (Hp.set_ne σ₃ (.attrs (aset (aset (aset [] "high" (.int h)) "wide" (.int w)) "cells" (.ref c))) hne).trans ia3
  have id4 : (σ₃.set d (.attrs (aset (aset (aset [] "high" (.int h)) "wide" (.int w)) "cells" (.ref c)))) d = some (.attrs [("cells", .ref c), ("wide", .int w), ("high", .int h)]) := Hp.set_same _ _ _
  have hc4 := (Hp.set_ne σ₃ (.attrs (aset (aset (aset [] "high" (.int h)) "wide" (.int w)) "cells" (.ref c))) hcd).trans hc
  have leB := Hp.le_upd (.attrs (aset (aset (aset [] "high" (.int h)) "wide" (.int w)) "cells" (.ref c))) leA nd
  generalize σ₃.set d (.attrs (aset (aset (aset [] "high" (.int h)) "wide" (.int w)) "cells" (.ref c))) = σ₄ at *
  refine st_cons ?_
  dsimp only [S.for_, Src.of, X.meth, X.var, wpEs]
  refine s_get rfl (s_recv (s_recvI ia4 (by decide) id4 rfl) (s_ownF (f := "Sheet.places") rfl ?_))
  refine gcall (m := 2) (by decide) (places_ok E s ia4 id4 _ fun b σ₅ nb le₅ hb => ?_)
  refine s_srcL hb ?_
  have hbc : b ≠ c := fun e => by rw [e, hc4] at nb; cases nb
  refine forL_data pv (fun pre ρ σ' => A6 (ρ "self" = some (.ref a)) (σ.le σ') (σ' a = some (.inst "Sheet" d)) (σ' d = some (.attrs [("cells", .ref c), ("wide", .int w), ("high", .int h)])) (σ' b = some (.lst ((G h w).map pv))) (∃ ep, σ' c = some (.dct (mapD pre fun p => (Rule.num 0).v) ep))) ?_ ?_ ?_ ?_
  · exact ⟨rfl, Hp.le_trans leB le₅, le₅ _ _ ia4, le₅ _ _ id4, hb, 0, le₅ _ _ hc4⟩
  · rintro pre ρ σ' ⟨_, _, _, _, hb, _⟩; exact hb
  · rintro pre p post ρ σ' N' hsp ⟨es, le, ia, id, hb, ep, hc⟩ hN
    refine st_cons ?_
    dsimp only [S.assign, T.idx, X.attr, X.num, X.str, X.tup, X.var, wpEs]
    refine ⟨by decide, s_get ((Env.set_ne _ _ (by decide)).trans es) (s_attr ia id rfl (s_get (Env.set_same _ _ _) (s_storeD hc (k := pk p) rfl (by unfold lenOk; rw [mapD_length]; exact Nat.le_trans (Nat.le_of_lt (len_lt hsp)) (Nat.le_trans s.len (by decide))) fun ep' => st_nil ?_)))⟩
    refine hN _ _ ⟨(Env.set_ne _ _ (by decide)).trans es, Hp.le_upd _ le nc', (Hp.set_ne _ _ hca.symm).trans ia, (Hp.set_ne _ _ hcd.symm).trans id, (Hp.set_ne _ _ hbc).trans hb, ep', ?_⟩
    rw [Hp.set_same, dput_mapD_not (nodup_mid (G_nodup w h) hsp)]
    exact congrArg (fun g => some (Cell.dct (mapD (pre ++ [p]) g) ep')) (updF_id (fun _ => (Rule.num 0).v) p)
  · rintro ρ σ' ⟨_, le, ia, id, _, ic⟩
    exact st_nil ⟨rfl, hQ a d c σ' le na nd nc' ⟨ia, id, ic⟩⟩


/-! ### rules, moved -/
theorem moved_ok (E : EnvS W) (x : Ref) (d e : Int) (σ : Hp) (Q : VP) (h : Q (x.mv d e).v σ) : callP W 1 "moved" [x.v, .int d, .int e] σ Q noX := by
  refine call_ok E.T E.moved rfl ?_
  dsimp only [b_moved, p_moved, bindP]
  obtain ⟨p, a, b⟩ := x
  refine st_cons ?_
  dsimp only [S.assign, T.var, X.idx, X.num, X.var]
  refine s_get rfl (s_idxT (v := .int p.1) rfl (st_cons ?_))
  dsimp only [S.assign, T.var, X.idx, X.num, X.var]
  refine s_get rfl (s_idxT (v := .int p.2) rfl (st_cons ?_))
  dsimp only [S.ite, X.idx, X.not, X.num, X.var, wpT]
  have fin : ∀ (ρ : Env) (y z : Int), ρ "row" = some (.int y) → ρ "column" = some (.int z) → ρ "reference" = some (Ref.v ⟨p, a, b⟩) → Q (.tup [.int y, .int z, .bool a, .bool b]) σ → ∀ N : NP, wpSs (b_moved.drop 4) (glb W 0) N Q (fun c _ σ' => noX c σ') ρ σ := by
    intro ρ y z h1 h2 h3 hq N
    refine st_cons ?_
    dsimp only [S.ret, X.idx, X.num, X.tup, X.var, wpEs]
    exact s_get h1 (s_get h2 (s_get h3 (s_idxT (v := .bool a) rfl (s_get h3 (s_idxT (v := .bool b) rfl hq)))))
  have two : ∀ (ρ : Env) (y : Int), ρ "row" = some (.int y) → ρ "column" = some (.int p.2) → ρ "reference" = some (Ref.v ⟨p, a, b⟩) → ρ "right" = some (.int e) → Q (.tup [.int y, .int (if b = true then p.2 else p.2 + e), .bool a, .bool b]) σ → ∀ N : NP, wpSs (b_moved.drop 3) (glb W 0) N Q (fun c _ σ' => noX c σ') ρ σ := by
    intro ρ y h1 h2 h3 h4 hq N
    refine st_cons ?_
    dsimp only [S.ite, X.idx, X.not, X.num, X.var, wpT]
    refine s_get h3 (s_idxT (v := .bool b) rfl (s_truth rfl (s_truth rfl ?_)))
    cases b with
    | true => exact s_ifF (by decide) (st_nil (fin ρ y p.2 h1 h2 h3 hq _))
    | false =>
      refine s_ifT rfl (st_cons ?_)
      dsimp only [S.assign, T.var, X.bin, X.var]
      exact s_get h2 (s_get h4 (s_add (st_nil (fin _ y (p.2 + e) ((Env.set_ne _ _ (by decide)).trans h1) (Env.set_same _ _ _) ((Env.set_ne _ _ (by decide)).trans h3) hq _))))
  refine s_get rfl (s_idxT (v := .bool a) rfl (s_truth rfl (s_truth rfl ?_)))
  cases a with
  | true => exact s_ifF (by decide) (st_nil (two _ p.1 rfl rfl rfl rfl h _))
  | false =>
    refine s_ifT rfl (st_cons ?_)
    dsimp only [S.assign, T.var, X.bin, X.var]
    exact s_get rfl (s_get rfl (s_add (st_nil (two _ (p.1 + d) rfl rfl rfl rfl h _))))
theorem shifted_ok (E : EnvS W) (d e : Int) : ∀ (r : Rule), r.deep ≤ 40 → ∀ (σ : Hp) (Q : VP), (∀ σ', σ.le σ' → Q (r.sh d e).v σ') → callP W (r.deep + 1) "shifted" [r.v, .int d, .int e] σ Q noX := by
  have n1 : ∀ n, (glb W n).has "shifted" = true := fun n => E.has (by decide)
  have n2 : ∀ n, (glb W n).has "moved" = true := fun n => E.has (by decide)
  have n3 : ∀ n, (glb W n).has "rules_in" = true := fun n => E.has (by decide)
  refine Rule.ind fun r ih hd σ Q h => ?_
  have ih : ∀ s ∈ r.parts, ∀ (n : Nat) (σ : Hp) (Q : VP) (X : XP), s.deep + 1 ≤ n → (∀ σ', σ.le σ' → Q (s.sh d e).v σ') → (glb W n).call "shifted" [s.v, .int d, .int e] σ Q X := fun s hs n σ Q X hn hQ => gcall hn (ih s hs (Nat.le_trans (Nat.le_of_succ_le (Rule.part_deep hs)) hd) σ Q hQ)
  have dp : ∀ s ∈ r.parts, s.deep + 1 ≤ r.deep := fun s hs => Rule.part_deep hs
  have lok : ∀ {α : Type} (l : List α), l.length ≤ 3 → lenOk l.length := fun l hl => Nat.le_trans hl (by decide)
  -- the tuple's tail, each moved
  have tl : ∀ {α : Type} (fn : String) (p q : α → V) (xs : List α) (n : Nat) (nm : String) (ρ : Env) (σ₁ : Hp) (N : NP) (X : XPS), σ.le σ₁ → xs ≠ [] → xs.length ≤ 3 → ρ "rule" = some (.tup (.str nm :: xs.map p)) → ρ "down" = some (.int d) → ρ "right" = some (.int e) → (glb W n).has fn = true → (∀ x ∈ xs, ∀ (σ' : Hp) (Q' : VP) (X' : XP), (∀ σ'', σ'.le σ'' → Q' (q x) σ'') → (glb W n).call fn [p x, .int d, .int e] σ' Q' X') → (r.sh d e).v = .tup (.str nm :: xs.map q) →
      wpSs [.ret (.bin .add (.tup [.idx (.var "rule") (.num 0)]) (.bi .tuple [.comp (.call fn [.var "one", .var "down", .var "right"]) "one" (.of (.slice (.var "rule") (.num 1) .none)) []]))] (glb W n) N Q X ρ σ₁ := by
    intro α fn p q xs n nm ρ σ₁ N X le hx hl h1 h2 h3 hf hc hv
    refine st_cons ?_
    dsimp only [RS.X.bi, RS.X.bin, RS.X.call, RS.X.comp, RS.X.idx, RS.X.none, RS.X.num, RS.X.slice, RS.X.tup, RS.X.var, S.ret, Src.of, wpEs, wpIfs]
    refine s_get h1 (s_idxT (v := .str nm) rfl (s_get h1 (s_sliceT rfl rfl (s_srcT ?_))))
    rw [slice_tail]
    refine compL_lt p q (fun _ _ => trivial) (lok _ hl) (fun x hx' σ₂ le₂ K' hK' => ?_) fun σ₂ le₂ => ?_
    · exact s_ifT rfl (s_call hf (s_get (Env.set_same _ _ _) (s_get ((Env.set_ne _ _ (by decide)).trans h2) (s_get ((Env.set_ne _ _ (by decide)).trans h3) (hc x hx' σ₂ (fun v σ' => K' (some v) σ') _ hK')))))
    refine s_newG fun a σ₃ _ le₃ ha => s_tuple ha (.tcat (List.cons_ne_nil _ _) (fun q => hx (List.map_eq_nil_iff.mp q)) ?_ ?_)
    · unfold lenOk; rw [List.length_map]; exact Nat.le_trans (Nat.add_le_add_left hl 1) (by decide)
    · have := h σ₃ (Hp.le_trans le (Hp.le_trans le₂ le₃))
      rw [hv] at this; exact this
  have op : ∀ (nm : String) (vs : List V) (n : Nat) (N : NP) (X : XPS), 1 ≤ n → r.v = .tup (.str nm :: vs) → nm ≠ "num" → nm ≠ "look" → (∀ σ₁ N, σ.le σ₁ → wpSs [.ret (.bin .add (.tup [.idx (.var "rule") (.num 0)]) (.bi .tuple [.comp (.call (if r.parts.isEmpty = true then "moved" else "shifted") [.var "one", .var "down", .var "right"]) "one" (.of (.slice (.var "rule") (.num 1) .none)) []]))] (glb W n) N Q X (bindP p_shifted [r.v, .int d, .int e]) σ₁) → wpSs b_shifted (glb W n) N Q X (bindP p_shifted [r.v, .int d, .int e]) σ := by
    intro nm vs n N X hn hv h1 h2 hA
    have ev : bindP p_shifted [r.v, .int d, .int e] "rule" = some (.tup (.str nm :: vs)) := by rw [← hv]; rfl
    refine tag_no ev h1 (tag_no ev h2 (st_cons ?_))
    dsimp only [RS.X.call, RS.X.cmp, RS.X.lst, RS.X.var, S.ite, wpEs, wpT]
    refine s_call (n3 _) (s_get rfl (gcall hn (rules_in_ok E r σ _ fun a σ₁ _ le₁ ha => s_newG fun b σ₂ _ le₂ hb => ?_)))
    refine s_neL0 (le₂ _ _ ha) hb (snap_all Rule.v Rule.d _ fun q hq => snap_rule σ₂ q 49 (Nat.le_trans (Nat.le_trans (dp q hq) hd) (by decide))) (s_truth rfl ?_)
    cases hp : r.parts with
    | nil => rw [hp] at hA; exact s_ifF (by decide) (st_nil (hA σ₂ _ (Hp.le_trans le₁ le₂)))
    | cons q qs => rw [hp] at hA; exact s_ifT rfl (hA σ₂ _ (Hp.le_trans le₁ le₂))
  have mv : ∀ (n : Nat), 1 ≤ n → ∀ (x : Ref) (σ' : Hp) (Q' : VP) (X' : XP), (∀ σ'', σ'.le σ'' → Q' (x.mv d e).v σ'') → (glb W n).call "moved" [x.v, .int d, .int e] σ' Q' X' := fun n hn x σ' Q' X' hQ => gcall hn (moved_ok E x d e σ' Q' (hQ σ' (Hp.le_refl _)))
  cases r with
  | num i =>
    refine call_ok E.T E.shifted rfl (tag_yes rfl (st_cons ?_))
    dsimp only [S.ret, X.var]
    exact s_get rfl (h σ (Hp.le_refl σ))
  | cell x => exact call_ok E.T E.shifted rfl (op "cell" _ _ _ _ (Nat.le_refl 1) rfl (by decide) (by decide) fun σ₁ N le => tl "moved" Ref.v (fun x => (x.mv d e).v) [x] 1 "cell" _ σ₁ N _ le (List.cons_ne_nil _ _) (by show 1 ≤ 3; decide) rfl rfl rfl (n2 _) (fun x _ => mv 1 (Nat.le_refl _) x) rfl)
  | sum x y => exact call_ok E.T E.shifted rfl (op "sum" _ _ _ _ (Nat.le_refl 1) rfl (by decide) (by decide) fun σ₁ N le => tl "moved" Ref.v (fun x => (x.mv d e).v) [x, y] 1 "sum" _ σ₁ N _ le (List.cons_ne_nil _ _) (by show 2 ≤ 3; decide) rfl rfl rfl (n2 _) (fun x _ => mv 1 (Nat.le_refl _) x) rfl)
  | most x y => exact call_ok E.T E.shifted rfl (op "most" _ _ _ _ (Nat.le_refl 1) rfl (by decide) (by decide) fun σ₁ N le => tl "moved" Ref.v (fun x => (x.mv d e).v) [x, y] 1 "most" _ σ₁ N _ le (List.cons_ne_nil _ _) (by show 2 ≤ 3; decide) rfl rfl rfl (n2 _) (fun x _ => mv 1 (Nat.le_refl _) x) rfl)
  | add a b => exact call_ok E.T E.shifted rfl (op "add" _ _ _ _ (Nat.succ_pos _) rfl (by decide) (by decide) fun σ₁ N le => tl "shifted" Rule.v (fun x => (x.sh d e).v) [a, b] _ "add" _ σ₁ N _ le (List.cons_ne_nil _ _) (by show 2 ≤ 3; decide) rfl rfl rfl (n1 _) (fun s hs σ' Q' X' => ih s hs _ σ' Q' X' (dp s hs)) rfl)
  | pick a b c => exact call_ok E.T E.shifted rfl (op "pick" _ _ _ _ (Nat.succ_pos _) rfl (by decide) (by decide) fun σ₁ N le => tl "shifted" Rule.v (fun x => (x.sh d e).v) [a, b, c] _ "pick" _ σ₁ N _ le (List.cons_ne_nil _ _) (by show 3 ≤ 3; decide) rfl rfl rfl (n1 _) (fun s hs σ' Q' X' => ih s hs _ σ' Q' X' (dp s hs)) rfl)
  | look a x y b =>
    refine call_ok E.T E.shifted rfl (tag_no rfl (by decide) (tag_yes rfl (st_cons ?_)))
    dsimp only [S.assign, T.var, X.call, X.idx, X.num, X.var, wpEs]
    refine s_call (n1 _) (s_get rfl (s_idxT (v := a.v) rfl (s_get rfl (s_get rfl (ih a (.head _) _ σ _ _ (dp a (.head _)) fun σ₁ le₁ => st_cons ?_)))))
    dsimp only [S.ret, X.call, X.idx, X.num, X.str, X.tup, X.var, wpEs]
    refine s_get rfl (s_call (n2 _) (s_get rfl (s_idxT (v := x.v) rfl (s_get rfl (s_get rfl (mv _ (Nat.succ_pos _) x σ₁ _ _ fun σ₂ le₂ => ?_))))))
    refine s_call (n2 _) (s_get rfl (s_idxT (v := y.v) rfl (s_get rfl (s_get rfl (mv _ (Nat.succ_pos _) y σ₂ _ _ fun σ₃ le₃ => ?_)))))
    exact s_call (n1 _) (s_get rfl (s_idxT (v := b.v) rfl (s_get rfl (s_get rfl (ih b (.tail _ (.head _)) _ σ₃ _ _ (dp b (.tail _ (.head _))) fun σ₄ le₄ => h σ₄ (Hp.le_trans le₁ (Hp.le_trans le₂ (Hp.le_trans le₃ le₄))))))))
theorem copy_for_ok (E : EnvS W) {a d c h w : Nat} {f : Pl → Rule} {σ : Hp} (S : SheetAt σ a d c h w f) (hf : Fine f h w) {p : Pl} (hp : p ∈ G h w) (q : Pl) (Q : VP) (X : XP)
    (hQ : q ∈ G h w → (shP (f p) p q).On h w → ∀ σ', σ.le σ' → Q (shP (f p) p q).v σ') (hX : ¬ (q ∈ G h w ∧ (shP (f p) p q).On h w) → ∀ σ', σ.le σ' → X "OffSheet" σ') : callP W 10 "Sheet.copy_for" [.ref a, pv p, pv q] σ Q X := by
  have n1 : (glb W 9).has "shifted" = true := E.has (by decide)
  refine call_ok E.T E.s_copy_for rfl ?_
  dsimp only [b_Sheet_copy_for, p_Sheet_copy_for, bindP]
  refine st_cons ?_
  dsimp only [RS.S.expr, RS.X.meth, RS.X.var, wpEs]
  refine s_get rfl (s_recv (s_recvI S.ia (by decide) S.id rfl) (s_get rfl (s_ownF (f := "Sheet.need_on") rfl ?_)))
  refine gcallX (m := 1) (by decide) (need_on_ok E S p [] _ _ (fun _ => st_cons ?_) fun h => (h hp).elim)
  dsimp only [RS.S.expr, RS.X.meth, RS.X.var, wpEs]
  refine s_get rfl (s_recv (s_recvI S.ia (by decide) S.id rfl) (s_get rfl (s_ownF (f := "Sheet.need_on") rfl ?_)))
  refine gcallX (m := 1) (by decide) (need_on_ok E S q [] _ _ (fun hq => st_cons ?_) fun hq => hX (fun o => hq o.1) σ (Hp.le_refl _))
  obtain ⟨f1, f2, _⟩ := hf p hp
  dsimp only [RS.S.assign, RS.X.bin, RS.X.call, RS.X.idx, RS.X.meth, RS.X.num, RS.X.var, T.var, wpEs]
  refine s_call n1 (s_get rfl (s_recv (s_recvI S.ia (by decide) S.id rfl) (s_get rfl (s_ownF (f := "Sheet.rule") rfl ?_))))
  refine gcall (m := 2) (by decide) (rule_ok E S hp _ ?_)
  refine s_get rfl (s_idxT (v := .int q.1) rfl (s_get rfl (s_idxT (v := .int p.1) rfl (s_sub (s_get rfl (s_idxT (v := .int q.2) rfl (s_get rfl (s_idxT (v := .int p.2) rfl (s_sub ?_)))))))))
  refine gcall (m := (f p).deep + 1) (Nat.succ_le_succ f1) (shifted_ok E _ _ (f p) (Nat.le_trans f1 (by decide)) σ _ fun σ₁ le₁ => st_cons ?_)
  have S1 := S.le le₁
  have hds := Rule.sh_ok (q.1 - p.1) (q.2 - p.2) (f p)
  dsimp only [RS.S.expr, RS.X.meth, RS.X.var, wpEs]
  refine s_get rfl (s_recv (s_recvI S1.ia (by decide) S1.id rfl) (s_get rfl (s_ownF (f := "Sheet.need_rule") rfl ?_)))
  refine gcallX (m := 4) (by decide) (need_rule_ok E S1 (r := shP (f p) p q) (hds.1.symm ▸ Nat.le_trans f1 (by decide)) (hds.2.symm ▸ f2) _ _ (fun o σ₂ le₂ => st_cons ?_) fun o σ₂ le₂ => hX (fun x => o x.2) σ₂ (Hp.le_trans le₁ le₂))
  dsimp only [RS.S.ret, RS.X.var]
  exact s_get rfl (hQ hq o σ₂ (Hp.le_trans le₁ le₂))
theorem copied_ok (E : EnvS W) {a d c h w : Nat} (z : Sz h w) {f : Pl → Rule} {σ : Hp} (S : SheetAt σ a d c h w f) (hf : Fine f h w) {p : Pl} (hp : p ∈ G h w) (q : Pl) (Q : VP) (X : XP)
    (hQ : q ∈ G h w → (shP (f p) p q).On h w → ∀ σ', (∀ b x, b ≠ c → σ b = some x → σ' b = some x) → SheetAt σ' a d c h w (updF f q (shP (f p) p q)) → Q .none σ') (hX : ¬ (q ∈ G h w ∧ (shP (f p) p q).On h w) → ∀ σ', σ.le σ' → X "OffSheet" σ') : callP W 11 "Sheet.copied" [.ref a, pv p, pv q] σ Q X := by
  refine call_ok E.T E.s_copied rfl ?_
  dsimp only [b_Sheet_copied, p_Sheet_copied, bindP]
  refine st_cons ?_
  dsimp only [RS.S.assign, RS.X.attr, RS.X.idx, RS.X.meth, RS.X.num, RS.X.tup, RS.X.var, T.idx, wpEs]
  refine s_get rfl (s_recv (s_recvI S.ia (by decide) S.id rfl) (s_get rfl (s_get rfl (s_ownF (f := "Sheet.copy_for") rfl ?_))))
  refine gcallX (m := 10) (by decide) (copy_for_ok E S hf hp q _ _ (fun hq o σ₁ le₁ => ?_) hX)
  have S1 := S.le le₁
  obtain ⟨ep, ic⟩ := S1.ic
  refine ⟨by decide, s_get rfl (s_attr S1.ia S1.id rfl (s_get rfl (s_idxT (v := .int q.1) rfl (s_get rfl (s_idxT (v := .int q.2) rfl ?_)))))⟩
  exact s_storeD ic (k := pk q) rfl (by unfold lenOk; rw [mapD_length]; exact Nat.le_trans z.len (by decide)) fun ep' => st_nil (hQ hq o _ (fun b x hb hx => (Hp.set_ne _ _ hb).trans (le₁ _ _ hx)) (S1.put ic hq _))
theorem filled_ok (E : EnvS W) {a d c h w : Nat} (z : Sz h w) {f : Pl → Rule} {σ : Hp} (S : SheetAt σ a d c h w f) (hf : Fine f h w) {s : Pl} (hs : s ∈ G h w) (p q : Pl) (Q : VP) (X : XP)
    (hQ : p ∈ G h w → q ∈ G h w → (∀ r ∈ boxOf p.1 p.2 q.1 q.2, (shP (f s) s r).On h w) → ∀ σ', (∀ b x, b ≠ c → σ b = some x → σ' b = some x) → SheetAt σ' a d c h w (fillR f (shP (f s) s) (boxOf p.1 p.2 q.1 q.2)) → Q .none σ')
    (hX : ¬ (p ∈ G h w ∧ q ∈ G h w ∧ ∀ r ∈ boxOf p.1 p.2 q.1 q.2, (shP (f s) s r).On h w) → ∀ σ', σ.le σ' → X "OffSheet" σ') : callP W 11 "Sheet.filled" [.ref a, pv s, pv p, pv q] σ Q X := by
  have n1 : (glb W 10).has "area" = true := E.has (by decide)
  refine call_ok E.T E.s_filled rfl ?_
  dsimp only [b_Sheet_filled, p_Sheet_filled, bindP]
  refine st_cons ?_
  dsimp only [RS.S.expr, RS.X.meth, RS.X.var, wpEs]
  refine s_get rfl (s_recv (s_recvI S.ia (by decide) S.id rfl) (s_get rfl (s_ownF (f := "Sheet.need_on") rfl ?_)))
  refine gcallX (m := 1) (by decide) (need_on_ok E S s [] _ _ (fun _ => st_cons ?_) fun h => (h hs).elim)
  dsimp only [RS.S.expr, RS.X.meth, RS.X.var, wpEs]
  refine s_get rfl (s_recv (s_recvI S.ia (by decide) S.id rfl) (s_get rfl (s_ownF (f := "Sheet.need_on") rfl ?_)))
  refine gcallX (m := 1) (by decide) (need_on_ok E S p [] _ _ (fun hp => st_cons ?_) fun hp => hX (fun o => hp o.1) σ (Hp.le_refl _))
  dsimp only [RS.S.expr, RS.X.meth, RS.X.var, wpEs]
  refine s_get rfl (s_recv (s_recvI S.ia (by decide) S.id rfl) (s_get rfl (s_ownF (f := "Sheet.need_on") rfl ?_)))
  refine gcallX (m := 1) (by decide) (need_on_ok E S q [] _ _ (fun hq => st_cons ?_) fun hq => hX (fun o => hq o.2.1) σ (Hp.le_refl _))
  have bon : ∀ r ∈ boxOf p.1 p.2 q.1 q.2, r ∈ G h w := fun r hr => box_G' hp hq hr
  dsimp only [RS.S.assign, RS.X.call, RS.X.comp, RS.X.meth, RS.X.tup, RS.X.var, Src.of, T.var, wpEs, wpIfs]
  refine s_call n1 (s_get rfl (s_get rfl ?_))
  refine gcall (m := 1) (by decide) (area_ok E p.1 p.2 q.1 q.2 [] [] σ _ (box_dim z hp hq).1 (box_dim z hp hq).2 fun b σ₁ nb le₁ hb => s_srcL hb ?_)
  have hbl := box_n z hp hq
  generalize hbx : boxOf p.1 p.2 q.1 q.2 = bx at *
  refine compL_x pv (fun r => V.tup [pv r, (shP (f s) s r).v]) (fun r => (shP (f s) s r).On h w) (fun σ' le => le _ _ hb) hbl (fun r hr σ₂ le₂ K' hK' => ?_) fun hall σ₂ le₂ => ?_
  · have S2 := S.le (Hp.le_trans le₁ le₂)
    refine s_ifT rfl (s_get (Env.set_same _ _ _) (s_get rfl (s_recv (s_recvI S2.ia (by decide) S2.id rfl) (s_get rfl (s_get (Env.set_same _ _ _) (s_ownF (f := "Sheet.copy_for") rfl ?_))))))
    exact gcallX (m := 10) (by decide) (copy_for_ok E S2 hf hs r _ _ (fun _ o σ₃ le₃ => hK' o σ₃ le₃) fun o σ₃ le₃ => hX (fun x => o ⟨bon r hr, x.2.2 r hr⟩) σ₃ (Hp.le_trans le₁ (Hp.le_trans le₂ le₃)))
  have hQ := hQ hp hq hall
  refine s_newG fun m σ₃ nm le₃ hm => ?_
  have leA := Hp.le_trans le₁ (Hp.le_trans le₂ le₃)
  have S3 := S.le leA
  obtain ⟨epc, hc⟩ := S.ic
  have hmc : m ≠ c := fun e => by
    have := Hp.le_trans le₁ le₂ _ _ hc
    rw [← e, nm] at this; cases this
  refine st_cons ?_
  dsimp only [RS.S.for_, RS.X.var, Src.of]
  refine s_get rfl (s_srcL hm ?_)
  refine forL_data (fun r => V.tup [pv r, (shP (f s) s r).v]) (fun pre ρ σ' => A4 (ρ "self" = some (.ref a)) (σ' m = some (.lst (bx.map fun r => V.tup [pv r, (shP (f s) s r).v]))) (∀ b x, b ≠ c → σ b = some x → σ' b = some x) (SheetAt σ' a d c h w (fillR f (shP (f s) s) pre))) ?_ ?_ ?_ ?_
  · exact ⟨rfl, hm, fun b x _ hx => leA _ _ hx, S3⟩
  · rintro pre ρ σ' ⟨_, hm, _⟩; exact hm
  · rintro pre r post ρ σ' N' hsp ⟨e1, hm, fr, S'⟩ hN
    have e1 := (Env.set_ne ρ (.tup [pv r, (shP (f s) s r).v]) (by decide : "self" ≠ "pair")).trans e1
    have e2 := Env.set_same ρ "pair" (.tup [pv r, (shP (f s) s r).v])
    generalize ρ.set "pair" (.tup [pv r, (shP (f s) s r).v]) = ρ₁ at *
    obtain ⟨ep, ic⟩ := S'.ic
    refine st_cons ?_
    dsimp only [RS.S.assign, RS.X.attr, RS.X.idx, RS.X.num, RS.X.var, T.idx]
    refine s_get e2 (s_idxT (v := (shP (f s) s r).v) rfl ⟨by decide, s_get e1 (s_attr S'.ia S'.id rfl (s_get e2 (s_idxT (v := pv r) rfl ?_)))⟩)
    refine s_storeD ic (k := pk r) rfl (by unfold lenOk; rw [mapD_length]; exact Nat.le_trans z.len (by decide)) fun ep' => st_nil (hN _ _ ⟨e1, (Hp.set_ne _ _ hmc).trans hm, fun b x hb hx => (Hp.set_ne _ _ hb).trans (fr b x hb hx), ?_⟩)
    rw [← fillR_add]
    exact S'.put ic (bon r (mem_mid hsp)) _
  · rintro ρ σ' ⟨_, _, fr, S'⟩
    exact st_nil (hQ σ' fr S')
end


/-! ### what becomes known -/
open Classical in
noncomputable def It (f : Pl → Rule) : Nat → Pl → Option Int
  | 0, _ => none
  | n + 1, p => if ∀ q ∈ (f p).nd, It f n q ≠ none then some ((f p).ev fun q => (It f n q).getD 0) else none
theorem It_some {f : Pl → Rule} {n : Nat} {p : Pl} {v : Pl → Int} (h : ∀ q ∈ (f p).nd, It f n q = some (v q)) : It f (n + 1) p = some ((f p).ev v) := by
  show (if ∀ q ∈ (f p).nd, It f n q ≠ none then some ((f p).ev fun q => (It f n q).getD 0) else none) = _
  rw [if_pos fun q hq => by rw [h q hq]; exact Option.some_ne_none _]
  exact congrArg some (ev_congr _ fun q hq => by rw [h q hq]; rfl)
theorem It_ne {f : Pl → Rule} {n : Nat} {p : Pl} (h : It f (n + 1) p ≠ none) : ∀ q ∈ (f p).nd, It f n q ≠ none := Classical.byContradiction fun hn => h (by
  show (if ∀ q ∈ (f p).nd, It f n q ≠ none then some ((f p).ev fun q => (It f n q).getD 0) else none) = _
  exact if_neg hn)
theorem It_up {f : Pl → Rule} : ∀ {n : Nat} {p : Pl} {x : Int}, It f n p = some x → It f (n + 1) p = some x
  | 0, _, _, h => by cases h
  | n + 1, p, x, h => by
    have hne := It_ne (n := n) (p := p) (by rw [h]; exact Option.some_ne_none _)
    have hv : ∀ q ∈ (f p).nd, It f n q = some ((It f n q).getD 0) := fun q hq => by
      cases e : It f n q with
      | none => exact absurd e (hne q hq)
      | some y => rfl
    rw [← h, It_some hv, It_some (n := n + 1) fun q hq => It_up (hv q hq)]
theorem It_le {f : Pl → Rule} {n m : Nat} {p : Pl} {x : Int} (h : It f n p = some x) (hm : n ≤ m) : It f m p = some x := by
  induction hm with
  | refl => exact h
  | step _ ih => exact It_up ih
open Classical in
noncomputable def DD (f : Pl → Rule) (p : Pl) : Option Int := if h : ∃ n, It f n p ≠ none then It f h.choose p else none
theorem DD_of {f : Pl → Rule} {n : Nat} {p : Pl} {x : Int} (h : It f n p = some x) : DD f p = some x := by
  have hx : ∃ n, It f n p ≠ none := ⟨n, by rw [h]; exact Option.some_ne_none _⟩
  unfold DD
  rw [dif_pos hx]
  cases e : It f hx.choose p with
  | none => exact absurd e hx.choose_spec
  | some y => rw [← It_le e (Nat.le_max_left _ n), It_le h (Nat.le_max_right hx.choose _)]
theorem DD_ex {f : Pl → Rule} {p : Pl} {x : Int} (h : DD f p = some x) : ∃ n, It f n p = some x := by
  unfold DD at h
  by_cases hx : ∃ n, It f n p ≠ none
  · rw [dif_pos hx] at h; exact ⟨_, h⟩
  · rw [dif_neg hx] at h; cases h
theorem DD_ev (f : Pl → Rule) (p : Pl) (v : Pl → Int) (h : ∀ q ∈ (f p).nd, DD f q = some (v q)) : DD f p = some ((f p).ev v) := by
  have : ∀ l : List Pl, (∀ q ∈ l, DD f q = some (v q)) → ∃ n, ∀ q ∈ l, It f n q = some (v q) := by
    intro l
    induction l with
    | nil => exact fun _ => ⟨0, fun _ h => (List.not_mem_nil h).elim⟩
    | cons q l ih =>
      intro hl
      obtain ⟨n, hn⟩ := ih fun q hq => hl q (.tail _ hq)
      obtain ⟨m, hm⟩ := DD_ex (hl q (.head _))
      refine ⟨max n m, fun q' hq' => (List.mem_cons.mp hq').elim (fun e => e ▸ It_le hm (Nat.le_max_right _ _)) fun h => It_le (hn q' h) (Nat.le_max_left _ _)⟩
  obtain ⟨n, hn⟩ := this _ h
  exact DD_of (It_some hn)
theorem DD_stuck {f : Pl → Rule} {p : Pl} (h : DD f p = none) : ∃ q ∈ (f p).nd, DD f q = none := Classical.byContradiction fun hn => by
  have := DD_ev f p (fun q => (DD f q).getD 0) fun q hq => by
    cases e : DD f q with
    | none => exact absurd ⟨q, hq, e⟩ hn
    | some x => rfl
  rw [h] at this; cases this
theorem DD_done {f : Pl → Rule} {h w : Nat} (hf : Fine f h w) {ks : List Pl} (hk : ∀ p ∈ G h w, p ∉ ks → ∃ q, q ∈ (f p).nd ∧ q ∉ ks) : ∀ p ∈ G h w, DD f p ≠ none → p ∈ ks := by
  suffices H : ∀ n p, p ∈ G h w → It f n p ≠ none → p ∈ ks from fun p hp hd => by
    cases e : DD f p with
    | none => exact absurd e hd
    | some x => obtain ⟨n, hn⟩ := DD_ex e; exact H n p hp (by rw [hn]; exact Option.some_ne_none _)
  intro n
  induction n with
  | zero => exact fun p _ h => absurd rfl h
  | succ n ih =>
    intro p hp hn
    refine Classical.byContradiction fun hx => ?_
    obtain ⟨q, h1, h2⟩ := hk p hp hx
    exact h2 (ih q (nd_on (hf p hp).2.2 h1) (It_ne hn q h1))
noncomputable def dv (D : Pl → Option Int) (p : Pl) : V := match D p with
  | some x => .int x
  | none => .none
theorem dv_some {D : Pl → Option Int} {p : Pl} {x : Int} (h : D p = some x) : dv D p = .int x := by unfold dv; rw [h]
theorem dv_none {D : Pl → Option Int} {p : Pl} (h : D p = none) : dv D p = .none := by unfold dv; rw [h]
theorem all_in {ys ks : List Pl} : ((ys.map fun q => decide (q ∈ ks)).all id) = true ↔ ∀ q ∈ ys, q ∈ ks := by
  rw [List.all_eq_true]
  exact ⟨fun h q hq => of_decide_eq_true (h _ (List.mem_map.mpr ⟨q, hq, rfl⟩)), fun h b hb => by obtain ⟨q, hq, rfl⟩ := List.mem_map.mp hb; exact decide_eq_true (h q hq)⟩
/-- the places that are known already -/
structure KnS (ps ks : List Pl) (D : Pl → Option Int) : Prop where
  nd : ks.Nodup
  kn : ∀ p ∈ ks, p ∈ ps ∧ D p ≠ none
theorem KnS.add {ps ks : List Pl} {D : Pl → Option Int} (K : KnS ps ks D) {p : Pl} (h1 : p ∉ ks) (h2 : p ∈ ps) (h3 : D p ≠ none) : KnS ps (ks ++ [p]) D :=
  ⟨nodup_add K.nd h1, fun q hq => (List.mem_append.mp hq).elim (K.kn q) fun e => by rw [List.mem_singleton.mp e]; exact ⟨h2, h3⟩⟩
/-- one round over what is left -/
structure KV2 (f : Pl → Rule) (D : Pl → Option Int) (ps ks0 pre ss ks : List Pl) (mo : Bool) : Prop where
  K : KnS ps ks D
  nd : ss.Nodup
  a1 : ∀ p ∈ ss, p ∈ pre ∧ p ∉ ks
  a2 : ∀ p ∈ pre, p ∈ ks ∨ p ∈ ss
  a3 : ∀ p ∈ ks, p ∈ ks0 ∨ p ∈ pre
  a4 : ∀ p ∈ ks0, p ∈ ks
  le : ss.length + mo.toNat ≤ pre.length
  st : mo = false → ks = ks0 ∧ ∀ p ∈ ss, ∃ q, q ∈ (f p).nd ∧ q ∉ ks0
section
variable {f : Pl → Rule} {D : Pl → Option Int} {ps ks0 pre ss ks : List Pl} {mo : Bool}
theorem KV2.add (H : KV2 f D ps ks0 pre ss ks mo) {p : Pl} (h0 : p ∉ pre) (h1 : p ∉ ks0) (h2 : p ∈ ps) (h3 : D p ≠ none) :
    p ∉ ks ∧ KV2 f D ps ks0 (pre ++ [p]) ss (ks ++ [p]) true := by
  have hk : p ∉ ks := fun h => (H.a3 p h).elim h1 h0
  refine ⟨hk, H.K.add hk h2 h3, H.nd, fun q hq => ⟨List.mem_append_left _ (H.a1 q hq).1, fun h => ?_⟩, fun q hq => ?_, fun q hq => ?_, fun q hq => List.mem_append_left _ (H.a4 q hq), ?_, fun h => by cases h⟩
  · rcases List.mem_append.mp h with h | h
    · exact (H.a1 q hq).2 h
    · rw [List.mem_singleton.mp h] at hq; exact h0 (H.a1 p hq).1
  · exact (List.mem_append.mp hq).elim (fun h => (H.a2 q h).imp (List.mem_append_left _) id) fun h => .inl (List.mem_append_right _ h)
  · exact (List.mem_append.mp hq).elim (fun h => (H.a3 q h).imp id (List.mem_append_left _)) fun h => .inr (List.mem_append_right _ h)
  · rw [List.length_append]; exact Nat.add_le_add_right (Nat.le_trans (Nat.le_add_right _ _) H.le) 1
theorem KV2.skip (H : KV2 f D ps ks0 pre ss ks mo) {p q : Pl} (h0 : p ∉ pre) (h1 : p ∉ ks0) (h3 : q ∈ (f p).nd) (h4 : q ∉ ks) :
    KV2 f D ps ks0 (pre ++ [p]) (ss ++ [p]) ks mo := by
  have hk : p ∉ ks := fun h => (H.a3 p h).elim h1 h0
  refine ⟨H.K, nodup_add H.nd fun h => h0 (H.a1 p h).1, fun q hq => ?_, fun q hq => ?_, fun q hq => (H.a3 q hq).imp id (List.mem_append_left _), H.a4, ?_, fun e => ⟨(H.st e).1, fun r hr => ?_⟩⟩
  · rcases List.mem_append.mp hq with h | h
    · exact ⟨List.mem_append_left _ (H.a1 q h).1, (H.a1 q h).2⟩
    · exact ⟨List.mem_append_right _ h, by rw [List.mem_singleton.mp h]; exact hk⟩
  · exact (List.mem_append.mp hq).elim (fun h => (H.a2 q h).imp id (List.mem_append_left _)) fun h => .inr (List.mem_append_right _ h)
  · rw [List.length_append, List.length_append, Nat.add_right_comm]; exact Nat.add_le_add_right H.le 1
  · rcases List.mem_append.mp hr with h | h
    · exact (H.st e).2 r h
    · rw [List.mem_singleton.mp h]; exact ⟨q, h3, (H.st e).1 ▸ h4⟩
end

section
variable {W : Wd} {k : Nat}
theorem s_inD' {σ : Hp} {B : Bool → Prop} {a ep : Nat} {ks : List Pl} {g : Pl → V} {q : Pl} (ha : σ a = some (.dct (mapD ks g) ep)) (h : B (decide (q ∈ ks))) : inP σ B (pv q) (.ref a) := .dct ha (k := pk q) rfl (by rw [dget_mapD_some]; exact h)
theorem known_ok (E : EnvS W) {a d c h w : Nat} (z : Sz h w) {f : Pl → Rule} (hf : Fine f h w) (σ : Hp) (S : SheetAt σ a d c h w f) (Q : VP)
    (hQ : ∀ (ks : List Pl) (b ep : Nat) σ', σ b = none → σ.le σ' → σ' b = some (.dct (mapD ks (dv (DD f))) ep) → KnS (G h w) ks (DD f) → (∀ p ∈ G h w, DD f p ≠ none → p ∈ ks) → Q (.ref b) σ') : callP W 10 "known_values" [.ref a] σ Q noX := by
  have n1 : (glb W 9).has "needed" = true := E.has (by decide)
  have n2 : (glb W 9).has "told" = true := E.has (by decide)
  have lok : ∀ n, n ≤ 9 → lenOk n := fun n hn => Nat.le_trans hn (by decide)
  refine call_ok E.T E.known_values rfl ?_
  dsimp only [b_known_values, p_known_values, bindP]
  refine st_cons ?_
  dsimp only [RS.S.assign, T.var, X.meth, X.var, wpEs]
  refine s_get rfl (s_recv (s_recvI S.ia (by decide) S.id rfl) (s_ownF (f := "Sheet.places") rfl ?_))
  refine gcall (m := 2) (by decide) (places_ok E z S.ia S.id _ fun lf σ₁ nl le₁ hl => ?_)
  refine st_cons ?_
  dsimp only [RS.S.assign, T.var, X.emptyDict]
  refine s_newG fun kn σ₂ nk le₂ hk => ?_
  have nk' : σ kn = none := Hp.le_none le₁ nk
  refine st_cons ?_
  dsimp only [RS.S.assign, T.var, X.bool]
  refine st_cons ?_
  dsimp only [RS.S.while_, X.var, wpT]
  refine whileL_inv (fun m ρ σ' => Ex5 fun (ls ks : List Pl) (lf ep : Nat) (mo : Bool) => A12 (ρ "sheet" = some (.ref a)) (ρ "left" = some (.ref lf)) (ρ "known" = some (.ref kn)) (ρ "more" = some (.bool mo)) (σ.le σ') (σ' lf = some (.lst (ls.map pv))) (σ' kn = some (.dct (mapD ks (dv (DD f))) ep)) (KnS (G h w) ks (DD f)) (ls.Nodup) (∀ p, p ∈ ls ↔ p ∈ G h w ∧ p ∉ ks) (mo = false → ∀ p ∈ ls, ∃ q, q ∈ (f p).nd ∧ q ∉ ks) (m = ls.length + mo.toNat)) ?_
    ⟨G h w, [], lf, 0, true, rfl, rfl, rfl, rfl, Hp.le_trans le₁ le₂, le₂ _ _ hl, hk, ⟨List.nodup_nil, fun _ h => (List.not_mem_nil h).elim⟩, G_nodup w h, fun p => ⟨fun hp => ⟨hp, List.not_mem_nil⟩, fun hp => hp.1⟩, (fun e => by cases e), rfl⟩
  clear hk hl nl nk le₁ le₂ σ₁ σ₂
  rintro m ρ σ' K ⟨ls, ks, lf, ep, mo, e1, e2, e3, e4, le, hl, hk, H, hnd, hls, hst, hm⟩ hK
  refine s_get e4 (s_truth rfl (s_ifB (fun hmo => ?_) fun hmo => ?_))
  · have hll : ls.length ≤ 9 := Nat.le_trans (nodup_len hnd fun p hp => ((hls p).mp hp).1) z.len
    refine st_cons ?_
    dsimp only [RS.S.assign, T.var, X.bool]
    refine st_cons ?_
    dsimp only [RS.S.assign, T.var, X.lst, wpEs]
    refine s_newG fun st σ₁ ns le₁ hs => ?_
    have ns' : σ st = none := Hp.le_none le ns
    have hsl : lf ≠ st := fun e => by rw [e, ns] at hl; cases hl
    refine st_cons ?_
    dsimp only [RS.S.for_, Src.of, X.var]
    refine s_get ((Env.set_ne _ _ (by decide)).trans ((Env.set_ne _ _ (by decide)).trans e2)) (s_srcL (le₁ _ _ hl) ?_)
    refine forL_data pv (fun pre ρ σ'' => Ex4 fun (ss ks' : List Pl) (ep : Nat) (mo : Bool) => A9 (ρ "sheet" = some (.ref a)) (ρ "still" = some (.ref st)) (ρ "known" = some (.ref kn)) (ρ "more" = some (.bool mo)) (σ.le σ'') (σ'' lf = some (.lst (ls.map pv))) (σ'' st = some (.lst (ss.map pv))) (σ'' kn = some (.dct (mapD ks' (dv (DD f))) ep)) (KV2 f (DD f) (G h w) ks pre ss ks' mo)) ?_ ?_ ?_ ?_
    · exact ⟨[], ks, ep, false, (Env.set_ne _ _ (by decide)).trans ((Env.set_ne _ _ (by decide)).trans e1), Env.set_same _ _ _, (Env.set_ne _ _ (by decide)).trans ((Env.set_ne _ _ (by decide)).trans e3), (Env.set_ne _ _ (by decide)).trans (Env.set_same _ _ _), Hp.le_trans le le₁, le₁ _ _ hl, hs, le₁ _ _ hk,
        H, List.nodup_nil, fun _ h => (List.not_mem_nil h).elim, fun _ h => (List.not_mem_nil h).elim, fun _ h => .inl h, fun _ h => h, Nat.le_refl _, fun _ => ⟨rfl, fun _ h => (List.not_mem_nil h).elim⟩⟩
    · rintro pre ρ σ'' ⟨_, _, _, _, _, _, _, _, _, hl, _⟩; exact hl
    · clear e1 e2 e3 e4 hk hs H
      rintro pre p post ρ σ'' N' hsp ⟨ss, ks', ep, mo', e1, e2, e3, e4, le, hl, hs, hk, H⟩ hN
      have hnp : p ∉ pre := nodup_mid hnd hsp
      obtain ⟨hp, hpk⟩ := (hls p).mp (mem_mid hsp)
      have S' := S.le le
      have hkl : ks'.length ≤ 9 := Nat.le_trans (nodup_len H.K.nd fun p hp => (H.K.kn p hp).1) z.len
      have hsl64 : ss.length ≤ 9 := Nat.le_trans (Nat.le_trans (Nat.le_add_right _ _) H.le) (Nat.le_trans (Nat.le_of_lt (len_lt hsp)) hll)
      refine st_cons ?_
      dsimp only [RS.S.assign, T.var, X.meth, X.var, wpEs]
      refine s_get ((Env.set_ne _ _ (by decide)).trans e1) (s_recv (s_recvI S'.ia (by decide) S'.id rfl) (s_get (Env.set_same _ _ _) (s_ownF (f := "Sheet.rule") rfl ?_)))
      refine gcall (m := 2) (by decide) (rule_ok E S' hp _ ?_)
      have g1 := (Env.set_ne (ρ.set "place" (pv p)) (f p).v (by decide : "sheet" ≠ "rule")).trans ((Env.set_ne _ _ (by decide)).trans e1)
      have g2 := (Env.set_ne (ρ.set "place" (pv p)) (f p).v (by decide : "still" ≠ "rule")).trans ((Env.set_ne _ _ (by decide)).trans e2)
      have g3 := (Env.set_ne (ρ.set "place" (pv p)) (f p).v (by decide : "known" ≠ "rule")).trans ((Env.set_ne _ _ (by decide)).trans e3)
      have g4 := (Env.set_ne (ρ.set "place" (pv p)) (f p).v (by decide : "more" ≠ "rule")).trans ((Env.set_ne _ _ (by decide)).trans e4)
      have g5 := (Env.set_ne (ρ.set "place" (pv p)) (f p).v (by decide : "place" ≠ "rule")).trans (Env.set_same _ _ _)
      have g6 := Env.set_same (ρ.set "place" (pv p)) "rule" (f p).v
      generalize (ρ.set "place" (pv p)).set "rule" (f p).v = ρ₁ at *
      refine st_cons ?_
      dsimp only [RS.S.ite, Src.of, X.bi, X.call, X.cmp, X.comp, X.var, wpEs, wpIfs, wpT]
      refine s_call n1 (s_get g6 ?_)
      obtain ⟨f1, f2, f3⟩ := hf p hp
      refine gcall (m := 3) (by decide) (needed_ok E z (Nat.le_trans f1 (by decide)) f2 f3 σ'' _ fun ys l σ₃ nl₃ le₃ hl₃ hyn hym => s_srcL hl₃ ?_)
      have hk3 := le₃ _ _ hk
      refine compL_lt pv (fun q => .bool (decide (q ∈ ks'))) (fun σ' l => l _ _ hl₃) (lok _ (Nat.le_trans (nodup_len hyn fun q hq => nd_on f3 ((hym q).mp hq)) z.len)) (fun q hq σ₄ le₄ K' hK' => ?_) fun σ₄ le₄ => ?_
      · exact s_ifT rfl (s_get (Env.set_same _ _ _) (s_get ((Env.set_ne _ _ (by decide)).trans g3) (.isIn (s_inD' (le₄ _ _ hk3) (hK' _ (Hp.le_refl _))))))
      refine s_newG fun bl σ₅ nbl le₅ hbl => ?_
      have eb : ys.map (fun q => V.bool (decide (q ∈ ks'))) = (ys.map fun q => decide (q ∈ ks')).map V.bool := by rw [List.map_map]; rfl
      rw [eb] at hbl
      have leA := Hp.le_trans le₃ (Hp.le_trans le₄ le₅)
      have hk5 := leA _ _ hk
      have hs5 := leA _ _ hs
      have hl5 := leA _ _ hl
      have hks : st ≠ kn := fun e => by rw [e, hk] at hs; cases hs
      have hkl' : lf ≠ kn := fun e => by rw [e, hk] at hl; cases hl
      refine s_all hbl (s_truth rfl (s_ifB (fun hall => ?_) fun hall => ?_))
      · have hin := fun q hq => all_in.mp hall q ((hym q).mpr hq)
        have hdq : ∀ q ∈ (f p).nd, DD f q = some ((DD f q).getD 0) := fun q hq => by
          cases e : DD f q with
          | none => exact absurd e (H.K.kn q (hin q hq)).2
          | some x => rfl
        have hdp := DD_ev f p (fun q => (DD f q).getD 0) hdq
        obtain ⟨hpk', H'⟩ := H.add hnp hpk hp (by rw [hdp]; exact Option.some_ne_none _)
        refine st_cons ?_
        dsimp only [RS.S.assign, T.idx, X.call, X.var, wpEs]
        refine s_call n2 (s_get g6 (s_get g3 ?_))
        refine gcall (Nat.succ_le_succ f1) (told_ok E z (v := fun q => (DD f q).getD 0) (f p) f3 (fun q hq => ?_) σ₅ _ hk5 fun σ₆ le₆ => ?_)
        · rw [dget_mapD (hin q hq), dv_some (hdq q hq)]
        rw [← dv_some hdp]
        refine s_get g3 (s_get g5 (s_storeD (le₆ _ _ hk5) (k := pk p) rfl (lok _ (by rw [mapD_length]; exact hkl)) fun ep' => ?_))
        rw [dput_mapD_not hpk', updF_id]
        refine st_cons ?_
        dsimp only [RS.S.assign, T.var, X.bool]
        exact st_nil (st_nil (hN _ _ ⟨ss, ks' ++ [p], ep', true, (Env.set_ne _ _ (by decide)).trans g1, (Env.set_ne _ _ (by decide)).trans g2, (Env.set_ne _ _ (by decide)).trans g3, Env.set_same _ _ _, Hp.le_upd _ (Hp.le_trans le (Hp.le_trans leA le₆)) nk', (Hp.set_ne _ _ hkl').trans (le₆ _ _ hl5), (Hp.set_ne _ _ hks).trans (le₆ _ _ hs5), Hp.set_same _ _ _, H'⟩))
      · obtain ⟨q, hq, hqk⟩ : ∃ q, q ∈ (f p).nd ∧ q ∉ ks' := Classical.byContradiction fun hn => by
          rw [all_in.mpr fun q hq => Classical.byContradiction fun h => hn ⟨q, (hym q).mp hq, h⟩] at hall; cases hall
        refine st_cons ?_
        dsimp only [RS.S.expr, X.meth, X.var, wpEs]
        refine s_get g2 (s_recv (s_recvL hs5 (.inl rfl)) (s_get g5 (s_appendG hs5 (lok _ (by rw [List.length_map]; exact hsl64)) fun σ₆ but hs6 => st_nil (st_nil ?_))))
        exact hN _ _ ⟨ss ++ [p], ks', ep, mo', g1, g2, g3, g4, Hp.le_but (Hp.le_trans le leA) ns' but, (but lf hsl).trans hl5, by rw [hs6, List.map_append]; rfl, (but kn hks.symm).trans hk5, H.skip hnp hpk hq hqk⟩
    · clear e1 e2 e3 e4 hk hs H
      rintro ρ σ'' ⟨ss, ks', ep, mo', e1, e2, e3, e4, le, _, hs, hk, H⟩
      refine st_cons ?_
      dsimp only [RS.S.assign, T.var, X.var]
      refine s_get e2 (st_nil (hK _ _ _ ?_ ⟨ss, ks', st, ep, mo', (Env.set_ne _ _ (by decide)).trans e1, Env.set_same _ _ _, (Env.set_ne _ _ (by decide)).trans e3, (Env.set_ne _ _ (by decide)).trans e4, le, hs, hk, H.K, H.nd, fun p => ⟨fun hp => ?_, fun hp => ?_⟩, fun e p hp => ?_, rfl⟩))
      · rw [hm, hmo]; exact Nat.lt_succ_of_le H.le
      · obtain ⟨h1, h2⟩ := H.a1 p hp
        exact ⟨((hls p).mp h1).1, h2⟩
      · exact (H.a2 p ((hls p).mpr ⟨hp.1, fun h => hp.2 (H.a4 p h)⟩)).resolve_left hp.2
      · rw [(H.st e).1]; exact (H.st e).2 p hp
  · refine st_cons ?_
    dsimp only [RS.S.ret, X.var]
    refine s_get e3 (hQ ks kn ep σ' nk' le hk H (DD_done hf fun p hp hn => hst hmo p ((hls p).mpr ⟨hp, hn⟩)))

/-! ### a table of values -/
theorem get_dv {ps ks : List Pl} {D : Pl → Option Int} (K : KnS ps ks D) (hK : ∀ p ∈ ps, D p ≠ none → p ∈ ks) {p : Pl} (hp : p ∈ ps) : (dget (mapD ks (dv D)) (pk p)).getD .none = dv D p := by
  by_cases h : p ∈ ks
  · rw [dget_mapD h]; rfl
  · have := dget_mapD_some (g := dv D) (p := p) (ps := ks)
    rw [decide_eq_false h] at this
    have hn : dget (mapD ks (dv D)) (pk p) = none := Option.not_isSome_iff_eq_none.mp (by rw [this]; exact Bool.false_ne_true)
    rw [hn]
    exact (dv_none (Classical.byContradiction fun e => h (hK p hp e))).symm
noncomputable def rowV (w : Nat) (D : Pl → Option Int) (i : Nat) : List V := (List.range w).map fun (j : Nat) => dv D ((i : Int), (j : Int))
/-- rows, each a list of its own -/
structure TabAt (σ : Hp) (b : Nat) (as : List Nat) (rows : List (List V)) : Prop where
  hb : σ b = some (.lst (as.map .ref))
  ln : as.length = rows.length
  row : ∀ i (h : i < as.length) (h' : i < rows.length), as[i] ≠ b ∧ σ as[i] = some (.lst rows[i])
theorem TabAt.le {σ σ' : Hp} {b : Nat} {as : List Nat} {rows : List (List V)} (t : TabAt σ b as rows) (l : σ.le σ') : TabAt σ' b as rows :=
  ⟨l _ _ t.hb, t.ln, fun i h h' => ⟨(t.row i h h').1, l _ _ (t.row i h h').2⟩⟩
/-- a row more -/
theorem TabAt.add {σ σ' : Hp} {b a : Nat} {as : List Nat} {rows : List (List V)} {r : List V} (t : TabAt σ b as rows) (ha : σ a = some (.lst r)) (hab : a ≠ b) (but : Hp.but b σ σ') (hb : σ' b = some (.lst (as.map .ref ++ [.ref a]))) : TabAt σ' b (as ++ [a]) (rows ++ [r]) where
  hb := by rw [hb, List.map_append]; rfl
  ln := by rw [List.length_append, List.length_append, t.ln]; rfl
  row := fun i h h' => by
    by_cases e : i < as.length
    · rw [List.getElem_append_left e, List.getElem_append_left (t.ln ▸ e)]
      obtain ⟨h1, h2⟩ := t.row i e (t.ln ▸ e)
      exact ⟨h1, (but _ h1).trans h2⟩
    · have hi : i = as.length := Nat.le_antisymm (Nat.le_of_lt_succ (by rw [List.length_append] at h; exact h)) (Nat.not_lt.mp e)
      subst hi
      have hrl := t.ln
      rw [List.getElem_append_right (Nat.le_refl _), List.getElem_append_right (Nat.le_of_eq hrl.symm)]
      simp only [Nat.sub_self, List.getElem_singleton]
      exact ⟨hab, (but a hab).trans ha⟩
theorem reckoned_ok (E : EnvS W) {a d c h w : Nat} (z : Sz h w) {f : Pl → Rule} (hf : Fine f h w) (σ : Hp) (S : SheetAt σ a d c h w f) (Q : VP)
    (hQ : ∀ (b : Nat) (as : List Nat) σ', σ.le σ' → TabAt σ' b as ((List.range h).map (rowV w (DD f))) → Q (.ref b) σ') : callP W 11 "reckoned" [.ref a] σ Q noX := by
  have n2 : (glb W 10).has "known_values" = true := E.has (by decide)
  have lok : ∀ {n : Nat}, n ≤ 3 → lenOk ((n : Int) - 0).toNat := fun {n} hn => by rw [Int.sub_zero, Int.toNat_natCast]; exact Nat.le_trans hn (by decide)
  refine call_ok E.T E.reckoned rfl ?_
  dsimp only [b_reckoned, p_reckoned, bindP]
  refine st_cons ?_
  dsimp only [RS.S.assign, T.var, X.call, X.var, wpEs]
  refine s_call n2 (s_get rfl ?_)
  refine gcall (m := 10) (by decide) (known_ok E z hf σ S _ fun ks kn ep σ₁ nkn le₁ hk K hK => ?_)
  have S1 := S.le le₁
  refine st_cons ?_
  dsimp only [RS.S.assign, T.var, X.lst, wpEs]
  refine s_newG fun fo σ₂ nfo le₂ hfo => ?_
  have S2 := S1.le le₂
  refine st_cons ?_
  dsimp only [RS.S.for_, Src.range1, X.attr, X.var]
  refine ⟨by decide, s_get rfl (s_attr S2.ia S2.id rfl (s_range (lok z.h1) ?_))⟩
  refine forL_range (fun i ρ σ' => A5 (ρ "sheet" = some (.ref a)) (ρ "known" = some (.ref kn)) (ρ "found" = some (.ref fo)) (σ₁.le σ') (∃ as, TabAt σ' fo as ((List.range i).map (rowV w (DD f))))) ?_ (fun _ => trivial) ?_ ?_
  · exact ⟨rfl, rfl, rfl, le₂, [], hfo, rfl, fun i h => (Nat.not_lt_zero _ h).elim⟩
  · rintro i ρ σ' N' hi ⟨e1, e2, e3, le, as, t⟩ hN
    rw [Int.zero_add] at hi
    have hi : i < h := Int.ofNat_lt.mp hi
    have f1 := (Env.set_ne ρ (.int (0 + i)) (by decide : "sheet" ≠ "row")).trans e1
    have f2 := (Env.set_ne ρ (.int (0 + i)) (by decide : "known" ≠ "row")).trans e2
    have f3 := (Env.set_ne ρ (.int (0 + i)) (by decide : "found" ≠ "row")).trans e3
    have f4 : (ρ.set "row" (.int (0 + i))) "row" = some (.int i) := by rw [Env.set_same, Int.zero_add]
    generalize ρ.set "row" (.int (0 + i)) = ρ₁ at *
    have S' := S1.le le
    refine st_cons ?_
    dsimp only [RS.S.expr, Src.range1, X.attr, X.comp, X.meth, X.tup, X.var, wpEs, wpIfs]
    refine s_get f3 (s_recv (s_recvL t.hb (.inl rfl)) ⟨by decide, s_get f1 (s_attr S'.ia S'.id rfl (s_range (lok z.w1) ?_))⟩)
    unfold rangeL
    rw [Int.sub_zero, Int.toNat_natCast]
    refine compL_lt (fun (j : Nat) => V.int (0 + j)) (fun (j : Nat) => dv (DD f) ((i : Int), (j : Int))) (fun _ _ => trivial) (by unfold lenOk; rw [List.length_range]; exact Nat.le_trans z.w1 (by decide)) (fun j hj σ₃ le₃ K' hK' => ?_) fun σ₃ le₃ => ?_
    · rw [Int.zero_add]
      have hk3 := le₃ _ _ (le _ _ hk)
      have hp : ((i : Int), (j : Int)) ∈ G h w := mem_G.mpr ⟨Int.natCast_nonneg _, Int.ofNat_lt.mpr hi, Int.natCast_nonneg _, Int.ofNat_lt.mpr (List.mem_range.mp hj)⟩
      refine s_ifT rfl (s_get ((Env.set_ne _ _ (by decide)).trans f2) (s_recv (.get hk3) (s_get ((Env.set_ne _ _ (by decide)).trans f4) (s_get (Env.set_same _ _ _) (.get hk3 (k := pk ((i : Int), (j : Int))) rfl ?_)))))
      rw [get_dv K hK hp]
      exact hK' _ (Hp.le_refl _)
    refine s_newG fun ra σ₄ nra le₄ hra => ?_
    have t4 := t.le (Hp.le_trans le₃ le₄)
    have hfr : ra ≠ fo := fun e => by rw [e, le₃ _ _ t.hb] at nra; cases nra
    refine s_appendG t4.hb (by unfold lenOk; rw [List.length_map, t.ln, List.length_map, List.length_range]; exact Nat.le_trans (Nat.le_of_lt hi) (Nat.le_trans z.h1 (by decide))) fun σ₅ but hb5 => st_nil ?_
    refine hN _ _ ⟨f1, f2, f3, Hp.le_but (Hp.le_trans le (Hp.le_trans le₃ le₄)) nfo but, as ++ [ra], ?_⟩
    rw [List.range_succ, List.map_append]
    exact t4.add hra hfr but hb5
  · rintro ρ σ' ⟨_, _, e3, le, as, t⟩
    rw [Int.sub_zero, Int.toNat_natCast] at t
    refine st_cons ?_
    dsimp only [RS.S.ret, X.var]
    exact s_get e3 (hQ fo as σ' (Hp.le_trans le₁ le) t)
/-- the value of a place in the table -/
theorem tab_at {σ : Hp} {b h w : Nat} {as : List Nat} {D : Pl → Option Int} (t : TabAt σ b as ((List.range h).map (rowV w D))) {p : Pl} (hp : p ∈ G h w) :
    ∃ ra r, pyGet (as.map V.ref) p.1 = some (.ref ra) ∧ σ ra = some (.lst r) ∧ pyGet r p.2 = some (dv D p) := by
  obtain ⟨p1, p2⟩ := p
  obtain ⟨h1, h2, h3, h4⟩ := mem_G.mp hp
  obtain ⟨i, rfl⟩ := Int.eq_ofNat_of_zero_le h1
  obtain ⟨j, rfl⟩ := Int.eq_ofNat_of_zero_le h3
  have hih : i < h := Int.ofNat_lt.mp h2
  have hjw : j < w := Int.ofNat_lt.mp h4
  have hl : as.length = h := by rw [t.ln, List.length_map, List.length_range]
  have hia : i < as.length := hl ▸ hih
  refine ⟨as[i], _, ?_, (t.row i hia (t.ln ▸ hia)).2, ?_⟩
  · rw [get_nat (by rw [List.length_map]; exact hia), List.getElem_map]
  · rw [List.getElem_map, List.getElem_range]
    unfold rowV
    rw [get_nat (by rw [List.length_map, List.length_range]; exact hjw), List.getElem_map, List.getElem_range]
end


/-! ### a ring -/
noncomputable def Chain (f : Pl → Rule) (ws : List Pl) : Prop := ∀ i (h : i + 1 < ws.length), ws[i + 1] ∈ (f (ws[i]'(Nat.lt_of_succ_lt h))).nd
structure Cyc (f : Pl → Rule) (ps c : List Pl) : Prop where
  nd : c.Nodup
  on : ∀ p ∈ c, p ∈ ps
  ch : Chain f c
  lp : ∃ (l q : Pl) (c' : List Pl), c = c' ++ [l] ∧ c[0]? = some q ∧ q ∈ (f l).nd
theorem chain_add {f : Pl → Rule} {ws : List Pl} {l q : Pl} (h : Chain f (ws ++ [l])) (hq : q ∈ (f l).nd) : Chain f (ws ++ [l] ++ [q]) := by
  intro i hi
  by_cases e : i + 1 < (ws ++ [l]).length
  · rw [List.getElem_append_left (Nat.lt_of_succ_lt e), List.getElem_append_left e]; exact h i e
  · have hi' : i = ws.length := by
      rw [List.length_append] at hi
      rw [List.length_append] at hi e
      exact Nat.le_antisymm (Nat.le_of_lt_succ (Nat.lt_of_succ_lt_succ hi)) (Nat.le_of_succ_le_succ (Nat.not_lt.mp e))
    subst hi'
    simp only [List.getElem_append_right (Nat.le_refl _), List.append_assoc, List.getElem_append_right (Nat.le_add_right _ _)]
    simpa using hq
theorem cyc_of {f : Pl → Rule} {ps ws : List Pl} {l q : Pl} {j : Nat} (h : Chain f (ws ++ [l])) (hn : (ws ++ [l]).Nodup) (hp : ∀ p ∈ ws ++ [l], p ∈ ps) (hq : q ∈ (f l).nd) (hj : (ws ++ [l])[j]? = some q) : Cyc f ps ((ws ++ [l]).drop j) := by
  obtain ⟨hjl, hjq⟩ := List.getElem?_eq_some_iff.mp hj
  refine ⟨hn.sublist (List.drop_sublist _ _), fun p hp' => hp p (List.mem_of_mem_drop hp'), fun i hi => ?_, l, q, ws.drop j, ?_, ?_, hq⟩
  · rw [List.getElem_drop, List.getElem_drop]
    exact h (j + i) (by rw [List.length_drop] at hi; rw [Nat.add_assoc]; exact Nat.add_lt_of_lt_sub' hi)
  · rw [List.length_append] at hjl
    exact List.drop_append_of_le_length (Nat.le_of_lt_succ hjl)
  · rw [List.getElem?_drop, Nat.add_zero]; exact hj
theorem find_pd {q : Pl} {ws : List Pl} (h : q ∈ ws) : ∃ j, (ws.map pd).findIdx? (fun e => PyData.eqv e (pd q)) = some j ∧ ws[j]? = some q := by
  cases e : (ws.map pd).findIdx? (fun e => PyData.eqv e (pd q)) with
  | none =>
    have := List.findIdx?_eq_none_iff.mp e (pd q) (List.mem_map.mpr ⟨q, h, rfl⟩)
    rw [eqv_pd, decide_eq_true rfl] at this; cases this
  | some j =>
    obtain ⟨hj, h1, _⟩ := List.findIdx?_eq_some_iff_getElem.mp e
    refine ⟨j, rfl, ?_⟩
    rw [List.length_map] at hj
    rw [List.getElem_map, eqv_pd, decide_eq_true_eq] at h1
    rw [List.getElem?_eq_getElem hj, h1]
theorem slice_from {α : Type} (vs : List α) {j : Nat} (h : j ≤ vs.length) : pySlice vs (some j) none = vs.drop j := by
  show List.drop (clip vs.length (j : Int)) (List.take vs.length vs) = _
  unfold clip
  rw [if_pos (Int.natCast_nonneg _), List.take_length, Int.toNat_natCast, Nat.min_eq_left h]

section
variable {W : Wd} {k : Nat}
theorem ring_ok (E : EnvS W) {a d c h w : Nat} (z : Sz h w) {f : Pl → Rule} (hf : Fine f h w) (σ : Hp) (S : SheetAt σ a d c h w f) (Q : VP)
    (hQ1 : (∀ p ∈ G h w, DD f p ≠ none) → ∀ σ', σ.le σ' → Q .none σ')
    (hQ2 : (¬ ∀ p ∈ G h w, DD f p ≠ none) → ∀ (cs : List Pl) (b : Nat) σ', σ.le σ' → σ' b = some (.lst (cs.map pv)) → Cyc f (G h w) cs → Q (.ref b) σ') : callP W 11 "ring" [.ref a] σ Q noX := by
  have n1 : (glb W 10).has "needed" = true := E.has (by decide)
  have n2 : (glb W 10).has "known_values" = true := E.has (by decide)
  have lok : ∀ n, n ≤ 9 → lenOk n := fun n hn => Nat.le_trans hn (by decide)
  refine call_ok E.T E.ring rfl ?_
  dsimp only [b_ring, p_ring, bindP]
  refine st_cons ?_
  dsimp only [RS.S.assign, T.var, X.call, X.var, wpEs]
  refine s_call n2 (s_get rfl ?_)
  refine gcall (m := 10) (by decide) (known_ok E z hf σ S _ fun ks kn ep σ₁ nkn le₁ hk K hK => ?_)
  have hD : ∀ p ∈ G h w, p ∉ ks → DD f p = none := fun p hp hn => Classical.byContradiction fun e => hn (hK p hp e)
  have S1 := S.le le₁
  refine st_cons ?_
  dsimp only [RS.S.assign, Src.of, T.var, X.cmp, X.comp, X.meth, X.var, wpEs, wpIfs]
  refine s_get rfl (s_recv (s_recvI S1.ia (by decide) S1.id rfl) (s_ownF (f := "Sheet.places") rfl ?_))
  refine gcall (m := 2) (by decide) (places_ok E z S1.ia S1.id _ fun b σ₂ nb le₂ hb => s_srcL hb ?_)
  refine compL_fl pv pv (fun p => !decide (p ∈ ks)) (fun σ'' l => l _ _ hb) (lok _ z.len) ?_ ?_
  · intro x hx σ₃ le₃ K' hK'
    have := hK' σ₃ (Hp.le_refl _)
    refine s_get (Env.set_same _ _ _) (s_get rfl (.notIn (s_inD' (le₃ _ _ (le₂ _ _ hk)) (s_truth rfl ?_))))
    refine s_ifB (fun e => s_ifT rfl (s_get (Env.set_same _ _ _) ?_)) (fun e => s_ifF Bool.false_ne_true ?_)
    · rw [e] at this; exact this
    · rw [e] at this; exact this
  intro σ₃ le₃
  refine s_newG fun lf σ₄ nlf le₄ hlf => ?_
  refine st_cons ?_
  dsimp only [RS.S.ite, X.cmp, X.lst, X.var, wpEs, wpT]
  refine s_get rfl (s_newG fun z₁ σ₅ nz le₅ hz => s_eqL0 (le₅ _ _ hlf) hz (snap_pvs σ₅ 48 _) (s_truth rfl ?_))
  have le15 : σ₁.le σ₅ := Hp.le_trans le₂ (Hp.le_trans le₃ (Hp.le_trans le₄ le₅))
  have leA := Hp.le_trans le₁ le15
  have hk5 := le15 _ _ hk
  have hlf5 := le₅ _ _ hlf
  have hmem : ∀ p, p ∈ (G h w).filter (fun p => !decide (p ∈ ks)) ↔ p ∈ G h w ∧ p ∉ ks := fun p => by
    rw [List.mem_filter, Bool.not_eq_true', decide_eq_false_iff_not]
  generalize (G h w).filter (fun p => !decide (p ∈ ks)) = ls at *
  cases ls with
  | nil =>
    refine s_ifT rfl (st_cons ?_)
    dsimp only [RS.S.ret, X.none]
    exact hQ1 (fun p hp => (K.kn p (Classical.byContradiction fun hn => List.not_mem_nil ((hmem p).mpr ⟨hp, hn⟩))).2) σ₅ leA
  | cons p₀ ls =>
    refine s_ifF Bool.false_ne_true (st_nil ?_)
    obtain ⟨hp₀, hn₀⟩ := (hmem p₀).mp (.head _)
    have hQ2 := hQ2 fun hall => hall p₀ hp₀ (hD p₀ hp₀ hn₀)
    refine st_cons ?_
    dsimp only [RS.S.assign, T.var, X.idx, X.lst, X.num, X.var, wpEs]
    refine s_get rfl (s_idxL hlf5 rfl (s_newG fun wy σ₆ nwy le₆ hwy => ?_))
    refine st_cons ?_
    dsimp only [RS.S.while_, X.bool, wpT]
    refine whileL_inv (fun m ρ σ' => Ex2 fun (ws : List Pl) (l : Pl) => A9 (ρ "sheet" = some (.ref a)) (ρ "known" = some (.ref kn)) (ρ "way" = some (.ref wy)) (σ₅.le σ') (σ' wy = some (.lst ((ws ++ [l]).map pv))) (Chain f (ws ++ [l])) ((ws ++ [l]).Nodup) (∀ p ∈ ws ++ [l], p ∈ G h w ∧ DD f p = none) (m + (ws ++ [l]).length = 9)) ?_ (m := 8)
      ⟨[], p₀, rfl, rfl, rfl, le₆, hwy, fun i hi => (Nat.not_succ_le_zero _ (Nat.le_of_succ_le_succ hi)).elim, List.nodup_cons.mpr ⟨List.not_mem_nil, List.nodup_nil⟩, fun p hp => by rw [List.mem_singleton.mp hp]; exact ⟨hp₀, hD p₀ hp₀ hn₀⟩, rfl⟩
    rintro m ρ σ' K' ⟨ws, l, e1, e2, e3, le, hwy, hch, hnd, hon, hm⟩ hK'
    refine s_truth rfl (s_ifT rfl ?_)
    obtain ⟨hl, hlk⟩ := hon l (List.mem_append_right _ (.head _))
    have hwl : (ws ++ [l]).length ≤ 9 := hm ▸ Nat.le_add_left _ _
    obtain ⟨f1, f2, f3⟩ := hf l hl
    have S' := S.le (Hp.le_trans leA le)
    have gl : pyGet ((ws ++ [l]).map pv) (-1) = some (pv l) := by rw [List.map_append]; exact get_last _ _
    refine st_cons ?_
    dsimp only [RS.S.assign, Src.of, T.var, X.call, X.cmp, X.comp, X.idx, X.meth, X.neg, X.num, X.var, wpEs, wpIfs]
    refine s_call n1 (s_get e1 (s_recv (s_recvI S'.ia (by decide) S'.id rfl) (s_get e3 (s_neg (s_idxL hwy gl (s_ownF (f := "Sheet.rule") rfl ?_))))))
    refine gcall (m := 2) (by decide) (rule_ok E S' hl _ ?_)
    refine gcall (m := 3) (by decide) (needed_ok E z (Nat.le_trans f1 (by decide)) f2 f3 σ' _ fun ys b₂ σ₇ nb₂ le₇ hb₂ hyn hym => s_srcL hb₂ ?_)
    have hk7 := le₇ _ _ (le _ _ hk5)
    refine compL_fl pv pv (fun p => !decide (p ∈ ks)) (fun σ'' l => l _ _ hb₂) (lok _ (Nat.le_trans (nodup_len hyn fun q hq => nd_on f3 ((hym q).mp hq)) z.len)) ?_ ?_
    · intro x hx σ₈ le₈ K₂ hK₂
      have := hK₂ σ₈ (Hp.le_refl _)
      refine s_get (Env.set_same _ _ _) (s_get ((Env.set_ne _ _ (by decide)).trans e2) (.notIn (s_inD' (le₈ _ _ hk7) (s_truth rfl ?_))))
      refine s_ifB (fun e => s_ifT rfl (s_get (Env.set_same _ _ _) ?_)) (fun e => s_ifF Bool.false_ne_true ?_)
      · rw [e] at this; exact this
      · rw [e] at this; exact this
    intro σ₈ le₈
    refine s_newG fun b₃ σ₉ nb₃ le₉ hb₃ => ?_
    have le₉ := Hp.le_trans le₈ le₉
    have hmem₂ : ∀ p, p ∈ ys.filter (fun p => !decide (p ∈ ks)) ↔ p ∈ ys ∧ p ∉ ks := fun p => by
      rw [List.mem_filter, Bool.not_eq_true', decide_eq_false_iff_not]
    obtain ⟨q, hq, hqD, hqk, hg0⟩ : ∃ q, q ∈ (f l).nd ∧ DD f q = none ∧ q ∉ ks ∧ pyGet ((ys.filter (fun p => !decide (p ∈ ks))).map pv) 0 = some (pv q) := by
      generalize ys.filter (fun p => !decide (p ∈ ks)) = zs at *
      cases zs with
      | nil =>
        obtain ⟨q, hq, hqD⟩ := DD_stuck hlk
        exact (List.not_mem_nil ((hmem₂ q).mpr ⟨(hym q).mpr hq, fun e => (K.kn q e).2 hqD⟩)).elim
      | cons q zs =>
        obtain ⟨hq, hqk⟩ := (hmem₂ q).mp (.head _)
        have hq := (hym q).mp hq
        exact ⟨q, hq, hD q (nd_on f3 hq) hqk, hqk, rfl⟩
    refine s_idxL hb₃ hg0 ?_
    have leB := Hp.le_trans le₇ le₉
    have hwy9 := leB _ _ hwy
    have g1 := (Env.set_ne ρ (pv q) (by decide : "sheet" ≠ "place")).trans e1
    have g2 := (Env.set_ne ρ (pv q) (by decide : "known" ≠ "place")).trans e2
    have g3 := (Env.set_ne ρ (pv q) (by decide : "way" ≠ "place")).trans e3
    have g4 := Env.set_same ρ "place" (pv q)
    generalize ρ.set "place" (pv q) = ρ₁ at *
    refine st_cons ?_
    dsimp only [RS.S.ite, X.cmp, X.var, wpT]
    refine s_get g4 (s_get g3 (.isIn (inP_pvs hwy9 (s_truth rfl ?_))))
    by_cases hqw : q ∈ ws ++ [l]
    · refine s_ifT (decide_eq_true hqw) (st_cons ?_)
      dsimp only [RS.S.ret, X.meth, X.none, X.slice, X.var, wpEs]
      obtain ⟨j, hj1, hj2⟩ := find_pd hqw
      have hjl := (List.getElem?_eq_some_iff.mp hj2).1
      refine s_get g3 (s_get g3 (s_recv (.index hwy9) (s_get g4 (.index hwy9 (snap_pv σ₉ 39 q) (snap_pvs σ₉ 39 _) hj1 (s_sliceL hwy9 rfl rfl fun b₄ nb₄ => ?_)))))
      rw [slice_from _ (by rw [List.length_map]; exact Nat.le_of_lt hjl), ← List.map_drop]
      exact hQ2 _ b₄ _ (Hp.le_trans (Hp.le_trans leA (Hp.le_trans le leB)) (Hp.le_set _ nb₄)) (Hp.set_same _ _ _) (cyc_of hch hnd (fun p hp => (hon p hp).1) hq hj2)
    · refine s_ifF (fun e => hqw (of_decide_eq_true e)) (st_nil (st_cons ?_))
      dsimp only [RS.S.expr, X.meth, X.var, wpEs]
      refine s_get g3 (s_recv (s_recvL hwy9 (.inl rfl)) (s_get g4 (s_appendG hwy9 (lok _ (by rw [List.length_map]; exact hwl)) fun σ₁₀ but hwy10 => st_nil ?_)))
      have hnd' := nodup_add hnd hqw
      have hon' : ∀ p ∈ ws ++ [l] ++ [q], p ∈ G h w ∧ DD f p = none := fun p hp => by
        rcases List.mem_append.mp hp with hp | hp
        · exact hon p hp
        · rw [List.mem_singleton.mp hp]; exact ⟨nd_on f3 hq, hqD⟩
      have hl2 := Nat.le_trans (nodup_len hnd' fun p hp => (hon' p hp).1) z.len
      rw [List.length_append (as := ws ++ [l]), List.length_singleton] at hl2
      cases m with
      | zero => rw [Nat.zero_add] at hm; exact absurd (hm ▸ hl2) (by decide)
      | succ m =>
        exact hK' m _ _ (Nat.lt_succ_self _) ⟨ws ++ [l], q, g1, g2, g3, Hp.le_but (Hp.le_trans le leB) nwy but, by rw [hwy10, List.map_append (l₁ := ws ++ [l])]; rfl, chain_add hch hq, hnd', hon', by rw [List.length_append (as := ws ++ [l]), List.length_singleton, Nat.add_comm _ 1, ← Nat.add_assoc]; exact hm⟩
end

/-! ### what hangs on a place -/
inductive Reach (f : Pl → Rule) (ps : List Pl) (s : Pl) : Pl → Prop
  | start : Reach f ps s s
  | step {p q : Pl} : Reach f ps s q → p ∈ ps → q ∈ (f p).nd → Reach f ps s p
structure Hang (f : Pl → Rule) (ps : List Pl) (s : Pl) (ws fs : List Pl) : Prop where
  nd : fs.Nodup
  on : ∀ p ∈ fs, p ∈ ps ∧ Reach f ps s p
  sub : ∀ p ∈ ws, p ∈ fs
  st : s ∈ fs
  cl : ∀ q ∈ fs, q ∉ ws → ∀ p ∈ ps, q ∈ (f p).nd → p ∈ fs
structure Hang2 (f : Pl → Rule) (ps : List Pl) (s here : Pl) (ws fs pre : List Pl) : Prop where
  nd : fs.Nodup
  on : ∀ p ∈ fs, p ∈ ps ∧ Reach f ps s p
  sub : ∀ p ∈ ws, p ∈ fs
  st : s ∈ fs
  hin : here ∈ fs
  cl : ∀ q ∈ fs, q ∉ ws → q ≠ here → ∀ p ∈ ps, q ∈ (f p).nd → p ∈ fs
  hr : ∀ p ∈ pre, here ∈ (f p).nd → p ∈ fs
section
variable {f : Pl → Rule} {ps : List Pl} {s here : Pl} {ws fs pre : List Pl}
theorem Hang.pop {ws' : List Pl} (H : Hang f ps s ws' fs) (hm : ∀ p, p ∈ ws' ↔ p = here ∨ p ∈ ws) : Hang2 f ps s here ws fs [] where
  nd := H.nd
  on := H.on
  sub := fun p hp => H.sub p ((hm p).mpr (.inr hp))
  st := H.st
  hin := H.sub here ((hm here).mpr (.inl rfl))
  cl := fun q hq h1 h2 => H.cl q hq fun h => ((hm q).mp h).elim h2 h1
  hr := fun p hp => (List.not_mem_nil hp).elim
theorem Hang2.skip (H : Hang2 f ps s here ws fs pre) {p : Pl} (h : here ∈ (f p).nd → p ∈ fs) : Hang2 f ps s here ws fs (pre ++ [p]) :=
  { H with hr := fun q hq => (List.mem_append.mp hq).elim (H.hr q) fun e => by rw [List.mem_singleton.mp e]; exact h }
theorem Hang2.add (H : Hang2 f ps s here ws fs pre) {p : Pl} (h1 : p ∉ fs) (h2 : p ∈ ps) (h3 : here ∈ (f p).nd) : Hang2 f ps s here (ws ++ [p]) (fs ++ [p]) (pre ++ [p]) where
  nd := nodup_add H.nd h1
  on := fun q hq => (List.mem_append.mp hq).elim (H.on q) fun e => by rw [List.mem_singleton.mp e]; exact ⟨h2, .step (H.on here H.hin).2 h2 h3⟩
  sub := fun q hq => (List.mem_append.mp hq).elim (fun h => List.mem_append_left _ (H.sub q h)) fun h => List.mem_append_right _ h
  st := List.mem_append_left _ H.st
  hin := List.mem_append_left _ H.hin
  cl := fun q hq h4 h5 p' hp' hn => List.mem_append_left _ (H.cl q ((List.mem_append.mp hq).elim id fun h => (h4 (List.mem_append_right _ h)).elim) (fun h => h4 (List.mem_append_left _ h)) h5 p' hp' hn)
  hr := fun q hq hn => (List.mem_append.mp hq).elim (fun h => List.mem_append_left _ (H.hr q h hn)) fun h => List.mem_append_right _ h
theorem Hang2.done (H : Hang2 f ps s here ws fs ps) : Hang f ps s ws fs where
  nd := H.nd
  on := H.on
  sub := H.sub
  st := H.st
  cl := fun q hq h1 p hp hn => if e : q = here then H.hr p hp (e ▸ hn) else H.cl q hq h1 e p hp hn
theorem Hang.done (H : Hang f ps s [] fs) (p : Pl) : p ∈ fs ↔ Reach f ps s p := by
  refine ⟨fun h => (H.on p h).2, fun h => ?_⟩
  induction h with
  | start => exact H.st
  | step _ hp hn ih => exact H.cl _ ih List.not_mem_nil _ hp hn
end
theorem pop_lt {x y u v : Nat} (h1 : u ≤ 9) (h2 : v + x = u + y) (h3 : x ≤ u) (h4 : y + 1 ≤ x) : 2 * (9 - u) + v < 2 * (9 - x) + (y + 1) ∧ v ≤ u := by lia
section
variable {W : Wd} {k : Nat}
theorem touched_ok (E : EnvS W) {a d c h w : Nat} (z : Sz h w) {f : Pl → Rule} (hf : Fine f h w) (σ : Hp) (S : SheetAt σ a d c h w f) {s : Pl} (hs : s ∈ G h w) (Q : VP)
    (hQ : ∀ (ys : List Pl) (b : Nat) σ', σ.le σ' → σ' b = some (.lst (ys.map pv)) → ys.Pairwise plt → (∀ p, p ∈ ys ↔ Reach f (G h w) s p) → Q (.ref b) σ') : callP W 4 "touched" [.ref a, pv s] σ Q noX := by
  have n1 : (glb W 3).has "needed" = true := E.has (by decide)
  have lok : ∀ n, n ≤ 9 → lenOk n := fun n hn => Nat.le_trans hn (by decide)
  refine call_ok E.T E.touched rfl ?_
  dsimp only [b_touched, p_touched, bindP]
  refine st_cons ?_
  dsimp only [RS.S.expr, X.bop, X.cmp, X.idx, X.meth, X.var, wpBop, wpEs]
  refine s_get rfl (s_recv (s_recvI S.ia (by decide) S.id rfl) (s_get rfl (s_ownF (f := "Sheet.rule") rfl ?_)))
  refine gcall (m := 2) (by decide) (rule_ok E S hs _ ?_)
  refine st_cons ?_
  dsimp only [RS.S.assign, T.var, X.emptyDict]
  refine s_newG fun n σ₁ nn le₁ hn => ?_
  have S1 := S.le le₁
  refine st_cons ?_
  dsimp only [RS.S.for_, Src.of, X.meth, X.var, wpEs]
  refine s_get rfl (s_recv (s_recvI S1.ia (by decide) S1.id rfl) (s_ownF (f := "Sheet.places") rfl ?_))
  refine gcall (m := 2) (by decide) (places_ok E z S1.ia S1.id _ fun b σ₂ nb le₂ hb => ?_)
  refine s_srcL hb ?_
  have hbn : b ≠ n := fun e => by rw [e, hn] at nb; cases nb
  refine forL_data pv (fun pre ρ σ' => A6 (ρ "sheet" = some (.ref a)) (ρ "place" = some (pv s)) (ρ "needs" = some (.ref n)) (σ.le σ') (σ' b = some (.lst ((G h w).map pv))) (∃ (ep : Nat) (g : Pl → V), σ' n = some (.dct (mapD pre g) ep) ∧ ∀ p ∈ pre, ∃ (l : Nat) (ys : List Pl), g p = .ref l ∧ σ' l = some (.lst (ys.map pv)) ∧ ∀ q, q ∈ ys ↔ q ∈ (f p).nd)) ?_ ?_ ?_ ?_
  · exact ⟨rfl, rfl, rfl, Hp.le_trans le₁ le₂, hb, 0, fun _ => .none, le₂ _ _ hn, fun p hp => (List.not_mem_nil hp).elim⟩
  · rintro pre ρ σ' ⟨_, _, _, _, hb, _⟩; exact hb
  · rintro pre p post ρ σ' N' hsp ⟨e1, e2, e3, le, hb, ep, g, hn, hg⟩ hN
    have hp := mem_mid hsp
    have hnp : p ∉ pre := nodup_mid (G_nodup w h) hsp
    have S' := S.le le
    refine st_cons ?_
    dsimp only [RS.S.assign, T.idx, X.call, X.meth, X.var, wpEs]
    refine s_call n1 (s_get ((Env.set_ne _ _ (by decide)).trans e1) (s_recv (s_recvI S'.ia (by decide) S'.id rfl) (s_get (Env.set_same _ _ _) (s_ownF (f := "Sheet.rule") rfl ?_))))
    refine gcall (m := 2) (by decide) (rule_ok E S' hp _ ?_)
    obtain ⟨f1, f2, f3⟩ := hf p hp
    refine gcall (m := 3) (by decide) (needed_ok E z (Nat.le_trans f1 (by decide)) f2 f3 σ' _ fun ys l σ₃ nl le₃ hl _ hym => ?_)
    have hn3 := le₃ _ _ hn
    refine s_get ((Env.set_ne _ _ (by decide)).trans e3) (s_get (Env.set_same _ _ _) (s_storeD hn3 (k := pk p) rfl (lok _ (by rw [mapD_length]; exact Nat.le_trans (Nat.le_of_lt (len_lt hsp)) z.len)) fun ep' => st_nil ?_))
    have ne : ∀ {l' : Nat} {vs : List V}, σ₃ l' = some (.lst vs) → l' ≠ n := fun q e => by rw [e, hn3] at q; cases q
    refine hN _ _ ⟨(Env.set_ne _ _ (by decide)).trans e1, (Env.set_ne _ _ (by decide)).trans e2, (Env.set_ne _ _ (by decide)).trans e3, Hp.le_upd _ (Hp.le_trans le le₃) nn, (Hp.set_ne _ _ hbn).trans (le₃ _ _ hb), ep', updF g p (.ref l), by rw [Hp.set_same, dput_mapD_not hnp], fun q hq => ?_⟩
    rcases List.mem_append.mp hq with hq' | hq
    · obtain ⟨l', ys', h1, h2, h3⟩ := hg q hq'
      have h2' := le₃ _ _ h2
      exact ⟨l', ys', (updF_ne (p := p) (q := q) g _ (fun e => by subst e; exact hnp hq')).trans h1, (Hp.set_ne _ _ (ne h2')).trans h2', h3⟩
    · rw [List.mem_singleton.mp hq]
      exact ⟨l, ys, updF_same g p _, (Hp.set_ne _ _ (ne hl)).trans hl, hym⟩
  · rintro ρ σ₃ ⟨e1, e2, e3, le, _, ep, g, hn, hg⟩
    refine st_cons ?_
    dsimp only [RS.S.assign, T.var, X.bool, X.dict1, X.idx, X.num, X.tup, X.var, wpEs]
    intro fo nf
    have le₄ := Hp.le_set (.dct [] 0) nf
    refine s_get e2 (s_idxT (v := .int s.1) rfl (s_get e2 (s_idxT (v := .int s.2) rfl (.dct (es := []) (k := pk s) (Hp.set_same _ _ _) rfl (by show 0 ≤ 1000000; decide) fun ep₁ => ?_))))
    have hfo := Hp.set_same (σ₃.set fo (.dct [] 0)) fo (.dct [(pk s, V.bool true)] ep₁)
    have le₄ := Hp.le_upd (.dct [(pk s, V.bool true)] ep₁) le₄ nf
    show wpSs _ _ _ _ _ _ ((σ₃.set fo (.dct [] 0)).set fo (.dct [(pk s, V.bool true)] ep₁))
    generalize (σ₃.set fo (.dct [] 0)).set fo (.dct [(pk s, V.bool true)] ep₁) = σ₄ at *
    refine st_cons ?_
    dsimp only [RS.S.assign, T.var, X.bi, X.var, wpEs]
    refine s_get (Env.set_same _ _ _) (s_listD hfo fun wa nw => ?_)
    have hwa := Hp.set_same σ₄ wa (.lst ([(pk s, V.bool true)].map fun e => kv e.1))
    have le₅ := Hp.le_set (.lst ([(pk s, V.bool true)].map fun e => kv e.1)) nw
    generalize σ₄.set wa (.lst ([(pk s, V.bool true)].map fun e => kv e.1)) = σ₅ at *
    have nw3 : σ₃ wa = none := Hp.le_none le₄ nw
    have hwf : wa ≠ fo := fun e => by rw [e, hfo] at nw; cases nw
    refine st_cons ?_
    dsimp only [RS.S.while_, X.cmp, X.lst, X.var, wpEs, wpT]
    refine whileL_inv (fun m ρ σ' => Ex3 fun (ws fs : List Pl) (ep : Nat) => A9 (ρ "waiting" = some (.ref wa)) (ρ "found" = some (.ref fo)) (ρ "needs" = some (.ref n)) (σ₃.le σ') (σ' wa = some (.lst (ws.map pv))) (σ' fo = some (.dct (mapD fs fun _ => .bool true) ep)) (Hang f (G h w) s ws fs) (ws.length ≤ fs.length) (m = 2 * (9 - fs.length) + ws.length)) ?_ (m := 2 * (9 - 1) + 1)
      ⟨[s], [s], ep₁, Env.set_same _ _ _, (Env.set_ne _ _ (by decide)).trans (Env.set_same _ _ _), (Env.set_ne _ _ (by decide)).trans ((Env.set_ne _ _ (by decide)).trans e3), Hp.le_trans le₄ le₅, hwa, le₅ _ _ hfo, ?_, Nat.le_refl _, rfl⟩
    rotate_left
    · refine ⟨List.nodup_cons.mpr ⟨List.not_mem_nil, List.nodup_nil⟩, fun p hp => ?_, fun p hp => hp, .head _, fun q hq h => (h hq).elim⟩
      rw [List.mem_singleton.mp hp]; exact ⟨hs, .start⟩
    clear e1 e2 e3 hwa hfo ep₁
    rintro m ρ σ' K ⟨ws, fs, ep₁, ew, ef, en, le', hwa, hfo, H, hwl, hm⟩ hK
    refine s_get ew (s_newG fun z₁ σ₆ nz le₆ hz => ?_)
    have hwa6 := le₆ _ _ hwa
    have hfo6 := le₆ _ _ hfo
    refine s_neL0 hwa6 hz (snap_pvs σ₆ 48 ws) (s_truth rfl ?_)
    have hfl : fs.length ≤ 9 := Nat.le_trans (nodup_len H.nd fun p hp => (H.on p hp).1) z.len
    rcases List.eq_nil_or_concat ws with rfl | ⟨ws, q, rfl⟩
    · refine s_ifF Bool.false_ne_true (st_cons ?_)
      dsimp only [RS.S.ret, X.bi, X.var, wpEs]
      refine s_get ef (s_sortD hfo6 (by rw [mapD_keys]; exact nodup_pk H.nd) (by rw [mapD_length]; exact Nat.lt_of_le_of_lt hfl (by decide)) (by rw [mapD_keys]; exact pk_ne) fun ys hperm hsort => ?_)
      rw [mapD_keys] at hperm
      obtain ⟨zs, rfl, hz1, hz2⟩ := sortP hperm hsort
      refine s_newG fun b₂ σ₇ nb₂ le₇ hb₂ => ?_
      refine hQ zs b₂ σ₇ (Hp.le_trans (Hp.le_trans le (Hp.le_trans le' le₆)) le₇) (by rw [hb₂, List.map_map]; rfl) hz1 fun p => (hz2 p).trans (H.done p)
    · rw [List.concat_eq_append] at H hwl hwa6 hm
      refine s_ifT (by rw [List.concat_eq_append, List.map_append]; cases ws <;> rfl) (st_cons ?_)
      dsimp only [RS.S.assign, T.var, X.meth, X.var, wpEs]
      rw [List.map_append, List.map_singleton] at hwa6
      refine s_get ew (s_recv (s_recvL hwa6 (.inr rfl)) (s_pop hwa6 (v := pv q) (List.getLast?_concat ..) ?_))
      rw [List.dropLast_concat]
      have hwa7 := Hp.set_same σ₆ wa (.lst (ws.map pv))
      have hfo7 := (Hp.set_ne σ₆ (.lst (ws.map pv)) hwf.symm).trans hfo6
      have le7 := Hp.le_upd (.lst (ws.map pv)) (Hp.le_trans le' le₆) nw3
      generalize σ₆.set wa (.lst (ws.map pv)) = σ₇ at *
      refine st_cons ?_
      dsimp only [RS.S.for_, Src.of, X.var]
      refine s_get ((Env.set_ne _ _ (by decide)).trans en) (s_srcD (le7 _ _ hn) ?_)
      rw [mapD_kv]
      rw [List.length_append, List.length_singleton] at hwl hm
      refine forL_data pv (fun pre ρ σ'' => Ex3 fun (ws' fs' : List Pl) (ep : Nat) => A10 (ρ "waiting" = some (.ref wa)) (ρ "found" = some (.ref fo)) (ρ "needs" = some (.ref n)) (ρ "here" = some (pv q)) (σ₃.le σ'') (σ'' wa = some (.lst (ws'.map pv))) (σ'' fo = some (.dct (mapD fs' fun _ => .bool true) ep)) (Hang2 f (G h w) s q ws' fs' pre) (ws'.length + fs.length = fs'.length + ws.length) (fs.length ≤ fs'.length)) ?_ ?_ ?_ ?_
      · exact ⟨ws, fs, ep₁, (Env.set_ne _ _ (by decide)).trans ew, (Env.set_ne _ _ (by decide)).trans ef, (Env.set_ne _ _ (by decide)).trans en, Env.set_same _ _ _, le7, hwa7, hfo7, (H.pop fun p => by rw [List.mem_append, List.mem_singleton]; exact Or.comm), Nat.add_comm _ _, Nat.le_refl _⟩
      · rintro pre ρ σ'' ⟨_, _, _, _, _, _, _, le, _⟩; exact le _ _ hn
      · rintro pre p post ρ σ'' N' hsp ⟨ws', fs', ep₂, ew, ef, en, eh, leL, hwa', hfo', H2, hlen, hge⟩ hN
        have hp := mem_mid hsp
        have hfl' : fs'.length ≤ 9 := Nat.le_trans (nodup_len H2.nd fun p hp => (H2.on p hp).1) z.len
        have ew' := (Env.set_ne ρ (pv p) (by decide : "waiting" ≠ "one")).trans ew
        have ef' := (Env.set_ne ρ (pv p) (by decide : "found" ≠ "one")).trans ef
        have en' := (Env.set_ne ρ (pv p) (by decide : "needs" ≠ "one")).trans en
        have eh' := (Env.set_ne ρ (pv p) (by decide : "here" ≠ "one")).trans eh
        have eo := Env.set_same ρ "one" (pv p)
        generalize ρ.set "one" (pv p) = ρ' at *
        refine st_cons ?_
        dsimp only [RS.S.ite, wpT]
        refine s_get eo (s_get ef' (.notIn (s_inD' hfo' (s_truth rfl ?_))))
        by_cases hpf : p ∈ fs'
        · rw [decide_eq_true hpf]
          refine s_ifF Bool.false_ne_true (s_truth rfl (s_ifF Bool.false_ne_true (st_nil (st_nil ?_))))
          exact hN _ _ ⟨ws', fs', ep₂, ew', ef', en', eh', leL, hwa', hfo', H2.skip fun _ => hpf, hlen, hge⟩
        · rw [decide_eq_false hpf]
          obtain ⟨l, ys, g1, g2, g3⟩ := hg p hp
          refine s_ifT rfl (s_get eh' (s_get en' (s_get eo (s_idxD (leL _ _ hn) (k := pk p) rfl (dget_mapD hp) ?_))))
          rw [g1]
          refine .isIn (inP_pvs (leL _ _ g2) (s_truth rfl ?_))
          by_cases hq : q ∈ ys
          · rw [decide_eq_true hq]
            refine s_ifT rfl (st_cons ?_)
            dsimp only [RS.S.assign, T.idx, X.bool, X.var]
            refine s_get ef' (s_get eo (s_storeD hfo' (k := pk p) rfl (lok _ (by rw [mapD_length]; exact hfl')) fun ep₃ => ?_))
            rw [dput_mapD_not hpf, updF_id (fun _ => V.bool true) p]
            have hfo8 := Hp.set_same σ'' fo (.dct (mapD (fs' ++ [p]) fun _ => V.bool true) ep₃)
            have hwa8 := (Hp.set_ne σ'' (.dct (mapD (fs' ++ [p]) fun _ => V.bool true) ep₃) hwf).trans hwa'
            have le8 := Hp.le_upd (.dct (mapD (fs' ++ [p]) fun _ => V.bool true) ep₃) leL nf
            generalize σ''.set fo (.dct (mapD (fs' ++ [p]) fun _ => V.bool true) ep₃) = σ₈ at *
            have hwl' : ws'.length ≤ 9 + 9 := by
              have : ws'.length ≤ fs'.length + ws.length := hlen ▸ Nat.le_add_right _ _
              exact Nat.le_trans this (Nat.add_le_add hfl' (Nat.le_trans (Nat.le_of_succ_le hwl) hfl))
            refine st_cons ?_
            dsimp only [RS.S.expr, X.meth, X.var, wpEs]
            refine s_get ew' (s_recv (s_recvL hwa8 (.inl rfl)) (s_get eo (s_appendG hwa8 (by unfold lenOk; rw [List.length_map]; exact Nat.le_trans hwl' (by decide)) fun σ₉ hbut hwa9 => st_nil (st_nil ?_))))
            refine hN _ _ ⟨ws' ++ [p], fs' ++ [p], ep₃, ew', ef', en', eh', Hp.le_but le8 nw3 hbut, by rw [hwa9, List.map_append]; rfl, (hbut fo hwf.symm).trans hfo8, H2.add hpf hp ((g3 q).mp hq), ?_, ?_⟩
            · rw [List.length_append, List.length_append, List.length_singleton, Nat.add_right_comm, hlen, Nat.add_right_comm]
            · rw [List.length_append]; exact Nat.le_trans hge (Nat.le_add_right _ _)
          · rw [decide_eq_false hq]
            exact s_ifF Bool.false_ne_true (st_nil (st_nil (hN _ _ ⟨ws', fs', ep₂, ew', ef', en', eh', leL, hwa', hfo', H2.skip fun hn => (hq ((g3 q).mpr hn)).elim, hlen, hge⟩)))
      · rintro ρ' σ'' ⟨ws', fs', ep₂, ew, ef, en, eh, leL, hwa', hfo', H2, hlen, hge⟩
        have hfl' : fs'.length ≤ 9 := Nat.le_trans (nodup_len H2.nd fun p hp => (H2.on p hp).1) z.len
        have ar := pop_lt hfl' hlen hge hwl
        exact st_nil (hK _ _ _ (hm ▸ ar.1) ⟨ws', fs', ep₂, ew, ef, en, leL, hwa', hfo', H2.done, ar.2, rfl⟩)
end


noncomputable def p_law_cell_at : List String := ["_law_script", "_law_k"]
noncomputable def b_law_cell_at : List S := [
  .ite (.cmp (.var "_law_k") .lt (.bi .len [.var "_law_script"])) [
    .ret (.bin .add (.idx (.var "_law_script") (.var "_law_k")) (.bin .mul (.bin .mod (.idx (.var "_law_script") (.var "_law_k")) (.num 251)) (.num 381840)))] [],
  .ret (.num 0)]

noncomputable def p_law_ref_by : List String := ["_law_cell", "_law_high", "_law_wide"]
noncomputable def b_law_ref_by : List S := [
  .ret (.tup [.bin .mod (.var "_law_cell") (.var "_law_high"), .bin .mod (.bin .fdiv (.var "_law_cell") (.num 4)) (.var "_law_wide"), .cmp (.bin .mod (.bin .fdiv (.var "_law_cell") (.num 16)) (.num 2)) .eq (.num 1), .cmp (.bin .mod (.bin .fdiv (.var "_law_cell") (.num 32)) (.num 2)) .eq (.num 1)])]

noncomputable def p_law_leaf_by : List String := ["_law_cell", "_law_high", "_law_wide"]
noncomputable def b_law_leaf_by : List S := [
  .assign (.var "_law_more") (.bin .fdiv (.var "_law_cell") (.num 5)),
  .assign (.var "_law_one") (.call "_law_ref_by" [.var "_law_more", .var "_law_high", .var "_law_wide"]),
  .ite (.cmp (.bin .mod (.var "_law_cell") (.num 5)) .eq (.num 0)) [
    .ret (.tup [.str "num", .bin .mod (.var "_law_more") (.num 4)])] [],
  .ite (.cmp (.bin .mod (.var "_law_cell") (.num 5)) .eq (.num 1)) [
    .ret (.tup [.str "sum", .var "_law_one", .call "_law_ref_by" [.bin .mod (.bin .mul (.var "_law_more") (.num 48271)) (.num 1009), .var "_law_high", .var "_law_wide"]])] [],
  .ite (.cmp (.bin .mod (.var "_law_cell") (.num 5)) .eq (.num 2)) [
    .ret (.tup [.str "most", .var "_law_one", .call "_law_ref_by" [.bin .mod (.bin .mul (.var "_law_more") (.num 69621)) (.num 1013), .var "_law_high", .var "_law_wide"]])] [],
  .ret (.tup [.str "cell", .var "_law_one"])]

noncomputable def p_law_rule_by : List String := ["_law_cell", "_law_high", "_law_wide"]
noncomputable def b_law_rule_by : List S := [
  .assign (.var "_law_more") (.bin .fdiv (.var "_law_cell") (.num 8)),
  .assign (.var "_law_one") (.call "_law_leaf_by" [.var "_law_more", .var "_law_high", .var "_law_wide"]),
  .assign (.var "_law_two") (.call "_law_leaf_by" [.bin .mod (.bin .mul (.var "_law_more") (.num 48271)) (.num 10007), .var "_law_high", .var "_law_wide"]),
  .ite (.cmp (.bin .mod (.var "_law_cell") (.num 8)) .lt (.num 3)) [
    .ret (.var "_law_one")] [],
  .ite (.cmp (.bin .mod (.var "_law_cell") (.num 8)) .lt (.num 5)) [
    .ret (.tup [.str "add", .var "_law_one", .var "_law_two"])] [],
  .ite (.cmp (.bin .mod (.var "_law_cell") (.num 8)) .lt (.num 7)) [
    .ret (.tup [.str "pick", .var "_law_two", .var "_law_one", .tup [.str "num", .bin .mod (.var "_law_more") (.num 7)]])] [],
  .assign (.var "_law_other") (.call "_law_ref_by" [.bin .mod (.bin .mul (.var "_law_more") (.num 16807)) (.num 1019), .var "_law_high", .var "_law_wide"]),
  .ret (.tup [.str "look", .var "_law_one", .call "_law_ref_by" [.var "_law_more", .var "_law_high", .var "_law_wide"], .var "_law_other", .var "_law_two"])]

noncomputable def p_law_inner : List String := ["_law_rule"]
noncomputable def b_law_inner : List S := [
  .ret (.comp (.var "_law_part") "_law_part" (.of (.slice (.var "_law_rule") (.num 1) .none)) [.bop true [.bi .isinstance [.var "_law_part", .glob "tuple"]] (.bi .isinstance [.idx (.var "_law_part") (.num 0), .glob "str"])])]

noncomputable def p_law_refs : List String := ["_law_rule"]
noncomputable def b_law_refs : List S := [
  .assign (.var "_law_found") (.comp (.var "_law_part") "_law_part" (.of (.slice (.var "_law_rule") (.num 1) .none)) [.bop true [.bi .isinstance [.var "_law_part", .glob "tuple"]] (.not (.bi .isinstance [.idx (.var "_law_part") (.num 0), .glob "str"]))]),
  .for_ "_law_part" (.of (.call "_law_inner" [.var "_law_rule"])) [
    .assign (.var "_law_found") (.bin .add (.var "_law_found") (.call "_law_refs" [.var "_law_part"]))],
  .ret (.var "_law_found")]

noncomputable def p_law_moved : List String := ["_law_part", "_law_down", "_law_right_here"]
noncomputable def b_law_moved : List S := [
  .ite (.bop true [.bi .isinstance [.var "_law_part", .glob "tuple"]] (.not (.bi .isinstance [.idx (.var "_law_part") (.num 0), .glob "str"]))) [
    .ret (.tup [.bin .add (.idx (.var "_law_part") (.num 0)) (.bin .mul (.var "_law_down") (.bi .int [.not (.idx (.var "_law_part") (.num 2))])), .bin .add (.idx (.var "_law_part") (.num 1)) (.bin .mul (.var "_law_right_here") (.bi .int [.not (.idx (.var "_law_part") (.num 3))])), .idx (.var "_law_part") (.num 2), .idx (.var "_law_part") (.num 3)])] [],
  .ite (.bi .isinstance [.var "_law_part", .glob "tuple"]) [
    .ret (.bi .tuple [.comp (.call "_law_moved" [.var "_law_one", .var "_law_down", .var "_law_right_here"]) "_law_one" (.of (.var "_law_part")) []])] [],
  .ret (.var "_law_part")]

noncomputable def p_law_lies : List String := ["_law_refs_here", "_law_kept"]
noncomputable def b_law_lies : List S := [
  .ret (.cmp (.comp (.var "_law_ref") "_law_ref" (.of (.var "_law_refs_here")) [.cmp (.tup [.idx (.var "_law_ref") (.num 0), .idx (.var "_law_ref") (.num 1)]) .notIn (.var "_law_kept")]) .eq (.lst []))]

noncomputable def p_law_area : List String := ["_law_one", "_law_two"]
noncomputable def b_law_area : List S := [
  .assign (.var "_law_rows") (.bi .sorted [.lst [.idx (.var "_law_one") (.num 0), .idx (.var "_law_two") (.num 0)]]),
  .assign (.var "_law_columns") (.bi .sorted [.lst [.idx (.var "_law_one") (.num 1), .idx (.var "_law_two") (.num 1)]]),
  .assign (.var "_law_found") (.lst []),
  .for_ "_law_row" (.range2 (.idx (.var "_law_rows") (.num 0)) (.bin .add (.idx (.var "_law_rows") (.num 1)) (.num 1))) [
    .assign (.var "_law_found") (.bin .add (.var "_law_found") (.comp (.tup [.var "_law_row", .var "_law_column"]) "_law_column" (.range2 (.idx (.var "_law_columns") (.num 0)) (.bin .add (.idx (.var "_law_columns") (.num 1)) (.num 1))) []))],
  .ret (.var "_law_found")]

noncomputable def p_law_needs : List String := ["_law_rule"]
noncomputable def b_law_needs : List S := [
  .assign (.var "_law_found") (.lst []),
  .assign (.var "_law_refs_here") (.comp (.var "_law_part") "_law_part" (.of (.slice (.var "_law_rule") (.num 1) .none)) [.bop true [.bi .isinstance [.var "_law_part", .glob "tuple"]] (.not (.bi .isinstance [.idx (.var "_law_part") (.num 0), .glob "str"]))]),
  .ite (.cmp (.var "_law_refs_here") .ne (.lst [])) [
    .assign (.var "_law_found") (.call "_law_area" [.idx (.var "_law_refs_here") (.num 0), .idx (.var "_law_refs_here") (.neg (.num 1))])] [],
  .for_ "_law_part" (.of (.call "_law_inner" [.var "_law_rule"])) [
    .assign (.var "_law_found") (.bin .add (.var "_law_found") (.call "_law_needs" [.var "_law_part"]))],
  .ret (.var "_law_found")]

noncomputable def p_law_told : List String := ["_law_rule", "_law_known"]
noncomputable def b_law_told : List S := [
  .ite (.cmp (.idx (.var "_law_rule") (.num 0)) .eq (.str "num")) [
    .ret (.bin .mod (.idx (.var "_law_rule") (.num 1)) (.num 1000000000))] [],
  .assign (.var "_law_parts") (.comp (.call "_law_told" [.var "_law_part", .var "_law_known"]) "_law_part" (.of (.call "_law_inner" [.var "_law_rule"])) []),
  .ite (.cmp (.idx (.var "_law_rule") (.num 0)) .eq (.str "add")) [
    .ret (.bin .mod (.bin .add (.idx (.var "_law_parts") (.num 0)) (.idx (.var "_law_parts") (.num 1))) (.num 1000000000))] [],
  .ite (.cmp (.idx (.var "_law_rule") (.num 0)) .eq (.str "pick")) [
    .ret (.idx (.var "_law_parts") (.bin .add (.num 1) (.bi .int [.cmp (.idx (.var "_law_parts") (.num 0)) .eq (.num 0)])))] [],
  .assign (.var "_law_refs_here") (.comp (.var "_law_part") "_law_part" (.of (.slice (.var "_law_rule") (.num 1) .none)) [.bop true [.bi .isinstance [.var "_law_part", .glob "tuple"]] (.not (.bi .isinstance [.idx (.var "_law_part") (.num 0), .glob "str"]))]),
  .assign (.var "_law_places") (.call "_law_area" [.idx (.var "_law_refs_here") (.num 0), .idx (.var "_law_refs_here") (.neg (.num 1))]),
  .ite (.cmp (.idx (.var "_law_rule") (.num 0)) .eq (.str "look")) [
    .for_ "_law_row" (.range2 (.idx (.idx (.var "_law_places") (.num 0)) (.num 0)) (.bin .add (.idx (.idx (.var "_law_places") (.neg (.num 1))) (.num 0)) (.num 1))) [
      .ite (.cmp (.idx (.var "_law_known") (.tup [.var "_law_row", .idx (.idx (.var "_law_places") (.num 0)) (.num 1)])) .eq (.idx (.var "_law_parts") (.num 0))) [
        .ret (.idx (.var "_law_known") (.tup [.var "_law_row", .idx (.idx (.var "_law_places") (.neg (.num 1))) (.num 1)]))] []],
    .ret (.idx (.var "_law_parts") (.num 1))] [],
  .assign (.var "_law_values_here") (.comp (.idx (.var "_law_known") (.var "_law_place")) "_law_place" (.of (.var "_law_places")) []),
  .ite (.cmp (.idx (.var "_law_rule") (.num 0)) .eq (.str "most")) [
    .ret (.bi .max [.var "_law_values_here"])] [],
  .ret (.bin .mod (.bi .sum [.var "_law_values_here"]) (.num 1000000000))]

noncomputable def p_law_values : List String := ["_law_kept"]
noncomputable def b_law_values : List S := [
  .assign (.var "_law_known") (.emptyDict),
  .assign (.var "_law_left") (.bi .list [.var "_law_kept"]),
  .assign (.var "_law_size") (.bin .add (.bi .len [.var "_law_left"]) (.num 1)),
  .while_ (.cmp (.bi .len [.var "_law_left"]) .lt (.var "_law_size")) [
    .assign (.var "_law_size") (.bi .len [.var "_law_left"]),
    .assign (.var "_law_stay") (.lst []),
    .for_ "_law_place" (.of (.var "_law_left")) [
      .ite (.cmp (.comp (.var "_law_need") "_law_need" (.of (.call "_law_needs" [.idx (.var "_law_kept") (.var "_law_place")])) [.cmp (.var "_law_need") .notIn (.var "_law_known")]) .eq (.lst [])) [
        .assign (.idx (.var "_law_known") (.var "_law_place")) (.call "_law_told" [.idx (.var "_law_kept") (.var "_law_place"), .var "_law_known"])] [
        .expr (.meth (.var "_law_stay") .append [.var "_law_place"])]],
    .assign (.var "_law_left") (.var "_law_stay")],
  .ret (.var "_law_known")]

noncomputable def p_law_deed : List String := ["_law_script", "_law_at", "_law_kept", "_law_high", "_law_wide"]
noncomputable def b_law_deed : List S := [
  .assign (.var "_law_cell") (.call "_law_cell_at" [.var "_law_script", .var "_law_at"]),
  .assign (.var "_law_more") (.call "_law_cell_at" [.var "_law_script", .bin .add (.var "_law_at") (.num 1)]),
  .assign (.var "_law_place") (.tup [.bin .mod (.var "_law_more") (.var "_law_high"), .bin .mod (.bin .fdiv (.var "_law_more") (.var "_law_high")) (.var "_law_wide")]),
  .ite (.cmp (.bin .mod (.var "_law_cell") (.num 4)) .lt (.num 2)) [
    .assign (.var "_law_rule") (.call "_law_rule_by" [.call "_law_cell_at" [.var "_law_script", .bin .add (.var "_law_at") (.num 2)], .var "_law_high", .var "_law_wide"]),
    .ite (.cmp (.bin .mod (.bin .fdiv (.var "_law_cell") (.num 4)) (.num 6)) .eq (.num 1)) [
      .assign (.var "_law_rule") (.tup [.str "add", .var "_law_rule", .tup [.str "cell", .tup [.var "_law_high", .num 0, .bool true, .bool true]]])] [],
    .ite (.cmp (.bin .mod (.bin .fdiv (.var "_law_cell") (.num 4)) (.num 6)) .eq (.num 2)) [
      .for_ "_law_k" (.range1 (.bin .add (.num 4) (.bin .mod (.bin .fdiv (.var "_law_cell") (.num 24)) (.num 8)))) [
        .assign (.var "_law_rule") (.tup [.str "add", .tup [.str "num", .var "_law_k"], .var "_law_rule"])]] [],
    .ret (.tup [.str "put", .var "_law_place", .var "_law_place", .var "_law_place", .var "_law_rule"])] [],
  .assign (.var "_law_last") (.call "_law_cell_at" [.var "_law_script", .bin .add (.var "_law_at") (.num 2)]),
  .assign (.var "_law_one") (.tup [.bin .mod (.var "_law_last") (.bin .add (.var "_law_high") (.num 1)), .bin .mod (.bin .fdiv (.var "_law_last") (.num 7)) (.var "_law_wide")]),
  .assign (.var "_law_two") (.tup [.bin .mod (.bin .fdiv (.var "_law_last") (.num 49)) (.var "_law_high"), .bin .mod (.bin .fdiv (.var "_law_last") (.num 343)) (.bin .add (.var "_law_wide") (.num 1))]),
  .ite (.cmp (.bin .mod (.var "_law_cell") (.num 4)) .eq (.num 2)) [
    .assign (.var "_law_two") (.var "_law_one")] [],
  .ret (.tup [.idx (.lst [.str "copied", .str "filled"]) (.bin .sub (.bin .mod (.var "_law_cell") (.num 4)) (.num 2)), .var "_law_place", .var "_law_one", .var "_law_two", .idx (.var "_law_kept") (.var "_law_place")])]

noncomputable def p_law_due : List String := ["_law_kept", "_law_deed_here"]
noncomputable def b_law_due : List S := [
  .assign (.var "_law_changed") (.emptyDict),
  .for_ "_law_place" (.of (.call "_law_area" [.idx (.var "_law_deed_here") (.num 2), .idx (.var "_law_deed_here") (.num 3)])) [
    .assign (.idx (.var "_law_changed") (.var "_law_place")) (.idx (.var "_law_deed_here") (.num 4)),
    .ite (.cmp (.idx (.var "_law_deed_here") (.num 0)) .ne (.str "put")) [
      .assign (.idx (.var "_law_changed") (.var "_law_place")) (.call "_law_moved" [.idx (.var "_law_deed_here") (.num 4), .bin .sub (.idx (.var "_law_place") (.num 0)) (.idx (.idx (.var "_law_deed_here") (.num 1)) (.num 0)), .bin .sub (.idx (.var "_law_place") (.num 1)) (.idx (.idx (.var "_law_deed_here") (.num 1)) (.num 1))])] []],
  .ite (.cmp (.comp (.var "_law_place") "_law_place" (.of (.var "_law_changed")) [.cmp (.var "_law_place") .notIn (.var "_law_kept")]) .ne (.lst [])) [
    .ret (.tup [.none, .str "off"])] [],
  .assign (.var "_law_many") (.num 0),
  .assign (.var "_law_parts") (.lst [.idx (.var "_law_deed_here") (.num 4)]),
  .while_ (.cmp (.var "_law_parts") .ne (.lst [])) [
    .assign (.var "_law_many") (.bin .add (.var "_law_many") (.num 1)),
    .assign (.var "_law_further") (.lst []),
    .for_ "_law_part" (.of (.var "_law_parts")) [
      .assign (.var "_law_further") (.bin .add (.var "_law_further") (.call "_law_inner" [.var "_law_part"]))],
    .assign (.var "_law_parts") (.var "_law_further")],
  .ite (.cmp (.var "_law_many") .gt (.num 8)) [
    .ret (.tup [.none, .str "deep"])] [],
  .for_ "_law_place" (.of (.var "_law_changed")) [
    .ite (.not (.call "_law_lies" [.call "_law_refs" [.idx (.var "_law_changed") (.var "_law_place")], .var "_law_kept"])) [
      .ret (.tup [.none, .str "off"])] []],
  .ret (.tup [.var "_law_changed", .str ""])]

noncomputable def p_law_done : List String := ["_law_sheet", "_law_deed_here"]
noncomputable def b_law_done : List S := [
  .try_ [
    .ite (.cmp (.idx (.var "_law_deed_here") (.num 0)) .eq (.str "put")) [
      .expr (.meth (.var "_law_sheet") (.own "put") [.idx (.var "_law_deed_here") (.num 1), .idx (.var "_law_deed_here") (.num 4)])] [
      .ite (.cmp (.idx (.var "_law_deed_here") (.num 0)) .eq (.str "copied")) [
        .expr (.meth (.var "_law_sheet") (.own "copied") [.idx (.var "_law_deed_here") (.num 1), .idx (.var "_law_deed_here") (.num 2)])] [
        .expr (.meth (.var "_law_sheet") (.own "filled") [.idx (.var "_law_deed_here") (.num 1), .idx (.var "_law_deed_here") (.num 2), .idx (.var "_law_deed_here") (.num 3)])]]] [⟨"OffSheet", .ret (.str "off")⟩, ⟨"TooDeep", .ret (.str "deep")⟩],
  .ret (.str "")]

noncomputable def p_law_ring_right : List String := ["_law_found", "_law_kept", "_law_known"]
noncomputable def b_law_ring_right : List S := [
  .ite (.cmp (.bi .len [.var "_law_known"]) .eq (.bi .len [.var "_law_kept"])) [
    .ret (.cmp (.var "_law_found") .is (.none))] [],
  .ite (.bop false [.not (.bi .isinstance [.var "_law_found", .glob "list"]), .cmp (.var "_law_found") .eq (.lst [])] (.cmp (.bi .len [.bi .set [.var "_law_found"]]) .ne (.bi .len [.var "_law_found"]))) [
    .ret (.bool false)] [],
  .for_ "_law_k" (.range1 (.bi .len [.var "_law_found"])) [
    .ite (.bop false [.cmp (.idx (.var "_law_found") (.var "_law_k")) .notIn (.var "_law_kept")] (.cmp (.idx (.var "_law_found") (.bin .mod (.bin .add (.var "_law_k") (.num 1)) (.bi .len [.var "_law_found"]))) .notIn (.call "_law_needs" [.idx (.var "_law_kept") (.idx (.var "_law_found") (.var "_law_k"))]))) [
      .ret (.bool false)] []],
  .ret (.bool true)]

noncomputable def p_law_touches : List String := ["_law_found", "_law_kept", "_law_place"]
noncomputable def b_law_touches : List S := [
  .assign (.var "_law_due_here") (.lst [.var "_law_place"]),
  .assign (.var "_law_at") (.num 0),
  .while_ (.cmp (.var "_law_at") .lt (.bi .len [.var "_law_due_here"])) [
    .for_ "_law_other" (.of (.var "_law_kept")) [
      .ite (.bop true [.cmp (.var "_law_other") .notIn (.var "_law_due_here")] (.cmp (.idx (.var "_law_due_here") (.var "_law_at")) .isIn (.call "_law_needs" [.idx (.var "_law_kept") (.var "_law_other")]))) [
        .expr (.meth (.var "_law_due_here") .append [.var "_law_other"])] []],
    .assign (.var "_law_at") (.bin .add (.var "_law_at") (.num 1))],
  .ret (.cmp (.var "_law_found") .eq (.bi .sorted [.var "_law_due_here"]))]

noncomputable def p_law_right : List String := ["_law_sheet", "_law_kept", "_law_way", "_law_place"]
noncomputable def b_law_right : List S := [
  .ite (.cmp (.var "_law_way") .eq (.num 0)) [
    .ret (.cmp (.comp (.var "_law_place") "_law_place" (.of (.var "_law_kept")) [.cmp (.meth (.var "_law_sheet") (.own "rule") [.var "_law_place"]) .ne (.idx (.var "_law_kept") (.var "_law_place"))]) .eq (.lst []))] [],
  .ite (.cmp (.var "_law_way") .eq (.num 1)) [
    .ret (.call "_law_touches" [.call "touched" [.var "_law_sheet", .var "_law_place"], .var "_law_kept", .var "_law_place"])] [],
  .assign (.var "_law_known") (.call "_law_values" [.var "_law_kept"]),
  .ite (.cmp (.var "_law_way") .eq (.num 2)) [
    .ret (.call "_law_ring_right" [.call "ring" [.var "_law_sheet"], .var "_law_kept", .var "_law_known"])] [],
  .assign (.var "_law_found") (.call "reckoned" [.var "_law_sheet"]),
  .ret (.cmp (.comp (.var "_law_place") "_law_place" (.of (.var "_law_kept")) [.cmp (.idx (.idx (.var "_law_found") (.idx (.var "_law_place") (.num 0))) (.idx (.var "_law_place") (.num 1))) .ne (.meth (.var "_law_known") .get [.var "_law_place"])]) .eq (.lst []))]

noncomputable def b_init : List S := [
    .assign (.idx (.idx (.var "_law_rules") (.num 0)) (.tup [.bin .fdiv (.var "_law_k") (.var "_law_wide"), .bin .mod (.var "_law_k") (.var "_law_wide")])) (.call "_law_rule_by" [.bin .add (.bin .fdiv (.call "_law_cell_at" [.var "_law_script", .num 1]) (.bin .add (.var "_law_k") (.num 10))) (.var "_law_k"), .var "_law_high", .var "_law_wide"]),
    .assign (.idx (.idx (.var "_law_rules") (.num 1)) (.tup [.bin .fdiv (.var "_law_k") (.var "_law_wide"), .bin .mod (.var "_law_k") (.var "_law_wide")])) (.tup [.str "num", .var "_law_k"]),
    .expr (.meth (.idx (.var "_law_sheets") (.num 0)) (.own "put") [.tup [.bin .fdiv (.var "_law_k") (.var "_law_wide"), .bin .mod (.var "_law_k") (.var "_law_wide")], .idx (.idx (.var "_law_rules") (.num 0)) (.tup [.bin .fdiv (.var "_law_k") (.var "_law_wide"), .bin .mod (.var "_law_k") (.var "_law_wide")])]),
    .expr (.meth (.idx (.var "_law_sheets") (.num 1)) (.own "put") [.tup [.bin .fdiv (.var "_law_k") (.var "_law_wide"), .bin .mod (.var "_law_k") (.var "_law_wide")], .tup [.str "num", .var "_law_k"]])]

noncomputable def b_tail : List S := [
    .assign (.var "_law_other") (.bin .mod (.bin .add (.var "_law_side") (.bin .fdiv (.bin .mod (.bin .fdiv (.var "_law_draw") (.num 3)) (.num 3)) (.num 2))) (.num 2)),
    .ite (.not (.call "_law_right" [.idx (.var "_law_sheets") (.var "_law_other"), .idx (.var "_law_rules") (.var "_law_other"), .bin .sub (.num 3) (.bin .mod (.bin .fdiv (.var "_law_draw") (.num 9)) (.num 4)), .tup [.bin .mod (.var "_law_draw") (.var "_law_high"), .bin .mod (.bin .fdiv (.var "_law_draw") (.num 4)) (.var "_law_wide")]])) [
      .ret (.bool false)] [],
    .assign (.var "_law_turn") (.bin .mod (.bin .add (.var "_law_side") (.bin .mod (.bin .fdiv (.var "_law_draw") (.num 36)) (.num 2))) (.num 2))]

noncomputable def b_main : List S :=
    .assign (.var "_law_draw") (.bin .add (.bin .fdiv (.call "_law_cell_at" [.var "_law_script", .num 2]) (.bin .add (.var "_law_k") (.num 1))) (.var "_law_k")) ::
    .assign (.var "_law_side") (.bin .mod (.bin .add (.var "_law_turn") (.bin .fdiv (.bin .mod (.var "_law_draw") (.num 3)) (.num 2))) (.num 2)) ::
    .assign (.var "_law_deed_here") (.call "_law_deed" [.var "_law_script", .bin .add (.num 3) (.bin .mul (.num 3) (.var "_law_k")), .idx (.var "_law_rules") (.var "_law_side"), .var "_law_high", .var "_law_wide"]) ::
    .assign (.var "_law_due_here") (.call "_law_due" [.idx (.var "_law_rules") (.var "_law_side"), .var "_law_deed_here"]) ::
    .ite (.cmp (.call "_law_done" [.idx (.var "_law_sheets") (.var "_law_side"), .var "_law_deed_here"]) .ne (.idx (.var "_law_due_here") (.num 1))) [
      .ret (.bool false)] [] ::
    .ite (.cmp (.idx (.var "_law_due_here") (.num 0)) .isNot (.none)) [
      .expr (.meth (.idx (.var "_law_rules") (.var "_law_side")) .update [.idx (.var "_law_due_here") (.num 0)])] [] ::
    b_tail

noncomputable def p_law : List String := ["_law_script"]
noncomputable def b_law : List S := [
  .assign (.var "_law_high") (.bin .add (.num 2) (.bin .mod (.call "_law_cell_at" [.var "_law_script", .num 0]) (.num 2))),
  .assign (.var "_law_wide") (.bin .add (.num 2) (.bin .mod (.bin .fdiv (.call "_law_cell_at" [.var "_law_script", .num 0]) (.num 2)) (.num 2))),
  .assign (.var "_law_sheets") (.lst [.call "Sheet" [.var "_law_high", .var "_law_wide"], .call "Sheet" [.var "_law_high", .var "_law_wide"]]),
  .assign (.var "_law_rules") (.lst [.emptyDict, .emptyDict]),
  .for_ "_law_k" (.range1 (.bin .mul (.var "_law_high") (.var "_law_wide"))) b_init,
  .assign (.var "_law_turn") (.bin .mod (.bin .fdiv (.call "_law_cell_at" [.var "_law_script", .num 0]) (.num 4)) (.num 2)),
  .for_ "_law_k" (.range1 (.bin .mod (.call "_law_cell_at" [.var "_law_script", .num 1]) (.num 7))) b_main,
  .for_ "_law_side" (.range1 (.num 2)) [
    .for_ "_law_way" (.of (.lst [.num 3, .bin .mod (.bin .fdiv (.call "_law_cell_at" [.var "_law_script", .num 1]) (.num 7)) (.num 3)])) [
      .ite (.not (.call "_law_right" [.idx (.var "_law_sheets") (.var "_law_side"), .idx (.var "_law_rules") (.var "_law_side"), .var "_law_way", .tup [.var "_law_turn", .var "_law_side"]])) [
        .ret (.bool false)] []]],
  .ret (.bool true)]


noncomputable def names13 : List String := ["_law_cell_at", "_law_ref_by", "_law_leaf_by", "_law_rule_by", "_law_inner", "_law_refs", "_law_moved", "_law_lies", "_law_area", "_law_needs", "_law_told", "_law_values", "_law_deed", "_law_due", "_law_done", "_law_ring_right", "_law_touches", "_law_right"]
structure Env13 (W : Wd) : Prop where
  S : EnvS W
  typ : ∀ t ∈ typNames, W.glob t = some (.typ t)
  cell_at : FnOk W "_law_cell_at" p_law_cell_at b_law_cell_at
  ref_by : FnOk W "_law_ref_by" p_law_ref_by b_law_ref_by
  leaf_by : FnOk W "_law_leaf_by" p_law_leaf_by b_law_leaf_by
  rule_by : FnOk W "_law_rule_by" p_law_rule_by b_law_rule_by
  inner : FnOk W "_law_inner" p_law_inner b_law_inner
  refs : FnOk W "_law_refs" p_law_refs b_law_refs
  moved : FnOk W "_law_moved" p_law_moved b_law_moved
  lies : FnOk W "_law_lies" p_law_lies b_law_lies
  area : FnOk W "_law_area" p_law_area b_law_area
  needs : FnOk W "_law_needs" p_law_needs b_law_needs
  told : FnOk W "_law_told" p_law_told b_law_told
  values : FnOk W "_law_values" p_law_values b_law_values
  deed : FnOk W "_law_deed" p_law_deed b_law_deed
  due : FnOk W "_law_due" p_law_due b_law_due
  done : FnOk W "_law_done" p_law_done b_law_done
  ring_right : FnOk W "_law_ring_right" p_law_ring_right b_law_ring_right
  touches : FnOk W "_law_touches" p_law_touches b_law_touches
  right : FnOk W "_law_right" p_law_right b_law_right
  law : FnOk W "law" p_law b_law
  names : ∀ f ∈ names13, f ∈ W.names
section
variable {W : Wd} {k : Nat}
theorem Env13.has (E : Env13 W) {k : Nat} {f : String} (h : f ∈ names13) : (glb W k).has f = true := decide_eq_true (E.names f h)
theorem Env13.glob (E : Env13 W) {k : Nat} {t : String} (h : t ∈ typNames) : (glb W k).glob t = some (.typ t) := E.typ t h
theorem sm (n : Nat) (h : n ≤ 1000000) (h0 : 0 < n) : (0 : Int) < n ∧ small n := ⟨Int.ofNat_lt.mpr h0, Int.le_trans (by decide) (Int.natCast_nonneg n), Int.lt_of_le_of_lt (Int.ofNat_le.mpr h) (by decide)⟩
theorem mod_G {h w : Nat} (z : Sz h w) (a b : Int) : (a % h, b % w) ∈ G h w := mem_G.mpr ⟨Int.emod_nonneg _ (Int.ofNat_ne_zero.mpr (Nat.pos_iff_ne_zero.mp z.h0)), Int.emod_lt_of_pos _ (Int.ofNat_lt.mpr z.h0), Int.emod_nonneg _ (Int.ofNat_ne_zero.mpr (Nat.pos_iff_ne_zero.mp z.w0)), Int.emod_lt_of_pos _ (Int.ofNat_lt.mpr z.w0)⟩

theorem cell_at_ok (E : Env13 W) (i : Nat) (σ : Hp) (Q : VP) (h : ∀ n, Q (.int n) σ) : callP W 1 "_law_cell_at" [.script, .int i] σ Q noX := by
  refine call_ok E.S.T E.cell_at rfl ?_
  dsimp only [b_law_cell_at, p_law_cell_at, bindP]
  refine st_cons ?_
  dsimp only [S.ite, X.bi, X.cmp, X.var, wpEs, wpT]
  refine s_get rfl (s_get rfl (s_lenS (s_lt (s_truth rfl (s_if (fun hl => ?_) fun _ => ?_)))))
  · have hg := get_nat (l := (glb W 0).ns) (Int.ofNat_lt.mp (of_decide_eq_true hl))
    refine st_cons ?_
    dsimp only [S.ret, X.bin, X.idx, X.num, X.var]
    exact s_get rfl (s_get rfl (s_idxS hg (s_get rfl (s_get rfl (s_idxS hg (s_mod (by decide) (s_mul (.inr (by unfold small; decide)) (s_add (h _)))))))))
  · refine st_nil (st_cons ?_)
    dsimp only [S.ret, X.num]
    exact h _
theorem ref_by_ok (E : Env13 W) {h w : Nat} (z : Sz h w) (c : Int) (σ : Hp) (Q : VP) (hQ : ∀ x : Ref, x.p ∈ G h w → Q x.v σ) : callP W 1 "_law_ref_by" [.int c, .int h, .int w] σ Q noX := by
  refine call_ok E.S.T E.ref_by rfl ?_
  dsimp only [b_law_ref_by, p_law_ref_by, bindP]
  refine st_cons ?_
  dsimp only [S.ret, X.bin, X.cmp, X.num, X.tup, X.var, wpEs]
  refine s_get rfl (s_get rfl (s_mod (Int.ofNat_lt.mpr z.h0) (s_get rfl (s_fdiv (sm 4 (by decide) (by decide)) (s_get rfl (s_mod (Int.ofNat_lt.mpr z.w0) (s_get rfl (s_fdiv (sm 16 (by decide) (by decide)) (s_mod (by decide) (s_eqI (s_get rfl (s_fdiv (sm 32 (by decide) (by decide)) (s_mod (by decide) (s_eqI ?_))))))))))))))
  exact hQ ⟨(c % h, c / 4 % w), _, _⟩ (mod_G z _ _)
/-- a rule as it is drawn -/
noncomputable def Drawn (h w n : Nat) (r : Rule) : Prop := r.deep ≤ n ∧ r.size ≤ n * 2 ∧ r.On h w
theorem on_leaf {h w : Nat} {r : Rule} (hp : r.parts = []) (hr : ∀ x ∈ r.refs, x.p ∈ G h w) : r.On h w := fun x hx => by
  rw [Rule.tr_eq, hp] at hx
  exact hr x ((List.mem_append.mp hx).elim id fun h => by cases h)
theorem on_node {h w : Nat} {r : Rule} (hr : ∀ x ∈ r.refs, x.p ∈ G h w) (hp : ∀ s ∈ r.parts, s.On h w) : r.On h w := fun x hx => by
  rw [Rule.tr_eq] at hx
  rcases List.mem_append.mp hx with hx | hx
  · exact hr x hx
  · obtain ⟨s, hs, hx⟩ := List.mem_flatMap.mp hx; exact hp s hs x hx
theorem leaf_by_ok (E : Env13 W) {h w : Nat} (z : Sz h w) (c : Int) (σ : Hp) (Q : VP) (hQ : ∀ r : Rule, Drawn h w 1 r → Q r.v σ) : callP W 2 "_law_leaf_by" [.int c, .int h, .int w] σ Q noX := by
  have n1 : (glb W 1).has "_law_ref_by" = true := E.has (by decide)
  refine call_ok E.S.T E.leaf_by rfl ?_
  dsimp only [b_law_leaf_by, p_law_leaf_by, bindP]
  refine st_cons ?_
  dsimp only [S.assign, T.var, X.bin, X.num, X.var]
  refine s_get rfl (s_fdiv (sm 5 (by decide) (by decide)) (st_cons ?_))
  dsimp only [S.assign, T.var, X.call, X.var, wpEs]
  refine s_call n1 (s_get rfl (s_get rfl (s_get rfl (gcall (m := 1) (by decide) (ref_by_ok E z _ σ _ fun x hx => st_cons ?_)))))
  dsimp only [S.ite, X.bin, X.cmp, X.num, X.var, wpT]
  refine s_get rfl (s_mod (by decide) (s_eqI (s_truth rfl (s_if (fun _ => st_cons ?_) fun _ => st_nil (st_cons ?_)))))
  · dsimp only [S.ret, X.bin, X.num, X.str, X.tup, X.var, wpEs]
    exact s_get rfl (s_mod (by decide) (hQ (.num _) ⟨Nat.le_refl 1, (by decide : 1 ≤ 1 * 2), on_leaf rfl fun _ h => by cases h⟩))
  dsimp only [S.ite, X.bin, X.cmp, X.num, X.var, wpT]
  have two : ∀ (r : Ref → Rule) (y : Ref), (r y).parts = [] → (r y).refs = [x, y] → (r y).deep = 1 → (r y).size = 1 → y.p ∈ G h w → Drawn h w 1 (r y) := fun r y h1 h2 h3 h4 hy => ⟨Nat.le_of_eq h3, by rw [h4]; decide, on_leaf h1 fun q hq => by
    rw [h2] at hq
    rcases List.mem_cons.mp hq with rfl | hq
    · exact hx
    · rw [List.mem_singleton.mp hq]; exact hy⟩
  refine s_get rfl (s_mod (by decide) (s_eqI (s_truth rfl (s_if (fun _ => st_cons ?_) fun _ => st_nil (st_cons ?_)))))
  · dsimp only [S.ret, X.bin, X.call, X.num, X.str, X.tup, X.var, wpEs]
    exact s_get rfl (s_call n1 (s_get rfl (s_mul (.inr (by unfold small; decide)) (s_mod (by decide) (s_get rfl (s_get rfl (gcall (m := 1) (by decide) (ref_by_ok E z _ σ _ fun y hy => hQ (.sum x y) (two (.sum x) y rfl rfl rfl rfl hy)))))))))
  dsimp only [S.ite, X.bin, X.cmp, X.num, X.var, wpT]
  refine s_get rfl (s_mod (by decide) (s_eqI (s_truth rfl (s_if (fun _ => st_cons ?_) fun _ => st_nil (st_cons ?_)))))
  · dsimp only [S.ret, X.bin, X.call, X.num, X.str, X.tup, X.var, wpEs]
    exact s_get rfl (s_call n1 (s_get rfl (s_mul (.inr (by unfold small; decide)) (s_mod (by decide) (s_get rfl (s_get rfl (gcall (m := 1) (by decide) (ref_by_ok E z _ σ _ fun y hy => hQ (.most x y) (two (.most x) y rfl rfl rfl rfl hy)))))))))
  dsimp only [S.ret, X.str, X.tup, X.var, wpEs]
  exact s_get rfl (hQ (.cell x) ⟨Nat.le_refl 1, (by decide : 1 ≤ 1 * 2), on_leaf rfl fun q hq => by rw [List.mem_singleton.mp hq]; exact hx⟩)
theorem rule_by_ok (E : Env13 W) {h w : Nat} (z : Sz h w) (c : Int) (σ : Hp) (Q : VP) (hQ : ∀ r : Rule, Drawn h w 2 r ∨ Drawn h w 1 r → Q r.v σ) : callP W 3 "_law_rule_by" [.int c, .int h, .int w] σ Q noX := by
  have n1 : (glb W 2).has "_law_ref_by" = true := E.has (by decide)
  have n2 : (glb W 2).has "_law_leaf_by" = true := E.has (by decide)
  refine call_ok E.S.T E.rule_by rfl ?_
  dsimp only [b_law_rule_by, p_law_rule_by, bindP]
  refine st_cons ?_
  dsimp only [S.assign, T.var, X.bin, X.num, X.var]
  refine s_get rfl (s_fdiv (sm 8 (by decide) (by decide)) (st_cons ?_))
  dsimp only [S.assign, T.var, X.call, X.var, wpEs]
  refine s_call n2 (s_get rfl (s_get rfl (s_get rfl (gcall (m := 2) (by decide) (leaf_by_ok E z _ σ _ fun a ha => st_cons ?_)))))
  dsimp only [S.assign, T.var, X.bin, X.call, X.num, X.var, wpEs]
  refine s_call n2 (s_get rfl (s_mul (.inr (by unfold small; decide)) (s_mod (by decide) (s_get rfl (s_get rfl (gcall (m := 2) (by decide) (leaf_by_ok E z _ σ _ fun b hb => st_cons ?_)))))))
  dsimp only [S.ite, X.bin, X.cmp, X.num, X.var, wpT]
  have d1 : ∀ {r : Rule}, Drawn h w 1 r → r.deep = 1 ∧ r.size = 1 := fun {r} hr => by
    have h1 : r.deep = 1 := Nat.le_antisymm hr.1 r.deep_pos
    refine ⟨h1, ?_⟩
    cases r with
    | add x y => exact absurd (Nat.le_trans (Rule.part_deep (r := .add x y) (.head _)) (Nat.le_of_eq h1)) (Nat.not_le.mpr (Nat.succ_lt_succ x.deep_pos))
    | pick x y z => exact absurd (Nat.le_trans (Rule.part_deep (r := .pick x y z) (.head _)) (Nat.le_of_eq h1)) (Nat.not_le.mpr (Nat.succ_lt_succ x.deep_pos))
    | look x p q y => exact absurd (Nat.le_trans (Rule.part_deep (r := .look x p q y) (.head _)) (Nat.le_of_eq h1)) (Nat.not_le.mpr (Nat.succ_lt_succ x.deep_pos))
    | _ => rfl
  obtain ⟨a1, a2⟩ := d1 ha
  obtain ⟨b1, b2⟩ := d1 hb
  have nn : ∀ i : Int, (Rule.num i).On h w := fun i => on_leaf rfl fun _ h => by cases h
  have two : ∀ s ∈ [a, b], s.On h w := fun s hs => (List.mem_cons.mp hs).elim (fun e => e ▸ ha.2.2) fun hs => List.mem_singleton.mp hs ▸ hb.2.2
  refine s_get rfl (s_mod (by decide) (s_lt (s_truth rfl (s_if (fun _ => st_cons ?_) fun _ => st_nil (st_cons ?_)))))
  · dsimp only [S.ret, X.var]
    exact s_get rfl (hQ a (.inr ha))
  dsimp only [S.ite, X.bin, X.cmp, X.num, X.var, wpT]
  refine s_get rfl (s_mod (by decide) (s_lt (s_truth rfl (s_if (fun _ => st_cons ?_) fun _ => st_nil (st_cons ?_)))))
  · dsimp only [S.ret, X.str, X.tup, X.var, wpEs]
    refine s_get rfl (s_get rfl (hQ (.add a b) (.inl ⟨?_, ?_, on_node (fun _ h => by cases h) two⟩)))
    · show max _ _ + 1 ≤ 2; rw [a1, b1]; decide
    · show _ + _ + 1 ≤ 2 * 2; rw [a2, b2]; decide
  dsimp only [S.ite, X.bin, X.cmp, X.num, X.var, wpT]
  refine s_get rfl (s_mod (by decide) (s_lt (s_truth rfl (s_if (fun _ => st_cons ?_) fun _ => st_nil (st_cons ?_)))))
  · dsimp only [S.ret, X.bin, X.num, X.str, X.tup, X.var, wpEs]
    refine s_get rfl (s_get rfl (s_get rfl (s_mod (by decide) (hQ (.pick b a (.num _)) (.inl ⟨?_, ?_, on_node (fun _ h => by cases h) fun s hs => ?_⟩)))))
    · show max _ (max _ 1) + 1 ≤ 2; rw [a1, b1]; decide
    · show _ + (_ + 1) + 1 ≤ 2 * 2; rw [a2, b2]; decide
    · rcases List.mem_cons.mp hs with rfl | hs
      · exact hb.2.2
      · rcases List.mem_cons.mp hs with rfl | hs
        · exact ha.2.2
        · rw [List.mem_singleton.mp hs]; exact nn _
  dsimp only [S.assign, T.var, X.bin, X.call, X.num, X.var, wpEs]
  refine s_call n1 (s_get rfl (s_mul (.inr (by unfold small; decide)) (s_mod (by decide) (s_get rfl (s_get rfl (gcall (m := 1) (by decide) (ref_by_ok E z _ σ _ fun y hy => st_cons ?_)))))))
  dsimp only [S.ret, X.call, X.str, X.tup, X.var, wpEs]
  refine s_get rfl (s_call n1 (s_get rfl (s_get rfl (s_get rfl (gcall (m := 1) (by decide) (ref_by_ok E z _ σ _ fun x hx => s_get rfl (s_get rfl (hQ (.look a x y b) (.inl ⟨?_, ?_, on_node (fun q hq => ?_) two⟩)))))))))
  · show max _ _ + 1 ≤ 2; rw [a1, b1]; decide
  · show _ + _ + 1 ≤ 2 * 2; rw [a2, b2]; decide
  · rcases List.mem_cons.mp hq with rfl | hq
    · exact hx
    · rw [List.mem_singleton.mp hq]; exact hy

/-! ### the parts of a rule, as the law takes them -/
inductive Itm where
  | int (n : Int)
  | ref (q : Ref)
  | rul (q : Rule)
  | str (s : String)
noncomputable def Itm.v : Itm → V
  | .int n => .int n
  | .ref q => q.v
  | .rul q => q.v
  | .str s => .str s
noncomputable def Itm.isR : Itm → Bool
  | .rul _ => true
  | _ => false
noncomputable def Itm.isX : Itm → Bool
  | .ref _ => true
  | _ => false
noncomputable def Rule.items : Rule → List Itm
  | .num i => [.int i]
  | .cell x => [.ref x]
  | .sum x y => [.ref x, .ref y]
  | .most x y => [.ref x, .ref y]
  | .add a b => [.rul a, .rul b]
  | .pick a b c => [.rul a, .rul b, .rul c]
  | .look a x y b => [.rul a, .ref x, .ref y, .rul b]
theorem Rule.v_items (r : Rule) : r.v = .tup (.str r.tag :: r.items.map Itm.v) := by cases r <;> rfl
theorem Rule.items_len (r : Rule) : r.items.length ≤ 4 := by cases r <;> exact Nat.le_of_ble_eq_true rfl
--theorem isA_rule (σ : Hp) (r : Rule) (t : String) : V.isA σ r.v t = some (t == "tuple") ∧ pyGet (match r.v with | .tup vs => vs | _ => []) 0 = some (.str r.tag) := by cases r <;> exact ⟨rfl, rfl⟩
noncomputable def isTupX : RS.X := .bi .isinstance [.var "_law_part", .glob "tuple"]
noncomputable def isStrX : RS.X := .bi .isinstance [.idx (.var "_law_part") (.num 0), .glob "str"]
/-- is it a tuple with a word ahead -/
theorem test_ok (E : Env13 W) (it : Itm) {n : Nat} {ρ : Env} {σ : Hp} {Q : VP} {X : XP} (neg : Bool) (hρ : ρ "_law_part" = some it.v) (hQ : Q (.bool (if neg = true then it.isX else it.isR)) σ) : (RS.X.bop true [isTupX] (if neg = true then .not isStrX else isStrX)) (glb W n) ρ σ Q X := by
  have g1 : (glb W n).glob "tuple" = some (.typ "tuple") := E.glob (by decide)
  have g2 : (glb W n).glob "str" = some (.typ "str") := E.glob (by decide)
  unfold isTupX isStrX
  cases it with
  | str m => cases neg <;> exact s_get hρ (s_get g1 (s_isi (b := false) (by decide) rfl (s_truth rfl (s_ifF Bool.false_ne_true hQ))))
  | int m => cases neg <;> exact s_get hρ (s_get g1 (s_isi (b := false) (by decide) rfl (s_truth rfl (s_ifF Bool.false_ne_true hQ))))
  | ref x => cases neg <;> exact s_get hρ (s_get g1 (s_isi (b := true) (by decide) rfl (s_truth rfl (s_ifT rfl (s_get hρ (s_idxT (v := .int x.p.1) rfl (s_get g2 (s_isi (b := false) (by decide) rfl (by first | exact hQ | exact s_truth rfl hQ)))))))))
  | rul r =>
    have hv := r.v_items
    have h1 : V.isA σ (Itm.rul r).v "tuple" = some true := by show V.isA σ r.v "tuple" = _; rw [hv]; rfl
    have h2 : ρ "_law_part" = some (.tup (.str r.tag :: r.items.map Itm.v)) := hρ.trans (congrArg some hv)
    cases neg <;> exact s_get hρ (s_get g1 (s_isi (by decide) h1 (s_truth rfl (s_ifT rfl (s_get h2 (s_idxT (v := .str r.tag) rfl (s_get g2 (s_isi (b := true) (by decide) rfl (by first | exact hQ | exact s_truth rfl hQ)))))))))
noncomputable def partsX (neg : Bool) : RS.X := .comp (.var "_law_part") "_law_part" (.of (.slice (.var "_law_rule") (.num 1) .none)) [.bop true [isTupX] (if neg = true then .not isStrX else isStrX)]
theorem partsX_ok (E : Env13 W) (r : Rule) {n : Nat} {ρ : Env} {σ : Hp} {Q : VP} {X : XP} (neg : Bool) (hρ : ρ "_law_rule" = some r.v) (hQ : ∀ a σ', σ a = none → σ.le σ' → σ' a = some (.lst ((r.items.filter fun it => if neg = true then it.isX else it.isR).map Itm.v)) → Q (.ref a) σ') : partsX neg (glb W n) ρ σ Q X := by
  rw [r.v_items] at hρ
  refine s_get hρ (s_sliceT rfl rfl (s_srcT ?_))
  rw [slice_tail]
  refine compL_fl Itm.v Itm.v (fun it => if neg = true then it.isX else it.isR) (fun _ _ => trivial) (Nat.le_trans r.items_len (by decide)) (fun it _ σ₁ le₁ K' hK' => ?_) fun σ₁ le₁ => s_newG fun a σ₂ na le₂ ha => hQ a σ₂ (Hp.le_none le₁ na) (Hp.le_trans le₁ le₂) ha
  have := hK' σ₁ (Hp.le_refl _)
  refine test_ok E it neg (Env.set_same _ _ _) (s_truth rfl (s_ifB (fun e => ?_) fun e => s_ifF Bool.false_ne_true ?_))
  · rw [e] at this; dsimp only [RS.X.var, wpIfs]; exact s_get (Env.set_same _ _ _) this
  · rw [e] at this; exact this
theorem inner_ok (E : Env13 W) (r : Rule) (σ : Hp) (Q : VP) (hQ : ∀ a σ', σ a = none → σ.le σ' → σ' a = some (.lst (r.parts.map Rule.v)) → Q (.ref a) σ') : callP W 1 "_law_inner" [r.v] σ Q noX := by
  refine call_ok E.S.T E.inner rfl (st_cons ?_)
  refine partsX_ok E r false rfl fun a σ' na le ha => hQ a σ' na le ?_
  rw [ha]; cases r <;> rfl
theorem refsX_ok (E : Env13 W) (r : Rule) {n : Nat} {ρ : Env} {σ : Hp} {Q : VP} {X : XP} (hρ : ρ "_law_rule" = some r.v) (hQ : ∀ a σ', σ a = none → σ.le σ' → σ' a = some (.lst (r.refs.map Ref.v)) → Q (.ref a) σ') : partsX true (glb W n) ρ σ Q X :=
  partsX_ok E r true hρ fun a σ' na le ha => hQ a σ' na le (by rw [ha]; cases r <;> rfl)
/-- a list that grows by what each part gives -/
theorem tr_part {β : Type} (g : Rule → List β) (pre : List Rule) (p : Rule) : (pre ++ [p]).flatMap (Rule.tr g) = pre.flatMap (Rule.tr g) ++ p.tr g := by rw [List.flatMap_append, List.flatMap_cons, List.flatMap_nil, List.append_nil]
theorem tr_len {β : Type} {g : Rule → List β} {m : Nat} : ∀ r : Rule, (∀ s e, SubD r 1 s e → (g s).length ≤ m) → (r.tr g).length ≤ m * r.size := by
  have key : ∀ r : Rule, ∀ d, (∀ s e, SubD r d s e → (g s).length ≤ m) → (r.tr g).length ≤ m * r.size := by
    refine Rule.ind fun r ih d h => ?_
    have hp : ∀ ps : List Rule, (∀ p ∈ ps, p ∈ r.parts) → (ps.flatMap (Rule.tr g)).length ≤ m * (ps.map Rule.size).sum := by
      intro ps
      induction ps with
      | nil => exact fun _ => Nat.zero_le _
      | cons p ps ihp =>
        intro hps
        rw [List.flatMap_cons, List.length_append, List.map_cons, List.sum_cons, Nat.mul_add]
        exact Nat.add_le_add (ih p (hps p (.head _)) (d + 1) fun s e hs => h s e (.part (hps p (.head _)) hs)) (ihp fun q hq => hps q (.tail _ hq))
    rw [Rule.tr_eq, List.length_append, r.size_eq, Nat.mul_add, Nat.mul_one, Nat.add_comm]
    exact Nat.add_le_add (hp _ fun _ h => h) (h r d (.refl _ _))
  exact fun r h => key r 1 h
end


section
variable {W : Wd} {k : Nat}
theorem larea_ok (E : Env13 W) (r1 c1 r2 c2 : Int) (t1 t2 : List V) (σ : Hp) (Q : VP)
    (hr : max r1 r2 + 1 - min r1 r2 ≤ 100) (hcc : max c1 c2 + 1 - min c1 c2 ≤ 100)
    (h : ∀ a σ', σ a = none → σ.le σ' → σ' a = some (.lst ((boxOf r1 c1 r2 c2).map pv)) → Q (.ref a) σ') :
    callP W 1 "_law_area" [.tup (.int r1 :: .int c1 :: t1), .tup (.int r2 :: .int c2 :: t2)] σ Q noX := by
  have tl : ∀ {x : Int}, x ≤ 100 → x.toNat ≤ 100 := fun hx => Int.toNat_le.mpr hx
  refine call_ok E.S.T E.area rfl ?_
  dsimp only [b_law_area, p_law_area, bindP]
  refine st_cons ?_
  dsimp only [S.assign, T.var, X.bi, X.idx, X.lst, X.num, X.var, wpEs]
  refine s_get rfl (s_idxT (v := .int r1) rfl (s_get rfl (s_idxT (v := .int r2) rfl (s_newG fun a1 σ₁ n1 le₁ h1 => .sort2 h1 (s_newG fun a2 σ₂ n2 le₂ h2 => st_cons ?_)))))
  dsimp only [S.assign, T.var, X.bi, X.idx, X.lst, X.num, X.var, wpEs]
  refine s_get rfl (s_idxT (v := .int c1) rfl (s_get rfl (s_idxT (v := .int c2) rfl (s_newG fun a3 σ₃ n3 le₃ h3 => .sort2 h3 (s_newG fun a4 σ₄ n4 le₄ h4 => st_cons ?_)))))
  dsimp only [S.assign, T.var, X.lst, wpEs]
  refine s_newG fun a σ₅ na le₅ ha => st_cons ?_
  dsimp only [S.for_, Src.range2, X.bin, X.idx, X.num, X.var]
  have leA := Hp.le_trans le₁ (Hp.le_trans le₂ (Hp.le_trans le₃ le₄))
  have h2 := le₅ _ _ (le₄ _ _ (le₃ _ _ h2))
  refine s_get rfl (s_idxL h2 (v := .int (min r1 r2)) rfl (s_get rfl (s_idxL h2 (v := .int (max r1 r2)) rfl (s_add (s_range (Nat.le_trans (tl hr) (by decide)) ?_)))))
  refine forL_range (fun i ρ σ' => ρ "_law_columns" = some (.ref a4) ∧ σ₄.le σ' ∧ ∃ b, ρ "_law_found" = some (.ref b) ∧ σ b = none ∧ σ' b = some (.lst ((areaP (min r1 r2) (min c1 c2) (max c1 c2 + 1 - min c1 c2).toNat i).map pv)))
    ⟨rfl, le₅, a, rfl, Hp.le_none leA na, ha⟩ (fun _ => trivial) ?_ ?_
  · rintro i ρ σ' N' hi ⟨hl, hle, b, hf, hb, hb'⟩ hN
    have hi : i < 100 := Int.ofNat_lt.mp (Int.lt_of_lt_of_le (Int.lt_sub_left_of_add_lt hi) hr)
    have h4 := hle _ _ h4
    have hl := (Env.set_ne ρ (.int (min r1 r2 + i)) (by decide : "_law_columns" ≠ "_law_row")).trans hl
    refine st_cons ?_
    dsimp only [S.assign, Src.range2, T.var, X.bin, X.comp, X.idx, X.num, X.tup, X.var, wpEs, wpIfs]
    refine s_get ((Env.set_ne _ _ (by decide)).trans hf) (s_get hl (s_idxL h4 (v := .int (min c1 c2)) rfl (s_get hl (s_idxL h4 (v := .int (max c1 c2)) rfl (s_add (s_range (Nat.le_trans (tl hcc) (by decide)) ?_))))))
    unfold rangeL
    refine compL_lt (fun (j : Nat) => V.int (min c1 c2 + j)) (fun (j : Nat) => pv (min r1 r2 + (i : Int), min c1 c2 + (j : Int))) (fun _ _ => trivial) (by unfold lenOk; rw [List.length_range]; exact Nat.le_trans (tl hcc) (by decide)) (fun j _ σ₂ le₂ K' hK' => ?_) fun σ₂ le₂ => ?_
    · exact s_ifT rfl (s_get ((Env.set_ne _ _ (by decide)).trans (Env.set_same _ _ _)) (s_get (Env.set_same _ _ _) (hK' _ (Hp.le_refl _))))
    refine s_newG fun c σ₃ nc le₃ hc => ?_
    have le23 := Hp.le_trans le₂ le₃
    refine s_lcat (le23 _ _ hb') hc ?_ fun d hd => ?_
    · unfold lenOk
      rw [List.length_map, List.length_map, List.length_range, areaP_length]
      exact Nat.le_trans (Nat.add_le_add (Nat.mul_le_mul (Nat.le_of_lt hi) (tl hcc)) (tl hcc)) (by decide)
    have leB := Hp.le_trans hle le23
    refine st_nil (hN _ _ ⟨(Env.set_ne _ _ (by decide)).trans hl, Hp.le_trans leB (Hp.le_set _ hd), d, Env.set_same _ _ _, Hp.le_none (Hp.le_trans leA leB) hd, ?_⟩)
    rw [Hp.set_same, areaP_succ, List.map_append, List.map_map]; rfl
  · rintro ρ σ' ⟨_, hle, b, hf, hb, hb'⟩
    refine st_cons ?_
    dsimp only [S.ret, X.var]
    exact s_get hf (h b σ' hb (Hp.le_trans leA hle) hb')

/-! ### what is in a rule and in its parts -/
noncomputable def growS (fn : String) : List S := [.for_ "_law_part" (.of (.call "_law_inner" [.var "_law_rule"])) [.assign (.var "_law_found") (.bin .add (.var "_law_found") (.call fn [.var "_law_part"]))], .ret (.var "_law_found")]
theorem grow_ok (E : Env13 W) {β : Type} {g : Rule → List β} {p : β → V} {fn : String} {r : Rule} {n a : Nat} {ρ : Env} {σ₀ σ : Hp} {N : NP} {Q : VP} {X : XPS} (hn : r.deep ≤ n) (hf : (glb W n).has fn = true) (hl : lenOk (r.tr g).length)
    (ih : ∀ s ∈ r.parts, lenOk (s.tr g).length → ∀ (σ : Hp) (Q : VP) (X : XP), (∀ a σ', σ a = none → σ.le σ' → σ' a = some (.lst ((s.tr g).map p)) → Q (.ref a) σ') → (glb W n).call fn [s.v] σ Q X)
    (h1 : ρ "_law_rule" = some r.v) (h2 : ρ "_law_found" = some (.ref a)) (na : σ₀ a = none) (le : σ₀.le σ) (ha : σ a = some (.lst ((g r).map p)))
    (hQ : ∀ a σ', σ₀ a = none → σ₀.le σ' → σ' a = some (.lst ((r.tr g).map p)) → Q (.ref a) σ') : wpSs (growS fn) (glb W n) N Q X ρ σ := by
  have n1 : (glb W n).has "_law_inner" = true := E.has (by decide)
  refine st_cons ?_
  dsimp only [RS.X.call, RS.X.var, S.for_, Src.of, wpEs]
  refine s_call n1 (s_get h1 (gcall (m := 1) (Nat.le_trans r.deep_pos hn) (inner_ok E r σ _ fun b σ₁ nb le₁ hb => s_srcL hb ?_)))
  refine forL_data Rule.v (fun pre ρ σ' => ∃ a, A4 (ρ "_law_found" = some (.ref a)) (σ₀ a = none) (σ₁.le σ') (σ' a = some (.lst ((g r ++ pre.flatMap (Rule.tr g)).map p)))) ?_ ?_ ?_ ?_
  · exact ⟨a, h2, na, Hp.le_refl _, by rw [List.flatMap_nil, List.append_nil]; exact le₁ _ _ ha⟩
  · rintro pre ρ σ' ⟨_, _, _, le, _⟩; exact le _ _ hb
  · rintro pre s post ρ σ' N' hsp ⟨a, e, na, le', ha⟩ hN
    have hlen : lenOk ((g r ++ pre.flatMap (Rule.tr g)).length + (s.tr g).length) := by
      rw [Rule.tr_eq, hsp, List.flatMap_append, List.flatMap_cons, ← List.append_assoc, ← List.append_assoc, List.length_append, List.length_append (bs := s.tr g)] at hl
      exact Nat.le_trans (Nat.le_add_right _ _) hl
    refine st_cons ?_
    dsimp only [RS.X.bin, RS.X.call, RS.X.var, S.assign, T.var, wpEs]
    refine s_get ((Env.set_ne _ _ (by decide)).trans e) (s_call hf (s_get (Env.set_same _ _ _) (ih s (mem_mid hsp) (Nat.le_trans (Nat.le_add_left _ _) hlen) σ' _ _ fun c σ₂ nc le₂ hc => ?_)))
    refine s_lcat (le₂ _ _ ha) hc (by rw [List.length_map, List.length_map]; exact hlen) fun d hd => ?_
    have leB := Hp.le_trans le' le₂
    exact st_nil (hN _ _ ⟨d, Env.set_same _ _ _, Hp.le_none (Hp.le_trans le (Hp.le_trans le₁ leB)) hd, Hp.le_trans leB (Hp.le_set _ hd), by rw [Hp.set_same, tr_part, ← List.append_assoc, List.map_append (l₂ := s.tr g)]⟩)
  · rintro ρ σ' ⟨a, e, na, le', ha⟩
    refine st_cons ?_
    dsimp only [RS.X.var, S.ret]
    exact s_get e (hQ a σ' na (Hp.le_trans le (Hp.le_trans le₁ le')) (by rw [ha, ← Rule.tr_eq]))
theorem lrefs_ok (E : Env13 W) : ∀ r : Rule, lenOk (r.tr Rule.refs).length → ∀ (σ : Hp) (Q : VP), (∀ a σ', σ a = none → σ.le σ' → σ' a = some (.lst ((r.tr Rule.refs).map Ref.v)) → Q (.ref a) σ') → callP W (r.deep + 1) "_law_refs" [r.v] σ Q noX := by
  refine Rule.ind fun r ih hl σ Q hQ => ?_
  refine call_ok E.S.T E.refs rfl (st_cons ?_)
  refine refsX_ok E r rfl fun a σ₁ na le₁ ha => ?_
  exact grow_ok E (g := Rule.refs) (p := Ref.v) (fn := "_law_refs") (Nat.le_refl _) (E.has (by decide)) hl (fun s hs hl σ Q X hQ => gcall (Rule.part_deep hs) (ih s hs hl σ Q hQ)) rfl rfl na le₁ ha hQ
theorem places_or (r : Rule) : (r.refs = [] ∧ r.places = []) ∨ ∃ x y, x ∈ r.refs ∧ y ∈ r.refs ∧ pyGet (r.refs.map Ref.v) 0 = some x.v ∧ pyGet (r.refs.map Ref.v) (-1) = some y.v ∧ r.places = boxOf x.p.1 x.p.2 y.p.1 y.p.2 := by
  cases r with
  | num _ => exact .inl ⟨rfl, rfl⟩
  | add _ _ => exact .inl ⟨rfl, rfl⟩
  | pick _ _ _ => exact .inl ⟨rfl, rfl⟩
  | cell x => exact .inr ⟨x, x, .head _, .head _, rfl, rfl, rfl⟩
  | sum x y => exact .inr ⟨x, y, .head _, .tail _ (.head _), rfl, rfl, rfl⟩
  | most x y => exact .inr ⟨x, y, .head _, .tail _ (.head _), rfl, rfl, rfl⟩
  | look _ x y _ => exact .inr ⟨x, y, .head _, .tail _ (.head _), rfl, rfl, rfl⟩
theorem lneeds_ok (E : Env13 W) {h w : Nat} (z : Sz h w) : ∀ r : Rule, r.On h w → lenOk r.nd.length → ∀ (σ : Hp) (Q : VP), (∀ a σ', σ a = none → σ.le σ' → σ' a = some (.lst (r.nd.map pv)) → Q (.ref a) σ') → callP W (r.deep + 1) "_law_needs" [r.v] σ Q noX := by
  refine Rule.ind fun r ih on hl σ Q hQ => ?_
  have n1 : (glb W r.deep).has "_law_area" = true := E.has (by decide)
  refine call_ok E.S.T E.needs rfl (st_cons ?_)
  dsimp only [S.assign, T.var, X.bi, X.bop, X.glob, X.idx, X.lst, X.not, X.num, X.var, wpBop, wpEs]
  refine s_newG fun a σ₁ na le₁ ha => st_cons ?_
  refine refsX_ok E r rfl fun b σ₂ nb le₂ hb => st_cons ?_
  dsimp only [S.ite, X.cmp, X.lst, X.var, wpEs, wpT]
  refine s_get rfl (s_newG fun c σ₃ nc le₃ hc => s_neL0 (le₃ _ _ hb) hc (snap_all Ref.v Ref.d _ fun x _ => snap_ref σ₃ x 48) (s_truth rfl ?_))
  have leA := Hp.le_trans le₁ (Hp.le_trans le₂ le₃)
  have fin : ∀ (ρ : Env) (a : Nat) (σ' : Hp) (N : NP), ρ "_law_rule" = some r.v → ρ "_law_found" = some (.ref a) → σ a = none → σ.le σ' → σ' a = some (.lst (r.places.map pv)) → wpSs (growS "_law_needs") (glb W r.deep) N Q (fun c _ σ' => noX c σ') ρ σ' := fun ρ a σ' N h1 h2 na le ha =>
    grow_ok E (g := Rule.places) (p := pv) (fn := "_law_needs") (Nat.le_refl _) (E.has (by decide)) hl (fun s hs hl σ Q X hQ => gcall (Rule.part_deep hs) (ih s hs (on_part hs on) hl σ Q hQ)) h1 h2 na le ha hQ
  rcases places_or r with ⟨e1, e2⟩ | ⟨x, y, hx, hy, g0, g1, e2⟩
  · rw [e1]
    exact s_ifF Bool.false_ne_true (st_nil (fin _ a σ₃ _ rfl rfl na leA (by rw [e2]; exact le₃ _ _ (le₂ _ _ ha))))
  · refine s_ifT (by cases hr : r.refs with | nil => rw [hr] at hx; cases hx | cons _ _ => rfl) (st_cons ?_)
    dsimp only [S.assign, T.var, X.call, X.idx, X.neg, X.num, X.var, wpEs]
    have hx := on_here on hx
    have hy := on_here on hy
    refine s_call n1 (s_get rfl (s_idxL (le₃ _ _ hb) g0 (s_get rfl (s_neg (s_idxL (le₃ _ _ hb) g1 ?_)))))
    refine gcall (m := 1) r.deep_pos (larea_ok E _ _ _ _ _ _ σ₃ _ (box_dim z hx hy).1 (box_dim z hx hy).2 fun d σ₄ nd le₄ hd => st_nil ?_)
    exact fin _ d σ₄ _ rfl rfl (Hp.le_none leA nd) (Hp.le_trans leA le₄) (by rw [e2]; exact hd)
theorem tr_bd {r : Rule} (hs : r.size ≤ 100) : lenOk (r.tr Rule.refs).length := Nat.le_trans (tr_len (m := 2) r fun s _ _ => by cases s <;> exact Nat.le_of_ble_eq_true rfl) (Nat.le_trans (Nat.mul_le_mul_left 2 hs) (by decide))
theorem nd_bd {h w : Nat} (z : Sz h w) {r : Rule} (hs : r.size ≤ 100) (on : r.On h w) : lenOk r.nd.length := by
  refine Nat.le_trans (tr_len (m := 10000) r fun s e h => ?_) (Nat.mul_le_mul_left 10000 hs)
  have on : ∀ x ∈ s.refs, x.p ∈ G _ _ := fun x hx => on x ((mem_tr r 1).mpr ⟨s, e, h, hx⟩)
  rcases places_or s with ⟨_, e2⟩ | ⟨x, y, hx, hy, _, _, e2⟩
  · rw [e2]; exact Nat.zero_le _
  · have d := box_dim z (on x hx) (on y hy)
    rw [e2]; unfold boxOf; rw [areaP_length]; exact Nat.mul_le_mul (Int.toNat_le.mpr d.1) (Int.toNat_le.mpr d.2)
theorem nf (b : Bool) : (!b) = false ↔ b = true := by cases b <;> decide
theorem filter_nil {α : Type} {l : List α} {q : α → Bool} {f : α → V} : ((l.filter q).map f).isEmpty = decide (∀ x ∈ l, q x = false) := by
  rw [List.isEmpty_map, Bool.eq_iff_iff, List.isEmpty_iff, List.filter_eq_nil_iff, decide_eq_true_iff]
  exact ⟨fun h x hx => Bool.eq_false_iff.mpr (h x hx), fun h x hx => Bool.eq_false_iff.mp (h x hx)⟩
theorem llies_ok (E : Env13 W) {xs : List Ref} {ks : List Pl} {g : Pl → V} {a d ep : Nat} {σ : Hp} (ha : σ a = some (.lst (xs.map Ref.v))) (hd : σ d = some (.dct (mapD ks g) ep)) (hl : lenOk xs.length) (Q : VP) (hQ : ∀ σ', σ.le σ' → Q (.bool (decide (∀ x ∈ xs, x.p ∈ ks))) σ') : callP W 1 "_law_lies" [.ref a, .ref d] σ Q noX := by
  refine call_ok E.S.T E.lies rfl ?_
  dsimp only [b_law_lies, p_law_lies, bindP]
  refine st_cons ?_
  dsimp only [S.ret, Src.of, X.cmp, X.comp, X.idx, X.lst, X.num, X.tup, X.var, wpEs, wpIfs]
  refine s_get rfl (s_srcL ha ?_)
  refine compL_fl Ref.v Ref.v (fun x => !decide (x.p ∈ ks)) (fun σ' le => le _ _ ha) hl (fun x _ σ₁ le₁ K' hK' => ?_) fun σ₁ le₁ => s_newG fun b σ₂ _ le₂ hb => s_newG fun c σ₃ _ le₃ hc => ?_
  · refine s_get (Env.set_same _ _ _) (s_idxT (v := .int x.p.1) rfl (s_get (Env.set_same _ _ _) (s_idxT (v := .int x.p.2) rfl (s_get ((Env.set_ne _ _ (by decide)).trans rfl) (.notIn (s_inD' (q := x.p) (le₁ _ _ hd) (s_truth rfl (s_ifB (fun e => ?_) fun e => s_ifF Bool.false_ne_true ?_))))))))
    · have := hK' σ₁ (Hp.le_refl _); rw [if_pos e] at this; exact s_get (Env.set_same _ _ _) this
    · have := hK' σ₁ (Hp.le_refl _); rw [if_neg (by rw [e]; exact Bool.false_ne_true)] at this; exact this
  · refine s_eqL0 (le₃ _ _ hb) hc (snap_all Ref.v Ref.d _ fun x _ => snap_ref σ₃ x 48) ?_
    rw [filter_nil, decide_eq_decide.mpr (show (∀ x ∈ xs, (!decide (x.p ∈ ks)) = false) ↔ ∀ x ∈ xs, x.p ∈ ks from ⟨fun h x hx => of_decide_eq_true ((nf _).mp (h x hx)), fun h x hx => (nf _).mpr (decide_eq_true (h x hx))⟩)]
    exact hQ σ₃ (Hp.le_trans le₁ (Hp.le_trans le₂ le₃))
end


section
variable {W : Wd} {k : Nat}
/-! ### moved, as the law moves -/
noncomputable def Itm.sh (d e : Int) : Itm → Itm
  | .ref q => .ref (q.mv d e)
  | .rul q => .rul (q.sh d e)
  | it => it
theorem mul_b (x d : Int) (a : Bool) : x + d * (if (!a) = true then 1 else 0) = if a = true then x else x + d := by
  cases a
  · show x + d * 1 = x + d; rw [Int.mul_one]
  · show x + d * 0 = x; rw [Int.mul_zero, Int.add_zero]
theorem small_b (a : Bool) : small (if a = true then 1 else 0) := by unfold small; cases a <;> decide
theorem lmoved_leaf (E : Env13 W) (d e : Int) (it : Itm) (h : it.isR = false) (σ : Hp) (Q : VP) (hQ : Q (it.sh d e).v σ) : callP W 1 "_law_moved" [it.v, .int d, .int e] σ Q noX := by
  have g1 : (glb W 0).glob "tuple" = some (.typ "tuple") := E.glob (by decide)
  refine call_ok E.S.T E.moved rfl (st_cons ?_)
  refine test_ok E it true rfl (s_truth rfl ?_)
  cases it with
  | rul q => cases h
  | ref q =>
    refine s_ifT rfl (st_cons ?_)
    dsimp only [S.ret, X.bi, X.bin, X.idx, X.not, X.num, X.tup, X.var, wpEs]
    refine s_get rfl (s_idxT (v := .int q.p.1) rfl (s_get rfl (s_get rfl (s_idxT (v := .bool q.a) rfl (s_truth rfl (s_int (s_mul (.inr (small_b _)) (s_add ?_))))))))
    refine s_get rfl (s_idxT (v := .int q.p.2) rfl (s_get rfl (s_get rfl (s_idxT (v := .bool q.b) rfl (s_truth rfl (s_int (s_mul (.inr (small_b _)) (s_add ?_))))))))
    refine s_get rfl (s_idxT (v := .bool q.a) rfl (s_get rfl (s_idxT (v := .bool q.b) rfl ?_)))
    rw [mul_b, mul_b]; exact hQ
  | int m => exact s_ifF Bool.false_ne_true (st_nil (st_cons (s_get rfl (s_get g1 (s_isi (b := false) (by decide) rfl (s_truth rfl (s_ifF Bool.false_ne_true (st_nil (st_cons (s_get rfl hQ)))))))))) 
  | str m => exact s_ifF Bool.false_ne_true (st_nil (st_cons (s_get rfl (s_get g1 (s_isi (b := false) (by decide) rfl (s_truth rfl (s_ifF Bool.false_ne_true (st_nil (st_cons (s_get rfl hQ))))))))))
theorem rul_part {r q : Rule} (h : Itm.rul q ∈ r.items) : q ∈ r.parts := by
  have h := (List.mem_filter (p := Itm.isR)).mpr ⟨h, rfl⟩
  rw [show r.items.filter Itm.isR = r.parts.map Itm.rul by cases r <;> rfl] at h
  obtain ⟨q', h, e⟩ := List.mem_map.mp h
  injection e with e
  exact e ▸ h
theorem lmoved_ok (E : Env13 W) (d e : Int) : ∀ (r : Rule) (σ : Hp) (Q : VP), (∀ σ', σ.le σ' → Q (r.sh d e).v σ') → callP W (r.deep + 1) "_law_moved" [r.v, .int d, .int e] σ Q noX := by
  refine Rule.ind fun r ih σ Q hQ => ?_
  have g1 : (glb W r.deep).glob "tuple" = some (.typ "tuple") := E.glob (by decide)
  have n1 : (glb W r.deep).has "_law_moved" = true := E.has (by decide)
  refine call_ok E.S.T E.moved rfl (st_cons ?_)
  refine test_ok E (.rul r) true rfl (s_truth rfl (s_ifF Bool.false_ne_true (st_nil (st_cons ?_))))
  dsimp only [S.ite, X.bi, X.glob, X.var, wpEs, wpT]
  have hv : bindP p_law_moved [r.v, .int d, .int e] "_law_part" = some (.tup ((Itm.str r.tag :: r.items).map Itm.v)) := congrArg some r.v_items
  refine s_get hv (s_get g1 (s_isi (b := true) (by decide) rfl (s_truth rfl (s_ifT rfl (st_cons ?_)))))
  dsimp only [S.ret, Src.of, X.bi, X.call, X.comp, X.var, wpEs, wpIfs]
  refine s_get hv (s_srcT ?_)
  refine compL_lt Itm.v (fun it => (it.sh d e).v) (fun _ _ => trivial) (Nat.le_trans (Nat.succ_le_succ r.items_len) (by decide)) (fun it hit σ₁ le₁ K' hK' => ?_) fun σ₁ le₁ => s_newG fun a σ₂ _ le₂ ha => s_tuple ha ?_
  · refine s_ifT rfl (s_call n1 (s_get (Env.set_same _ _ _) (s_get ((Env.set_ne _ _ (by decide)).trans rfl) (s_get ((Env.set_ne _ _ (by decide)).trans rfl) ?_))))
    have hK' := fun σ'' le => hK' σ'' le
    cases it with
    | rul q => exact gcall (Rule.part_deep (rul_part ((List.mem_cons.mp hit).resolve_left fun e => by cases e))) (ih q (rul_part ((List.mem_cons.mp hit).resolve_left fun e => by cases e)) σ₁ _ hK')
    | ref q => exact gcall (m := 1) r.deep_pos (lmoved_leaf E d e (.ref q) rfl σ₁ _ (hK' _ (Hp.le_refl _)))
    | int q => exact gcall (m := 1) r.deep_pos (lmoved_leaf E d e (.int q) rfl σ₁ _ (hK' _ (Hp.le_refl _)))
    | str q => exact gcall (m := 1) r.deep_pos (lmoved_leaf E d e (.str q) rfl σ₁ _ (hK' _ (Hp.le_refl _)))
  · have := hQ σ₂ (Hp.le_trans le₁ le₂)
    rw [show (r.sh d e).v = .tup ((Itm.str r.tag :: r.items).map fun it => (it.sh d e).v) by cases r <;> rfl] at this
    exact this

/-! ### told, as the law tells -/
noncomputable def bd (x : Int) : Prop := 0 ≤ x ∧ x < B9
theorem bd_mod (x : Int) : bd (x % B9) := ⟨Int.emod_nonneg _ (by decide), Int.emod_lt_of_pos _ (by decide)⟩
theorem ev_bd {v : Pl → Int} : ∀ r : Rule, (∀ p ∈ r.nd, bd (v p)) → bd (r.ev v) := by
  refine Rule.ind fun r ih h => ?_
  have pt : ∀ s ∈ r.parts, bd (s.ev v) := fun s hs => ih s hs fun p hp => h p (nd_part hs hp)
  have hr : ∀ p ∈ r.places, bd (v p) := fun p hp => h p (nd_here hp)
  cases r with
  | num i => exact bd_mod _
  | cell x => exact hr _ (box_cell _)
  | sum x y => exact bd_mod _
  | add a b => exact bd_mod _
  | most x y =>
    show bd (mostL _)
    unfold mostL
    by_cases hm : ∃ m, m ∈ (boxOf x.p.1 x.p.2 y.p.1 y.p.2).map v ∧ ∀ b ∈ (boxOf x.p.1 x.p.2 y.p.1 y.p.2).map v, b ≤ m
    · rw [dif_pos hm]
      obtain ⟨p, hp, e⟩ := List.mem_map.mp hm.choose_spec.1
      rw [← e]; exact hr p hp
    · rw [dif_neg hm]; exact ⟨by decide, by decide⟩
  | pick a b c =>
    show bd (if _ then _ else _)
    by_cases e : a.ev v = 0
    · rw [if_pos e]; exact pt c (.tail _ (.tail _ (.head _)))
    · rw [if_neg e]; exact pt b (.tail _ (.head _))
  | look a x y b =>
    have key : ∀ n i, i + n ≤ rows x y → bd (lookN (fun i => v (min x.p.1 y.p.1 + i, min x.p.2 y.p.2)) (fun i => v (min x.p.1 y.p.1 + i, max x.p.2 y.p.2)) (a.ev v) (b.ev v) n i) := by
      intro n
      induction n with
      | zero => exact fun _ _ => pt b (.tail _ (.head _))
      | succ n ihn =>
        intro i hi
        show bd (if _ then _ else _)
        by_cases e : v (min x.p.1 y.p.1 + i, min x.p.2 y.p.2) = a.ev v
        · rw [if_pos e]; exact hr _ (box_row (Nat.lt_of_lt_of_le (Nat.lt_add_of_pos_right (Nat.succ_pos _)) hi)).2
        · rw [if_neg e]; exact ihn (i + 1) (by rw [Nat.add_right_comm]; exact hi)
    exact key _ 0 (by rw [Nat.zero_add]; exact Nat.le_refl _)
theorem It_bd {f : Pl → Rule} : ∀ {n : Nat} {p : Pl} {x : Int}, It f n p = some x → bd x
  | 0, _, _, h => by cases h
  | n + 1, p, x, h => by
    have hne := It_ne (n := n) (p := p) (by rw [h]; exact Option.some_ne_none _)
    have hv : ∀ q ∈ (f p).nd, It f n q = some ((It f n q).getD 0) := fun q hq => by
      cases e : It f n q with
      | none => exact absurd e (hne q hq)
      | some y => rfl
    rw [It_some hv] at h
    exact Option.some.inj h ▸ ev_bd _ fun q hq => It_bd (hv q hq)
theorem DD_bd {f : Pl → Rule} {p : Pl} {x : Int} (h : DD f p = some x) : bd x := It_bd (DD_ex h).choose_spec
theorem ltold_ok (E : Env13 W) {h w : Nat} (z : Sz h w) {v : Pl → Int} {es : List (List Int × V)} {ep kn : Nat} :
    ∀ (r : Rule), r.On h w → (∀ p ∈ r.nd, dget es (pk p) = some (.int (v p)) ∧ bd (v p)) → ∀ (σ : Hp) (Q : VP), σ kn = some (.dct es ep) → (∀ σ', σ.le σ' → Q (.int (r.ev v)) σ') → callP W (r.deep + 1) "_law_told" [r.v, .ref kn] σ Q noX := by
  refine Rule.ind fun r ih on hv σ Q hk hQ => ?_
  have n1 : (glb W r.deep).has "_law_told" = true := E.has (by decide)
  have n2 : (glb W r.deep).has "_law_inner" = true := E.has (by decide)
  have n3 : (glb W r.deep).has "_law_area" = true := E.has (by decide)
  have hr : ∀ p ∈ r.places, dget es (pk p) = some (.int (v p)) := fun p hp => (hv p (nd_here hp)).1
  have hvi : some r.v = some (.tup (.str r.tag :: r.items.map Itm.v)) := congrArg some r.v_items
  refine call_ok E.S.T E.told rfl ?_
  have st2 : ∀ (N : NP) (X : XPS), r.tag ≠ "num" → (∀ (ρ : Env) a σ₁, σ.le σ₁ → ρ "_law_rule" = some (.tup (.str r.tag :: r.items.map Itm.v)) → ρ "_law_known" = some (.ref kn) → ρ "_law_parts" = some (.ref a) → σ₁ a = some (.lst (r.parts.map fun s => V.int (s.ev v))) → wpSs (b_law_told.drop 2) (glb W r.deep) N Q X ρ σ₁) → wpSs b_law_told (glb W r.deep) N Q X (bindP p_law_told [r.v, .ref kn]) σ := by
    intro N X ht hF
    refine tag_no hvi ht (st_cons ?_)
    dsimp only [RS.X.bi, RS.X.bop, RS.X.call, RS.X.comp, RS.X.glob, RS.X.idx, RS.X.not, RS.X.num, RS.X.var, S.assign, Src.of, T.var, wpBop, wpEs, wpIfs]
    refine s_call n2 (s_get rfl (gcall (m := 1) r.deep_pos (inner_ok E r σ _ fun b σ₁ nb le₁ hb => s_srcL hb ?_)))
    refine compL_lt Rule.v (fun s => .int (s.ev v)) (fun σ' le => le _ _ hb) (Nat.le_trans (show r.parts.length ≤ 3 by cases r <;> exact Nat.le_of_ble_eq_true rfl) (by decide)) (fun s hs σ₂ le₂ K' hK' => ?_) fun σ₂ le₂ => s_newG fun a σ₃ _ le₃ ha => ?_
    · exact s_ifT rfl (s_call n1 (s_get (Env.set_same _ _ _) (s_get ((Env.set_ne _ _ (by decide)).trans rfl) (gcall (Rule.part_deep hs) (ih s hs (on_part hs on) (fun p hp => hv p (nd_part hs hp)) σ₂ _ (le₂ _ _ (le₁ _ _ hk)) hK')))))
    · exact hF _ a σ₃ (Hp.le_trans le₁ (Hp.le_trans le₂ le₃)) ((Env.set_ne _ _ (by decide)).trans hvi) rfl rfl ha
  have st6 : ∀ (x y : Ref) (N : NP) (X : XPS), x ∈ r.refs → y ∈ r.refs → pyGet (r.refs.map Ref.v) 0 = some x.v → pyGet (r.refs.map Ref.v) (-1) = some y.v → r.tag ≠ "num" → r.tag ≠ "add" → r.tag ≠ "pick" →
      (∀ (ρ : Env) a c σ₁, σ.le σ₁ → ρ "_law_rule" = some (.tup (.str r.tag :: r.items.map Itm.v)) → ρ "_law_known" = some (.ref kn) → ρ "_law_parts" = some (.ref a) → σ₁ a = some (.lst (r.parts.map fun s => V.int (s.ev v))) → ρ "_law_places" = some (.ref c) → σ₁ c = some (.lst ((boxOf x.p.1 x.p.2 y.p.1 y.p.2).map pv)) → wpSs (b_law_told.drop 6) (glb W r.deep) N Q X ρ σ₁) → wpSs b_law_told (glb W r.deep) N Q X (bindP p_law_told [r.v, .ref kn]) σ := by
    intro x y N X hx hy g0 g1 t1 t2 t3 hF
    refine st2 N X t1 fun ρ a σ₁ le₁ e1 e2 e3 ha => tag_no e1 t2 (tag_no e1 t3 (st_cons ?_))
    refine refsX_ok E r (e1.trans hvi.symm) fun b σ₂ nb le₂ hb => st_cons ?_
    dsimp only [RS.X.call, RS.X.idx, RS.X.neg, RS.X.num, RS.X.var, S.assign, T.var, wpEs]
    have hx := on_here on hx
    have hy := on_here on hy
    refine s_call n3 (s_get (Env.set_same _ _ _) (s_idxL hb g0 (s_get (Env.set_same _ _ _) (s_neg (s_idxL hb g1 ?_)))))
    refine gcall (m := 1) r.deep_pos (larea_ok E _ _ _ _ _ _ σ₂ _ (box_dim z hx hy).1 (box_dim z hx hy).2 fun c σ₃ nc le₃ hc => ?_)
    exact hF _ a c σ₃ (Hp.le_trans le₁ (Hp.le_trans le₂ le₃)) ((Env.set_ne _ _ (by decide)).trans ((Env.set_ne _ _ (by decide)).trans e1)) ((Env.set_ne _ _ (by decide)).trans ((Env.set_ne _ _ (by decide)).trans e2)) ((Env.set_ne _ _ (by decide)).trans ((Env.set_ne _ _ (by decide)).trans e3)) (le₃ _ _ (le₂ _ _ ha)) (Env.set_same _ _ _) hc
  have st8 : ∀ (x y : Ref) (N : NP) (X : XPS), x ∈ r.refs → y ∈ r.refs → pyGet (r.refs.map Ref.v) 0 = some x.v → pyGet (r.refs.map Ref.v) (-1) = some y.v → r.places = boxOf x.p.1 x.p.2 y.p.1 y.p.2 → r.tag ≠ "num" → r.tag ≠ "add" → r.tag ≠ "pick" → r.tag ≠ "look" →
      (∀ (ρ : Env) c σ₁, σ.le σ₁ → ρ "_law_rule" = some (.tup (.str r.tag :: r.items.map Itm.v)) → ρ "_law_values_here" = some (.ref c) → σ₁ c = some (.lst ((boxOf x.p.1 x.p.2 y.p.1 y.p.2).map fun p => V.int (v p))) → wpSs (b_law_told.drop 8) (glb W r.deep) N Q X ρ σ₁) → wpSs b_law_told (glb W r.deep) N Q X (bindP p_law_told [r.v, .ref kn]) σ := by
    intro x y N X hx hy g0 g1 hp t1 t2 t3 t4 hF
    refine st6 x y N X hx hy g0 g1 t1 t2 t3 fun ρ a c σ₁ le₁ e1 e2 _ _ e4 hc => tag_no e1 t4 (st_cons ?_)
    dsimp only [RS.X.comp, RS.X.idx, RS.X.var, S.assign, Src.of, T.var, wpIfs]
    refine s_get e4 (s_srcL hc ?_)
    refine compL_lt pv (fun p => .int (v p)) (fun σ' le => le _ _ hc) (box_n z (on_here on hx) (on_here on hy)) (fun p hp' σ' le K' hK' => ?_) fun σ₂ le₂ => s_newG fun b σ₃ nb le₃ hb => hF _ b σ₃ (Hp.le_trans le₁ (Hp.le_trans le₂ le₃)) ((Env.set_ne _ _ (by decide)).trans e1) (Env.set_same _ _ _) hb
    exact s_ifT rfl (s_get ((Env.set_ne _ _ (by decide)).trans e2) (s_get (Env.set_same _ _ _) (s_idxD (le _ _ (le₁ _ _ hk)) (k := pk p) rfl (hr p (by rw [hp]; exact hp')) (hK' _ (Hp.le_refl _)))))
  cases r with
  | num i =>
    refine tag_yes rfl (st_cons ?_)
    dsimp only [S.ret, X.bi, X.bin, X.bop, X.glob, X.idx, X.not, X.num, X.var, wpBop, wpEs]
    exact s_get rfl (s_idxT (v := .int i) rfl (s_mod (by decide) (hQ σ (Hp.le_refl _))))
  | add a b =>
    refine st2 _ _ (by decide : "add" ≠ "num") fun ρ c σ₁ le₁ e1 _ e3 hc => tag_yes e1 (st_cons ?_)
    dsimp only [S.ret, X.bi, X.bin, X.bop, X.glob, X.idx, X.not, X.num, X.var, wpBop, wpEs]
    exact s_get e3 (s_idxL hc (v := .int (a.ev v)) rfl (s_get e3 (s_idxL hc (v := .int (b.ev v)) rfl (s_add (s_mod (by decide) (hQ σ₁ le₁))))))
  | pick a b c =>
    refine st2 _ _ (by decide : "pick" ≠ "num") fun ρ d σ₁ le₁ e1 _ e3 hd => tag_no e1 (by decide : "pick" ≠ "add") (tag_yes e1 (st_cons ?_))
    dsimp only [S.ret, X.bi, X.bin, X.bop, X.cmp, X.glob, X.idx, X.not, X.num, X.var, wpBop, wpEs]
    refine s_get e3 (s_get e3 (s_idxL hd (v := .int (a.ev v)) rfl (s_eqI (s_int (s_add ?_)))))
    have hq := hQ σ₁ le₁
    by_cases e : a.ev v = 0
    · rw [show (Rule.pick a b c).ev v = c.ev v from if_pos e] at hq
      rw [decide_eq_true e]; exact s_idxL hd (v := .int (c.ev v)) rfl hq
    · rw [show (Rule.pick a b c).ev v = b.ev v from if_neg e] at hq
      rw [decide_eq_false e]; exact s_idxL hd (v := .int (b.ev v)) rfl hq
  | cell x =>
    refine st8 x x _ _ (.head _) (.head _) rfl rfl rfl (by decide : "cell" ≠ "num") (by decide : "cell" ≠ "add") (by decide : "cell" ≠ "pick") (by decide : "cell" ≠ "look") fun ρ c σ₁ le₁ e1 e5 hc => tag_no e1 (by decide : "cell" ≠ "most") (st_cons ?_)
    dsimp only [S.ret, X.bi, X.bin, X.num, X.var, wpEs]
    refine s_get e5 (s_sum hc (ints_of_map v _) (s_mod (by decide) ?_))
    have hq := hQ σ₁ le₁
    have hb := (hv x.p (nd_here (box_cell _))).2
    rw [box_one, List.map_singleton, List.sum_singleton]
    show Q (.int (v x.p % B9)) σ₁
    rw [Int.emod_eq_of_lt hb.1 hb.2]; exact hq
  | sum x y =>
    refine st8 x y _ _ (.head _) (.tail _ (.head _)) rfl rfl rfl (by decide : "sum" ≠ "num") (by decide : "sum" ≠ "add") (by decide : "sum" ≠ "pick") (by decide : "sum" ≠ "look") fun ρ c σ₁ le₁ e1 e5 hc => tag_no e1 (by decide : "sum" ≠ "most") (st_cons ?_)
    dsimp only [S.ret, X.bi, X.bin, X.num, X.var, wpEs]
    exact s_get e5 (s_sum hc (ints_of_map v _) (s_mod (by decide) (hQ σ₁ le₁)))
  | most x y =>
    refine st8 x y _ _ (.head _) (.tail _ (.head _)) rfl rfl rfl (by decide : "most" ≠ "num") (by decide : "most" ≠ "add") (by decide : "most" ≠ "pick") (by decide : "most" ≠ "look") fun ρ c σ₁ le₁ e1 e5 hc => tag_yes e1 (st_cons ?_)
    dsimp only [S.ret, X.bi, X.var, wpEs]
    refine s_get e5 (s_maxL hc (ints_of_map v _) (fun e => ?_) fun m hm1 hm2 => ?_)
    · have := (box_in x.p y.p).1
      rw [List.map_eq_nil_iff.mp e] at this; cases this
    · have := hQ σ₁ le₁
      rw [show (Rule.most x y).ev v = m from mostL_is hm1 hm2] at this; exact this
  | look a x y b =>
    refine st6 x y _ _ (.head _) (.tail _ (.head _)) rfl rfl (by decide : "look" ≠ "num") (by decide : "look" ≠ "add") (by decide : "look" ≠ "pick") fun ρ d c σ₁ le₁ e1 e2 e3 hd e4 hc => tag_yes e1 (st_cons ?_)
    dsimp only [S.for_, Src.range2, X.bin, X.idx, X.neg, X.num, X.var]
    have hx := on_here on (x := x) (.head _)
    have hy := on_here on (x := y) (.tail _ (.head _))
    have g0 := box_head x.p.1 x.p.2 y.p.1 y.p.2
    have g1 := box_last x.p.1 x.p.2 y.p.1 y.p.2
    have hk1 := le₁ _ _ hk
    have hq := hQ σ₁ le₁
    refine s_get e4 (s_idxL hc g0 (s_idxT (v := .int (min x.p.1 y.p.1)) rfl (s_get e4 (s_neg (s_idxL hc g1 (s_idxT (v := .int (max x.p.1 y.p.1)) rfl (s_add (s_range (Nat.le_trans (Int.toNat_le.mpr (box_dim z hx hy).1) (by decide)) ?_))))))))
    refine forL_range (fun i ρ σ' => A5 (σ' = σ₁) (ρ "_law_known" = some (.ref kn)) (ρ "_law_parts" = some (.ref d)) (ρ "_law_places" = some (.ref c)) (Q (.int (lookN (fun i => v (min x.p.1 y.p.1 + i, min x.p.2 y.p.2)) (fun i => v (min x.p.1 y.p.1 + i, max x.p.2 y.p.2)) (a.ev v) (b.ev v) (rows x y - i) i)) σ₁)) ⟨rfl, e2, e3, e4, hq⟩ (fun _ => trivial) ?_ ?_
    · clear e1 e2 e3 e4 hq
      rintro i ρ σ' N' hi ⟨rfl, e2, e3, e4, hq⟩ hN
      have hi' : i < rows x y := Int.lt_toNat.mpr (Int.lt_sub_left_of_add_lt hi)
      rw [look_step hi'] at hq
      have e2 := (Env.set_ne ρ (.int (min x.p.1 y.p.1 + i)) (by decide : "_law_known" ≠ "_law_row")).trans e2
      have e3 := (Env.set_ne ρ (.int (min x.p.1 y.p.1 + i)) (by decide : "_law_parts" ≠ "_law_row")).trans e3
      have e4 := (Env.set_ne ρ (.int (min x.p.1 y.p.1 + i)) (by decide : "_law_places" ≠ "_law_row")).trans e4
      have e6 := Env.set_same ρ "_law_row" (.int (min x.p.1 y.p.1 + i))
      generalize ρ.set "_law_row" (.int (min x.p.1 y.p.1 + i)) = ρ₁ at *
      refine st_cons ?_
      dsimp only [S.ite, X.cmp, X.idx, X.num, X.tup, X.var, wpEs, wpT]
      refine s_get e2 (s_get e6 (s_get e4 (s_idxL hc g0 (s_idxT (v := .int (min x.p.2 y.p.2)) rfl (s_idxD hk1 (k := pk (min x.p.1 y.p.1 + i, min x.p.2 y.p.2)) rfl (hr _ (box_row hi').1) (s_get e3 (s_idxL hd (v := .int (a.ev v)) rfl (s_eqI (s_truth rfl (s_if (fun h0 => st_cons ?_) fun h0 => st_nil (st_nil ?_)))))))))))
      · dsimp only [S.ret, X.idx, X.neg, X.num, X.tup, X.var, wpEs]
        rw [if_pos (of_decide_eq_true h0)] at hq
        exact s_get e2 (s_get e6 (s_get e4 (s_neg (s_idxL hc g1 (s_idxT (v := .int (max x.p.2 y.p.2)) rfl (s_idxD hk1 (k := pk (min x.p.1 y.p.1 + i, max x.p.2 y.p.2)) rfl (hr _ (box_row hi').2) hq))))))
      · rw [if_neg (fun e => h0 (decide_eq_true e))] at hq
        exact hN _ _ ⟨rfl, e2, e3, e4, hq⟩
    · clear e1 e2 e3 e4 hq
      rintro ρ σ' ⟨rfl, e2, e3, e4, hq⟩
      have hz : rows x y - (max x.p.1 y.p.1 + 1 - min x.p.1 y.p.1).toNat = 0 := Nat.sub_self _
      rw [hz] at hq
      refine st_cons ?_
      dsimp only [S.ret, X.idx, X.num, X.var]
      exact s_get e3 (s_idxL hd (v := .int (b.ev v)) rfl hq)
end


section
variable {W : Wd} {k : Nat}
theorem lok9 {n : Nat} (h : n ≤ 9) : lenOk n := Nat.le_trans h (by decide)
/-- the rules that the law keeps -/
noncomputable def KeptAt (σ : Hp) (ka h w : Nat) (f : Pl → Rule) : Prop := ∃ ep, σ ka = some (.dct (mapD (G h w) fun p => (f p).v) ep)
theorem KeptAt.le {σ σ' : Hp} {ka h w : Nat} {f : Pl → Rule} (K : KeptAt σ ka h w f) (l : σ.le σ') : KeptAt σ' ka h w f := K.imp fun _ e => l _ _ e
/-- the rule of a place, as kept -/
theorem s_kept {σ : Hp} {ka h w : Nat} {f : Pl → Rule} (K : KeptAt σ ka h w f) {g : Glb} {Q : VP} {p : Pl} (hp : p ∈ G h w) (q : Q (f p).v σ) : idxP g σ Q (.ref ka) (pv p) := by
  obtain ⟨ep, hk⟩ := K
  exact s_idxD hk (k := pk p) rfl (dget_mapD hp) q
theorem kneeds_ok (E : Env13 W) {h w : Nat} (z : Sz h w) {f : Pl → Rule} (hf : Fine f h w) {p : Pl} (hp : p ∈ G h w) {n : Nat} (hn : 9 ≤ n) (σ : Hp) (Q : VP) (X : XP) (hQ : ∀ a σ', σ a = none → σ.le σ' → σ' a = some (.lst ((f p).nd.map pv)) → Q (.ref a) σ') : (glb W n).call "_law_needs" [(f p).v] σ Q X := by
  obtain ⟨f1, f2, f3⟩ := hf p hp
  exact gcall (Nat.le_trans (Nat.succ_le_succ f1) hn) (lneeds_ok E z (f p) f3 (nd_bd z f2 f3) σ Q hQ)
theorem lvalues_ok (E : Env13 W) {h w ka : Nat} (z : Sz h w) {f : Pl → Rule} (hf : Fine f h w) (σ : Hp) (K : KeptAt σ ka h w f) (Q : VP)
    (hQ : ∀ (ks : List Pl) (b ep : Nat) σ', σ.le σ' → σ' b = some (.dct (mapD ks (dv (DD f))) ep) → KnS (G h w) ks (DD f) → (∀ p ∈ G h w, DD f p ≠ none → p ∈ ks) → Q (.ref b) σ') : callP W 10 "_law_values" [.ref ka] σ Q noX := by
  have n1 : (glb W 9).has "_law_needs" = true := E.has (by decide)
  have n2 : (glb W 9).has "_law_told" = true := E.has (by decide)
  refine call_ok E.S.T E.values rfl ?_
  dsimp only [b_law_values, p_law_values, bindP]
  refine st_cons ?_
  dsimp only [S.assign, T.var, X.emptyDict]
  refine s_newG fun kn σ₁ nk le₁ hk => st_cons ?_
  dsimp only [S.assign, T.var, X.bi, X.var, wpEs]
  obtain ⟨ek, hka⟩ := K
  refine s_get rfl (s_listD (le₁ _ _ hka) fun lf nl => ?_)
  rw [mapD_kv]
  have hl := Hp.set_same σ₁ lf (.lst ((G h w).map pv))
  have le₂ := Hp.le_set (.lst ((G h w).map pv)) nl
  generalize σ₁.set lf (.lst ((G h w).map pv)) = σ₂ at *
  refine st_cons ?_
  dsimp only [S.assign, T.var, X.bi, X.bin, X.num, X.var, wpEs]
  refine s_get rfl (s_lenL hl (s_add (st_cons ?_)))
  dsimp only [S.while_, X.bi, X.cmp, X.var, wpEs, wpT]
  refine whileL_inv (fun m ρ σ' => Ex4 fun (ls ks : List Pl) (lf ep : Nat) => A11 (ρ "_law_kept" = some (.ref ka)) (ρ "_law_left" = some (.ref lf)) (ρ "_law_known" = some (.ref kn)) (ρ "_law_size" = some (.int m)) (σ.le σ') (σ' lf = some (.lst (ls.map pv))) (σ' kn = some (.dct (mapD ks (dv (DD f))) ep)) (KnS (G h w) ks (DD f)) (ls.Nodup) (∀ p, p ∈ ls ↔ p ∈ G h w ∧ p ∉ ks) (ls.length < m ∨ ∀ p ∈ ls, ∃ q, q ∈ (f p).nd ∧ q ∉ ks)) ?_ (m := ((G h w).map pv).length + 1)
    ⟨G h w, [], lf, 0, rfl, rfl, rfl, rfl, Hp.le_trans le₁ le₂, hl, le₂ _ _ hk, ⟨List.nodup_nil, fun _ h => (List.not_mem_nil h).elim⟩, G_nodup w h, fun p => ⟨fun hp => ⟨hp, List.not_mem_nil⟩, fun hp => hp.1⟩, .inl (by rw [List.length_map]; exact Nat.lt_succ_self _)⟩
  clear hk hl nl le₁ le₂ σ₂
  rintro m ρ σ' N ⟨ls, ks, lf, ep, e1, e2, e3, e4, le, hl, hk, H, hnd, hls, hst⟩ hN
  have hll : ls.length ≤ 9 := Nat.le_trans (nodup_len hnd fun p hp => ((hls p).mp hp).1) z.len
  refine s_get e2 (s_lenL hl (s_get e4 (s_lt (s_truth rfl (s_ifB (fun ht => ?_) fun ht => ?_)))))
  · refine st_cons ?_
    dsimp only [S.assign, T.var, X.bi, X.var, wpEs]
    refine s_get e2 (s_lenL hl (st_cons ?_))
    rw [List.length_map] at ht ⊢
    dsimp only [S.assign, T.var, X.lst, wpEs]
    refine s_newG fun st σ₁ ns le₁ hs => ?_
    have ns' : σ st = none := Hp.le_none le ns
    have hsl : lf ≠ st := fun e => by rw [e, ns] at hl; cases hl
    refine st_cons ?_
    dsimp only [S.for_, Src.of, X.var]
    refine s_get ((Env.set_ne _ _ (by decide)).trans ((Env.set_ne _ _ (by decide)).trans e2)) (s_srcL (le₁ _ _ hl) ?_)
    refine forL_data pv (fun pre ρ σ'' => Ex4 fun (ss ks' : List Pl) (ep : Nat) (mo : Bool) => A9 (ρ "_law_kept" = some (.ref ka)) (ρ "_law_stay" = some (.ref st)) (ρ "_law_known" = some (.ref kn)) (ρ "_law_size" = some (.int ls.length)) (σ.le σ'') (σ'' lf = some (.lst (ls.map pv))) (σ'' st = some (.lst (ss.map pv))) (σ'' kn = some (.dct (mapD ks' (dv (DD f))) ep)) (KV2 f (DD f) (G h w) ks pre ss ks' mo)) ?_ ?_ ?_ ?_
    · exact ⟨[], ks, ep, false, (Env.set_ne _ _ (by decide)).trans ((Env.set_ne _ _ (by decide)).trans e1), Env.set_same _ _ _, (Env.set_ne _ _ (by decide)).trans ((Env.set_ne _ _ (by decide)).trans e3), (Env.set_ne _ _ (by decide)).trans (Env.set_same _ _ _), Hp.le_trans le le₁, le₁ _ _ hl, hs, le₁ _ _ hk,
        H, List.nodup_nil, fun _ h => (List.not_mem_nil h).elim, fun _ h => (List.not_mem_nil h).elim, fun _ h => .inl h, fun _ h => h, Nat.le_refl _, fun _ => ⟨rfl, fun _ h => (List.not_mem_nil h).elim⟩⟩
    · rintro pre ρ σ'' ⟨_, _, _, _, _, _, _, _, _, hl, _⟩; exact hl
    · clear e1 e2 e3 e4 hk hs H hst
      rintro pre p post ρ σ'' N' hsp ⟨ss, ks', ep, mo', e1, e2, e3, e4, le, hl, hs, hk, H⟩ hN
      have hnp : p ∉ pre := nodup_mid hnd hsp
      obtain ⟨hp, hpk⟩ := (hls p).mp (mem_mid hsp)
      have hkl : ks'.length ≤ 9 := Nat.le_trans (nodup_len H.K.nd fun p hp => (H.K.kn p hp).1) z.len
      have hsl9 : ss.length ≤ 9 := Nat.le_trans (Nat.le_trans (Nat.le_add_right _ _) H.le) (Nat.le_trans (Nat.le_of_lt (len_lt hsp)) hll)
      have g1 := (Env.set_ne ρ (pv p) (by decide : "_law_kept" ≠ "_law_place")).trans e1
      have g2 := (Env.set_ne ρ (pv p) (by decide : "_law_stay" ≠ "_law_place")).trans e2
      have g3 := (Env.set_ne ρ (pv p) (by decide : "_law_known" ≠ "_law_place")).trans e3
      have g4 := (Env.set_ne ρ (pv p) (by decide : "_law_size" ≠ "_law_place")).trans e4
      have g5 := Env.set_same ρ "_law_place" (pv p)
      generalize ρ.set "_law_place" (pv p) = ρ₁ at *
      obtain ⟨f1, f2, f3⟩ := hf p hp
      have K' : ∀ {σ₀ : Hp}, σ.le σ₀ → KeptAt σ₀ ka h w f := fun l => ⟨ek, l _ _ hka⟩
      refine st_cons ?_
      dsimp only [S.ite, Src.of, X.call, X.cmp, X.comp, X.idx, X.lst, X.var, wpEs, wpIfs, wpT]
      refine s_call n1 (s_get g1 (s_get g5 (s_kept (K' le) hp (kneeds_ok E z hf hp (by decide) σ'' _ _ fun l σ₃ nl₃ le₃ hl₃ => s_srcL hl₃ ?_))))
      have hk3 := le₃ _ _ hk
      refine compL_fl pv pv (fun q => !decide (q ∈ ks')) (fun σ' l => l _ _ hl₃) (nd_bd z f2 f3) (fun q hq σ₄ le₄ K' hK' => ?_) fun σ₄ le₄ => s_newG fun bl σ₅ nbl le₅ hbl => s_newG fun em σ₆ nem le₆ hem => ?_
      · have := hK' σ₄ (Hp.le_refl _)
        refine s_get (Env.set_same _ _ _) (s_get ((Env.set_ne _ _ (by decide)).trans g3) (.notIn (s_inD' (le₄ _ _ hk3) (s_truth rfl (s_ifB (fun e => ?_) fun e => s_ifF Bool.false_ne_true ?_)))))
        · rw [if_pos e] at this; exact s_get (Env.set_same _ _ _) this
        · rw [if_neg (by rw [e]; exact Bool.false_ne_true)] at this; exact this
      have leA := Hp.le_trans le₃ (Hp.le_trans le₄ (Hp.le_trans le₅ le₆))
      have hk5 := leA _ _ hk
      have hs5 := leA _ _ hs
      have hl5 := leA _ _ hl
      have hks : st ≠ kn := fun e => by rw [e, hk] at hs; cases hs
      have hkl' : lf ≠ kn := fun e => by rw [e, hk] at hl; cases hl
      refine s_eqL0 (le₆ _ _ hbl) hem (snap_pvs σ₆ 48 _) ?_
      rw [filter_nil]
      refine s_truth rfl (s_if (fun hall => st_cons ?_) fun hall => st_cons ?_)
      · have hin : ∀ q ∈ (f p).nd, q ∈ ks' := fun q hq => of_decide_eq_true ((nf _).mp (of_decide_eq_true hall q hq))
        have hdq : ∀ q ∈ (f p).nd, DD f q = some ((DD f q).getD 0) := fun q hq => by
          cases e : DD f q with
          | none => exact absurd e (H.K.kn q (hin q hq)).2
          | some x => rfl
        have hdp := DD_ev f p (fun q => (DD f q).getD 0) hdq
        obtain ⟨hpk', H'⟩ := H.add hnp hpk hp (by rw [hdp]; exact Option.some_ne_none _)
        dsimp only [S.assign, T.idx, X.call, X.idx, X.var, wpEs]
        refine s_call n2 (s_get g1 (s_get g5 (s_kept (K' (Hp.le_trans le leA)) hp (s_get g3 ?_))))
        refine gcall (Nat.succ_le_succ f1) (ltold_ok E z (v := fun q => (DD f q).getD 0) (f p) f3 (fun q hq => ⟨?_, DD_bd (hdq q hq)⟩) σ₆ _ hk5 fun σ₇ le₇ => ?_)
        · rw [dget_mapD (hin q hq), dv_some (hdq q hq)]
        rw [← dv_some hdp]
        refine s_get g3 (s_get g5 (s_storeD (le₇ _ _ hk5) (k := pk p) rfl (lok9 (by rw [mapD_length]; exact hkl)) fun ep' => ?_))
        rw [dput_mapD_not hpk', updF_id]
        exact st_nil (st_nil (hN _ _ ⟨ss, ks' ++ [p], ep', true, g1, g2, g3, g4, Hp.le_upd _ (Hp.le_trans le (Hp.le_trans leA le₇)) nk, (Hp.set_ne _ _ hkl').trans (le₇ _ _ hl5), (Hp.set_ne _ _ hks).trans (le₇ _ _ hs5), Hp.set_same _ _ _, H'⟩))
      · obtain ⟨q, hq, hqk⟩ : ∃ q, q ∈ (f p).nd ∧ q ∉ ks' := Classical.byContradiction fun hn => hall (decide_eq_true fun q hq => (nf _).mpr (decide_eq_true (Classical.byContradiction fun h => hn ⟨q, hq, h⟩)))
        dsimp only [S.expr, X.meth, X.var, wpEs]
        refine s_get g2 (s_recv (s_recvL hs5 (.inl rfl)) (s_get g5 (s_appendG hs5 (lok9 (by rw [List.length_map]; exact hsl9)) fun σ₇ but hs7 => st_nil (st_nil ?_))))
        exact hN _ _ ⟨ss ++ [p], ks', ep, mo', g1, g2, g3, g4, Hp.le_but (Hp.le_trans le leA) ns' but, (but lf hsl).trans hl5, by rw [hs7, List.map_append]; rfl, (but kn hks.symm).trans hk5, H.skip hnp hpk hq hqk⟩
    · clear e1 e2 e3 e4 hk hs H hst
      rintro ρ σ'' ⟨ss, ks', ep, mo', e1, e2, e3, e4, le, _, hs, hk, H⟩
      refine st_cons ?_
      dsimp only [S.assign, T.var, X.var]
      refine s_get e2 (st_nil (hN _ _ _ (Int.ofNat_lt.mp (of_decide_eq_true ht)) ⟨ss, ks', st, ep, (Env.set_ne _ _ (by decide)).trans e1, Env.set_same _ _ _, (Env.set_ne _ _ (by decide)).trans e3, (Env.set_ne _ _ (by decide)).trans e4, le, hs, hk, H.K, H.nd, fun p => ⟨fun hp => ?_, fun hp => ?_⟩, ?_⟩))
      · obtain ⟨h1, h2⟩ := H.a1 p hp
        exact ⟨((hls p).mp h1).1, h2⟩
      · exact (H.a2 p ((hls p).mpr ⟨hp.1, fun h => hp.2 (H.a4 p h)⟩)).resolve_left hp.2
      · cases mo' with
        | true => exact .inl H.le
        | false => exact .inr fun p hp => by rw [(H.st rfl).1]; exact (H.st rfl).2 p hp
  · rw [List.length_map] at ht
    have hst := hst.resolve_left fun e => (of_decide_eq_false ht) (Int.ofNat_lt.mpr e)
    refine st_cons ?_
    dsimp only [S.ret, X.var]
    exact s_get e3 (hQ ks kn ep σ' le hk H (DD_done hf fun p hp hn => hst p ((hls p).mpr ⟨hp, hn⟩)))
end


/-! ### the order of places -/
theorem plt_iff {p q : Pl} : plt p q ↔ p.1 < q.1 ∨ (p.1 = q.1 ∧ p.2 < q.2) := by
  simp [plt, pk, ltL]
theorem plt_irrefl {p : Pl} : ¬ plt p p := fun h => (plt_iff.mp h).elim (Int.lt_irrefl _) fun h => Int.lt_irrefl _ h.2
theorem plt_trans {p q r : Pl} (h : plt p q) (k : plt q r) : plt p r := by
  rw [plt_iff] at *
  rcases h with h | ⟨h1, h2⟩
  · rcases k with k | ⟨k1, _⟩
    · exact .inl (Int.lt_trans h k)
    · exact .inl (k1 ▸ h)
  · rcases k with k | ⟨k1, k2⟩
    · exact .inl (h1 ▸ k)
    · exact .inr ⟨h1.trans k1, Int.lt_trans h2 k2⟩
theorem sorted_same : ∀ {l m : List Pl}, l.Pairwise plt → m.Pairwise plt → (∀ p, p ∈ l ↔ p ∈ m) → l = m
  | [], [], _, _, _ => rfl
  | [], q :: m, _, _, h => (List.not_mem_nil ((h q).mpr (.head _))).elim
  | p :: l, [], _, _, h => (List.not_mem_nil ((h p).mp (.head _))).elim
  | p :: l, q :: m, hl, hm, h => by
    rw [List.pairwise_cons] at hl hm
    have hpq : p = q := by
      rcases List.mem_cons.mp ((h p).mp (.head _)) with e | e
      · exact e
      · rcases List.mem_cons.mp ((h q).mpr (.head _)) with e' | e'
        · exact e'.symm
        · exact absurd (plt_trans (hm.1 p e) (hl.1 q e')) plt_irrefl
    subst hpq
    congr 1
    refine sorted_same hl.2 hm.2 fun x => ⟨fun hx => ?_, fun hx => ?_⟩
    · rcases List.mem_cons.mp ((h x).mp (.tail _ hx)) with rfl | h'
      · exact absurd (hl.1 x hx) plt_irrefl
      · exact h'
    · rcases List.mem_cons.mp ((h x).mpr (.tail _ hx)) with rfl | h'
      · exact absurd (hm.1 x hx) plt_irrefl
      · exact h'
theorem get_pv {row : List Pl} {i : Nat} {q : Pl} (h : row[i]? = some q) : pyGet (row.map pv) (i : Int) = some (pv q) := by
  unfold pyGet; rw [if_pos (Int.natCast_nonneg _), Int.toNat_natCast, List.getElem?_map, h]; rfl
theorem sd_lay (s : String) : (sd s).canLay0 = true := Str.ofString_ok s
theorem Rule.lay (r : Rule) : r.d.canLay0 = true := by
  induction r with
  | add a b iha ihb => show ((sd "add").canLay0 && (a.d.canLay0 && (b.d.canLay0 && true))) = true; rw [sd_lay, iha, ihb]; rfl
  | pick a b c iha ihb ihc => show ((sd "pick").canLay0 && (a.d.canLay0 && (b.d.canLay0 && (c.d.canLay0 && true)))) = true; rw [sd_lay, iha, ihb, ihc]; rfl
  | look a x y b iha ihb => show ((sd "look").canLay0 && (a.d.canLay0 && (true && (true && (b.d.canLay0 && true))))) = true; rw [sd_lay, iha, ihb]; rfl
  | num i => show ((sd "num").canLay0 && true) = true; rw [sd_lay]; rfl
  | cell x => show ((sd "cell").canLay0 && true) = true; rw [sd_lay]; rfl
  | sum x y => show ((sd "sum").canLay0 && true) = true; rw [sd_lay]; rfl
  | most x y => show ((sd "most").canLay0 && true) = true; rw [sd_lay]; rfl
theorem drop_mem {l : List Pl} {n : Nat} {q : Pl} (h : l[n]? = some q) (p : Pl) : p ∈ l.drop n ↔ p = q ∨ p ∈ l.drop (n + 1) := by
  obtain ⟨hn, e⟩ := List.getElem?_eq_some_iff.mp h
  rw [List.drop_eq_getElem_cons hn, e, List.mem_cons]
theorem drop_add {l : List Pl} {n : Nat} {q : Pl} (h : n ≤ l.length) : (l ++ [q]).drop n = l.drop n ++ [q] := List.drop_append_of_le_length h
theorem mem_pl9 {h w : Nat} (z : Sz h w) {p : Pl} (hp : p ∈ G h w) : pk p ∈ pl9 := by
  obtain ⟨i, j⟩ := p
  obtain ⟨h1, h2, h3, h4⟩ := mem_G.mp hp
  obtain ⟨i, rfl⟩ := Int.eq_ofNat_of_zero_le h1
  obtain ⟨j, rfl⟩ := Int.eq_ofNat_of_zero_le h3
  have hi : i < 3 := Nat.lt_of_lt_of_le (Int.ofNat_lt.mp h2) z.h1
  have hj : j < 3 := Nat.lt_of_lt_of_le (Int.ofNat_lt.mp h4) z.w1
  have key : ∀ i : Fin 3, ∀ j : Fin 3, [((i.1 : Nat) : Int), ((j.1 : Nat) : Int)] ∈ pl9 := by decide
  exact key ⟨i, hi⟩ ⟨j, hj⟩
theorem Cyc.next {f : Pl → Rule} {ps c : List Pl} (C : Cyc f ps c) {k : Nat} {q : Pl} (hk : c[k]? = some q) : ∃ q', c[(k + 1) % c.length]? = some q' ∧ q' ∈ (f q).nd := by
  obtain ⟨hl, e⟩ := List.getElem?_eq_some_iff.mp hk
  by_cases h1 : k + 1 < c.length
  · rw [Nat.mod_eq_of_lt h1, List.getElem?_eq_getElem h1]
    exact ⟨_, rfl, e ▸ C.ch k h1⟩
  · have h2 : k + 1 = c.length := Nat.le_antisymm hl (Nat.not_lt.mp h1)
    obtain ⟨l, q', c', e1, e2, e3⟩ := C.lp
    rw [h2, Nat.mod_self, e2]
    refine ⟨q', rfl, ?_⟩
    have h3 : k = c'.length := by rw [e1, List.length_append] at h2; exact Nat.succ.inj h2
    rw [e1, h3, List.getElem?_concat_length] at hk
    exact Option.some.inj hk ▸ e3
section
variable {W : Wd} {k : Nat}
theorem s_sortL {g : Glb} {σ : Hp} {Q : VP} {a : Nat} {ps : List Pl} (ha : σ a = some (.lst (ps.map pv))) (hn : ps.Nodup) (hl : ps.length ≤ 9)
    (q : ∀ (zs : List Pl) (b : Nat) (σ' : Hp), σ.le σ' → σ' b = some (.lst (zs.map pv)) → zs.Pairwise plt → (∀ p, p ∈ zs ↔ p ∈ ps) → Q (.ref b) σ') : biP g σ Q .sorted [.ref a] := by
  refine .sorted (ks := ps.map pk) (.lst (by rw [List.map_map]; exact ha)) (nodup_pk hn) (by rw [List.length_map]; exact Nat.le_trans (Nat.succ_le_succ hl) (by decide)) pk_ne fun ys hp hs => ?_
  obtain ⟨zs, rfl, h1, h2⟩ := sortP hp hs
  exact s_newG fun b σ' _ le hb => q zs b σ' le (by rw [hb, List.map_map]; rfl) h1 h2
theorem ltouches_ok (E : Env13 W) {h w ka fo : Nat} (z : Sz h w) {f : Pl → Rule} (hf : Fine f h w) (σ : Hp) (K : KeptAt σ ka h w f) {s : Pl} (hs : s ∈ G h w) {ys : List Pl} (hfo : σ fo = some (.lst (ys.map pv))) (hy1 : ys.Pairwise plt) (hy2 : ∀ p, p ∈ ys ↔ Reach f (G h w) s p) (Q : VP)
    (hQ : ∀ σ', σ.le σ' → Q (.bool true) σ') : callP W 10 "_law_touches" [.ref fo, .ref ka, pv s] σ Q noX := by
  have n1 : (glb W 9).has "_law_needs" = true := E.has (by decide)
  refine call_ok E.S.T E.touches rfl ?_
  dsimp only [b_law_touches, p_law_touches, bindP]
  refine st_cons ?_
  dsimp only [S.assign, T.var, X.bop, X.call, X.cmp, X.idx, X.lst, X.var, wpBop, wpEs]
  refine s_get rfl (s_newG fun du σ₁ nd le₁ hd => st_cons ?_)
  dsimp only [S.assign, T.var, X.num]
  refine st_cons ?_
  dsimp only [S.while_, X.bi, X.cmp, X.var, wpEs, wpT]
  refine whileL_inv (fun m ρ σ' => Ex2 fun (fs : List Pl) (n : Nat) => A9 (ρ "_law_found" = some (.ref fo)) (ρ "_law_kept" = some (.ref ka)) (ρ "_law_due_here" = some (.ref du)) (ρ "_law_at" = some (.int n)) (σ.le σ') (σ' du = some (.lst (fs.map pv))) (n ≤ fs.length) (Hang f (G h w) s (fs.drop n) fs) (n + m = 9)) ?_ (m := 9)
    ⟨[s], 0, rfl, rfl, rfl, rfl, le₁, hd, Nat.zero_le _, ⟨List.nodup_cons.mpr ⟨List.not_mem_nil, List.nodup_nil⟩, fun p hp => by rw [List.mem_singleton.mp hp]; exact ⟨hs, .start⟩, fun p hp => hp, .head _, fun q hq h => (h hq).elim⟩, rfl⟩
  clear hd le₁ σ₁ hs
  rintro m ρ σ' N ⟨fs, n, e1, e2, e3, e4, le, hd, hn, H, hm⟩ hN
  have hfl : fs.length ≤ 9 := Nat.le_trans (nodup_len H.nd fun p hp => (H.on p hp).1) z.len
  refine s_get e4 (s_get e3 (s_lenL hd (s_lt (s_truth rfl (s_ifB (fun ht => ?_) fun ht => ?_)))))
  · rw [List.length_map] at ht
    have ht : n < fs.length := Int.ofNat_lt.mp (of_decide_eq_true ht)
    obtain ⟨here, hh⟩ : ∃ q, fs[n]? = some q := ⟨_, List.getElem?_eq_getElem ht⟩
    obtain ⟨ek, hk⟩ := K.le le
    refine st_cons ?_
    dsimp only [S.for_, Src.of, X.var]
    refine s_get e2 (s_srcD hk ?_)
    rw [mapD_kv]
    refine forL_data pv (fun pre ρ σ'' => ∃ fs' : List Pl, A9 (ρ "_law_found" = some (.ref fo)) (ρ "_law_kept" = some (.ref ka)) (ρ "_law_due_here" = some (.ref du)) (ρ "_law_at" = some (.int n)) (σ.le σ'') (σ'' ka = some (.dct (mapD (G h w) fun p => (f p).v) ek)) (σ'' du = some (.lst (fs'.map pv))) (fs'[n]? = some here) (Hang2 f (G h w) s here (fs'.drop (n + 1)) fs' pre)) ?_ ?_ ?_ ?_
    · exact ⟨fs, e1, e2, e3, e4, le, hk, hd, hh, H.pop (drop_mem hh)⟩
    · rintro pre ρ σ'' ⟨_, _, _, _, _, _, hk, _⟩; exact hk
    · clear e1 e2 e3 e4 hk hd H
      rintro pre p post ρ σ'' N' hsp ⟨fs', e1, e2, e3, e4, le, hk, hd, hh, H⟩ hN
      have hp := mem_mid hsp
      have hfl' : fs'.length ≤ 9 := Nat.le_trans (nodup_len H.nd fun p hp => (H.on p hp).1) z.len
      have hn' : n + 1 ≤ fs'.length := (List.getElem?_eq_some_iff.mp hh).1
      have e1 := (Env.set_ne ρ (pv p) (by decide : "_law_found" ≠ "_law_other")).trans e1
      have e2 := (Env.set_ne ρ (pv p) (by decide : "_law_kept" ≠ "_law_other")).trans e2
      have e3 := (Env.set_ne ρ (pv p) (by decide : "_law_due_here" ≠ "_law_other")).trans e3
      have e4 := (Env.set_ne ρ (pv p) (by decide : "_law_at" ≠ "_law_other")).trans e4
      have e5 := Env.set_same ρ "_law_other" (pv p)
      generalize ρ.set "_law_other" (pv p) = ρ₁ at *
      refine st_cons ?_
      dsimp only [S.ite, wpT]
      refine s_get e5 (s_get e3 (.notIn (inP_pvs hd (s_truth rfl ?_))))
      by_cases hpf : p ∈ fs'
      · rw [decide_eq_true hpf]
        exact s_ifF Bool.false_ne_true (s_truth rfl (s_ifF Bool.false_ne_true (st_nil (st_nil (hN _ _ ⟨fs', e1, e2, e3, e4, le, hk, hd, hh, H.skip fun _ => hpf⟩)))))
      · rw [decide_eq_false hpf]
        refine s_ifT rfl (s_get e3 (s_get e4 (s_idxL hd (get_pv hh) (s_call n1 (s_get e2 (s_get e5 (s_kept ⟨ek, hk⟩ hp (kneeds_ok E z hf hp (by decide) σ'' _ _ fun l σ₃ nl le₃ hl => .isIn (inP_pvs hl (s_truth rfl ?_))))))))))
        have hd3 := le₃ _ _ hd
        by_cases hq : here ∈ (f p).nd
        · rw [decide_eq_true hq]
          refine s_ifT rfl (st_cons ?_)
          dsimp only [S.expr, X.meth, X.var, wpEs]
          refine s_get e3 (s_recv (s_recvL hd3 (.inl rfl)) (s_get e5 (s_appendG hd3 (lok9 (by rw [List.length_map]; exact hfl')) fun σ₄ but hd4 => st_nil (st_nil ?_))))
          have hkd : ka ≠ du := fun e => by rw [e, hd] at hk; cases hk
          refine hN _ _ ⟨fs' ++ [p], e1, e2, e3, e4, Hp.le_but (Hp.le_trans le le₃) nd but, (but ka hkd).trans (le₃ _ _ hk), by rw [hd4, List.map_append]; rfl, by rw [List.getElem?_append_left hn']; exact hh, ?_⟩
          rw [drop_add hn']; exact H.add hpf hp hq
        · rw [decide_eq_false hq]
          exact s_ifF Bool.false_ne_true (st_nil (st_nil (hN _ _ ⟨fs', e1, e2, e3, e4, Hp.le_trans le le₃, le₃ _ _ hk, hd3, hh, H.skip fun h => (hq h).elim⟩)))
    · clear e1 e2 e3 e4 hk hd H
      rintro ρ σ'' ⟨fs', e1, e2, e3, e4, le, hk, hd, hh, H⟩
      refine st_cons ?_
      dsimp only [S.assign, T.var, X.bin, X.num, X.var]
      have hn9 : n < 9 := Nat.lt_of_lt_of_le ht hfl
      refine s_get e4 (s_add (st_nil ?_))
      obtain ⟨m, rfl⟩ : ∃ j, m = j + 1 := ⟨m - 1, (Nat.succ_pred_eq_of_pos (Nat.pos_of_ne_zero fun e => by rw [e] at hm; exact Nat.ne_of_lt hn9 hm)).symm⟩
      exact hN m _ _ (Nat.lt_succ_self _) ⟨fs', n + 1, (Env.set_ne _ _ (by decide)).trans e1, (Env.set_ne _ _ (by decide)).trans e2, (Env.set_ne _ _ (by decide)).trans e3, Env.set_same _ _ _, le, hd, (List.getElem?_eq_some_iff.mp hh).1, H.done, by rw [← hm, Nat.add_assoc, Nat.add_comm 1]⟩
  · rw [List.length_map] at ht
    have ht : fs.length ≤ n := Nat.not_lt.mp fun e => of_decide_eq_false ht (Int.ofNat_lt.mpr e)
    rw [List.drop_eq_nil_of_le ht] at H
    refine st_cons ?_
    dsimp only [S.ret, X.bi, X.cmp, X.var, wpEs]
    refine s_get e1 (s_get e3 (s_sortL hd H.nd hfl fun zs b σ₃ le₃ hb hz1 hz2 => .eq (eqP_pvs (le₃ _ _ (le _ _ hfo)) hb ?_)))
    rw [decide_eq_true (sorted_same hy1 hz1 fun p => (hy2 p).trans ((H.done p).symm.trans (hz2 p).symm))]
    exact hQ σ₃ (Hp.le_trans le le₃)
theorem lring_ok (E : Env13 W) {h w ka kn ep : Nat} (z : Sz h w) {f : Pl → Rule} (hf : Fine f h w) (σ : Hp) (K : KeptAt σ ka h w f) {ks : List Pl} (hk : σ kn = some (.dct (mapD ks (dv (DD f))) ep)) (H : KnS (G h w) ks (DD f)) (hK : ∀ p ∈ G h w, DD f p ≠ none → p ∈ ks) (v : V)
    (h1 : (∀ p ∈ G h w, DD f p ≠ none) → v = .none) (h2 : (¬ ∀ p ∈ G h w, DD f p ≠ none) → ∃ (cs : List Pl) (b : Nat), v = .ref b ∧ σ b = some (.lst (cs.map pv)) ∧ Cyc f (G h w) cs) (Q : VP)
    (hQ : ∀ σ', σ.le σ' → Q (.bool true) σ') : callP W 10 "_law_ring_right" [v, .ref ka, .ref kn] σ Q noX := by
  have n1 : (glb W 9).has "_law_needs" = true := E.has (by decide)
  have g1 : (glb W 9).glob "list" = some (.typ "list") := E.glob (by decide)
  have hlen : ks.length = (G h w).length ↔ ∀ p ∈ G h w, DD f p ≠ none := by
    refine ⟨fun e p hp => ?_, fun ha => Nat.le_antisymm (nodup_len H.nd fun p hp => (H.kn p hp).1) (nodup_len (G_nodup w h) fun p hp => hK p hp (ha p hp))⟩
    refine (H.kn p (Classical.byContradiction fun hn => ?_)).2
    have := nodup_len (nodup_add H.nd hn) fun q hq => (List.mem_append.mp hq).elim (fun h => (H.kn q h).1) fun h => List.mem_singleton.mp h ▸ hp
    rw [List.length_append, e] at this
    exact Nat.lt_irrefl _ this
  obtain ⟨ek, hka⟩ := K
  refine call_ok E.S.T E.ring_right rfl ?_
  dsimp only [b_law_ring_right, p_law_ring_right, bindP]
  refine st_cons ?_
  dsimp only [S.ite, X.bi, X.bin, X.bop, X.call, X.cmp, X.glob, X.idx, X.lst, X.not, X.num, X.var, wpBop, wpEs, wpT]
  refine s_get rfl (s_lenD hk (s_get rfl (s_lenD hka (s_eqI (s_truth rfl ?_)))))
  rw [mapD_length, mapD_length]
  by_cases ha : ∀ p ∈ G h w, DD f p ≠ none
  · have e := h1 ha
    subst e
    exact s_ifT (decide_eq_true (congrArg Int.ofNat (hlen.mpr ha))) (st_cons (s_get rfl (s_is (hQ σ (Hp.le_refl _)))))
  obtain ⟨cs, b, rfl, hb, C⟩ := h2 ha
  have hcl : cs.length ≤ 9 := Nat.le_trans (nodup_len C.nd C.on) z.len
  refine s_ifF (fun e => ha (hlen.mp (Int.ofNat.inj (of_decide_eq_true e)))) (st_nil (st_cons ?_))
  dsimp only [S.ite, wpT]
  refine s_get rfl (s_get g1 (s_isi (b := true) (by decide) (show (match σ b with | some (.lst _) => some true | _ => _) = _ by rw [hb]) (s_truth rfl (s_truth rfl (s_ifT rfl ?_)))))
  refine s_get rfl (s_newG fun em σ₁ _ le₁ hem => s_eqL0 (le₁ _ _ hb) hem (snap_pvs σ₁ 48 _) ?_)
  have hne : (cs.map pv).isEmpty = false := by
    obtain ⟨l, q, c', e, _, _⟩ := C.lp
    rw [e, List.isEmpty_map]; cases c' <;> rfl
  rw [hne]
  have hset : σ₁ b = some (.lst ((cs.map pk).map kv)) := by rw [List.map_map]; exact le₁ _ _ hb
  refine s_truth rfl (s_ifT rfl (s_get rfl (.set hset (fun k hk => by obtain ⟨p, hp, rfl⟩ := List.mem_map.mp hk; exact mem_pl9 z (C.on p hp)) (nodup_pk C.nd) (s_newG fun sa σ₂ _ le₂ hsa => .lenSet hsa (s_get rfl (s_lenL (le₂ _ _ (le₁ _ _ hb)) (s_neI ?_)))))))
  rw [List.length_map, List.length_map, decide_eq_true rfl]
  refine s_truth rfl (s_ifF (by decide) (st_nil (st_cons ?_)))
  have le2 := Hp.le_trans le₁ le₂
  dsimp only [S.for_, Src.range1, X.bi, X.var, wpEs]
  refine s_get rfl (s_lenL (le2 _ _ hb) (s_range (lok9 (by rw [List.length_map, Int.sub_zero, Int.toNat_natCast]; exact hcl)) ?_))
  refine forL_range (fun i ρ σ' => ρ "_law_found" = some (.ref b) ∧ ρ "_law_kept" = some (.ref ka) ∧ σ.le σ') ⟨rfl, rfl, le2⟩ (fun _ => trivial) ?_ ?_
  · rintro i ρ σ' N' hi ⟨e1, e2, le⟩ hN
    rw [List.length_map, Int.zero_add] at hi
    rw [Int.zero_add]
    have hi := Int.ofNat_lt.mp hi
    obtain ⟨q, hq⟩ : ∃ q, cs[i]? = some q := ⟨_, List.getElem?_eq_getElem hi⟩
    obtain ⟨q', hq', hnd⟩ := C.next hq
    have hqG : q ∈ G h w := C.on q (List.mem_of_getElem? hq)
    have e1 := (Env.set_ne ρ (.int i) (by decide : "_law_found" ≠ "_law_k")).trans e1
    have e2 := (Env.set_ne ρ (.int i) (by decide : "_law_kept" ≠ "_law_k")).trans e2
    have e3 := Env.set_same ρ "_law_k" (.int i)
    generalize ρ.set "_law_k" (.int i) = ρ₁ at *
    have hb' := le _ _ hb
    have hka' := le _ _ hka
    have hmod : ((i : Int) + 1) % ((cs.map pv).length : Int) = ((i + 1) % cs.length : Nat) := by rw [List.length_map]; rfl
    refine st_cons ?_
    dsimp only [S.ite, wpT]
    refine s_get e1 (s_get e3 (s_idxL hb' (get_pv hq) (s_get e2 (.notIn (s_inD' hka' (s_truth rfl ?_))))))
    rw [decide_eq_true hqG]
    refine s_ifT rfl (s_get e1 (s_get e3 (s_add (s_get e1 (s_lenL hb' (s_mod (Int.ofNat_lt.mpr (by rw [List.length_map]; exact Nat.zero_lt_of_lt hi)) (s_idxL hb' (v := pv q') (by rw [hmod]; exact get_pv hq') ?_)))))))
    refine s_call n1 (s_get e2 (s_get e1 (s_get e3 (s_idxL hb' (get_pv hq) (s_kept ⟨ek, hka'⟩ hqG (kneeds_ok E z hf hqG (by decide) σ' _ _ fun l σ₃ nl le₃ hl => .notIn (inP_pvs hl (s_truth rfl ?_))))))))
    rw [decide_eq_true hnd]
    exact s_ifF (by decide) (st_nil (st_nil (hN _ _ ⟨e1, e2, Hp.le_trans le le₃⟩)))
  · rintro ρ σ' ⟨_, _, le⟩
    exact st_cons (hQ σ' le)
theorem dv_same {σ : Hp} {B : Bool → Prop} {D : Pl → Option Int} {p : Pl} (q : B true) : eqP σ B (dv D p) (dv D p) := by
  unfold dv
  cases D p with
  | none => exact .gen (d := .none) (e := .none) rfl rfl q
  | some x => exact .int (by rw [decide_eq_true rfl]; exact q)
theorem rule_same {σ : Hp} {B : Bool → Prop} {r : Rule} (hd : r.deep ≤ 8) (q : B true) : eqP σ B r.v r.v :=
  .gen (snap_rule σ r 50 (Nat.le_trans (Nat.succ_le_succ hd) (by decide))) (snap_rule σ r 50 (Nat.le_trans (Nat.succ_le_succ hd) (by decide))) (by rw [PySem.SeqAt.eqv_refl _ r.lay]; exact q)
theorem filter_no {α : Type} (l : List α) : l.filter (fun _ => false) = [] := List.filter_eq_nil_iff.mpr fun _ _ => Bool.false_ne_true
theorem lright_ok (E : Env13 W) {h w ka a d c : Nat} (z : Sz h w) {f : Pl → Rule} (hf : Fine f h w) (σ : Hp) (S : SheetAt σ a d c h w f) (K : KeptAt σ ka h w f) {s : Pl} (hs : s ∈ G h w) (n : Int) (Q : VP)
    (hQ : ∀ σ', σ.le σ' → Q (.bool true) σ') : callP W 12 "_law_right" [.ref a, .ref ka, .int n, pv s] σ Q noX := by
  have n1 : (glb W 11).has "_law_touches" = true := E.has (by decide)
  have n2 : (glb W 11).has "_law_values" = true := E.has (by decide)
  have n3 : (glb W 11).has "_law_ring_right" = true := E.has (by decide)
  have m1 : (glb W 11).has "touched" = true := E.S.has (by decide)
  have m2 : (glb W 11).has "ring" = true := E.S.has (by decide)
  have m3 : (glb W 11).has "reckoned" = true := E.S.has (by decide)
  -- a list of all that is wrong: none
  have fin : ∀ {σ₁ σ₂ : Hp} {X : XP}, σ.le σ₁ → newP σ₁ (.lst (((G h w).filter fun _ => false).map pv)) (fun v σ' => newP σ' (.lst []) (fun v' σ'' => cmpP σ'' (fun b => Q (.bool b) σ'') .eq v v')) := fun le => by
    rw [filter_no]
    exact s_newG fun b σ₂ _ le₂ hb => s_newG fun e σ₃ _ le₃ he => s_eqL0 (le₃ _ _ hb) he rfl (hQ σ₃ (Hp.le_trans le (Hp.le_trans le₂ le₃)))
  obtain ⟨ek, hka⟩ := K
  refine call_ok E.S.T E.right rfl ?_
  dsimp only [b_law_right, p_law_right, bindP]
  refine st_cons ?_
  dsimp only [RS.S.ite, X.cmp, X.num, X.var, wpT]
  refine s_get rfl (s_eqI (s_truth rfl (s_if (fun _ => st_cons ?_) fun _ => st_nil (st_cons ?_))))
  · dsimp only [RS.S.ret, Src.of, X.cmp, X.comp, X.idx, X.lst, X.meth, X.var, wpEs, wpIfs]
    refine s_get rfl (s_srcD hka ?_)
    rw [mapD_kv]
    refine compL_fl pv pv (fun _ => false) (fun σ' le => le _ _ hka) (lok9 z.len) (fun p hp σ₁ le₁ K' hK' => ?_) fun σ₁ le₁ => fin (σ₂ := σ) (X := noX) le₁
    have S1 := S.le le₁
    refine s_get ((Env.set_ne _ _ (by decide)).trans rfl) (s_recv (s_recvI S1.ia (by decide) S1.id rfl) (s_get (Env.set_same _ _ _) (s_ownF (f := "Sheet.rule") rfl ?_)))
    refine gcall (m := 2) (by decide) (rule_ok E.S S1 hp _ ?_)
    exact s_get ((Env.set_ne _ _ (by decide)).trans rfl) (s_get (Env.set_same _ _ _) (s_kept ⟨ek, le₁ _ _ hka⟩ hp (.ne (rule_same (hf p hp).1 (s_truth rfl (s_ifF Bool.false_ne_true (s_ifF Bool.false_ne_true (hK' σ₁ (Hp.le_refl _)))))))))
  dsimp only [RS.S.ite, X.cmp, X.num, X.var, wpT]
  refine s_get rfl (s_eqI (s_truth rfl (s_if (fun _ => st_cons ?_) fun _ => st_nil (st_cons ?_))))
  · dsimp only [RS.S.ret, X.call, X.var, wpEs]
    refine s_call n1 (s_call m1 (s_get rfl (s_get rfl ?_)))
    refine gcall (m := 4) (by decide) (touched_ok E.S z hf σ S hs _ fun ys b σ₁ le₁ hb hy1 hy2 => s_get rfl (s_get rfl ?_))
    exact gcall (m := 10) (by decide) (ltouches_ok E z hf σ₁ ⟨ek, le₁ _ _ hka⟩ hs hb hy1 hy2 _ fun σ₂ le₂ => hQ σ₂ (Hp.le_trans le₁ le₂))
  dsimp only [RS.S.assign, T.var, X.call, X.var, wpEs]
  refine s_call n2 (s_get rfl (gcall (m := 10) (by decide) (lvalues_ok E z hf σ ⟨ek, hka⟩ _ fun ks kn ep σ₁ le₁ hk H hK => st_cons ?_)))
  have S1 := S.le le₁
  dsimp only [RS.S.ite, X.cmp, X.num, X.var, wpT]
  refine s_get rfl (s_eqI (s_truth rfl (s_if (fun _ => st_cons ?_) fun _ => st_nil (st_cons ?_))))
  · dsimp only [RS.S.ret, X.call, X.var, wpEs]
    refine s_call n3 (s_call m2 (s_get rfl ?_))
    have go : ∀ (v : V) (σ₂ : Hp), σ₁.le σ₂ → ((∀ p ∈ G h w, DD f p ≠ none) → v = .none) → ((¬ ∀ p ∈ G h w, DD f p ≠ none) → ∃ (cs : List Pl) (b : Nat), v = .ref b ∧ σ₂ b = some (.lst (cs.map pv)) ∧ Cyc f (G h w) cs) → callP W 10 "_law_ring_right" [v, .ref ka, .ref kn] σ₂ Q noX := fun v σ₂ le₂ h1 h2 =>
      lring_ok E z hf σ₂ ⟨ek, le₂ _ _ (le₁ _ _ hka)⟩ (le₂ _ _ hk) H hK v h1 h2 Q fun σ₃ le₃ => hQ σ₃ (Hp.le_trans le₁ (Hp.le_trans le₂ le₃))
    refine gcall (m := 11) (by decide) (ring_ok E.S z hf σ₁ S1 _ (fun ha σ₂ le₂ => s_get rfl (s_get rfl ?_)) fun ha cs b σ₂ le₂ hb C => s_get rfl (s_get rfl ?_))
    · exact gcall (m := 10) (by decide) (go _ σ₂ le₂ (fun _ => rfl) fun h => (h ha).elim)
    · exact gcall (m := 10) (by decide) (go _ σ₂ le₂ (fun h => (ha h).elim) fun _ => ⟨cs, b, rfl, hb, C⟩)
  dsimp only [RS.S.assign, T.var, X.call, X.var, wpEs]
  refine s_call m3 (s_get rfl (gcall (m := 11) (by decide) (reckoned_ok E.S z hf σ₁ S1 _ fun b as σ₂ le₂ t => st_cons ?_)))
  dsimp only [RS.S.ret, Src.of, X.cmp, X.comp, X.idx, X.lst, X.meth, X.num, X.var, wpEs, wpIfs]
  have leB := Hp.le_trans le₁ le₂
  refine s_get rfl (s_srcD (leB _ _ hka) ?_)
  rw [mapD_kv]
  refine compL_fl pv pv (fun _ => false) (fun σ' le => le _ _ (leB _ _ hka)) (lok9 z.len) (fun p hp σ₃ le₃ K' hK' => ?_) fun σ₃ le₃ => fin (σ₂ := σ) (X := noX) (Hp.le_trans leB le₃)
  obtain ⟨ra, r, t1, t2, t3⟩ := tab_at (t.le le₃) hp
  have hk3 := le₃ _ _ (le₂ _ _ hk)
  refine s_get ((Env.set_ne _ _ (by decide)).trans rfl) (s_get (Env.set_same _ _ _) (s_idxT (v := .int p.1) rfl (s_idxL (t.le le₃).hb t1 (s_get (Env.set_same _ _ _) (s_idxT (v := .int p.2) rfl (s_idxL t2 t3 ?_))))))
  refine s_get ((Env.set_ne _ _ (by decide)).trans rfl) (s_recv (.get hk3) (s_get (Env.set_same _ _ _) (.get hk3 (k := pk p) rfl ?_)))
  rw [get_dv H hK hp]
  exact .ne (dv_same (s_truth rfl (s_ifF Bool.false_ne_true (s_ifF Bool.false_ne_true (hK' σ₃ (Hp.le_refl _))))))
end


/-! ### deeds -/
structure Deed where
  nm : String
  p : Pl
  a : Pl
  b : Pl
  r : Rule
noncomputable def Deed.v (D : Deed) : V := .tup [.str D.nm, pv D.p, pv D.a, pv D.b, D.r.v]
noncomputable def Deed.R (D : Deed) (q : Pl) : Rule := if D.nm = "put" then D.r else shP D.r D.p q
noncomputable def Deed.box (D : Deed) : List Pl := boxOf D.a.1 D.a.2 D.b.1 D.b.2
noncomputable def Near (p : Pl) : Prop := (0 ≤ p.1 ∧ p.1 < 4) ∧ 0 ≤ p.2 ∧ p.2 < 4
structure DeedOk (D : Deed) (f : Pl → Rule) (h w : Nat) : Prop where
  p : D.p ∈ G h w
  a : Near D.a
  b : Near D.b
  deep : D.r.deep ≤ 40
  size : D.r.size ≤ 100
  kind : (D.nm = "put" ∧ D.a = D.p ∧ D.b = D.p) ∨ (D.nm = "copied" ∧ D.b = D.a ∧ D.r = f D.p) ∨ (D.nm = "filled" ∧ D.r = f D.p)
noncomputable def Deed.ok (D : Deed) (h w : Nat) : Prop := (∀ q ∈ D.box, q ∈ G h w) ∧ D.r.deep ≤ 8 ∧ ∀ q ∈ D.box, (D.R q).On h w
open Classical in
noncomputable def Deed.word (D : Deed) (h w : Nat) : String := if ∀ q ∈ D.box, q ∈ G h w then (if D.r.deep ≤ 8 then (if ∀ q ∈ D.box, (D.R q).On h w then "" else "off") else "deep") else "off"
section
variable {D : Deed} {h w : Nat}
theorem word_off (h1 : ¬ ∀ q ∈ D.box, q ∈ G h w) : D.word h w = "off" := if_neg h1
theorem word_deep (h1 : ∀ q ∈ D.box, q ∈ G h w) (h2 : ¬ D.r.deep ≤ 8) : D.word h w = "deep" := (if_pos h1).trans (if_neg h2)
theorem word_off2 (h1 : ∀ q ∈ D.box, q ∈ G h w) (h2 : D.r.deep ≤ 8) (h3 : ¬ ∀ q ∈ D.box, (D.R q).On h w) : D.word h w = "off" := (if_pos h1).trans ((if_pos h2).trans (if_neg h3))
theorem word_ok (o : D.ok h w) : D.word h w = "" := (if_pos o.1).trans ((if_pos o.2.1).trans (if_pos o.2.2))
theorem near_side {x y : Int} (h1 : 0 ≤ x ∧ x < 4) (h2 : 0 ≤ y ∧ y < 4) : max x y + 1 - min x y ≤ 100 :=
  Int.le_trans (Int.sub_le_self _ (Int.le_min.mpr ⟨h1.1, h2.1⟩)) (Int.le_trans (Int.add_one_le_of_lt (Int.max_lt.mpr ⟨h1.2, h2.2⟩)) (by decide))
theorem near_G (z : Sz h w) {p : Pl} (hp : p ∈ G h w) : Near p := by
  obtain ⟨h1, h2, h3, h4⟩ := mem_G.mp hp
  exact ⟨⟨h1, Int.lt_of_lt_of_le h2 (Int.ofNat_le.mpr (Nat.le_trans z.h1 (by decide)))⟩, h3, Int.lt_of_lt_of_le h4 (Int.ofNat_le.mpr (Nat.le_trans z.w1 (by decide)))⟩
theorem near_mod (a b : Int) {x y : Nat} (h1 : 0 < x) (h2 : x ≤ 4) (h3 : 0 < y) (h4 : y ≤ 4) : Near (a % x, b % y) :=
  ⟨⟨Int.emod_nonneg _ (Int.ofNat_ne_zero.mpr (Nat.pos_iff_ne_zero.mp h1)), Int.lt_of_lt_of_le (Int.emod_lt_of_pos _ (Int.ofNat_lt.mpr h1)) (Int.ofNat_le.mpr h2)⟩, Int.emod_nonneg _ (Int.ofNat_ne_zero.mpr (Nat.pos_iff_ne_zero.mp h3)), Int.lt_of_lt_of_le (Int.emod_lt_of_pos _ (Int.ofNat_lt.mpr h3)) (Int.ofNat_le.mpr h4)⟩
theorem R_ok (q : Pl) : (D.R q).deep = D.r.deep ∧ (D.R q).size = D.r.size := by
  unfold Deed.R
  by_cases e : D.nm = "put"
  · rw [if_pos e]; exact ⟨rfl, rfl⟩
  · rw [if_neg e]; exact Rule.sh_ok _ _ _
theorem updF_two {α : Type} (g : Pl → α) (p : Pl) (v : α) : updF (updF g p v) p (g p) = g := funext fun q => by
  by_cases e : q = p
  · rw [e, updF_same]
  · rw [updF_ne _ _ e, updF_ne _ _ e]
end
noncomputable def sz (ws : List Rule) : Nat := (ws.map Rule.size).sum
theorem sz_app (ws vs : List Rule) : sz (ws ++ vs) = sz ws + sz vs := by unfold sz; rw [List.map_append, List.sum_append]
theorem sz_parts : ∀ ws : List Rule, sz (ws.flatMap Rule.parts) ≤ sz ws
  | [] => Nat.le_refl _
  | r :: ws => by
    rw [List.flatMap_cons, sz_app]
    exact Nat.add_le_add (by rw [r.size_eq]; exact Nat.le_succ _) (sz_parts ws)
theorem len_sz : ∀ ws : List Rule, ws.length ≤ sz ws
  | [] => Nat.le_refl _
  | r :: ws => by
    show ws.length + 1 ≤ r.size + sz ws
    rw [Nat.add_comm]; exact Nat.add_le_add (size_pos r) (len_sz ws)
section
variable {W : Wd} {k : Nat}
theorem cellx_ok (E : Env13 W) {n : Nat} (hn : 1 ≤ n) {x : Int} (hx : 0 ≤ x) {σ : Hp} {Q : VP} {X : XP} (h : ∀ n, Q (.int n) σ) : (glb W n).call "_law_cell_at" [.script, .int x] σ Q X := by
  obtain ⟨i, rfl⟩ := Int.eq_ofNat_of_zero_le hx
  exact gcall hn (cell_at_ok E i σ Q h)
theorem ldeed_ok (E : Env13 W) {h w ka : Nat} (z : Sz h w) {f : Pl → Rule} (hf : Fine f h w) (σ : Hp) (K : KeptAt σ ka h w f) {x : Int} (hx : 0 ≤ x) (Q : VP)
    (hQ : ∀ (D : Deed) σ', DeedOk D f h w → σ.le σ' → Q D.v σ') : callP W 4 "_law_deed" [.script, .int x, .ref ka, .int h, .int w] σ Q noX := by
  have n1 : (glb W 3).has "_law_cell_at" = true := E.has (by decide)
  have n2 : (glb W 3).has "_law_rule_by" = true := E.has (by decide)
  have hh : 0 < (h : Int) := Int.ofNat_lt.mpr z.h0
  have hw : 0 < (w : Int) := Int.ofNat_lt.mpr z.w0
  refine call_ok E.S.T E.deed rfl ?_
  dsimp only [b_law_deed, p_law_deed, bindP]
  refine st_cons ?_
  dsimp only [S.assign, T.var, X.call, X.var, wpEs]
  refine s_call n1 (s_get rfl (s_get rfl (cellx_ok E (by decide) hx fun cell => st_cons ?_)))
  dsimp only [S.assign, T.var, X.bin, X.call, X.num, X.var, wpEs]
  refine s_call n1 (s_get rfl (s_get rfl (s_add (cellx_ok E (by decide) (Int.add_nonneg hx (by decide)) fun more => st_cons ?_))))
  dsimp only [S.assign, T.var, X.bin, X.tup, X.var, wpEs]
  refine s_get rfl (s_get rfl (s_mod hh (s_get rfl (s_get rfl (s_fdiv (sm h (Nat.le_trans z.h1 (by decide)) z.h0) (s_get rfl (s_mod hw (st_cons ?_))))))))
  have hp := mod_G z more (more / h)
  have fin : ∀ (ρ : Env) (r : Rule) (N : NP) (X : XPS), ρ "_law_place" = some (pv (more % h, more / h % w)) → ρ "_law_rule" = some r.v → r.deep ≤ 40 → r.size ≤ 100 → wpSs [.ret (.tup [.str "put", .var "_law_place", .var "_law_place", .var "_law_place", .var "_law_rule"])] (glb W 3) N Q X ρ σ := fun ρ r N X h1 h2 h3 h4 =>
    st_cons (s_get h1 (s_get h1 (s_get h1 (s_get h2 (hQ ⟨"put", (more % h, more / h % w), (more % h, more / h % w), (more % h, more / h % w), r⟩ σ ⟨hp, near_G z hp, near_G z hp, h3, h4, .inl ⟨rfl, rfl, rfl⟩⟩ (Hp.le_refl _))))))
  have wrap : ∀ (ρ : Env) (r : Rule) (N : NP) (X : XPS), ρ "_law_cell" = some (.int cell) → ρ "_law_place" = some (pv (more % h, more / h % w)) → ρ "_law_rule" = some r.v → r.deep ≤ 3 → r.size ≤ 6 → wpSs [.ite (.cmp (.bin .mod (.bin .fdiv (.var "_law_cell") (.num 4)) (.num 6)) .eq (.num 2)) [
      .for_ "_law_k" (.range1 (.bin .add (.num 4) (.bin .mod (.bin .fdiv (.var "_law_cell") (.num 24)) (.num 8)))) [
        .assign (.var "_law_rule") (.tup [.str "add", .tup [.str "num", .var "_law_k"], .var "_law_rule"])]] [], .ret (.tup [.str "put", .var "_law_place", .var "_law_place", .var "_law_place", .var "_law_rule"])] (glb W 3) N Q X ρ σ := by
    intro ρ r N X h0 h1 h2 h3 h4
    refine st_cons ?_
    dsimp only [RS.X.bin, RS.X.cmp, RS.X.num, RS.X.var, S.ite, wpT]
    refine s_get h0 (s_fdiv (sm 4 (by decide) (by decide)) (s_mod (by decide) (s_eqI (s_truth rfl (s_if (fun _ => st_cons ?_) fun _ => st_nil (fin ρ r _ _ h1 h2 (Nat.le_trans h3 (by decide)) (Nat.le_trans h4 (by decide))))))))
    dsimp only [RS.X.bin, RS.X.num, RS.X.var, S.for_, Src.range1]
    have hb : (4 + cell / 24 % 8 - 0).toNat ≤ 11 := Int.toNat_le.mpr (by rw [Int.sub_zero]; exact Int.add_le_add_left (c := 4) (show cell / 24 % 8 ≤ 7 from Int.le_of_lt_add_one (Int.emod_lt_of_pos (b := 8) _ (by decide))))
    refine s_get h0 (s_fdiv (sm 24 (by decide) (by decide)) (s_mod (by decide) (s_add (s_range (Nat.le_trans hb (by decide)) ?_))))
    refine forL_range (fun i ρ σ' => σ' = σ ∧ ρ "_law_place" = some (pv (more % h, more / h % w)) ∧ ∃ r : Rule, ρ "_law_rule" = some r.v ∧ r.deep ≤ 3 + i ∧ r.size ≤ 6 + 2 * i) ⟨rfl, h1, r, h2, h3, h4⟩ (fun _ => trivial) ?_ ?_
    · rintro i ρ σ' N' _ ⟨rfl, h1, r, h2, h3, h4⟩ hN
      refine st_cons ?_
      dsimp only [RS.X.str, RS.X.tup, RS.X.var, S.assign, T.var, wpEs]
      refine s_get (Env.set_same _ _ _) (s_get ((Env.set_ne _ _ (by decide)).trans h2) (st_nil (hN _ _ ⟨rfl, (Env.set_ne _ _ (by decide)).trans ((Env.set_ne _ _ (by decide)).trans h1), .add (.num (0 + i)) r, Env.set_same _ _ _, ?_, ?_⟩)))
      · exact Nat.succ_le_succ (Nat.max_le.mpr ⟨Nat.le_trans (by decide : 1 ≤ 3) (Nat.le_add_right 3 i), h3⟩)
      · show 1 + r.size + 1 ≤ 6 + (2 * i + 2)
        rw [Nat.add_comm 1]; exact Nat.add_le_add_right h4 2
    · rintro ρ σ' ⟨rfl, h1, r, h2, h3, h4⟩
      exact st_nil (fin ρ r _ _ h1 h2 (Nat.le_trans h3 (Nat.le_trans (Nat.add_le_add_left hb 3) (by decide))) (Nat.le_trans h4 (Nat.le_trans (Nat.add_le_add_left (Nat.mul_le_mul_left 2 hb) 6) (by decide))))
  dsimp only [S.ite, X.bin, X.cmp, X.num, X.var, wpT]
  refine s_get rfl (s_mod (by decide) (s_lt (s_truth rfl (s_if (fun _ => st_cons ?_) fun hc => st_nil (st_cons ?_)))))
  · dsimp only [S.assign, T.var, X.bin, X.call, X.num, X.var, wpEs]
    refine s_call n2 (s_call n1 (s_get rfl (s_get rfl (s_add (cellx_ok E (by decide) (Int.add_nonneg hx (by decide)) fun c2 => s_get rfl (s_get rfl (gcall (m := 3) (by decide) (rule_by_ok E z _ σ _ fun r hr => st_cons ?_))))))))
    dsimp only [S.ite, X.bin, X.cmp, X.num, X.var, wpT]
    have d0 : r.deep ≤ 2 ∧ r.size ≤ 4 := hr.elim (fun d => ⟨d.1, d.2.1⟩) fun d => ⟨Nat.le_trans d.1 (by decide), Nat.le_trans d.2.1 (by decide)⟩
    refine s_get rfl (s_fdiv (sm 4 (by decide) (by decide)) (s_mod (by decide) (s_eqI (s_truth rfl (s_if (fun _ => st_cons ?_) fun _ => st_nil (wrap _ r _ _ rfl rfl rfl (Nat.le_trans d0.1 (by decide)) (Nat.le_trans d0.2 (by decide))))))))
    dsimp only [S.assign, T.var, X.bool, X.num, X.str, X.tup, X.var, wpEs]
    refine s_get rfl (s_get rfl (st_nil (wrap _ (.add r (.cell ⟨(h, 0), true, true⟩)) _ _ rfl rfl rfl ?_ ?_)))
    · exact Nat.succ_le_succ (Nat.max_le.mpr ⟨d0.1, (by decide : 1 ≤ 2)⟩)
    · exact Nat.succ_le_succ (Nat.succ_le_succ d0.2)
  dsimp only [S.assign, T.var, X.bin, X.call, X.num, X.var, wpEs]
  refine s_call n1 (s_get rfl (s_get rfl (s_add (cellx_ok E (by decide) (Int.add_nonneg hx (by decide)) fun last => st_cons ?_))))
  dsimp only [S.assign, T.var, X.bin, X.num, X.tup, X.var, wpEs]
  have hh1 : 0 < (h : Int) + 1 := Int.ofNat_lt.mpr (Nat.succ_pos h)
  have hw1 : 0 < (w : Int) + 1 := Int.ofNat_lt.mpr (Nat.succ_pos w)
  refine s_get rfl (s_get rfl (s_add (s_mod hh1 (s_get rfl (s_fdiv (sm 7 (by decide) (by decide)) (s_get rfl (s_mod hw (st_cons ?_))))))))
  dsimp only [S.assign, T.var, X.bin, X.num, X.tup, X.var, wpEs]
  refine s_get rfl (s_fdiv (sm 49 (by decide) (by decide)) (s_get rfl (s_mod hh (s_get rfl (s_fdiv (sm 343 (by decide) (by decide)) (s_get rfl (s_add (s_mod hw1 (st_cons ?_)))))))))
  have ho : Near (last % ((h : Int) + 1), last / 7 % w) := near_mod (x := h + 1) (y := w) _ _ (Nat.succ_pos _) (Nat.succ_le_succ z.h1) z.w0 (Nat.le_succ_of_le z.w1)
  have ht : Near (last / 49 % (h : Int), last / 343 % ((w : Int) + 1)) := near_mod (x := h) (y := w + 1) _ _ z.h0 (Nat.le_succ_of_le z.h1) (Nat.succ_pos _) (Nat.succ_le_succ z.w1)
  have fin2 : ∀ (ρ : Env) (b : Pl) (nm : String) (N : NP) (X : XPS), ρ "_law_cell" = some (.int cell) → ρ "_law_kept" = some (.ref ka) → ρ "_law_place" = some (pv (more % h, more / h % w)) → ρ "_law_one" = some (pv (last % ((h : Int) + 1), last / 7 % w)) → ρ "_law_two" = some (pv b) → pyGet [V.str "copied", .str "filled"] (cell % 4 - 2) = some (.str nm) → Near b → ((nm = "copied" ∧ b = (last % ((h : Int) + 1), last / 7 % (w : Int))) ∨ nm = "filled") →
      wpSs [.ret (.tup [.idx (.lst [.str "copied", .str "filled"]) (.bin .sub (.bin .mod (.var "_law_cell") (.num 4)) (.num 2)), .var "_law_place", .var "_law_one", .var "_law_two", .idx (.var "_law_kept") (.var "_law_place")])] (glb W 3) N Q X ρ σ := by
    intro ρ b nm N X h1 h2 h3 h4 h5 h6 h7 h8
    refine st_cons ?_
    dsimp only [RS.X.bin, RS.X.idx, RS.X.lst, RS.X.num, RS.X.str, RS.X.tup, RS.X.var, S.ret, wpEs]
    refine s_newG fun a σ₁ _ le₁ ha => s_get h1 (s_mod (by decide) (s_sub (s_idxL ha h6 (s_get h3 (s_get h4 (s_get h5 (s_get h2 (s_get h3 (s_kept (K.le le₁) hp ?_)))))))))
    obtain ⟨f1, f2, _⟩ := hf _ hp
    exact hQ ⟨nm, (more % h, more / h % w), (last % ((h : Int) + 1), last / 7 % w), b, f (more % h, more / h % w)⟩ σ₁ ⟨hp, ho, h7, Nat.le_trans f1 (by decide), f2, h8.elim (fun e => .inr (.inl ⟨e.1, e.2, rfl⟩)) fun e => .inr (.inr ⟨e, rfl⟩)⟩ le₁
  dsimp only [S.ite, X.bin, X.cmp, X.num, X.var, wpT]
  refine s_get rfl (s_mod (by decide) (s_eqI (s_truth rfl (s_if (fun e => st_cons ?_) fun e => st_nil ?_))))
  · dsimp only [S.assign, T.var, X.var]
    exact s_get rfl (st_nil (fin2 _ _ "copied" _ _ rfl rfl rfl rfl rfl (by rw [of_decide_eq_true e]; rfl) ho (.inl ⟨rfl, rfl⟩)))
  · have e3 : cell % 4 = 3 := by
      have h1 : ¬ cell % 4 < 2 := fun q => hc (decide_eq_true q)
      have h2 : ¬ cell % 4 = 2 := fun q => e (decide_eq_true q)
      omega
    exact fin2 _ _ "filled" _ _ rfl rfl rfl rfl rfl (by rw [e3]; rfl) ht (.inr rfl)
end


section
variable {W : Wd} {k : Nat}
theorem ldue_ok (E : Env13 W) {h w ka : Nat} (z : Sz h w) {f : Pl → Rule} (hf : Fine f h w) (σ : Hp) (K : KeptAt σ ka h w f) {D : Deed} (dok : DeedOk D f h w) (Q : VP)
    (hQ : ∀ (v : V) σ', σ.le σ' → (¬ D.ok h w → v = .none) → (D.ok h w → ∃ cd ep, v = .ref cd ∧ σ cd = none ∧ σ' cd = some (.dct (mapD D.box fun q => (D.R q).v) ep)) → Q (.tup [v, .str (D.word h w)]) σ') : callP W 10 "_law_due" [.ref ka, D.v] σ Q noX := by
  have n1 : (glb W 9).has "_law_area" = true := E.has (by decide)
  have n2 : (glb W 9).has "_law_moved" = true := E.has (by decide)
  have n3 : (glb W 9).has "_law_inner" = true := E.has (by decide)
  have n4 : (glb W 9).has "_law_lies" = true := E.has (by decide)
  have n5 : (glb W 9).has "_law_refs" = true := E.has (by decide)
  obtain ⟨ek, hka⟩ := K
  have d1 := near_side dok.a.1 dok.b.1
  have d2 := near_side dok.a.2 dok.b.2
  have hbl : D.box.length ≤ 10000 := by unfold Deed.box boxOf; rw [areaP_length]; exact Nat.mul_le_mul (Int.toNat_le.mpr d1) (Int.toNat_le.mpr d2)
  have rd : D.nm ≠ "put" → D.r.deep ≤ 8 := fun hn => dok.kind.elim (fun e => (hn e.1).elim) fun k => by rw [k.elim (fun e => e.2.2) fun e => e.2]; exact (hf _ dok.p).1
  have hbn : D.box.Nodup := areaP_nodup _ _ _ _
  refine call_ok E.S.T E.due rfl ?_
  dsimp only [b_law_due, p_law_due, bindP]
  refine st_cons ?_
  dsimp only [S.assign, T.var, X.emptyDict]
  refine s_newG fun cd σ₁ ncd le₁ hcd => st_cons ?_
  dsimp only [S.for_, Src.of, X.call, X.idx, X.num, X.var, wpEs]
  refine s_call n1 (s_get rfl (s_idxT (v := pv D.a) rfl (s_get rfl (s_idxT (v := pv D.b) rfl ?_))))
  refine gcall (m := 1) (by decide) (larea_ok E _ _ _ _ [] [] σ₁ _ d1 d2 fun bx σ₂ nbx le₂ hbx => s_srcL hbx ?_)
  have hbc : bx ≠ cd := fun e => by rw [e, hcd] at nbx; cases nbx
  refine forL_data pv (fun pre ρ σ' => A6 (ρ "_law_kept" = some (.ref ka)) (ρ "_law_deed_here" = some D.v) (ρ "_law_changed" = some (.ref cd)) (σ.le σ') (σ' bx = some (.lst (D.box.map pv))) (∃ ep, σ' cd = some (.dct (mapD pre fun q => (D.R q).v) ep))) ⟨rfl, rfl, rfl, Hp.le_trans le₁ le₂, hbx, 0, le₂ _ _ hcd⟩ (fun _ _ _ h => h.5) ?_ ?_
  · rintro pre q post ρ σ' N' hsp ⟨e1, e2, e3, le, hbx, ep, hcd⟩ hN
    have hnq : q ∉ pre := nodup_mid hbn hsp
    have hpl : pre.length + 1 ≤ 10000 := Nat.le_trans (len_lt hsp) hbl
    have e1 := (Env.set_ne ρ (pv q) (by decide : "_law_kept" ≠ "_law_place")).trans e1
    have e2 := (Env.set_ne ρ (pv q) (by decide : "_law_deed_here" ≠ "_law_place")).trans e2
    have e3 := (Env.set_ne ρ (pv q) (by decide : "_law_changed" ≠ "_law_place")).trans e3
    have e4 := Env.set_same ρ "_law_place" (pv q)
    generalize ρ.set "_law_place" (pv q) = ρ₁ at *
    refine st_cons ?_
    dsimp only [S.assign, T.idx, X.idx, X.num, X.var]
    refine s_get e2 (s_idxT (v := D.r.v) rfl (s_get e3 (s_get e4 (s_storeD hcd (k := pk q) rfl (by unfold lenOk; rw [mapD_length]; exact Nat.le_trans (Nat.le_of_succ_le hpl) (by decide)) fun ep₁ => ?_))))
    rw [dput_mapD_not hnq]
    have hcd1 := Hp.set_same σ' cd (.dct (mapD (pre ++ [q]) (updF (fun q => (D.R q).v) q D.r.v)) ep₁)
    have hbx1 := (Hp.set_ne σ' (.dct (mapD (pre ++ [q]) (updF (fun q => (D.R q).v) q D.r.v)) ep₁) hbc).trans hbx
    have le1 := Hp.le_upd (.dct (mapD (pre ++ [q]) (updF (fun q => (D.R q).v) q D.r.v)) ep₁) le ncd
    generalize σ'.set cd (.dct (mapD (pre ++ [q]) (updF (fun q => (D.R q).v) q D.r.v)) ep₁) = σ₃ at *
    refine st_cons ?_
    dsimp only [S.ite, X.cmp, X.idx, X.num, X.str, X.var, wpT]
    refine s_get e2 (s_idxT (v := .str D.nm) rfl (s_neS (s_truth rfl (s_if (fun hp => ?_) fun hp => st_nil (st_nil (hN _ _ ⟨e1, e2, e3, le1, hbx1, ep₁, ?_⟩))))))
    · have hp : D.nm ≠ "put" := fun e => by rw [decide_eq_true e] at hp; cases hp
      have hR : D.R q = shP D.r D.p q := if_neg hp
      have r8 : D.r.deep ≤ 8 := rd hp
      refine st_cons ?_
      dsimp only [S.assign, T.idx, X.bin, X.call, X.idx, X.num, X.var, wpEs]
      refine s_call n2 (s_get e2 (s_idxT (v := D.r.v) rfl (s_get e4 (s_idxT (v := .int q.1) rfl (s_get e2 (s_idxT (v := pv D.p) rfl (s_idxT (v := .int D.p.1) rfl (s_sub (s_get e4 (s_idxT (v := .int q.2) rfl (s_get e2 (s_idxT (v := pv D.p) rfl (s_idxT (v := .int D.p.2) rfl (s_sub ?_))))))))))))))
      refine gcall (Nat.succ_le_succ r8) (lmoved_ok E _ _ D.r σ₃ _ fun σ₄ le₄ => s_get e3 (s_get e4 (s_storeD (le₄ _ _ hcd1) (k := pk q) rfl (by unfold lenOk; rw [mapD_length, List.length_append]; exact Nat.le_trans hpl (by decide)) fun ep₂ => st_nil (st_nil (hN _ _ ⟨e1, e2, e3, Hp.le_upd _ (Hp.le_trans le1 le₄) ncd, (Hp.set_ne _ _ hbc).trans (le₄ _ _ hbx1), ep₂, ?_⟩)))))
      rw [Hp.set_same, dput_mapD (List.mem_append_right _ (.head _)), ← show (fun q => (D.R q).v) q = (D.r.sh (q.1 - D.p.1) (q.2 - D.p.2)).v from congrArg Rule.v hR, updF_two]
    · have hp : D.nm = "put" := Classical.byContradiction fun e => hp (by rw [decide_eq_false e]; rfl)
      have hR : D.R q = D.r := if_pos hp
      rw [hcd1, ← show (fun q => (D.R q).v) q = D.r.v from congrArg Rule.v hR, updF_id]
  clear hcd hbx nbx hbc le₁ le₂
  rintro ρ σ₃ ⟨e1, e2, e3, le, _, ep, hcd⟩
  refine st_cons ?_
  dsimp only [S.ite, Src.of, X.cmp, X.comp, X.lst, X.var, wpEs, wpIfs, wpT]
  refine s_get e3 (s_srcD hcd ?_)
  rw [mapD_kv]
  refine compL_fl pv pv (fun q => !decide (q ∈ G h w)) (fun σ' l => l _ _ hcd) (Nat.le_trans hbl (by decide)) (fun q _ σ₄ le₄ K' hK' => ?_) fun σ₄ le₄ => s_newG fun bl σ₅ _ le₅ hbl₅ => s_newG fun em σ₆ _ le₆ hem => s_neL0 (le₆ _ _ hbl₅) hem (snap_pvs σ₆ 48 _) ?_
  · have := hK' σ₄ (Hp.le_refl _)
    refine s_get (Env.set_same _ _ _) (s_get ((Env.set_ne _ _ (by decide)).trans e1) (.notIn (s_inD' (le₄ _ _ (le _ _ hka)) (s_truth rfl (s_ifB (fun e => ?_) fun e => s_ifF Bool.false_ne_true ?_)))))
    · rw [if_pos e] at this; exact s_get (Env.set_same _ _ _) this
    · rw [if_neg (by rw [e]; exact Bool.false_ne_true)] at this; exact this
  rw [filter_nil]
  have leA := Hp.le_trans le (Hp.le_trans le₄ (Hp.le_trans le₅ le₆))
  have hcd := le₆ _ _ (le₅ _ _ (le₄ _ _ hcd))
  clear le le₄ le₅ le₆ hbl₅ hem
  have allG : decide (∀ q ∈ D.box, (!decide (q ∈ G h w)) = false) = true ↔ ∀ q ∈ D.box, q ∈ G h w := by
    rw [decide_eq_true_iff]; exact ⟨fun h q hq => of_decide_eq_true ((nf _).mp (h q hq)), fun h q hq => (nf _).mpr (decide_eq_true (h q hq))⟩
  refine s_truth rfl (s_ifB (fun hg => ?_) fun hg => ?_)
  · have hg : ¬ ∀ q ∈ D.box, q ∈ G h w := fun q => Bool.noConfusion (hg.symm.trans (congrArg not (allG.mpr q)))
    have := hQ .none σ₆ leA (fun _ => rfl) fun o => (hg o.1).elim
    rw [word_off hg] at this
    exact st_cons this
  have hg : ∀ q ∈ D.box, q ∈ G h w := allG.mp ((nf _).mp hg)
  refine st_nil (st_cons ?_)
  dsimp only [S.assign, T.var, X.num]
  refine st_cons ?_
  dsimp only [S.assign, T.var, X.idx, X.lst, X.num, X.var, wpEs]
  refine s_get ((Env.set_ne _ _ (by decide)).trans e2) (s_idxT (v := D.r.v) rfl (s_newG fun pa σ₇ npa le₇ hpa => st_cons ?_))
  dsimp only [S.while_, X.cmp, X.lst, X.var, wpEs, wpT]
  refine whileL_inv (fun m ρ σ' => Ex3 fun (ws : List Rule) (pa n : Nat) => A10 (ρ "_law_kept" = some (.ref ka)) (ρ "_law_changed" = some (.ref cd)) (ρ "_law_parts" = some (.ref pa)) (ρ "_law_many" = some (.int n)) (σ₆.le σ') (σ' pa = some (.lst (ws.map Rule.v))) (sz ws ≤ 100) (∀ s ∈ ws, s.deep + n ≤ D.r.deep) (n = D.r.deep ∨ ∃ s ∈ ws, s.deep + n = D.r.deep) (n + m = D.r.deep)) ?_ (m := D.r.deep)
    ⟨[D.r], pa, 0, (Env.set_ne _ _ (by decide)).trans ((Env.set_ne _ _ (by decide)).trans e1), (Env.set_ne _ _ (by decide)).trans ((Env.set_ne _ _ (by decide)).trans e3), Env.set_same _ _ _, (Env.set_ne _ _ (by decide)).trans (Env.set_same _ _ _), le₇, hpa, dok.size, fun s hs => by rw [List.mem_singleton.mp hs]; exact Nat.le_refl _, .inr ⟨_, .head _, rfl⟩, Nat.zero_add _⟩
  clear e1 e2 e3 npa le₇ hpa σ₇
  rintro m ρ σ' N ⟨ws, pa, n, e1, e2, e3, e4, le, hpa, hsz, hup, hex, hm⟩ hN
  refine s_get e3 (s_newG fun em σ₇ _ le₇ hem => s_neL0 (le₇ _ _ hpa) hem (snap_all Rule.v Rule.d _ fun s hs => snap_rule σ₇ s 49 (Nat.le_trans (Nat.succ_le_succ (Nat.le_trans (Nat.le_trans (Nat.le_add_right _ _) (hup s hs)) dok.deep)) (by decide))) (s_truth rfl (s_ifB (fun ht => ?_) fun ht => ?_)))
  · have hnm : n + 1 ≤ D.r.deep := by
      cases ws with
      | nil => cases ht
      | cons s ws => rw [Nat.add_comm]; exact Nat.le_trans (Nat.add_le_add_right s.deep_pos n) (hup s (.head _))
    refine st_cons ?_
    dsimp only [S.assign, T.var, X.bin, X.num, X.var]
    refine s_get e4 (s_add (st_cons ?_))
    dsimp only [S.assign, T.var, X.lst, wpEs]
    refine s_newG fun fu σ₈ nfu le₈ hfu => st_cons ?_
    dsimp only [S.for_, Src.of, X.var]
    have le78 := Hp.le_trans le₇ le₈
    refine s_get ((Env.set_ne _ _ (by decide)).trans ((Env.set_ne _ _ (by decide)).trans e3)) (s_srcL (le78 _ _ hpa) ?_)
    refine forL_data Rule.v (fun pre ρ σ'' => A5 (ρ "_law_kept" = some (.ref ka)) (ρ "_law_changed" = some (.ref cd)) (ρ "_law_many" = some (.int (n + 1))) (σ'.le σ'') (∃ fu, ρ "_law_further" = some (.ref fu) ∧ σ'' fu = some (.lst ((pre.flatMap Rule.parts).map Rule.v)))) ⟨(Env.set_ne _ _ (by decide)).trans ((Env.set_ne _ _ (by decide)).trans e1), (Env.set_ne _ _ (by decide)).trans ((Env.set_ne _ _ (by decide)).trans e2), (Env.set_ne _ _ (by decide)).trans (Env.set_same _ _ _), le78, fu, Env.set_same _ _ _, hfu⟩ (fun _ _ _ h => h.4 _ _ hpa) ?_ ?_
    · clear e1 e2 e3 e4 hfu nfu
      rintro pre s post ρ σ'' N' hsp ⟨e1, e2, e4, le', fu, e5, hfu⟩ hN
      have hlen : lenOk ((pre.flatMap Rule.parts).length + s.parts.length) := by
        have := Nat.le_trans (Nat.le_trans (len_sz _) (sz_parts ws)) hsz
        rw [hsp, List.flatMap_append, List.flatMap_cons, List.length_append, List.length_append, ← Nat.add_assoc] at this
        exact Nat.le_trans (Nat.le_trans (Nat.le_add_right _ _) this) (by decide)
      refine st_cons ?_
      dsimp only [S.assign, T.var, X.bin, X.call, X.var, wpEs]
      refine s_get ((Env.set_ne _ _ (by decide)).trans e5) (s_call n3 (s_get (Env.set_same _ _ _) (gcall (m := 1) (by decide) (inner_ok E s σ'' _ fun b σ₉ _ le₉ hb => s_lcat (le₉ _ _ hfu) hb (by rw [List.length_map, List.length_map]; exact hlen) fun c hc => ?_))))
      exact st_nil (hN _ _ ⟨(Env.set_ne _ _ (by decide)).trans ((Env.set_ne _ _ (by decide)).trans e1), (Env.set_ne _ _ (by decide)).trans ((Env.set_ne _ _ (by decide)).trans e2), (Env.set_ne _ _ (by decide)).trans ((Env.set_ne _ _ (by decide)).trans e4), Hp.le_trans le' (Hp.le_trans le₉ (Hp.le_set _ hc)), c, Env.set_same _ _ _, by rw [Hp.set_same, List.flatMap_append, List.flatMap_cons, List.flatMap_nil, List.append_nil, List.map_append]⟩)
    · clear e1 e2 e3 e4 hfu nfu
      rintro ρ σ'' ⟨e1, e2, e4, le', fu, e5, hfu⟩
      refine st_cons ?_
      dsimp only [S.assign, T.var, X.var]
      obtain ⟨m, rfl⟩ : ∃ j, m = j + 1 := ⟨m - 1, (Nat.succ_pred_eq_of_pos (Nat.pos_of_ne_zero fun e => by rw [e] at hm; exact Nat.ne_of_lt hnm hm)).symm⟩
      refine s_get e5 (st_nil (hN m _ _ (Nat.lt_succ_self _) ⟨ws.flatMap Rule.parts, fu, n + 1, (Env.set_ne _ _ (by decide)).trans e1, (Env.set_ne _ _ (by decide)).trans e2, Env.set_same _ _ _, (Env.set_ne _ _ (by decide)).trans e4, Hp.le_trans le le', hfu, Nat.le_trans (sz_parts ws) hsz, fun s hs => ?_, ?_, by rw [← hm, Nat.add_assoc, Nat.add_comm 1]⟩))
      · obtain ⟨r, hr, hs⟩ := List.mem_flatMap.mp hs
        rw [← Nat.add_assoc, Nat.add_right_comm]
        exact Nat.le_trans (Nat.add_le_add_right (Rule.part_deep hs) n) (hup r hr)
      · rcases hex with e | ⟨s, hs, e⟩
        · rw [e] at hnm; exact absurd hnm (Nat.not_succ_le_self _)
        · rcases s.deep_part with e' | ⟨q, hq, e'⟩
          · rw [e', Nat.add_comm] at e; exact .inl e
          · rw [e', Nat.add_right_comm] at e; exact .inr ⟨q, List.mem_flatMap.mpr ⟨s, hs, hq⟩, e⟩
  have hn : n = D.r.deep := by
    cases ws with
    | nil => exact hex.resolve_right fun ⟨_, h, _⟩ => by cases h
    | cons s ws => cases ht
  subst hn
  have leB := Hp.le_trans leA (Hp.le_trans le le₇)
  have hcd := le₇ _ _ (le _ _ hcd)
  clear hpa hup hex hm hem hsz
  refine st_cons ?_
  dsimp only [S.ite, X.cmp, X.num, X.var, wpT]
  refine s_get e4 (s_gt (s_truth rfl (s_if (fun h8 => ?_) fun h8 => st_nil (st_cons ?_))))
  · have h8 : ¬ D.r.deep ≤ 8 := Nat.not_le.mpr (Int.ofNat_lt.mp (of_decide_eq_true h8))
    have := hQ .none σ₇ leB (fun _ => rfl) fun o => (h8 o.2.1).elim
    rw [word_deep hg h8] at this
    exact st_cons this
  have h8 : D.r.deep ≤ 8 := Nat.not_lt.mp fun e => h8 (decide_eq_true (Int.ofNat_lt.mpr e))
  dsimp only [S.for_, Src.of, X.var]
  refine s_get e2 (s_srcD hcd ?_)
  rw [mapD_kv]
  refine forL_data pv (fun pre ρ σ' => A4 (ρ "_law_kept" = some (.ref ka)) (ρ "_law_changed" = some (.ref cd)) (σ₇.le σ') (∀ q ∈ pre, (D.R q).On h w)) ⟨e1, e2, Hp.le_refl _, fun _ h => (List.not_mem_nil h).elim⟩ (fun _ _ _ h => h.3 _ _ hcd) ?_ ?_
  · clear e1 e2 e3 e4
    rintro pre q post ρ σ'' N' hsp ⟨e1, e2, le', hon⟩ hN
    have e1 := (Env.set_ne ρ (pv q) (by decide : "_law_kept" ≠ "_law_place")).trans e1
    have e2 := (Env.set_ne ρ (pv q) (by decide : "_law_changed" ≠ "_law_place")).trans e2
    have e4 := Env.set_same ρ "_law_place" (pv q)
    generalize ρ.set "_law_place" (pv q) = ρ₁ at *
    have hq := mem_mid hsp
    have ⟨r1, r2⟩ := R_ok (D := D) q
    have hbd : lenOk ((D.R q).tr Rule.refs).length := tr_bd (by rw [r2]; exact dok.size)
    refine st_cons ?_
    dsimp only [S.ite, X.call, X.idx, X.not, X.var, wpEs, wpT]
    refine s_call n4 (s_call n5 (s_get e2 (s_get e4 (s_idxD (le' _ _ hcd) (k := pk q) rfl (dget_mapD hq) ?_))))
    refine gcall (Nat.succ_le_succ (by rw [r1]; exact h8)) (lrefs_ok E (D.R q) hbd σ'' _ fun b σ₈ _ le₈ hb => s_get e1 ?_)
    refine gcall (m := 1) (by decide) (llies_ok E hb (le₈ _ _ (le' _ _ (leB _ _ hka))) hbd _ fun σ₉ le₉ => s_truth rfl (s_truth rfl (s_if (fun ho => ?_) fun ho => st_nil (st_nil ?_))))
    · have ho : ¬ (D.R q).On h w := fun o => Bool.noConfusion (ho.symm.trans (congrArg not (decide_eq_true (p := ∀ x ∈ (D.R q).tr Rule.refs, x.p ∈ G h w) o)))
      have ha : ¬ ∀ q ∈ D.box, (D.R q).On h w := fun o => ho (o q hq)
      have := hQ .none σ₉ (Hp.le_trans leB (Hp.le_trans le' (Hp.le_trans le₈ le₉))) (fun _ => rfl) fun o => (ha o.2.2).elim
      rw [word_off2 hg h8 ha] at this
      exact st_cons this
    · refine hN _ _ ⟨e1, e2, Hp.le_trans le' (Hp.le_trans le₈ le₉), fun q' hq' => (List.mem_append.mp hq').elim (hon q') fun e => ?_⟩
      rw [List.mem_singleton.mp e]
      exact Classical.byContradiction fun o => ho (congrArg not (decide_eq_false (p := ∀ x ∈ (D.R q).tr Rule.refs, x.p ∈ G h w) o))
  · clear e1 e2 e3 e4
    rintro ρ σ'' ⟨_, e2, le', hon⟩
    have ok : D.ok h w := ⟨hg, h8, hon⟩
    have := hQ (.ref cd) σ'' (Hp.le_trans leB le') (fun n => (n ok).elim) fun _ => ⟨cd, ep, rfl, ncd, le' _ _ hcd⟩
    rw [word_ok ok] at this
    exact st_cons (s_get e2 this)
end


section
variable {W : Wd} {k : Nat}
theorem ldone_ok (E : Env13 W) {h w a d c : Nat} (z : Sz h w) {f : Pl → Rule} (hf : Fine f h w) {σ : Hp} (S : SheetAt σ a d c h w f) {D : Deed} (dok : DeedOk D f h w) (Q : VP)
    (hQ1 : ¬ D.ok h w → ∀ σ', σ.le σ' → Q (.str (D.word h w)) σ')
    (hQ2 : D.ok h w → ∀ σ', (∀ b x, b ≠ c → σ b = some x → σ' b = some x) → SheetAt σ' a d c h w (fillR f D.R D.box) → Q (.str "") σ') : callP W 12 "_law_done" [.ref a, D.v] σ Q noX := by
  obtain ⟨nm, p, q, q', r⟩ := D
  obtain ⟨hp, -, -, hdp, hsz, hk⟩ := dok
  have one : ∀ P : Pl → Prop, P q → ∀ x ∈ boxOf q.1 q.2 q.1 q.2, P x := fun P h x hx => by rw [box_one] at hx; rw [List.mem_singleton.mp hx]; exact h
  have un : ∀ {P : Pl → Prop}, (∀ x ∈ boxOf q.1 q.2 q.1 q.2, P x) → P q := fun h => h q (box_cell q)
  refine call_ok E.S.T E.done rfl ?_
  dsimp only [b_law_done, p_law_done, bindP]
  refine st_cons ?_
  dsimp only [RS.S.try_]
  refine st_cons ?_
  dsimp only [RS.S.ite, X.cmp, X.idx, X.num, X.str, X.var, wpT]
  rcases hk with ⟨e1, e2, e3⟩ | ⟨e1, e2, e3⟩ | ⟨e1, e2⟩
  · dsimp only at e1 e2 e3
    subst e1 e2 e3
    refine s_get rfl (s_idxT (v := .str "put") rfl (s_eqS (s_truth rfl (s_ifT (decide_eq_true rfl) (st_cons ?_)))))
    dsimp only [RS.S.expr, X.idx, X.meth, X.num, X.var, wpEs]
    have hG := one (· ∈ G h w) hp
    refine s_get rfl (s_recv (s_recvI S.ia (by decide) S.id rfl) (s_get rfl (s_idxT (v := pv q') rfl (s_get rfl (s_idxT (v := r.v) rfl (s_ownF (f := "Sheet.put") rfl ?_))))))
    refine gcallX (m := 5) (by decide) (put_ok E.S z S hp hdp hsz _ _ (fun h8 o σ' fr S' => st_nil (st_nil (st_cons (hQ2 ⟨hG, h8, one (fun _ => r.On h w) o⟩ σ' fr ?_)))) (fun h8 σ' le => ?_) fun h8 o σ' le => ?_)
    · exact fill_one f (fun _ => r) q' ▸ S'
    · have := hQ1 (fun o => Nat.not_le.mpr h8 o.2.1) σ' le
      rw [word_deep (D := ⟨"put", q', q', q', r⟩) hG (Nat.not_le.mpr h8)] at this
      exact s_ifF (by decide) (s_ifT (by decide) this)
    · have ho : ¬ ∀ x ∈ boxOf q'.1 q'.2 q'.1 q'.2, r.On h w := fun x => o (un x)
      have := hQ1 (fun o => ho o.2.2) σ' le
      rw [word_off2 (D := ⟨"put", q', q', q', r⟩) hG h8 ho] at this
      exact s_ifT (by decide) this
  · dsimp only at e1 e2 e3
    subst e1 e2 e3
    obtain ⟨f1, _, _⟩ := hf p hp
    refine s_get rfl (s_idxT (v := .str "copied") rfl (s_eqS (s_truth rfl (s_ifF (by decide) (st_cons ?_)))))
    dsimp only [RS.S.ite, X.cmp, X.idx, X.num, X.str, X.var, wpT]
    refine s_get rfl (s_idxT (v := .str "copied") rfl (s_eqS (s_truth rfl (s_ifT (decide_eq_true rfl) (st_cons ?_)))))
    dsimp only [RS.S.expr, X.idx, X.meth, X.num, X.var, wpEs]
    refine s_get rfl (s_recv (s_recvI S.ia (by decide) S.id rfl) (s_get rfl (s_idxT (v := pv p) rfl (s_get rfl (s_idxT (v := pv q') rfl (s_ownF (f := "Sheet.copied") rfl ?_))))))
    refine gcallX (m := 11) (by decide) (copied_ok E.S z S hf hp q' _ _ (fun hq o σ' fr S' => st_nil (st_nil (st_nil (st_cons (hQ2 ⟨one (· ∈ G h w) hq, f1, one (fun x => (shP (f p) p x).On h w) o⟩ σ' fr ?_))))) fun o σ' le => ?_)
    · exact fill_one f (shP (f p) p) q' ▸ S'
    · have hno : ¬ Deed.ok ⟨"copied", p, q', q', f p⟩ h w := fun x => o ⟨un x.1, un (P := fun x => (shP (f p) p x).On h w) x.2.2⟩
      have := hQ1 hno σ' le
      rw [show Deed.word ⟨"copied", p, q', q', f p⟩ h w = "off" from if hg : ∀ x ∈ Deed.box ⟨"copied", p, q', q', f p⟩, x ∈ G h w then word_off2 hg f1 fun x => hno ⟨hg, f1, x⟩ else word_off hg] at this
      exact s_ifT (by decide) this
  · dsimp only at e1 e2
    subst e1 e2
    obtain ⟨f1, _, _⟩ := hf p hp
    refine s_get rfl (s_idxT (v := .str "filled") rfl (s_eqS (s_truth rfl (s_ifF (by decide) (st_cons ?_)))))
    dsimp only [RS.S.ite, X.cmp, X.idx, X.num, X.str, X.var, wpT]
    refine s_get rfl (s_idxT (v := .str "filled") rfl (s_eqS (s_truth rfl (s_ifF (by decide) (st_cons ?_)))))
    dsimp only [RS.S.expr, X.idx, X.meth, X.num, X.var, wpEs]
    refine s_get rfl (s_recv (s_recvI S.ia (by decide) S.id rfl) (s_get rfl (s_idxT (v := pv p) rfl (s_get rfl (s_idxT (v := pv q) rfl (s_get rfl (s_idxT (v := pv q') rfl (s_ownF (f := "Sheet.filled") rfl ?_))))))))
    refine gcallX (m := 11) (by decide) (filled_ok E.S z S hf hp q q' _ _ (fun hq hq' o σ' fr S' => st_nil (st_nil (st_nil (st_cons (hQ2 ⟨fun x hx => box_G' hq hq' hx, f1, o⟩ σ' fr S'))))) fun o σ' le => ?_)
    have hno : ¬ Deed.ok ⟨"filled", p, q, q', f p⟩ h w := fun x => o ⟨x.1 q (box_in q q').1, x.1 q' (box_in q q').2, x.2.2⟩
    have := hQ1 hno σ' le
    rw [show Deed.word ⟨"filled", p, q, q', f p⟩ h w = "off" from if hg : ∀ x ∈ Deed.box ⟨"filled", p, q, q', f p⟩, x ∈ G h w then word_off2 hg f1 fun x => hno ⟨hg, f1, x⟩ else word_off hg] at this
    exact s_ifT (by decide) this
end
/-! ### two sheets, and what the law keeps of each -/
noncomputable def updB {α : Type} (g : Bool → α) (i : Bool) (v : α) : Bool → α := fun j => if j = i then v else g j
structure St (σ : Hp) (sl rl h w : Nat) (a d c k : Bool → Nat) (f : Bool → Pl → Rule) (es : Bool → List (List Int × V)) : Prop where
  hs : σ sl = some (.lst [.ref (a false), .ref (a true)])
  hr : σ rl = some (.lst [.ref (k false), .ref (k true)])
  sh : ∀ i, SheetAt σ (a i) (d i) (c i) h w (f i)
  kp : ∀ i, ∃ ep, σ (k i) = some (.dct (es i) ep)
  cc : ∀ i j, c i = c j → i = j
  kk : ∀ i j, k i = k j → i = j
  ck : ∀ i j, c i ≠ k j
theorem ne_dct {σ : Hp} {b q ep : Nat} {x : Cell} {es : List (List Int × V)} (hq : σ q = some (.dct es ep)) (hb : σ b = some x) (hx : ∀ es ep, x ≠ .dct es ep) : b ≠ q := fun e => hx _ _ (by rw [e, hq] at hb; exact (Option.some.inj hb).symm)
section
variable {σ σ' : Hp} {sl rl h w : Nat} {a d c k : Bool → Nat} {f : Bool → Pl → Rule} {es : Bool → List (List Int × V)}
theorem St.le (T : St σ sl rl h w a d c k f es) (l : σ.le σ') : St σ' sl rl h w a d c k f es :=
  ⟨l _ _ T.hs, l _ _ T.hr, fun i => (T.sh i).le l, fun i => (T.kp i).imp fun _ e => l _ _ e, T.cc, T.kk, T.ck⟩
theorem St.setK (T : St σ sl rl h w a d c k f es) (i : Bool) (e : List (List Int × V)) (ep : Nat) : St (σ.set (k i) (.dct e ep)) sl rl h w a d c k f (updB es i e) := by
  obtain ⟨ep0, h0⟩ := T.kp i
  refine ⟨(Hp.set_ne _ _ (ne_dct h0 T.hs fun _ _ e => by cases e)).trans T.hs, (Hp.set_ne _ _ (ne_dct h0 T.hr fun _ _ e => by cases e)).trans T.hr, fun j => ⟨(Hp.set_ne _ _ (ne_dct h0 (T.sh j).ia fun _ _ e => by cases e)).trans (T.sh j).ia, (Hp.set_ne _ _ (ne_dct h0 (T.sh j).id fun _ _ e => by cases e)).trans (T.sh j).id, (T.sh j).ic.imp fun _ e => (Hp.set_ne _ _ (T.ck j i)).trans e⟩, fun j => ?_, T.cc, T.kk, T.ck⟩
  unfold updB
  by_cases e' : j = i
  · subst e'; rw [if_pos rfl]; exact ⟨ep, Hp.set_same _ _ _⟩
  · rw [if_neg e']; exact (T.kp j).imp fun _ h => (Hp.set_ne _ _ fun q => e' (T.kk _ _ q)).trans h
theorem St.setC (T : St σ sl rl h w a d c k f es) (i : Bool) {f' : Pl → Rule} (fr : ∀ b x, b ≠ c i → σ b = some x → σ' b = some x) (S' : SheetAt σ' (a i) (d i) (c i) h w f') : St σ' sl rl h w a d c k (updB f i f') es := by
  obtain ⟨ep0, h0⟩ := (T.sh i).ic
  refine ⟨fr _ _ (ne_dct h0 T.hs fun _ _ e => by cases e) T.hs, fr _ _ (ne_dct h0 T.hr fun _ _ e => by cases e) T.hr, fun j => ?_, fun j => (T.kp j).imp fun _ e => fr _ _ (T.ck i j).symm e, T.cc, T.kk, T.ck⟩
  unfold updB
  by_cases e' : j = i
  · subst e'; rw [if_pos rfl]; exact S'
  · rw [if_neg e']; exact ⟨fr _ _ (ne_dct h0 (T.sh j).ia fun _ _ e => by cases e) (T.sh j).ia, fr _ _ (ne_dct h0 (T.sh j).id fun _ _ e => by cases e) (T.sh j).id, (T.sh j).ic.imp fun _ e => fr _ _ (fun q => e' (T.cc _ _ q)) e⟩
end
theorem updB_es (ps : List Pl) (f : Bool → Pl → Rule) (i : Bool) (F : Pl → Rule) : updB (fun i => mapD ps fun p => (f i p).v) i (mapD ps fun p => (F p).v) = fun j => mapD ps fun p => (updB f i F j p).v := funext fun j => by
  unfold updB
  by_cases e : j = i
  · rw [if_pos e, if_pos e]
  · rw [if_neg e, if_neg e]
theorem fine_fill {D : Deed} {f : Pl → Rule} {h w : Nat} (hf : Fine f h w) (hs : D.r.size ≤ 100) (o : D.ok h w) : Fine (fillR f D.R D.box) h w := fun p hp => by
  unfold fillR
  by_cases e : p ∈ D.box
  · rw [if_pos e, (R_ok p).1, (R_ok p).2]; exact ⟨o.2.1, hs, o.2.2 p e⟩
  · rw [if_neg e]; exact hf p hp
theorem fold_fill {f R : Pl → Rule} {h w : Nat} : ∀ (l pre : List Pl), (∀ q ∈ l, q ∈ G h w) → (mapD l fun q => (R q).v).foldl (fun acc e => dput acc e.1 e.2) (mapD (G h w) fun p => (fillR f R pre p).v) = mapD (G h w) fun p => (fillR f R (pre ++ l) p).v
  | [], pre, _ => by rw [List.append_nil]; rfl
  | q :: l, pre, hl => by
    show (mapD l _).foldl _ (dput _ (pk q) (R q).v) = _
    rw [dput_mapD (hl q (.head _)), updF_comp Rule.v, fillR_add, fold_fill l _ fun x hx => hl x (.tail _ hx), List.append_assoc]; rfl


noncomputable def b2i (b : Bool) : Int := cond b 1 0
theorem mod2 (x : Int) : ∃ b, x % 2 = b2i b := (Int.emod_two_eq x).elim (fun e => ⟨false, e⟩) fun e => ⟨true, e⟩
theorem get2 (g : Bool → Nat) (b : Bool) : pyGet [V.ref (g false), .ref (g true)] (b2i b) = some (.ref (g b)) := by cases b <;> rfl
/-- what stands all the while -/
structure LE (ρ : Env) (h w sl rl : Nat) : Prop where
  s : ρ "_law_script" = some .script
  h : ρ "_law_high" = some (.int h)
  w : ρ "_law_wide" = some (.int w)
  sl : ρ "_law_sheets" = some (.ref sl)
  rl : ρ "_law_rules" = some (.ref rl)
theorem LE.set {ρ : Env} {h w sl rl : Nat} (L : LE ρ h w sl rl) {x : String} (v : V) (hx : ∀ y ∈ ["_law_script", "_law_high", "_law_wide", "_law_sheets", "_law_rules"], y ≠ x) : LE (ρ.set x v) h w sl rl :=
  ⟨(Env.set_ne _ _ (hx _ (by decide))).trans L.s, (Env.set_ne _ _ (hx _ (by decide))).trans L.h, (Env.set_ne _ _ (hx _ (by decide))).trans L.w, (Env.set_ne _ _ (hx _ (by decide))).trans L.sl, (Env.set_ne _ _ (hx _ (by decide))).trans L.rl⟩
noncomputable def kept (ps : List Pl) (f : Bool → Pl → Rule) : Bool → List (List Int × V) := fun i => mapD ps fun p => (f i p).v
theorem fineB {f : Bool → Pl → Rule} {h w : Nat} (hf : ∀ i, Fine (f i) h w) (i : Bool) {F : Pl → Rule} (hF : Fine F h w) (j : Bool) : Fine (updB f i F j) h w := by
  unfold updB
  by_cases e : j = i
  · rw [if_pos e]; exact hF
  · rw [if_neg e]; exact hf j
theorem fine_upd {f : Pl → Rule} {h w : Nat} (hf : Fine f h w) (p : Pl) {r : Rule} (h1 : r.deep ≤ 8) (h2 : r.size ≤ 100) (h3 : r.On h w) : Fine (updF f p r) h w := fun q hq => by
  by_cases e : q = p
  · rw [e, updF_same]; exact ⟨h1, h2, h3⟩
  · rw [updF_ne _ _ e]; exact hf q hq
section
variable {W : Wd} {sl rl h w : Nat} {a d c k : Bool → Nat}
/-- the way to a place -/
noncomputable def preG (w : Nat) (n : Nat) : List Pl := (List.range n).map fun (i : Nat) => ((i : Int) / w, (i : Int) % w)
theorem init_ok (E : Env13 W) (z : Sz h w) {i : Nat} (hi : i < h * w) (hn : ((i : Int) / w, (i : Int) % w) ∉ preG w i) (hp : ((i : Int) / w, (i : Int) % w) ∈ G h w) {ρ : Env} (L : LE ρ h w sl rl) (ek : ρ "_law_k" = some (.int i)) {f : Bool → Pl → Rule} (hf : ∀ i, Fine (f i) h w) {σ : Hp} (T : St σ sl rl h w a d c k f (kept (preG w i) f)) {N : NP} {Q : VP} {X : XPS}
    (hN : ∀ f' σ', (∀ i, Fine (f' i) h w) → St σ' sl rl h w a d c k f' (kept (preG w (i + 1)) f') → N ρ σ') : wpSs b_init (glb W 20) N Q X ρ σ := by
  have n1 : (glb W 20).has "_law_rule_by" = true := E.has (by decide)
  have n2 : (glb W 20).has "_law_cell_at" = true := E.has (by decide)
  have hw : 0 < (w : Int) ∧ small w := sm w (Nat.le_trans z.w1 (by decide)) z.w0
  have hi9 : i < 9 := Nat.lt_of_lt_of_le hi (Nat.mul_le_mul z.h1 z.w1)
  have hpl : (preG w i).length = i := by unfold preG; rw [List.length_map, List.length_range]
  have hpn : preG w i ++ [((i : Int) / w, (i : Int) % w)] = preG w (i + 1) := by unfold preG; rw [List.range_succ, List.map_append]; rfl
  generalize preG w i = pre at *
  dsimp only [b_init]
  refine st_cons ?_
  dsimp only [RS.T.idx, RS.X.bin, RS.X.call, RS.X.idx, RS.X.num, RS.X.tup, RS.X.var, S.assign, wpEs]
  refine s_call n1 (s_call n2 (s_get L.s (cellx_ok E (by decide) (by decide) fun cl => s_get ek (s_add (s_fdiv (sm (i + 10) (Nat.le_trans (Nat.add_le_add_right (Nat.le_of_lt hi9) 10) (by decide)) (Nat.succ_pos _)) (s_get ek (s_add (s_get L.h (s_get L.w ?_)))))))))
  refine gcall (m := 3) (by decide) (rule_by_ok E z _ σ _ fun r hr => ?_)
  have hr : r.deep ≤ 8 ∧ r.size ≤ 100 ∧ r.On h w := hr.elim (fun d => ⟨Nat.le_trans d.1 (by decide), Nat.le_trans d.2.1 (by decide), d.2.2⟩) fun d => ⟨Nat.le_trans d.1 (by decide), Nat.le_trans d.2.1 (by decide), d.2.2⟩
  obtain ⟨ep, hk⟩ := T.kp false
  refine s_get L.rl (s_idxL T.hr (v := .ref (k false)) rfl (s_get ek (s_get L.w (s_fdiv hw (s_get ek (s_get L.w (s_mod hw.1 (s_storeD hk (k := pk ((i : Int) / w, (i : Int) % w)) rfl (lok9 (by show (mapD _ _).length ≤ 9; rw [mapD_length, hpl]; exact Nat.le_of_lt hi9)) fun ep' => ?_))))))))
  have T1 := T.setK false (dput (kept pre f false) (pk ((i : Int) / w, (i : Int) % w)) r.v) ep'
  generalize σ.set (k false) _ = σ₁ at *
  refine st_cons ?_
  dsimp only [RS.T.idx, RS.X.bin, RS.X.idx, RS.X.num, RS.X.str, RS.X.tup, RS.X.var, S.assign, wpEs]
  obtain ⟨ep, hk⟩ := T1.kp true
  refine s_get ek (s_get L.rl (s_idxL T1.hr (v := .ref (k true)) rfl (s_get ek (s_get L.w (s_fdiv hw (s_get ek (s_get L.w (s_mod hw.1 (s_storeD hk (k := pk ((i : Int) / w, (i : Int) % w)) rfl (lok9 (by show (mapD _ _).length ≤ 9; rw [mapD_length, hpl]; exact Nat.le_of_lt hi9)) fun ep' => ?_)))))))))
  have T2 := T1.setK true (dput (updB (kept pre f) false (dput (kept pre f false) (pk ((i : Int) / w, (i : Int) % w)) r.v) true) (pk ((i : Int) / w, (i : Int) % w)) (.tup [.str "num", .int i])) ep'
  generalize σ₁.set (k true) _ = σ₂ at *
  generalize hP : ((i : Int) / w, (i : Int) % w) = P at *
  have e1 : (i : Int) / w = P.1 := congrArg Prod.fst hP
  have e2 : (i : Int) % w = P.2 := congrArg Prod.snd hP
  have e : updB (updB (kept pre f) false (dput (kept pre f false) (pk P) r.v)) true (dput (updB (kept pre f) false (dput (kept pre f false) (pk P) r.v) true) (pk P) (.tup [.str "num", .int i])) = kept (preG w (i + 1)) (updB (updB f false (updF (f false) P r)) true (updF (f true) P (.num i))) := by
    funext j
    rw [← hpn]
    cases j with
    | false => show dput (mapD pre fun p => (f false p).v) (pk P) r.v = mapD (pre ++ [P]) fun p => (updF (f false) P r p).v; rw [dput_mapD_not hn, updF_comp Rule.v]
    | true => show dput (mapD pre fun p => (f true p).v) (pk P) (Rule.num i).v = mapD (pre ++ [P]) fun p => (updF (f true) P (.num i) p).v; rw [dput_mapD_not hn, updF_comp Rule.v]
  have hg : dget (kept (preG w (i + 1)) (updB (updB f false (updF (f false) P r)) true (updF (f true) P (.num i))) false) (pk P) = some r.v := by
    show dget (mapD (preG w (i + 1)) fun p => (updF (f false) P r p).v) (pk P) = _
    rw [← hpn, dget_mapD (List.mem_append_right _ (.head _)), updF_same]
  rw [e] at T2
  have hkey : (V.tup [.int ((i : Int) / w), .int ((i : Int) % w)]).key = some (pk P) := by rw [e1, e2]; rfl
  refine st_cons ?_
  dsimp only [RS.X.bin, RS.X.idx, RS.X.meth, RS.X.num, RS.X.tup, RS.X.var, S.expr, wpEs]
  obtain ⟨ep2, hk2⟩ := T2.kp false
  refine s_get L.sl (s_idxL T2.hs (v := .ref (a false)) rfl (s_recv (s_recvI (T2.sh false).ia (by decide) (T2.sh false).id rfl) (s_get ek (s_get L.w (s_fdiv hw (s_get ek (s_get L.w (s_mod hw.1 (s_get L.rl (s_idxL T2.hr (v := .ref (k false)) rfl (s_get ek (s_get L.w (s_fdiv hw (s_get ek (s_get L.w (s_mod hw.1 (s_idxD hk2 hkey hg (s_ownF (f := "Sheet.put") rfl ?_))))))))))))))))))
  rw [e1, e2]
  refine gcallX (m := 5) (by decide) (put_ok E.S z (T2.sh false) hp (Nat.le_trans hr.1 (by decide)) hr.2.1 _ _ (fun _ _ σ₃ fr S' => st_cons ?_) (fun h8 => (Nat.not_le.mpr h8 hr.1).elim) fun _ o => (o hr.2.2).elim)
  have T3 := T2.setC false fr S'
  dsimp only [RS.X.bin, RS.X.idx, RS.X.meth, RS.X.num, RS.X.str, RS.X.tup, RS.X.var, S.expr, wpEs]
  refine s_get L.sl (s_idxL T3.hs (v := .ref (a true)) rfl (s_recv (s_recvI (T3.sh true).ia (by decide) (T3.sh true).id rfl) (s_get ek (s_get L.w (s_fdiv hw (s_get ek (s_get L.w (s_mod hw.1 (s_get ek (s_ownF (f := "Sheet.put") rfl ?_))))))))))
  rw [e1, e2]
  have hnum : (Rule.num i).On h w := on_leaf rfl fun _ h => by cases h
  refine gcallX (m := 5) (by decide) (put_ok E.S z (T3.sh true) hp (r := .num i) (by decide : 1 ≤ 40) (by decide : 1 ≤ 100) _ _ (fun _ _ σ₄ fr' S'' => st_nil ?_) (fun h8 => absurd h8 (by decide : ¬ 8 < 1)) fun _ o => (o hnum).elim)
  exact hN _ σ₄ (fineB (fineB hf false (fine_upd (hf false) P hr.1 hr.2.1 hr.2.2)) true (fine_upd (r := .num i) (hf true) P (by decide : 1 ≤ 8) (by decide : 1 ≤ 100) hnum)) (T3.setC true fr' S'')
theorem tail_ok (E : Env13 W) (z : Sz h w) {ρ : Env} (L : LE ρ h w sl rl) {s : Bool} {dr : Int} (es : ρ "_law_side" = some (.int (b2i s))) (ed : ρ "_law_draw" = some (.int dr)) {f : Bool → Pl → Rule} (hf : ∀ i, Fine (f i) h w) {σ : Hp} (T : St σ sl rl h w a d c k f (kept (G h w) f)) {N : NP} {Q : VP} {X : XPS}
    (hN : ∀ (ρ' : Env) (t : Bool) σ', LE ρ' h w sl rl → ρ' "_law_turn" = some (.int (b2i t)) → σ.le σ' → N ρ' σ') : wpSs b_tail (glb W 20) N Q X ρ σ := by
  have n1 : (glb W 20).has "_law_right" = true := E.has (by decide)
  dsimp only [b_tail]
  refine st_cons ?_
  dsimp only [RS.T.var, RS.X.bin, RS.X.num, RS.X.var, S.assign]
  refine s_get es (s_get ed (s_fdiv (sm 3 (by decide) (by decide)) (s_mod (by decide) (s_fdiv (sm 2 (by decide) (by decide)) (s_add (s_mod (by decide) (st_cons ?_)))))))
  obtain ⟨o, eo⟩ := mod2 (b2i s + dr / 3 % 3 / 2)
  have eo := (Env.set_same ρ "_law_other" (.int ((b2i s + dr / 3 % 3 / 2) % 2))).trans (congrArg (fun x => some (V.int x)) eo)
  have L := L.set (x := "_law_other") (.int ((b2i s + dr / 3 % 3 / 2) % 2)) (by decide)
  have es := (Env.set_ne ρ (.int ((b2i s + dr / 3 % 3 / 2) % 2)) (by decide : "_law_side" ≠ "_law_other")).trans es
  have ed := (Env.set_ne ρ (.int ((b2i s + dr / 3 % 3 / 2) % 2)) (by decide : "_law_draw" ≠ "_law_other")).trans ed
  dsimp only [RS.X.bin, RS.X.call, RS.X.idx, RS.X.not, RS.X.num, RS.X.tup, RS.X.var, S.ite, wpEs, wpT]
  generalize ρ.set "_law_other" (.int ((b2i s + dr / 3 % 3 / 2) % 2)) = ρ₁ at *
  refine s_call n1 (s_get L.sl (s_get eo (s_idxL T.hs (get2 a o) (s_get L.rl (s_get eo (s_idxL T.hr (get2 k o) (s_get ed (s_fdiv (sm 9 (by decide) (by decide)) (s_mod (by decide) (s_sub (s_get ed (s_get L.h (s_mod (Int.ofNat_lt.mpr z.h0) (s_get ed (s_fdiv (sm 4 (by decide) (by decide)) (s_get L.w (s_mod (Int.ofNat_lt.mpr z.w0) ?_)))))))))))))))))
  refine gcall (m := 12) (by decide) (lright_ok E z (hf o) σ (T.sh o) (T.kp o) (mod_G z _ _) _ _ fun σ₁ le₁ => s_truth rfl (s_truth rfl (s_ifF (by decide) (st_nil (st_cons ?_)))))
  dsimp only [RS.T.var, RS.X.bin, RS.X.num, RS.X.var, S.assign]
  obtain ⟨t, et⟩ := mod2 (b2i s + dr / 36 % 2)
  exact s_get es (s_get ed (s_fdiv (sm 36 (by decide) (by decide)) (s_mod (by decide) (s_add (s_mod (by decide) (st_nil (hN _ t σ₁ (L.set _ (by decide)) ((Env.set_same _ _ _).trans (congrArg (fun x => some (V.int x)) et)) le₁)))))))
theorem fill0 (f R : Pl → Rule) : fillR f R [] = f := funext fun _ => if_neg List.not_mem_nil
theorem main_ok (E : Env13 W) (z : Sz h w) {ρ : Env} (L : LE ρ h w sl rl) {i : Nat} (hi : i < 7) (ek : ρ "_law_k" = some (.int i)) {t : Bool} (et : ρ "_law_turn" = some (.int (b2i t))) {f : Bool → Pl → Rule} (hf : ∀ i, Fine (f i) h w) {σ : Hp} (T : St σ sl rl h w a d c k f (kept (G h w) f)) {N : NP} {Q : VP} {X : XPS}
    (hN : ∀ (ρ' : Env) (t : Bool) f' σ', LE ρ' h w sl rl → ρ' "_law_turn" = some (.int (b2i t)) → (∀ i, Fine (f' i) h w) → St σ' sl rl h w a d c k f' (kept (G h w) f') → N ρ' σ') : wpSs b_main (glb W 20) N Q X ρ σ := by
  have n1 : (glb W 20).has "_law_cell_at" = true := E.has (by decide)
  have n2 : (glb W 20).has "_law_deed" = true := E.has (by decide)
  have n3 : (glb W 20).has "_law_due" = true := E.has (by decide)
  have n4 : (glb W 20).has "_law_done" = true := E.has (by decide)
  dsimp only [b_main]
  refine st_cons ?_
  dsimp only [RS.T.var, RS.X.bin, RS.X.call, RS.X.num, RS.X.var, S.assign, wpEs]
  refine s_call n1 (s_get L.s (cellx_ok E (by decide) (by decide) fun cl => s_get ek (s_add (s_fdiv (sm (i + 1) (Nat.le_trans hi (by decide)) (Nat.succ_pos _)) (s_get ek (s_add (st_cons ?_)))))))
  obtain ⟨dr, hdr⟩ : ∃ dr, dr = cl / ((i : Int) + 1) + i := ⟨_, rfl⟩
  dsimp only [RS.T.var, RS.X.bin, RS.X.num, RS.X.var, S.assign]
  rw [← hdr]
  have L := L.set (x := "_law_draw") (.int dr) (by decide)
  have ek := (Env.set_ne ρ (.int dr) (by decide : "_law_k" ≠ "_law_draw")).trans ek
  have et := (Env.set_ne ρ (.int dr) (by decide : "_law_turn" ≠ "_law_draw")).trans et
  have ed := Env.set_same ρ "_law_draw" (.int dr)
  generalize ρ.set "_law_draw" (.int dr) = ρ₁ at *
  refine s_get et (s_get ed (s_mod (by decide) (s_fdiv (sm 2 (by decide) (by decide)) (s_add (s_mod (by decide) (st_cons ?_))))))
  obtain ⟨s, es⟩ := mod2 (b2i t + dr % 3 / 2)
  have es := (Env.set_same ρ₁ "_law_side" (.int ((b2i t + dr % 3 / 2) % 2))).trans (congrArg (fun x => some (V.int x)) es)
  have L := L.set (x := "_law_side") (.int ((b2i t + dr % 3 / 2) % 2)) (by decide)
  have ek := (Env.set_ne ρ₁ (.int ((b2i t + dr % 3 / 2) % 2)) (by decide : "_law_k" ≠ "_law_side")).trans ek
  have ed := (Env.set_ne ρ₁ (.int ((b2i t + dr % 3 / 2) % 2)) (by decide : "_law_draw" ≠ "_law_side")).trans ed
  dsimp only [RS.T.var, RS.X.bin, RS.X.call, RS.X.idx, RS.X.num, RS.X.var, S.assign, wpEs]
  generalize ρ₁.set "_law_side" (.int ((b2i t + dr % 3 / 2) % 2)) = ρ₂ at *
  refine s_call n2 (s_get L.s (s_get ek (s_mul (.inl (by unfold small; decide)) (s_add (s_get L.rl (s_get es (s_idxL T.hr (get2 k s) (s_get L.h (s_get L.w ?_)))))))))
  refine gcall (m := 4) (by decide) (ldeed_ok E z (hf s) σ (T.kp s) (Int.add_nonneg (by decide) (Int.mul_nonneg (by decide) (Int.natCast_nonneg i))) _ fun D σ₁ dok le₁ => st_cons ?_)
  have L := L.set (x := "_law_deed_here") D.v (by decide)
  have es := (Env.set_ne ρ₂ D.v (by decide : "_law_side" ≠ "_law_deed_here")).trans es
  have ed := (Env.set_ne ρ₂ D.v (by decide : "_law_draw" ≠ "_law_deed_here")).trans ed
  have eD := Env.set_same ρ₂ "_law_deed_here" D.v
  dsimp only [RS.T.var, RS.X.call, RS.X.idx, RS.X.var, S.assign, wpEs]
  generalize ρ₂.set "_law_deed_here" D.v = ρ₃ at *
  have T1 := T.le le₁
  refine s_call n3 (s_get L.rl (s_get es (s_idxL T1.hr (get2 k s) (s_get eD ?_))))
  refine gcall (m := 10) (by decide) (ldue_ok E z (hf s) σ₁ (T1.kp s) dok _ fun v σ₂ le₂ h1 h2 => st_cons ?_)
  have L := L.set (x := "_law_due_here") (.tup [v, .str (D.word h w)]) (by decide)
  have es := (Env.set_ne ρ₃ (.tup [v, .str (D.word h w)]) (by decide : "_law_side" ≠ "_law_due_here")).trans es
  have ed := (Env.set_ne ρ₃ (.tup [v, .str (D.word h w)]) (by decide : "_law_draw" ≠ "_law_due_here")).trans ed
  have eD := (Env.set_ne ρ₃ (.tup [v, .str (D.word h w)]) (by decide : "_law_deed_here" ≠ "_law_due_here")).trans eD
  have eU := Env.set_same ρ₃ "_law_due_here" (.tup [v, .str (D.word h w)])
  dsimp only [RS.X.call, RS.X.cmp, RS.X.idx, RS.X.num, RS.X.var, S.ite, wpEs, wpT]
  generalize ρ₃.set "_law_due_here" (.tup [v, .str (D.word h w)]) = ρ₄ at *
  have T2 := T1.le le₂
  refine s_call n4 (s_get L.sl (s_get es (s_idxL T2.hs (get2 a s) (s_get eD ?_))))
  refine gcall (m := 12) (by decide) (ldone_ok E z (hf s) (T2.sh s) dok _ (fun no σ₃ le₃ => ?_) fun ok σ₃ fr S' => ?_)
  · have e := h1 no
    subst e
    refine s_get eU (s_idxT (v := .str (D.word h w)) rfl (s_neS (s_truth rfl (s_ifF (by rw [decide_eq_true rfl]; decide) (st_nil (st_cons ?_))))))
    dsimp only [RS.X.cmp, RS.X.idx, RS.X.none, RS.X.num, RS.X.var, S.ite, wpT]
    exact s_get eU (s_idxT (v := .none) rfl (s_isNot (s_truth rfl (s_ifF (by decide) (st_nil (tail_ok E z L es ed hf (T2.le le₃) fun ρ' t σ' L' et le' => hN ρ' t f σ' L' et hf (T2.le (Hp.le_trans le₃ le'))))))))
  · obtain ⟨cd, ep, rfl, ncd, hcd⟩ := h2 ok
    have T3 := T2.setC s fr S'
    obtain ⟨ek3, hk3⟩ := T3.kp s
    have hk1 : cd ≠ k s := fun e => by obtain ⟨_, q⟩ := T1.kp s; rw [← e, ncd] at q; cases q
    have hc1 : cd ≠ c s := fun e => by obtain ⟨_, q⟩ := (T1.sh s).ic; rw [← e, ncd] at q; cases q
    have hcd := fr cd _ hc1 hcd
    have hG0 := mod_G z 0 0
    have hbl : D.box.length ≤ 9 := Nat.le_trans (nodup_len (areaP_nodup _ _ _ _) ok.1) z.len
    refine s_get eU (s_idxT (v := .str (D.word h w)) rfl (s_neS (s_truth rfl (s_ifF (by rw [word_ok ok]; decide) (st_nil (st_cons ?_))))))
    dsimp only [RS.X.cmp, RS.X.idx, RS.X.none, RS.X.num, RS.X.var, S.ite, wpT]
    refine s_get eU (s_idxT (v := .ref cd) rfl (s_isNot (s_truth rfl (s_ifT rfl (st_cons ?_)))))
    dsimp only [RS.X.idx, RS.X.meth, RS.X.num, RS.X.var, S.expr, wpEs]
    refine s_get L.rl (s_get es (s_idxL T3.hr (get2 k s) (s_recv (.update hk3) (s_get eU (s_idxT (v := .ref cd) rfl (.update hk3 hcd hk1.symm (fun e => ?_) ?_ fun ep' => st_nil ?_))))))
    · rw [List.map_eq_nil_iff.mp e] at hG0; cases hG0
    · show (mapD _ _).length + (mapD _ _).length ≤ 1000000
      rw [mapD_length, mapD_length]; exact Nat.le_trans (Nat.add_le_add z.len hbl) (by decide)
    have T4 := T3.setK s ((mapD D.box fun q => (D.R q).v).foldl (fun acc e => dput acc e.1 e.2) (kept (G h w) f s)) ep'
    have ef := fold_fill (f := f s) (R := D.R) (h := h) (w := w) D.box [] ok.1
    rw [fill0, List.nil_append] at ef
    have e4 : updB (kept (G h w) f) s ((mapD D.box fun q => (D.R q).v).foldl (fun acc e => dput acc e.1 e.2) (kept (G h w) f s)) = kept (G h w) (updB f s (fillR (f s) D.R D.box)) := by
      rw [show (mapD D.box fun q => (D.R q).v).foldl (fun acc e => dput acc e.1 e.2) (kept (G h w) f s) = _ from ef]; exact updB_es (G h w) f s _
    rw [e4] at T4
    have hf' := fineB hf s (fine_fill (hf s) dok.size ok)
    exact tail_ok E z L es ed hf' T4 fun ρ' t σ' L' et le' => hN ρ' t _ σ' L' et hf' (T4.le le')
end
section
variable {W : Wd}
theorem two_three (x : Int) : ∃ h : Nat, 2 + x % 2 = h ∧ (h = 2 ∨ h = 3) := (Int.emod_two_eq x).elim (fun e => ⟨2, by rw [e]; rfl, .inl rfl⟩) fun e => ⟨3, by rw [e]; rfl, .inr rfl⟩
theorem G_pre {h w : Nat} (hh : h = 2 ∨ h = 3) (hw : w = 2 ∨ w = 3) : Sz h w ∧ G h w = preG w (h * w) ∧ ∀ s t, (b2i s, b2i t) ∈ G h w := by
  rcases hh with rfl | rfl <;> rcases hw with rfl | rfl <;> exact ⟨⟨by decide, by decide, by decide, by decide⟩, by decide, by decide⟩
theorem pre_new (w i : Nat) : ((i : Int) / w, (i : Int) % w) ∉ preG w i := fun hm => by
  obtain ⟨j, hj, e⟩ := List.mem_map.mp hm
  have e1 : (j : Int) / w = i / w := congrArg Prod.fst e
  have e2 : (j : Int) % w = i % w := congrArg Prod.snd e
  have : (j : Int) = i := by rw [← Int.emod_add_mul_ediv (j : Int) w, e1, e2, Int.emod_add_mul_ediv]
  exact Nat.lt_irrefl _ (Int.ofNat.inj this ▸ List.mem_range.mp hj)
theorem law13 (E : Env13 W) : wpSs b_law (glb W 20) (fun _ _ => V.none = .bool true) (fun v _ => v = .bool true) (fun _ _ _ => False) (bindP p_law [.script]) (fun _ => none) := by
  have n1 : (glb W 20).has "_law_cell_at" = true := E.has (by decide)
  have n2 : (glb W 20).has "Sheet" = true := E.S.has (by decide)
  have n3 : (glb W 20).has "_law_right" = true := E.has (by decide)
  dsimp only [b_law, p_law, bindP]
  refine st_cons ?_
  dsimp only [S.assign, T.var, X.bin, X.call, X.num, X.var, wpEs]
  refine s_call n1 (s_get rfl (cellx_ok E (by decide) (by decide) fun c0 => s_mod (by decide) (s_add (st_cons ?_))))
  obtain ⟨h, eh, hh⟩ := two_three c0
  dsimp only [S.assign, T.var, X.bin, X.call, X.num, X.var, wpEs]
  rw [eh]
  refine s_call n1 (s_get rfl (cellx_ok E (by decide) (by decide) fun c1 => s_fdiv (sm 2 (by decide) (by decide)) (s_mod (by decide) (s_add (st_cons ?_)))))
  obtain ⟨w, ew, hw⟩ := two_three (c1 / 2)
  dsimp only [S.assign, T.var, X.call, X.lst, X.var, wpEs]
  rw [ew]
  obtain ⟨z, hGp, h01⟩ := G_pre hh hw
  refine s_call n2 (s_get rfl (s_get rfl ?_))
  refine gcall (m := 4) (by decide) (make_ok E.S z _ _ fun a0 d0 c0 σ₁ _ _ _ _ S0 => s_call n2 (s_get rfl (s_get rfl ?_)))
  refine gcall (m := 4) (by decide) (make_ok E.S z σ₁ _ fun a1 d1 c1 σ₂ le₂ _ _ nc1 S1 => s_newG fun sl σ₃ _ le₃ hsl => st_cons ?_)
  dsimp only [S.assign, T.var, X.emptyDict, X.lst, wpEs]
  refine s_newG fun k0 σ₄ nk0 le₄ hk0 => s_newG fun k1 σ₅ nk1 le₅ hk1 => s_newG fun rl σ₆ _ le₆ hrl => st_cons ?_
  have SS0 := S0.le (Hp.le_trans le₂ (Hp.le_trans le₃ (Hp.le_trans le₄ (Hp.le_trans le₅ le₆))))
  have SS1 := S1.le (Hp.le_trans le₃ (Hp.le_trans le₄ (Hp.le_trans le₅ le₆)))
  have dne : ∀ {σ : Hp} {a d c h w x : Nat} {f : Pl → Rule}, SheetAt σ a d c h w f → σ x = none → c ≠ x := fun S q e => by obtain ⟨_, q'⟩ := S.ic; rw [e, q] at q'; cases q'
  have T : St σ₆ sl rl h w (fun i => cond i a1 a0) (fun i => cond i d1 d0) (fun i => cond i c1 c0) (fun i => cond i k1 k0) (fun _ _ => .num 0) (kept (preG w 0) fun _ _ => .num 0) := by
    have cc := dne S0 nc1
    have kk : k0 ≠ k1 := fun e => by rw [e, nk1] at hk0; cases hk0
    refine ⟨le₆ _ _ (le₅ _ _ (le₄ _ _ hsl)), hrl, fun i => ?_, fun i => ?_, fun i j e => ?_, fun i j e => ?_, fun i j => ?_⟩
    · cases i <;> assumption
    · cases i
      · exact ⟨0, le₆ _ _ (le₅ _ _ hk0)⟩
      · exact ⟨0, le₆ _ _ hk1⟩
    · cases i <;> cases j <;> first | rfl | exact (cc e).elim | exact (cc e.symm).elim
    · cases i <;> cases j <;> first | rfl | exact (kk e).elim | exact (kk e.symm).elim
    · have S03 := S0.le (Hp.le_trans le₂ le₃)
      have S13 := S1.le le₃
      cases i <;> cases j
      · exact dne S03 nk0
      · exact dne (S03.le le₄) nk1
      · exact dne S13 nk0
      · exact dne (S13.le le₄) nk1
  have hf0 : ∀ i : Bool, Fine ((fun _ _ => .num 0 : Bool → Pl → Rule) i) h w := fun i p hp => ⟨(by decide : 1 ≤ 8), (by decide : 1 ≤ 100), on_leaf rfl fun _ h => by cases h⟩
  have L0 : LE (((((Env.set (fun _ => none) "_law_script" .script).set "_law_high" (.int h)).set "_law_wide" (.int w)).set "_law_sheets" (.ref sl)).set "_law_rules" (.ref rl)) h w sl rl := ⟨rfl, rfl, rfl, rfl, rfl⟩
  dsimp only [S.for_, Src.range1, X.bin, X.var]
  generalize (fun i => cond i a1 a0 : Bool → Nat) = a at *
  generalize (fun i => cond i d1 d0 : Bool → Nat) = d at *
  generalize (fun i => cond i c1 c0 : Bool → Nat) = c at *
  generalize (fun i => cond i k1 k0 : Bool → Nat) = k at *
  have hhw : h * w ≤ 9 := Nat.mul_le_mul z.h1 z.w1
  have hsh : small (h : Int) := (sm h (Nat.le_trans z.h1 (by decide)) z.h0).2
  refine s_get L0.h (s_get L0.w (s_mul (.inl hsh) (s_range (lok9 (by rw [Int.sub_zero]; exact hhw)) ?_)))
  refine forL_range (fun n ρ σ' => LE ρ h w sl rl ∧ ∃ f, (∀ i, Fine (f i) h w) ∧ St σ' sl rl h w a d c k f (kept (preG w n) f)) ⟨L0, _, hf0, T⟩ (fun _ => trivial) ?_ ?_
  · rintro i ρ σ' N' hi ⟨L, f, hf, T⟩ hN
    rw [Int.zero_add] at hi ⊢
    have hi : i < h * w := Int.ofNat_lt.mp hi
    have L' := L.set (x := "_law_k") (.int i) (by decide)
    exact init_ok E z hi (pre_new w i) (by rw [hGp]; exact List.mem_map.mpr ⟨i, List.mem_range.mpr hi, rfl⟩) L' (Env.set_same _ _ _) hf T fun f' σ'' hf' T' => hN _ _ ⟨L', f', hf', T'⟩
  clear L0 T hf0 SS0 SS1
  rintro ρ σ' ⟨L, f, hf, T⟩
  rw [Int.sub_zero, show ((h : Int) * (w : Int)).toNat = h * w from rfl, ← hGp] at T
  refine st_cons ?_
  dsimp only [RS.T.var, S.assign, X.bin, X.call, X.num, X.var, wpEs]
  refine s_call n1 (s_get L.s (cellx_ok E (by decide) (by decide) fun c2 => s_fdiv (sm 4 (by decide) (by decide)) (s_mod (by decide) (st_cons ?_))))
  obtain ⟨t, et⟩ := mod2 (c2 / 4)
  have et := (Env.set_same ρ "_law_turn" (.int (c2 / 4 % 2))).trans (congrArg (fun x => some (V.int x)) et)
  have L := L.set (x := "_law_turn") (.int (c2 / 4 % 2)) (by decide)
  dsimp only [S.for_, Src.range1, X.bin, X.call, X.num, X.var, wpEs]
  generalize ρ.set "_law_turn" (.int (c2 / 4 % 2)) = ρ₁ at *
  refine s_call n1 (s_get L.s (cellx_ok E (by decide) (by decide) fun c3 => s_mod (by decide) (s_range ?_ ?_)))
  · exact lok9 (Int.toNat_le.mpr (by rw [Int.sub_zero]; exact Int.le_of_lt (Int.lt_of_lt_of_le (Int.emod_lt_of_pos c3 (by decide : (0 : Int) < 7)) (by decide))))
  refine forL_range (fun _ ρ σ' => LE ρ h w sl rl ∧ (∃ t, ρ "_law_turn" = some (.int (b2i t))) ∧ ∃ f, (∀ i, Fine (f i) h w) ∧ St σ' sl rl h w a d c k f (kept (G h w) f)) ⟨L, ⟨t, et⟩, f, hf, T⟩ (fun _ => trivial) ?_ ?_
  · clear L et hf T
    rintro i ρ σ' N' hi ⟨L, ⟨t, et⟩, f, hf, T⟩ hN
    rw [Int.zero_add] at hi ⊢
    have hi : i < 7 := Int.ofNat_lt.mp (Int.lt_trans hi (Int.emod_lt_of_pos c3 (by decide : (0 : Int) < 7)))
    exact main_ok E z (L.set _ (by decide)) hi (Env.set_same _ _ _) ((Env.set_ne _ _ (by decide)).trans et) hf T fun ρ' t f' σ'' L' et' hf' T' => hN ρ' σ'' ⟨L', ⟨t, et'⟩, f', hf', T'⟩
  clear L et hf T
  rintro ρ σ₀ ⟨L, ⟨t, et⟩, f, hf, T⟩
  refine st_cons ?_
  dsimp only [S.for_, Src.range1, X.num]
  refine s_range (lok9 (by decide)) (forL_range (fun _ ρ σ' => LE ρ h w sl rl ∧ ρ "_law_turn" = some (.int (b2i t)) ∧ σ₀.le σ') ⟨L, et, Hp.le_refl _⟩ (fun _ => trivial) ?_ ?_)
  · clear L et
    rintro i ρ σ' N' hi ⟨L, et, le⟩ hN
    rw [Int.zero_add] at hi ⊢
    obtain ⟨s, es⟩ : ∃ s, (i : Int) = b2i s := by
      have hi : i < 2 := Int.ofNat_lt.mp hi
      cases i with
      | zero => exact ⟨false, rfl⟩
      | succ i => cases i with
        | zero => exact ⟨true, rfl⟩
        | succ i => exact absurd hi (Nat.not_lt.mpr (Nat.le_add_left _ _))
    rw [es]
    have L := L.set (x := "_law_side") (.int (b2i s)) (by decide)
    have et := (Env.set_ne ρ (.int (b2i s)) (by decide : "_law_turn" ≠ "_law_side")).trans et
    have es := Env.set_same ρ "_law_side" (.int (b2i s))
    generalize ρ.set "_law_side" (.int (b2i s)) = ρ₁ at *
    refine st_cons ?_
    dsimp only [S.for_, Src.of, X.bin, X.call, X.lst, X.num, X.var, wpEs]
    refine s_call n1 (s_get L.s (cellx_ok E (by decide) (by decide) fun c3 => s_fdiv (sm 7 (by decide) (by decide)) (s_mod (by decide) (s_newG fun b σ₁ _ le₁ hb => s_srcL hb ?_))))
    refine forL_data (xs := [3, c3 / 7 % 3]) V.int (fun _ ρ σ' => A4 (LE ρ h w sl rl) (ρ "_law_turn" = some (.int (b2i t))) (ρ "_law_side" = some (.int (b2i s))) (σ₁.le σ')) ⟨L, et, es, Hp.le_refl _⟩ (fun _ _ _ h => h.4 _ _ hb) ?_ ?_
    · clear L et es
      rintro pre n post ρ σ'' N' _ ⟨L, et, es, le'⟩ hN
      have L := L.set (x := "_law_way") (.int n) (by decide)
      have et := (Env.set_ne ρ (.int n) (by decide : "_law_turn" ≠ "_law_way")).trans et
      have es := (Env.set_ne ρ (.int n) (by decide : "_law_side" ≠ "_law_way")).trans es
      have en := Env.set_same ρ "_law_way" (.int n)
      generalize ρ.set "_law_way" (.int n) = ρ₂ at *
      have T2 := T.le (Hp.le_trans le (Hp.le_trans le₁ le'))
      refine st_cons ?_
      dsimp only [S.ite, X.call, X.idx, X.not, X.tup, X.var, wpEs, wpT]
      refine s_call n3 (s_get L.sl (s_get es (s_idxL T2.hs (get2 a s) (s_get L.rl (s_get es (s_idxL T2.hr (get2 k s) (s_get en (s_get et (s_get es ?_)))))))))
      exact gcall (m := 12) (by decide) (lright_ok E z (hf s) σ'' (T2.sh s) (T2.kp s) (h01 t s) _ _ fun σ₃ le₃ => s_truth rfl (s_truth rfl (s_ifF (by decide) (st_nil (st_nil (hN _ _ ⟨L, et, es, Hp.le_trans le' le₃⟩))))))
    · clear L et es
      rintro ρ σ'' ⟨L, et, _, le'⟩
      exact st_nil (hN _ _ ⟨L, et, Hp.le_trans le (Hp.le_trans le₁ le')⟩)
  · rintro ρ σ' _
    exact st_cons rfl
end
noncomputable def all13 : List String := ["rules_in", "references_in", "all_rules", "area", "deep", "references", "needed", "moved", "shifted", "looked", "told", "known_values", "reckoned", "ring", "touched", "_law_cell_at", "_law_ref_by", "_law_leaf_by", "_law_rule_by", "_law_inner", "_law_refs", "_law_moved", "_law_lies", "_law_area", "_law_needs", "_law_told", "_law_values", "_law_deed", "_law_due", "_law_done", "_law_ring_right", "_law_touches", "_law_right", "law"]

end RS

open PySem PySem.W PyProof.Rows
theorem RS.looks : looksOpen PySem.Challenge.rw_uf050032_13.row.prog = true := by
  unfold looksOpen
  refine look_both (look_both (look_both (look_both (look_both ?_ ?_) ?_) ?_) ?_) ?_ <;> decide +kernel
theorem RS.part : PySem.Challenge.rw_uf050032_13.row.partSaid = true := by
  unfold OpenRow.partSaid
  rw [RS.looks]
  decide +kernel
theorem RS.rowSaid : PySem.Challenge.rw_uf050032_13.row.wellSaid = true := by
  unfold OpenRow.wellSaid
  rw [RS.part]
  decide +kernel
theorem RS.said_ok : PySem.Challenge.rw_uf050032_13.wellSaid = true := by
  unfold OpenLaw.wellSaid
  rw [RS.rowSaid]
  repeat refine look_both ?_ (by decide +kernel)
  rfl
theorem RS.nsMap_is {h : Heap} {a : Addr} {m : Str → Option Value} (x : h.Ns a m) (n : Str) : h.nsMap a n = m n := by
  obtain ⟨o, es, ep, ho, hd, _, hm⟩ := x
  unfold Heap.nsMap
  rw [ho]
  simp [hd, hm]
noncomputable def RS.excHook : Hook where
  α := Bool
  obs := RS.excChk
  val _ := true
  says _ h := RS.ExcX (h.nsMap mainGlobals) h
  of _ _ e := RS.excX_of e
  keeps _ h h' x k := by
    cases e : h.get? mainGlobals with
    | none =>
      obtain ⟨h0, _⟩ := x
      unfold Heap.nsMap at h0
      rw [e] at h0
      cases h0
    | some o =>
      have eq : h'.nsMap mainGlobals = h.nsMap mainGlobals := by
        funext n
        unfold Heap.nsMap
        rw [e, k _ _ e]
      rw [eq]
      exact x.keeps k
theorem RS.hd.tw10129535744433630152 : True := trivial
theorem RS.hd.tw10135905183994072933 : True := trivial
theorem RS.hd.tw10151301276268119981 : True := trivial
theorem RS.hd.tw10187215299453303998 : True := trivial
theorem RS.hd.tw10259437534704626774 : True := trivial
theorem RS.hd.tw10273944229506130439 : True := trivial
theorem RS.hd.tw10370903517989177239 : True := trivial
theorem RS.hd.tw10383423426791325321 : True := trivial
theorem RS.hd.tw10453102797729533263 : True := trivial
theorem RS.hd.tw10453195487188656978 : True := trivial
theorem RS.hd.tw1052148613688690872 : True := trivial
theorem RS.hd.tw10603185223657502056 : True := trivial
theorem RS.hd.tw10715344108482381735 : True := trivial
theorem RS.hd.tw10879929868204398023 : True := trivial
theorem RS.hd.tw10898129627272476674 : True := trivial
theorem RS.hd.tw11034857694370739918 : True := trivial
theorem RS.hd.tw11095121684742168433 : True := trivial
theorem RS.hd.tw11099314838605462002 : True := trivial
theorem RS.hd.tw11108278296462528752 : True := trivial
theorem RS.hd.tw11215044196168486584 : True := trivial
theorem RS.hd.tw11249486350167945882 : True := trivial
theorem RS.hd.tw11255139928560614536 : True := trivial
theorem RS.hd.tw11384409287422504500 : True := trivial
theorem RS.hd.tw11426361180810125355 : True := trivial
theorem RS.hd.tw11459652823991087794 : True := trivial
theorem RS.hd.tw11503207544852525786 : True := trivial
theorem RS.hd.tw11505937705334038656 : True := trivial
theorem RS.hd.tw11663739574421467777 : True := trivial
theorem RS.hd.tw11679957324191467874 : True := trivial
theorem RS.hd.tw11712584343851294217 : True := trivial
theorem RS.hd.tw11737271115946143178 : True := trivial
theorem RS.hd.tw11772909005719090280 : True := trivial
theorem RS.hd.tw11789601471733150378 : True := trivial
theorem RS.hd.tw11826657719896639404 : True := trivial
theorem RS.hd.tw11855519152444613775 : True := trivial
theorem RS.hd.tw11922466925001356812 : True := trivial
theorem RS.hd.tw12019732356073466617 : True := trivial
theorem RS.hd.tw12152960165543536539 : True := trivial
theorem RS.hd.tw12191820851772559219 : True := trivial
theorem RS.hd.tw12259121556734492085 : True := trivial
theorem RS.hd.tw1230087176504595339 : True := trivial
theorem RS.hd.tw12313371430069262667 : True := trivial
theorem RS.hd.tw12580915931916052213 : True := trivial
theorem RS.hd.tw12589058603371702671 : True := trivial
theorem RS.hd.tw12654974632910289705 : True := trivial
theorem RS.hd.tw12736482332594321448 : True := trivial
theorem RS.hd.tw12746688234371912416 : True := trivial
theorem RS.hd.tw12752865487244828263 : True := trivial
theorem RS.hd.tw12916462315195399618 : True := trivial
theorem RS.hd.tw12965033775987002176 : True := trivial
theorem RS.hd.tw12971898467877499623 : True := trivial
theorem RS.hd.tw12987520159876406379 : True := trivial
theorem RS.hd.tw13044307250193950630 : True := trivial
theorem RS.hd.tw1306873224195630449 : True := trivial
theorem RS.hd.tw13077141385987883567 : True := trivial
theorem RS.hd.tw13097508091864303777 : True := trivial
theorem RS.hd.tw13159481346965834760 : True := trivial
theorem RS.hd.tw13191343928284556677 : True := trivial
theorem RS.hd.tw13239162038184034697 : True := trivial
theorem RS.hd.tw1327286047387470489 : True := trivial
theorem RS.hd.tw13397183246731059292 : True := trivial
theorem RS.hd.tw1341923016077802068 : True := trivial
theorem RS.hd.tw13424177549617611724 : True := trivial
theorem RS.hd.tw13465771696039946433 : True := trivial
theorem RS.hd.tw1346587394959765258 : True := trivial
theorem RS.hd.tw13530884590684750160 : True := trivial
theorem RS.hd.tw13541611752052600026 : True := trivial
theorem RS.hd.tw13564286229209280894 : True := trivial
theorem RS.hd.tw13599424139637518524 : True := trivial
theorem RS.hd.tw13779090087549855093 : True := trivial
theorem RS.hd.tw13788154441236443246 : True := trivial
theorem RS.hd.tw13792772407881494543 : True := trivial
theorem RS.hd.tw13810153743715083625 : True := trivial
theorem RS.hd.tw13839568792833700553 : True := trivial
theorem RS.hd.tw13876337427133421062 : True := trivial
theorem RS.hd.tw13882390416313625803 : True := trivial
theorem RS.hd.tw13935944549821609668 : True := trivial
theorem RS.hd.tw13950734616249560957 : True := trivial
theorem RS.hd.tw13958843564286461193 : True := trivial
theorem RS.hd.tw14032901913177727106 : True := trivial
theorem RS.hd.tw14094135261403778511 : True := trivial
theorem RS.hd.tw14136867973426192801 : True := trivial
theorem RS.hd.tw14140164299232636113 : True := trivial
theorem RS.hd.tw14214155170383467892 : True := trivial
theorem RS.hd.tw14223301852451768310 : True := trivial
theorem RS.hd.tw14265809190460864811 : True := trivial
theorem RS.hd.tw14282455181994784284 : True := trivial
theorem RS.hd.tw14283516979442128155 : True := trivial
theorem RS.hd.tw14283631828802993065 : True := trivial
theorem RS.hd.tw14326476556728204997 : True := trivial
theorem RS.hd.tw14350610822916013645 : True := trivial
theorem RS.hd.tw14383091956468062239 : True := trivial
theorem RS.hd.tw14418307122184172959 : True := trivial
theorem RS.hd.tw14427489078434502113 : True := trivial
theorem RS.hd.tw1457365590663537461 : True := trivial
theorem RS.hd.tw14603057139404703611 : True := trivial
theorem RS.hd.tw1461867772591520533 : True := trivial
theorem RS.hd.tw14679707558257400498 : True := trivial
theorem RS.hd.tw14687664260120859510 : True := trivial
theorem RS.hd.tw14695605160558918128 : True := trivial
theorem RS.hd.tw14714651531099907515 : True := trivial
theorem RS.hd.tw14781439160052429780 : True := trivial
theorem RS.hd.tw14784509180286961091 : True := trivial
theorem RS.hd.tw14853363171243498163 : True := trivial
theorem RS.hd.tw15039602475854481636 : True := trivial
theorem RS.hd.tw15058074220424135009 : True := trivial
theorem RS.hd.tw15064990835534317459 : True := trivial
theorem RS.hd.tw15143000843363612850 : True := trivial
theorem RS.hd.tw15222890207291760026 : True := trivial
theorem RS.hd.tw15238795445812299040 : True := trivial
theorem RS.hd.tw15239387657025725966 : True := trivial
theorem RS.hd.tw15352709288982632248 : True := trivial
theorem RS.hd.tw15367080674785749266 : True := trivial
theorem RS.hd.tw15442635398827988686 : True := trivial
theorem RS.hd.tw15495226424295967611 : True := trivial
theorem RS.hd.tw15570111957154868260 : True := trivial
theorem RS.hd.tw15603797624329418687 : True := trivial
theorem RS.hd.tw15608302153185658349 : True := trivial
theorem RS.hd.tw15684147947280993998 : True := trivial
theorem RS.hd.tw15780925391859550139 : True := trivial
theorem RS.hd.tw15819128915371739818 : True := trivial
theorem RS.hd.tw15841052183165439532 : True := trivial
theorem RS.hd.tw15896975663332248031 : True := trivial
theorem RS.hd.tw15927383723057646995 : True := trivial
theorem RS.hd.tw15981995500987584623 : True := trivial
theorem RS.hd.tw15993123817686199003 : True := trivial
theorem RS.hd.tw16004392441972686923 : True := trivial
theorem RS.hd.tw16074974666141220002 : True := trivial
theorem RS.hd.tw1607908997641823305 : True := trivial
theorem RS.hd.tw16224487283440743938 : True := trivial
theorem RS.hd.tw16237287200298697852 : True := trivial
theorem RS.hd.tw16270130151848552258 : True := trivial
theorem RS.hd.tw16344163175836934375 : True := trivial
theorem RS.hd.tw16359217202643549426 : True := trivial
theorem RS.hd.tw16396727706354038339 : True := trivial
theorem RS.hd.tw16496304387149739443 : True := trivial
theorem RS.hd.tw16603543357863196757 : True := trivial
theorem RS.hd.tw16774064165019453726 : True := trivial
theorem RS.hd.tw1685828140604587504 : True := trivial
theorem RS.hd.tw16897552158180301050 : True := trivial
theorem RS.hd.tw16970401441208149490 : True := trivial
theorem RS.hd.tw17052307079896304823 : True := trivial
theorem RS.hd.tw17079153489046128959 : True := trivial
theorem RS.hd.tw17105172016937304679 : True := trivial
theorem RS.hd.tw17132239334690923190 : True := trivial
theorem RS.hd.tw17184201171090496365 : True := trivial
theorem RS.hd.tw17197485187006831412 : True := trivial
theorem RS.hd.tw17416258805987741735 : True := trivial
theorem RS.hd.tw17446419948091175796 : True := trivial
theorem RS.hd.tw17474877656144243382 : True := trivial
theorem RS.hd.tw17487753065805570946 : True := trivial
theorem RS.hd.tw17531906500998809984 : True := trivial
theorem RS.hd.tw1756213251007722962 : True := trivial
theorem RS.hd.tw17623546211696361587 : True := trivial
theorem RS.hd.tw17718509795158019404 : True := trivial
theorem RS.hd.tw17916651412134924650 : True := trivial
theorem RS.hd.tw17946698587982348618 : True := trivial
theorem RS.hd.tw17972133476480203604 : True := trivial
theorem RS.hd.tw17982597319836698439 : True := trivial
theorem RS.hd.tw18080437331162376904 : True := trivial
theorem RS.hd.tw18104010631845605414 : True := trivial
theorem RS.hd.tw18116745219455094894 : True := trivial
theorem RS.hd.tw18121849337206260049 : True := trivial
theorem RS.hd.tw18196988171794008743 : True := trivial
theorem RS.hd.tw18228491917350046688 : True := trivial
theorem RS.hd.tw18285138252167330659 : True := trivial
theorem RS.hd.tw18315543185171813147 : True := trivial
theorem RS.hd.tw1835009571405359133 : True := trivial
theorem RS.hd.tw18412913114590074748 : True := trivial
theorem RS.hd.tw18416734712589231973 : True := trivial
theorem RS.hd.tw1918030510708625840 : True := trivial
theorem RS.hd.tw1939278271723712065 : True := trivial
theorem RS.hd.tw195170067277546349 : True := trivial
theorem RS.hd.tw1976139253030457502 : True := trivial
theorem RS.hd.tw1990970027925973009 : True := trivial
theorem RS.hd.tw211531383827008831 : True := trivial
theorem RS.hd.tw2116054232436989579 : True := trivial
theorem RS.hd.tw2140249372222580615 : True := trivial
theorem RS.hd.tw2158943863760518154 : True := trivial
theorem RS.hd.tw2176851433378073412 : True := trivial
theorem RS.hd.tw2179274053364120234 : True := trivial
theorem RS.hd.tw2273887632417000010 : True := trivial
theorem RS.hd.tw231085267118263497 : True := trivial
theorem RS.hd.tw2331841088485022720 : True := trivial
theorem RS.hd.tw2335609649288053896 : True := trivial
theorem RS.hd.tw2338198996864573888 : True := trivial
theorem RS.hd.tw2422347595689663971 : True := trivial
theorem RS.hd.tw2430883301818390577 : True := trivial
theorem RS.hd.tw2449029292887820425 : True := trivial
theorem RS.hd.tw251699927880152637 : True := trivial
theorem RS.hd.tw2706716906590014849 : True := trivial
theorem RS.hd.tw2740880318971222922 : True := trivial
theorem RS.hd.tw2748495944311137218 : True := trivial
theorem RS.hd.tw2780504843191791589 : True := trivial
theorem RS.hd.tw2867341053889281000 : True := trivial
theorem RS.hd.tw2937762825917727215 : True := trivial
theorem RS.hd.tw2984098871492905127 : True := trivial
theorem RS.hd.tw307343478504557687 : True := trivial
theorem RS.hd.tw3313556384480401110 : True := trivial
theorem RS.hd.tw3327749101932678160 : True := trivial
theorem RS.hd.tw3369478031209840575 : True := trivial
theorem RS.hd.tw3443197411780018256 : True := trivial
theorem RS.hd.tw3473417946044349650 : True := trivial
theorem RS.hd.tw3691572997831937132 : True := trivial
theorem RS.hd.tw373101164911230805 : True := trivial
theorem RS.hd.tw3756718931912681877 : True := trivial
theorem RS.hd.tw3762399985401314139 : True := trivial
theorem RS.hd.tw3819412655984394290 : True := trivial
theorem RS.hd.tw3885078655481191941 : True := trivial
theorem RS.hd.tw3945562355347436009 : True := trivial
theorem RS.hd.tw397156803915401326 : True := trivial
theorem RS.hd.tw3994629861521553054 : True := trivial
theorem RS.hd.tw3999694548147443525 : True := trivial
theorem RS.hd.tw4098303467098514989 : True := trivial
theorem RS.hd.tw4128270087658156618 : True := trivial
theorem RS.hd.tw4129841731543702557 : True := trivial
theorem RS.hd.tw4339057030833667009 : True := trivial
theorem RS.hd.tw4358472522792367003 : True := trivial
theorem RS.hd.tw4404472657799080006 : True := trivial
theorem RS.hd.tw4461910656842536645 : True := trivial
theorem RS.hd.tw450942200249310038 : True := trivial
theorem RS.hd.tw4567328309760524848 : True := trivial
theorem RS.hd.tw4654341033431089430 : True := trivial
theorem RS.hd.tw4732614117107211675 : True := trivial
theorem RS.hd.tw4897080406782492766 : True := trivial
theorem RS.hd.tw4962830460186448266 : True := trivial
theorem RS.hd.tw4978244631100929119 : True := trivial
theorem RS.hd.tw5125955999056907903 : True := trivial
theorem RS.hd.tw5130855195230096134 : True := trivial
theorem RS.hd.tw5136617552557243619 : True := trivial
theorem RS.hd.tw5151071278411872903 : True := trivial
theorem RS.hd.tw5151630886044746481 : True := trivial
theorem RS.hd.tw5261635608588870783 : True := trivial
theorem RS.hd.tw5286539175425126879 : True := trivial
theorem RS.hd.tw5352293050587876090 : True := trivial
theorem RS.hd.tw5440090121902611814 : True := trivial
theorem RS.hd.tw552907276114170411 : True := trivial
theorem RS.hd.tw557598312011240156 : True := trivial
theorem RS.hd.tw5612971903930163078 : True := trivial
theorem RS.hd.tw5716102350311342729 : True := trivial
theorem RS.hd.tw5770600066304113283 : True := trivial
theorem RS.hd.tw5816446528973192220 : True := trivial
theorem RS.hd.tw5828856668441193311 : True := trivial
theorem RS.hd.tw5887293943934591642 : True := trivial
theorem RS.hd.tw5947880772625019556 : True := trivial
theorem RS.hd.tw5953721555451646712 : True := trivial
theorem RS.hd.tw6033752547716657913 : True := trivial
theorem RS.hd.tw6079582735972462218 : True := trivial
theorem RS.hd.tw6128657718431022375 : True := trivial
theorem RS.hd.tw6160701454559017053 : True := trivial
theorem RS.hd.tw6238721776869625958 : True := trivial
theorem RS.hd.tw626965648527225603 : True := trivial
theorem RS.hd.tw6446378130054154471 : True := trivial
theorem RS.hd.tw6449490257757224472 : True := trivial
theorem RS.hd.tw6476751204455173306 : True := trivial
theorem RS.hd.tw6585546365222985398 : True := trivial
theorem RS.hd.tw6604418984902362884 : True := trivial
theorem RS.hd.tw6646763425734088621 : True := trivial
theorem RS.hd.tw6649491840819133931 : True := trivial
theorem RS.hd.tw6650668120171289843 : True := trivial
theorem RS.hd.tw6666893420275469120 : True := trivial
theorem RS.hd.tw6941907436179451447 : True := trivial
theorem RS.hd.tw7051192873618295252 : True := trivial
theorem RS.hd.tw7125239713058512514 : True := trivial
theorem RS.hd.tw7178466304152092658 : True := trivial
theorem RS.hd.tw7182286165845767150 : True := trivial
theorem RS.hd.tw7195575435345404840 : True := trivial
theorem RS.hd.tw7246019430763830956 : True := trivial
theorem RS.hd.tw7353932795446130162 : True := trivial
theorem RS.hd.tw7356491781183427357 : True := trivial
theorem RS.hd.tw7363927379043626533 : True := trivial
theorem RS.hd.tw7400068938553794428 : True := trivial
theorem RS.hd.tw7448568694003382865 : True := trivial
theorem RS.hd.tw7525147192656389782 : True := trivial
theorem RS.hd.tw7543435782646142009 : True := trivial
theorem RS.hd.tw7688481154096184131 : True := trivial
theorem RS.hd.tw7694736098070995013 : True := trivial
theorem RS.hd.tw772306321942224179 : True := trivial
theorem RS.hd.tw7819726430785833066 : True := trivial
theorem RS.hd.tw7822576930343218890 : True := trivial
theorem RS.hd.tw7825465032585108532 : True := trivial
theorem RS.hd.tw788560811373912543 : True := trivial
theorem RS.hd.tw7923770611037480993 : True := trivial
theorem RS.hd.tw8006441764106183761 : True := trivial
theorem RS.hd.tw8098558335051090584 : True := trivial
theorem RS.hd.tw8139932089852210857 : True := trivial
theorem RS.hd.tw8154317859061151275 : True := trivial
theorem RS.hd.tw8157419172777650918 : True := trivial
theorem RS.hd.tw8232123108336352506 : True := trivial
theorem RS.hd.tw8322172947512749670 : True := trivial
theorem RS.hd.tw8345576616974863222 : True := trivial
theorem RS.hd.tw8384211014374807606 : True := trivial
theorem RS.hd.tw8425061988981778382 : True := trivial
theorem RS.hd.tw8426251331254479990 : True := trivial
theorem RS.hd.tw8806495587359705316 : True := trivial
theorem RS.hd.tw8828030460962567085 : True := trivial
theorem RS.hd.tw8885586623670522544 : True := trivial
theorem RS.hd.tw8942053949963091078 : True := trivial
theorem RS.hd.tw9071337897682236493 : True := trivial
theorem RS.hd.tw912257198128755537 : True := trivial
theorem RS.hd.tw9272479805198022556 : True := trivial
theorem RS.hd.tw9285717581286113360 : True := trivial
theorem RS.hd.tw932032872425836132 : True := trivial
theorem RS.hd.tw9352983117517944577 : True := trivial
theorem RS.hd.tw9423802990091372189 : True := trivial
theorem RS.hd.tw9424057185599365479 : True := trivial
theorem RS.hd.tw9499610806273976763 : True := trivial
theorem RS.hd.tw9508151338852281666 : True := trivial
theorem RS.hd.tw9568709752624315996 : True := trivial
theorem RS.hd.tw9584085457958243371 : True := trivial
theorem RS.hd.tw9684523944546124661 : True := trivial
theorem RS.hd.tw970266659605681595 : True := trivial
theorem RS.hd.tw9706380112932371790 : True := trivial
theorem RS.hd.tw980753376826697325 : True := trivial
theorem RS.hd.tw9966411268405148452 : True := trivial
set_option Elab.async true in
set_option maxRecDepth 100000 in
set_option maxHeartbeats 8000000 in
theorem RS.hd : PySem.Challenge.rw_uf050032_13.row.Holds := by
  w_on
  have said := RS.rowSaid
  o_head RS.excHook
  (case hw => w_witness2)
  intro w s₀ s₁ mg mb G Y fa o pm cd doc dV kV ho hd hcd hD hmg hg args vals as hpre hlay hrd hwl hlo
  refine Ground.open G ?_
  intro T B D TE TW
  have X : RS.ExcX mg s₁.heap := (funext fun n => RS.nsMap_is T.g n : s₁.heap.nsMap mainGlobals = mg) ▸ Y
  wrow_args hpre hlay hrd hwl hlo
  rename_i ns hs0 hlay0 hL1 hr1 hl2 a4 a3 sa vals a0 hL ra w1 r0 hI hr hc1 hc2
  refine enter_call ?_
  refine codeAny_mono ?_ (fun _ _ g => GoodW.toG g)
  have hln : ns.length ≤ 1000 := by omega
  have hs := RS.script_of w1 hL hI hln
  obtain ⟨C, N, mN, hC, P⟩ := RS.cls_of TE (by kernel_rfl)
  have hT : RS.TopOk (RS.wdOf PySem.Challenge.rw_uf050032_13.row.prog _ w s₁ sa ns (["Sheet"] ++ RS.all13) mg mb (some (C, mN))) :=
    RS.topOk_of T (by kernel_rfl) hs ["Sheet"] (fun f hf => List.mem_singleton.mp hf) (fun x hx => by cases hx; exact ⟨hC, N, RS.clsIs_of P (by kernel_rfl)⟩) (fun _ h => by cases h) X (fun c hc => by rcases RS.exc_cases hc with rfl | rfl | rfl | rfl <;> kernel_rfl)
  have ES : RS.EnvS (RS.wdOf PySem.Challenge.rw_uf050032_13.row.prog _ w s₁ sa ns (["Sheet"] ++ RS.all13) mg mb (some (C, mN))) := {
    T := hT
    most := (by kernel_rfl)
    mostD := (by kernel_rfl)
    bound := (by kernel_rfl)
    cls := ⟨C, rfl, (RS.fnOf_plain (cl := some (C, mN)) (by decide +kernel)).trans (congrArg RS.refOf hC)⟩
    rules_in := RS.fnOk_of T (by kernel_rfl)
    references_in := RS.fnOk_of T (by kernel_rfl)
    all_rules := RS.fnOk_of T (by kernel_rfl)
    area := RS.fnOk_of T (by kernel_rfl)
    deep := RS.fnOk_of T (by kernel_rfl)
    references := RS.fnOk_of T (by kernel_rfl)
    needed := RS.fnOk_of T (by kernel_rfl)
    moved := RS.fnOk_of T (by kernel_rfl)
    shifted := RS.fnOk_of T (by kernel_rfl)
    looked := RS.fnOk_of T (by kernel_rfl)
    told := RS.fnOk_of T (by kernel_rfl)
    known_values := RS.fnOk_of T (by kernel_rfl)
    reckoned := RS.fnOk_of T (by kernel_rfl)
    ring := RS.fnOk_of T (by kernel_rfl)
    touched := RS.fnOk_of T (by kernel_rfl)
    s_init := RS.methOk_of (n := "__init__") P (by kernel_rfl)
    s_places := RS.methOk_of (n := "places") P (by kernel_rfl)
    s_need_on := RS.methOk_of (n := "need_on") P (by kernel_rfl)
    s_need_rule := RS.methOk_of (n := "need_rule") P (by kernel_rfl)
    s_rule := RS.methOk_of (n := "rule") P (by kernel_rfl)
    s_put := RS.methOk_of (n := "put") P (by kernel_rfl)
    s_copy_for := RS.methOk_of (n := "copy_for") P (by kernel_rfl)
    s_copied := RS.methOk_of (n := "copied") P (by kernel_rfl)
    s_filled := RS.methOk_of (n := "filled") P (by kernel_rfl)
    names := (by decide : ∀ f ∈ RS.namesS, f ∈ ["Sheet"] ++ RS.all13) }
  have E : RS.Env13 (RS.wdOf PySem.Challenge.rw_uf050032_13.row.prog _ w s₁ sa ns (["Sheet"] ++ RS.all13) mg mb (some (C, mN))) := {
    S := ES
    typ := RS.typ_of
    cell_at := RS.fnOk_of T (by kernel_rfl)
    ref_by := RS.fnOk_of T (by kernel_rfl)
    leaf_by := RS.fnOk_of T (by kernel_rfl)
    rule_by := RS.fnOk_of T (by kernel_rfl)
    inner := RS.fnOk_of T (by kernel_rfl)
    refs := RS.fnOk_of T (by kernel_rfl)
    moved := RS.fnOk_of T (by kernel_rfl)
    lies := RS.fnOk_of T (by kernel_rfl)
    area := RS.fnOk_of T (by kernel_rfl)
    needs := RS.fnOk_of T (by kernel_rfl)
    told := RS.fnOk_of T (by kernel_rfl)
    values := RS.fnOk_of T (by kernel_rfl)
    deed := RS.fnOk_of T (by kernel_rfl)
    due := RS.fnOk_of T (by kernel_rfl)
    done := RS.fnOk_of T (by kernel_rfl)
    ring_right := RS.fnOk_of T (by kernel_rfl)
    touches := RS.fnOk_of T (by kernel_rfl)
    right := RS.fnOk_of T (by kernel_rfl)
    law := RS.fnOk_of T (by kernel_rfl)
    names := (by decide : ∀ f ∈ RS.names13, f ∈ ["Sheet"] ++ RS.all13) }
  exact RS.law_good hT E.law (by decide) rfl (RS.law13 E) hmg hg (by wrow_post) (raisesW_false (by wrow_none_raised))
theorem PySem.Challenge.cw_uf050032_13_holds : PySem.Challenge.rw_uf050032_13.Holds := by
  exact holds_law RS.said_ok fun _ => RS.hd
