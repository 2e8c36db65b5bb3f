import PyProof.Rows.All
import Wide.All
import OpenK.AllK
import Wide.FinOn
import HandS.ForMost
import HandS.Exc
import HandS.TryOnly
import HandS.Wide
import HandS.Flow
import HandS.Style
import HandS.SortInts
import HandS.Conv
import HandS.WideBits
import HandS.EndBits
import HandS.Deep
import KE.KTupSum
import KE.GoesMore
import HandS.Defaults
import HandS.IsInst
import HandS.RaiseMore
import PyProof.Rows.Walk
import HandS.Star
import HandS.More
import HandS.ExcInit
import HandS.WordsExc
import HandS.ExcField
import HandS.Zip
import HandS.Flt
import HandS.TryMany
import PySem.Challenge.RW_askedorder_k36_costs_and_rounds
set_option Elab.async false
set_option linter.all false
set_option maxRecDepth 100000
set_option autoImplicit false
set_option maxHeartbeats 4000000
/-! Z0: values, objects, heaps, and the constructs of a program as predicate transformers. Plain Lean. -/
namespace Z
/-- a value -/
inductive V where
  | non | bl (b : Bool) | int (i : Int) | str (s : List Nat) | ref (a : Nat) | fn (x : String) | cls (x : String) | ty (x : String)
  deriving DecidableEq
abbrev Hk := Sum Int (List Nat)
/-- an object: list, tuple, the script (read alone), dicts (keys ints and texts; tuples of such), an instance -/
inductive O where
  | lst (xs : List V) | tup (xs : List V) | scr (xs : List V)
  | dct (kvs : List (Hk × V)) | dctT (kvs : List (List Hk × V))
  | ins (c : String) (fs : List (String × V))
  | xd (fs : List (String × V))
abbrev Heap := Nat → Option O
def upd (H : Heap) (a : Nat) (o : O) : Heap := fun b => if b = a then some o else H b
theorem upd_same {H : Heap} {a : Nat} {o : O} : upd H a o a = some o := if_pos rfl
theorem upd_ne {H : Heap} {a b : Nat} {o : O} (h : b ≠ a) : upd H a o b = H b := if_neg h
def line : Nat := 16777216
abbrev St := List (Option V)
def get : St → Nat → Option V
  | [], _ => none
  | o :: _, 0 => o
  | _ :: r, n + 1 => get r n
def put : St → Nat → V → St
  | [], _, _ => []
  | _ :: r, 0, v => some v :: r
  | o :: r, n + 1, v => o :: put r n v
abbrev VK := V → Heap → Prop
abbrev EK := String → List (String × V) → Heap → Prop
/-- what runs around: how defs and methods answer, what is wanted of an error -/
structure Cx where
  call : String → String → List V → Heap → VK → EK → Prop
  exc : String → List (String × V) → St → Heap → Prop
abbrev TE := Cx → St → Heap → VK → Prop
abbrev TA := Cx → St → Heap → (List V → Heap → Prop) → Prop
abbrev TT := Cx → St → Heap → (Bool → Heap → Prop) → Prop
structure Ends where
  nx : St → Heap → Prop
  rt : VK
  bk : St → Heap → Prop := fun _ _ => False
  ct : St → Heap → Prop := fun _ _ => False
abbrev TS := Cx → Ends → St → Heap → Prop
abbrev TG := Cx → V → St → Heap → (St → Heap → Prop) → Prop

/-! ### objects by values -/
/-- the items of a list, a tuple, the script -/
def items (H : Heap) : V → Option (List V)
  | .ref a => match H a with
    | some (.lst xs) => some xs
    | some (.tup xs) => some xs
    | some (.scr xs) => some xs
    | _ => none
  | _ => none
/-- the items of a list, the script -/
def litems (H : Heap) : V → Option (List V)
  | .ref a => match H a with
    | some (.lst xs) => some xs
    | some (.scr xs) => some xs
    | _ => none
  | _ => none
def titems (H : Heap) : V → Option (List V)
  | .ref a => match H a with
    | some (.tup xs) => some xs
    | _ => none
  | _ => none
def ixN (n : Nat) (i : Int) : Option Nat := if 0 ≤ i then (if i < n then some i.toNat else none) else if -(n : Int) ≤ i then some (i + n).toNat else none
def atI (xs : List V) (i : Int) : Option V := (ixN xs.length i).bind fun j => xs[j]?
def sIx (n d : Nat) : Option Int → Nat
  | none => d
  | some v => if v < 0 then (v + (n : Int)).toNat else min v.toNat n
def cutV (xs : List V) (lo hi : Option Int) : List V := (xs.drop (sIx xs.length 0 lo)).take (sIx xs.length xs.length hi - sIx xs.length 0 lo)
def truth (H : Heap) : V → Option Bool
  | .non => some false
  | .bl b => some b
  | .int i => some (i != 0)
  | .ref a => match H a with
    | some (.lst xs) => some (!xs.isEmpty)
    | some (.tup xs) => some (!xs.isEmpty)
    | some (.scr xs) => some (!xs.isEmpty)
    | _ => none
  | _ => none

/-! ### data -/
inductive D where
  | non | bl (b : Bool) | int (i : Int) | str (s : List Nat) | lst (xs : List D) | tup (xs : List D)
mutual
inductive Rep (H : Heap) : V → D → Prop
  | non : Rep H .non .non
  | bl (b : Bool) : Rep H (.bl b) (.bl b)
  | int (i : Int) : Rep H (.int i) (.int i)
  | str (s : List Nat) (h : s.all (fun c => decide (c < 1114112)) = true) : Rep H (.str s) (.str s)
  | lst {a : Nat} {xs : List V} {ds : List D} : litems H (.ref a) = some xs → RepL H xs ds → Rep H (.ref a) (.lst ds)
  | tup {a : Nat} {xs : List V} {ds : List D} : titems H (.ref a) = some xs → RepL H xs ds → Rep H (.ref a) (.tup ds)
inductive RepL (H : Heap) : List V → List D → Prop
  | nil : RepL H [] []
  | cons {v : V} {vs : List V} {d : D} {ds : List D} : Rep H v d → RepL H vs ds → RepL H (v :: vs) (d :: ds)
end
mutual
def D.eqv : D → D → Bool
  | .non, .non => true
  | .bl a, .bl b => a == b
  | .bl a, .int j => (if a then 1 else 0) == j
  | .int i, .bl b => i == (if b then 1 else 0)
  | .int i, .int j => i == j
  | .str x, .str y => x == y
  | .lst xs, .lst ys => D.eqvL xs ys
  | .tup xs, .tup ys => D.eqvL xs ys
  | _, _ => false
def D.eqvL : List D → List D → Bool
  | [], [] => true
  | x :: xs, y :: ys => D.eqv x y && D.eqvL xs ys
  | _, _ => false
end
mutual
def D.depth : D → Nat
  | .lst xs => D.depthL xs + 1
  | .tup xs => D.depthL xs + 1
  | _ => 0
def D.depthL : List D → Nat
  | [] => 0
  | x :: xs => max (D.depth x) (D.depthL xs)
end
/-! ### operators, by values -/
inductive Op where
  | add | sub | mul | fdiv | mod | pow | shl | shr | band
/-- a number of at most so many bits -/
def small (n : Nat) (i : Int) : Prop := i.natAbs < 2 ^ n
def opr : Op → V → V → Heap → VK → Prop
  | .add, .int i, .int j, H, Q => Q (.int (i + j)) H
  | .add, .ref a, .ref b, H, Q => (∃ xs ys, litems H (.ref a) = some xs ∧ litems H (.ref b) = some ys ∧ xs.length + ys.length ≤ line ∧ ∀ p, H p = none → Q (.ref p) (upd H p (.lst (xs ++ ys)))) ∨
      (∃ xs ys, titems H (.ref a) = some xs ∧ titems H (.ref b) = some ys ∧ xs ≠ [] ∧ ys ≠ [] ∧ xs.length + ys.length ≤ line ∧ ∀ p, H p = none → Q (.ref p) (upd H p (.tup (xs ++ ys))))
  | .sub, .int i, .int j, H, Q => Q (.int (i - j)) H
  | .mul, .int i, .int j, H, Q => (∃ n m, n + m ≤ 134217728 ∧ small n i ∧ small m j) ∧ Q (.int (i * j)) H
  | .mul, .ref a, .int k, H, Q => ∃ xs, H a = some (.lst xs) ∧ -(2 ^ 63) ≤ k ∧ k < 2 ^ 63 ∧ xs.length * k.toNat ≤ line ∧ ∀ p, H p = none → Q (.ref p) (upd H p (.lst (List.replicate k.toNat xs).flatten))
  | .fdiv, .int i, .int j, H, Q => 0 < j ∧ small 9000 j ∧ Q (.int (i / j)) H
  | .mod, .int i, .int j, H, Q => 0 < j ∧ Q (.int (i % j)) H
  | .pow, .int i, .int j, H, Q => 0 ≤ j ∧ (∃ n, small n i ∧ n * j.toNat ≤ 134217728) ∧ Q (.int (i ^ j.toNat)) H
  | .shl, .int i, .int j, H, Q => 0 ≤ j ∧ (∃ n, small n i ∧ n + j.toNat ≤ 134217728) ∧ Q (.int (i * 2 ^ j.toNat)) H
  | .shr, .int i, .int j, H, Q => 0 ≤ j ∧ Q (.int (i / 2 ^ j.toNat)) H
  | .band, .int i, .int j, H, Q => 0 ≤ i ∧ 0 ≤ j ∧ Q (.int ((i.toNat &&& j.toNat : Nat) : Int)) H
  | _, _, _, _, _ => False
inductive Cm where
  | eq | ne | lt | le | gt | ge | is | isnot | isin | notin
def lexLt : List Int → List Int → Bool
  | [], [] => false
  | [], _ :: _ => true
  | _ :: _, [] => false
  | x :: xs, y :: ys => if x = y then lexLt xs ys else decide (x < y)
def flatV : V → Bool
  | .non => true
  | .bl _ => true
  | .int _ => true
  | .str _ => true
  | _ => false
def eqF : V → V → Bool
  | .non, .non => true
  | .bl a, .bl b => a == b
  | .bl a, .int j => (if a then 1 else 0) == j
  | .int i, .bl b => i == (if b then 1 else 0)
  | .int i, .int j => i == j
  | .str x, .str y => x == y
  | _, _ => false
def inF (x : V) (xs : List V) : Bool := xs.any fun y => eqF y x
def eqD (x y : V) (H : Heap) (Q : Bool → Prop) : Prop := ∃ d e, Rep H x d ∧ Rep H y e ∧ d.depth ≤ 64 ∧ e.depth ≤ 64 ∧ Q (D.eqv d e)
def hkOf : V → Option Hk
  | .int i => some (.inl i)
  | .str s => some (.inr s)
  | _ => none
def look {κ : Type} [DecidableEq κ] (k : κ) : List (κ × V) → Option V
  | [] => none
  | (j, v) :: r => if j = k then some v else look k r
def hksOf : List V → Option (List Hk)
  | [] => some []
  | v :: r => match hkOf v, hksOf r with
    | some k, some ks => some (k :: ks)
    | _, _ => none
/-- what a dict has under a key -/
def dget (H : Heap) (x y : V) (r : Option V) : Prop := (∃ a kvs k, x = .ref a ∧ H a = some (.dct kvs) ∧ hkOf y = some k ∧ r = look k kvs) ∨
  (∃ a kvs b ys k, x = .ref a ∧ H a = some (.dctT kvs) ∧ y = .ref b ∧ H b = some (.tup ys) ∧ hksOf ys = some k ∧ r = look k kvs)
def putKv {κ : Type} [DecidableEq κ] (k : κ) (v : V) : List (κ × V) → List (κ × V)
  | [] => [(k, v)]
  | (j, w) :: r => if j = k then (j, v) :: r else (j, w) :: putKv k v r
/-- the heap behind x[y] = v -/
def dput (H : Heap) (x y v : V) (H' : Heap) : Prop := (∃ a kvs k, x = .ref a ∧ H a = some (.dct kvs) ∧ hkOf y = some k ∧ kvs.length < line ∧ H' = upd H a (.dct (putKv k v kvs))) ∨
  (∃ a kvs b ys k, x = .ref a ∧ H a = some (.dctT kvs) ∧ y = .ref b ∧ H b = some (.tup ys) ∧ hksOf ys = some k ∧ kvs.length < line ∧ H' = upd H a (.dctT (putKv k v kvs)))
/-- is an equal one in a list of data -/
def inD (x : V) (b : Nat) (H : Heap) (Q : Bool → Prop) : Prop := ∃ d ds, Rep H x d ∧ Rep H (.ref b) (.lst ds) ∧ d.depth ≤ 64 ∧ (D.lst ds).depth ≤ 64 ∧ Q (ds.any fun z => D.eqv z d)
def cmpr : Cm → V → V → Heap → (Bool → Prop) → Prop
  | .eq, x, y, H, Q => eqD x y H Q
  | .ne, x, y, H, Q => eqD x y H fun b => Q (!b)
  | .lt, .int i, .int j, _, Q => Q (decide (i < j))
  | .lt, .ref a, .ref b, H, Q => ∃ ns ms, titems H (.ref a) = some (ns.map V.int) ∧ titems H (.ref b) = some (ms.map V.int) ∧ Q (lexLt ns ms)
  | .le, .int i, .int j, _, Q => Q (decide (i ≤ j))
  | .gt, .int i, .int j, _, Q => Q (decide (j < i))
  | .ge, .int i, .int j, _, Q => Q (decide (j ≤ i))
  | .is, x, .non, _, Q => Q (decide (x = .non))
  | .is, .bl a, .bl b, _, Q => Q (a == b)
  | .isnot, x, .non, _, Q => Q (!decide (x = .non))
  | .isnot, .bl a, .bl b, _, Q => Q (!(a == b))
  | .isin, x, .ref b, H, Q => (∃ xs, items H (.ref b) = some xs ∧ flatV x = true ∧ xs.all flatV = true ∧ Q (inF x xs)) ∨ (∃ r, dget H (.ref b) x r ∧ Q r.isSome) ∨ inD x b H Q
  | .notin, x, .ref b, H, Q => (∃ xs, items H (.ref b) = some xs ∧ flatV x = true ∧ xs.all flatV = true ∧ Q (!inF x xs)) ∨ (∃ r, dget H (.ref b) x r ∧ Q (!r.isSome)) ∨ inD x b H fun k => Q (!k)
  | _, _, _, _, _ => False

/-! ### expressions -/
def var (i : Nat) : TE := fun _ σ H Q => match get σ i with
  | some v => Q v H
  | none => False
def cst (v : V) : TE := fun _ _ H Q => Q v H
def bin (o : Op) (a b : TE) : TE := fun C σ H Q => a C σ H fun x H1 => b C σ H1 fun y H2 => opr o x y H2 Q
def neg (a : TE) : TE := fun C σ H Q => a C σ H fun x H1 => match x with
  | .int i => Q (.int (-i)) H1
  | _ => False
def cmp (o : Cm) (a b : TE) : TE := fun C σ H Q => a C σ H fun x H1 => b C σ H1 fun y H2 => cmpr o x y H2 fun k => Q (.bl k) H2
/-- a o b o' c -/
def chain (o o' : Cm) (a b c : TE) : TE := fun C σ H Q => a C σ H fun x H1 => b C σ H1 fun y H2 => cmpr o x y H2 fun k =>
  if k = true then c C σ H2 fun z H3 => cmpr o' y z H3 fun l => Q (.bl l) H3 else Q (.bl false) H2
def ife (t : TT) (a b : TE) : TE := fun C σ H Q => t C σ H fun k H1 => if k = true then a C σ H1 Q else b C σ H1 Q
def orv (a b : TE) : TE := fun C σ H Q => a C σ H fun x H1 => ∃ k, truth H1 x = some k ∧ if k = true then Q x H1 else b C σ H1 Q
def andv (a b : TE) : TE := fun C σ H Q => a C σ H fun x H1 => ∃ k, truth H1 x = some k ∧ if k = true then b C σ H1 Q else Q x H1
def notv (a : TE) : TE := fun C σ H Q => a C σ H fun x H1 => ∃ k, truth H1 x = some k ∧ Q (.bl (!k)) H1
def fld (a : TE) (f : String) : TE := fun C σ H Q => a C σ H fun x H1 => ∃ p c fs v, x = .ref p ∧ H1 p = some (.ins c fs) ∧ fs.lookup f = some v ∧ Q v H1
def ix (a b : TE) : TE := fun C σ H Q => a C σ H fun x H1 => b C σ H1 fun y H2 => ∃ xs i v, items H2 x = some xs ∧ y = .int i ∧ atI xs i = some v ∧ Q v H2
def dix (a b : TE) : TE := fun C σ H Q => a C σ H fun x H1 => b C σ H1 fun y H2 => ∃ v, dget H2 x y (some v) ∧ Q v H2
/-- an optional part of a slice -/
abbrev TO := Cx → St → Heap → (Option Int → Heap → Prop) → Prop
def pno : TO := fun _ _ H Q => Q none H
def pso (a : TE) : TO := fun C σ H Q => a C σ H fun x H1 => ∃ i, x = .int i ∧ Q (some i) H1
def slc (a : TE) (l h : TO) : TE := fun C σ H Q => a C σ H fun x H1 => l C σ H1 fun lo H2 => h C σ H2 fun hi H3 =>
  (∃ xs, litems H3 x = some xs ∧ ∀ p, H3 p = none → Q (.ref p) (upd H3 p (.lst (cutV xs lo hi)))) ∨
  (∃ xs, titems H3 x = some xs ∧ ¬ (sIx xs.length 0 lo = 0 ∧ sIx xs.length xs.length hi = xs.length) ∧ ∀ p, H3 p = none → Q (.ref p) (upd H3 p (.tup (cutV xs lo hi))))
def revs (a : TE) : TE := fun C σ H Q => a C σ H fun x H1 => ∃ xs, litems H1 x = some xs ∧ ∀ p, H1 p = none → Q (.ref p) (upd H1 p (.lst xs.reverse))
def anil : TA := fun _ _ H Q => Q [] H
def acons (a : TE) (r : TA) : TA := fun C σ H Q => a C σ H fun x H1 => r C σ H1 fun xs H2 => Q (x :: xs) H2
def astar (a : TE) (r : TA) : TA := fun C σ H Q => a C σ H fun x H1 => ∃ ys, items H1 x = some ys ∧ r C σ H1 fun xs H2 => Q (ys ++ xs) H2
def tupl (t : TA) : TE := fun C σ H Q => t C σ H fun xs H1 => xs.length ≤ line ∧ ∀ p, H1 p = none → Q (.ref p) (upd H1 p (.tup xs))
def lstl (t : TA) : TE := fun C σ H Q => t C σ H fun xs H1 => xs.length ≤ line ∧ ∀ p, H1 p = none → Q (.ref p) (upd H1 p (.lst xs))
def dnew : TE := fun _ _ H Q => ∀ p, H p = none → Q (.ref p) (upd H p (.dct []))
/-- a call of a built-in by values -/
def blt (r : List V → Heap → VK → Prop) (t : TA) : TE := fun C σ H Q => t C σ H fun vs H1 => r vs H1 Q
/-- the arguments in the parameters' order: places of the given ones, or defaults -/
def perm (ps : List (Sum Nat V)) (vs : List V) : List V := ps.map fun p => match p with
  | .inl i => vs.getD i .non
  | .inr v => v
/-- written arguments, then keywords' values -/
def akw (n : Nat) (ta tk : TA) : TA := fun C σ H Q => ta C σ H fun xs H1 => xs.length = n ∧ tk C σ H1 fun ys H2 => Q (xs ++ ys) H2
/-- a def, by its name; n values are written -/
def callf (f : String) (n : Nat) (ps : List (Sum Nat V)) (t : TA) : TE := fun C σ H Q => t C σ H fun vs H1 => vs.length = n ∧ C.call "" f (perm ps vs) H1 Q fun c fs H' => C.exc c fs σ H'
/-- a method, of instances of cs; the instance is the first of the values -/
def meth (cs : List String) (o : TE) (m : String) (n : Nat) (ps : List (Sum Nat V)) (t : TA) : TE := fun C σ H Q => o C σ H fun x H1 => ∃ a c fs, x = .ref a ∧ H1 a = some (.ins c fs) ∧ c ∈ cs ∧ fs.lookup m = none ∧ t C σ H1 fun vs H2 => vs.length = n ∧
  C.call c m (perm ps (x :: vs)) H2 Q fun c fs H' => C.exc c fs σ H'
def make (c : String) (n : Nat) (ps : List (Sum Nat V)) (t : TA) : TE := fun C σ H Q => t C σ H fun vs H1 => vs.length = n ∧ ∀ p, H1 p = none → C.call c "__init__" (perm ps (.ref p :: vs)) (upd H1 p (.ins c [])) (fun v H2 => v = .non ∧ Q (.ref p) H2) fun c fs H' => C.exc c fs σ H'
/-- a built-in method by values -/
def bmt (k : V → Heap → Prop) (r : V → List V → Heap → VK → Prop) (o : TE) (t : TA) : TE := fun C σ H Q => o C σ H fun x H1 => k x H1 ∧ t C σ H1 fun vs H2 => r x vs H2 Q
def isL (x : V) (H : Heap) : Prop := ∃ xs, litems H x = some xs
def isD (x : V) (H : Heap) : Prop := ∃ a, x = .ref a ∧ ((∃ kvs, H a = some (.dct kvs)) ∨ ∃ kvs, H a = some (.dctT kvs))

/-! ### built-ins by values -/
abbrev B1 := List V → Heap → VK → Prop
def bLen : B1 := fun vs H Q => ∃ x xs, vs = [x] ∧ items H x = some xs ∧ Q (.int xs.length) H
def bAbs : B1 := fun vs H Q => ∃ i : Int, vs = [.int i] ∧ Q (.int (i.natAbs : Int)) H
def bInt : B1 := fun vs H Q => match vs with
  | [.int i] => Q (.int i) H
  | [.bl b] => Q (.int (if b then 1 else 0)) H
  | _ => False
def bMax2 : B1 := fun vs H Q => ∃ i j : Int, vs = [.int i, .int j] ∧ Q (.int (max i j)) H
def bMin2 : B1 := fun vs H Q => ∃ i j : Int, vs = [.int i, .int j] ∧ Q (.int (min i j)) H
def bMax3 : B1 := fun vs H Q => ∃ i j k : Int, vs = [.int i, .int j, .int k] ∧ Q (.int (max (max i j) k)) H
def bMin3 : B1 := fun vs H Q => ∃ i j k : Int, vs = [.int i, .int j, .int k] ∧ Q (.int (min (min i j) k)) H
def bSum : B1 := fun vs H Q => ∃ (x : V) (ns : List Int), vs = [x] ∧ items H x = some (ns.map V.int) ∧ Q (.int ns.sum) H
def bMax1 : B1 := fun vs H Q => ∃ (x : V) (ns : List Int), vs = [x] ∧ litems H x = some (ns.map V.int) ∧ 0 < ns.length ∧ ∀ m, m ∈ ns → (∀ y, y ∈ ns → y ≤ m) → Q (.int m) H
def bMin1 : B1 := fun vs H Q => ∃ (x : V) (ns : List Int), vs = [x] ∧ litems H x = some (ns.map V.int) ∧ 0 < ns.length ∧ ∀ m, m ∈ ns → (∀ y, y ∈ ns → m ≤ y) → Q (.int m) H
def bAll : B1 := fun vs H Q => ∃ (x : V) (bs : List Bool), vs = [x] ∧ litems H x = some (bs.map V.bl) ∧ Q (.bl (bs.all id)) H
def bAny : B1 := fun vs H Q => ∃ (x : V) (bs : List Bool), vs = [x] ∧ litems H x = some (bs.map V.bl) ∧ Q (.bl (bs.any id)) H
def bList : B1 := fun vs H Q => ∃ x xs, vs = [x] ∧ items H x = some xs ∧ ∀ p, H p = none → Q (.ref p) (upd H p (.lst xs))
def bTuple : B1 := fun vs H Q => ∃ x xs, vs = [x] ∧ ((litems H x = some xs ∧ ∀ p, H p = none → Q (.ref p) (upd H p (.tup xs))) ∨ (titems H x = some xs ∧ Q x H))
/-- list(range(..)) -/
def lrng1 (a : TE) : TE := fun C σ H Q => a C σ H fun x H1 => ∃ j : Int, x = .int j ∧ j ≤ line ∧ -(2 ^ 62) ≤ j ∧ ∀ p, H1 p = none → Q (.ref p) (upd H1 p (.lst ((List.range j.toNat).map fun (k : Nat) => V.int k)))
def lrng2 (a b : TE) : TE := fun C σ H Q => a C σ H fun x H1 => b C σ H1 fun y H2 => ∃ i j : Int, x = .int i ∧ y = .int j ∧ (-(2 ^ 62) ≤ i ∧ i < 2 ^ 62 ∧ -(2 ^ 62) ≤ j ∧ j < 2 ^ 62 ∧ (j - i).toNat ≤ line) ∧
  ∀ p, H2 p = none → Q (.ref p) (upd H2 p (.lst ((List.range (j - i).toNat).map fun (k : Nat) => V.int (i + k))))
def bSortedI : B1 := fun vs H Q => ∃ (x : V) (ns : List Int), vs = [x] ∧ litems H x = some (ns.map V.int) ∧ ∀ (ns' : List Int) p, List.Perm ns' ns → List.Pairwise (· ≤ ·) ns' → H p = none → Q (.ref p) (upd H p (.lst (ns'.map V.int)))
/-- a text's code points -/
def txt (s : String) : List Nat := s.toList.map Char.toNat
def bRepr : B1 := fun vs H Q => match vs with
  | [.bl b] => Q (.str (if b then [84, 114, 117, 101] else [70, 97, 108, 115, 101])) H
  | [.int i] => i.natAbs.log2 < 1920 ∧ Q (.str (txt (toString i))) H
  | _ => False
abbrev M1 := V → List V → Heap → VK → Prop
def mAppend : M1 := fun x vs H Q => ∃ a xs y, x = .ref a ∧ vs = [y] ∧ H a = some (.lst xs) ∧ xs.length < line ∧ Q .non (upd H a (.lst (xs ++ [y])))
def mExtend : M1 := fun x vs H Q => ∃ a b xs zs, x = .ref a ∧ vs = [.ref b] ∧ H a = some (.lst xs) ∧ H b = some (.lst zs) ∧ xs.length + zs.length ≤ line ∧ Q .non (upd H a (.lst (xs ++ zs)))
def mPop0 : M1 := fun x vs H Q => ∃ a xs y, x = .ref a ∧ vs = [] ∧ H a = some (.lst (xs ++ [y])) ∧ Q y (upd H a (.lst xs))
def mPopAt : M1 := fun x vs H Q => ∃ a xs i k y, x = .ref a ∧ vs = [.int i] ∧ H a = some (.lst xs) ∧ xs.length < 2 ^ 62 ∧ ixN xs.length i = some k ∧ xs[k]? = some y ∧ Q y (upd H a (.lst (xs.eraseIdx k)))
def mReverse : M1 := fun x vs H Q => ∃ a xs, x = .ref a ∧ vs = [] ∧ H a = some (.lst xs) ∧ Q .non (upd H a (.lst xs.reverse))
def mClear : M1 := fun x vs H Q => ∃ a xs, x = .ref a ∧ vs = [] ∧ H a = some (.lst xs) ∧ Q .non (upd H a (.lst []))
def mInsert : M1 := fun x vs H Q => ∃ a xs i y, x = .ref a ∧ vs = [.int i, y] ∧ H a = some (.lst xs) ∧ xs.length < line ∧ 0 ≤ i ∧ i < 2 ^ 63 ∧ Q .non (upd H a (.lst (xs.take i.toNat ++ [y] ++ xs.drop i.toNat)))
/-- how many figures of two a number has -/
def bits (i : Int) : Nat := if i = 0 then 0 else i.natAbs.log2 + 1
/-- x.bit_length() -/
def bitl (o : TE) : TE := fun C σ H Q => o C σ H fun x H1 => ∃ i, x = .int i ∧ Q (.int (bits i : Nat)) H1

/-! ### isinstance, of written classes -/
/-- a value's built-in type -/
def tyOf (H : Heap) : V → Option String
  | .non => some "NoneType"
  | .bl _ => some "bool"
  | .int _ => some "int"
  | .str _ => some "str"
  | .ref a => match H a with
    | some (.lst _) => some "list"
    | some (.scr _) => some "list"
    | some (.tup _) => some "tuple"
    | some (.dct _) => some "dict"
    | some (.dctT _) => some "dict"
    | _ => none
  | _ => none
def subT (T c : String) : Bool := T == c || (T == "bool" && c == "int")
/-- is the value of one of these built-in types (bool is an int) -/
def isTy (H : Heap) (ts : List String) (x : V) : Option Bool := (tyOf H x).map fun T => ts.any (subT T)
def isi (a : TE) (ts : List String) : TE := fun C σ H Q => a C σ H fun x H1 => ∃ k, isTy H1 ts x = some k ∧ Q (.bl k) H1

/-! ### tests -/
def tt (a : TE) : TT := fun C σ H Q => a C σ H fun x H1 => ∃ k, truth H1 x = some k ∧ Q k H1
def tand (a b : TT) : TT := fun C σ H Q => a C σ H fun k H1 => if k = true then b C σ H1 Q else Q false H1
def tor (a b : TT) : TT := fun C σ H Q => a C σ H fun k H1 => if k = true then Q true H1 else b C σ H1 Q
def tnot (a : TT) : TT := fun C σ H Q => a C σ H fun k H1 => Q (!k) H1

/-! ### targets -/
def gname (i : Nat) : TG := fun _ v σ H Q => Q (put σ i v) H
def gsub (o i : TE) : TG := fun C v σ H Q => o C σ H fun x H1 => i C σ H1 fun y H2 => ∃ a xs k j, x = .ref a ∧ y = .int k ∧ H2 a = some (.lst xs) ∧ ixN xs.length k = some j ∧ Q σ (upd H2 a (.lst (xs.set j v)))
def putF (f : String) (v : V) : List (String × V) → List (String × V)
  | [] => [(f, v)]
  | (g, w) :: r => if g = f then (g, v) :: r else (g, w) :: putF f v r
def gfld (cs : List String) (o : TE) (f : String) : TG := fun C v σ H Q => o C σ H fun x H1 => ∃ a c fs, x = .ref a ∧ H1 a = some (.ins c fs) ∧ c ∈ cs ∧ fs.length < 1000 ∧ Q σ (upd H1 a (.ins c (putF f v fs)))
/-- o[l:h] = a list -/
def gslc (o l h : TE) : TG := fun C v σ H Q => o C σ H fun x H1 => l C σ H1 fun lo H2 => h C σ H2 fun hi H3 => ∃ a b xs ys i j, x = .ref a ∧ v = .ref b ∧ lo = .int i ∧ hi = .int j ∧ H3 a = some (.lst xs) ∧ H3 b = some (.lst ys) ∧ a ≠ b ∧ 0 ≤ i ∧ i ≤ j ∧ j ≤ xs.length ∧ xs.length + ys.length ≤ line ∧
  Q σ (upd H3 a (.lst (xs.take i.toNat ++ ys ++ xs.drop j.toNat)))
/-- several targets for several values -/
abbrev TGs := Cx → List V → St → Heap → (St → Heap → Prop) → Prop
def gnil : TGs := fun _ vs σ H Q => vs = [] ∧ Q σ H
def gcons (g : TG) (r : TGs) : TGs := fun C vs σ H Q => ∃ v ws, vs = v :: ws ∧ g C v σ H fun σ1 H1 => r C ws σ1 H1 Q
def gtup (n : Nat) (g : TGs) : TG := fun C v σ H Q => ∃ xs, titems H v = some xs ∧ xs.length = n ∧ g C xs σ H Q

/-! ### statements -/
def skip : TS := fun _ D σ H => D.nx σ H
def seq (t u : TS) : TS := fun C D σ H => t C { D with nx := fun σ1 H1 => u C D σ1 H1 } σ H
def asg (g : TG) (e : TE) : TS := fun C D σ H => e C σ H fun v H1 => g C v σ H1 D.nx
/-- a, b, .. = e, f, .. both written; the values are taken first -/
def par (n : Nat) (g : TGs) (t : TA) : TS := fun C D σ H => t C σ H fun vs H1 => vs.length = n ∧ g C vs σ H1 D.nx
/-- a = b = e -/
def asg2 (g g' : TG) (e : TE) : TS := fun C D σ H => e C σ H fun v H1 => g C v σ H1 fun σ1 H2 => g' C v σ1 H2 D.nx
/-- += and -= of numbers -/
def augo : Bool → V → V → (V → Prop) → Prop
  | true, .int i, .int j, Q => Q (.int (i + j))
  | false, .int i, .int j, Q => Q (.int (i - j))
  | _, _, _, _ => False
def aug (i : Nat) (o : Bool) (e : TE) : TS := fun C D σ H => match get σ i with
  | some x => e C σ H fun y H1 => augo o x y fun z => D.nx (put σ i z) H1
  | none => False
def augf (cs : List String) (o : TE) (f : String) (k : Bool) (e : TE) : TS := fun C D σ H => o C σ H fun x H1 => ∃ a c fs v, x = .ref a ∧ H1 a = some (.ins c fs) ∧ fs.lookup f = some v ∧ e C σ H1 fun y H2 => augo k v y fun z =>
  ∃ fs', H2 a = some (.ins c fs') ∧ c ∈ cs ∧ fs'.length < 1000 ∧ D.nx σ (upd H2 a (.ins c (putF f z fs')))
def drop (e : TE) : TS := fun C D σ H => e C σ H fun _ H1 => D.nx σ H1
def ret (e : TE) : TS := fun C D σ H => e C σ H D.rt
def retN : TS := fun _ D _ H => D.rt .non H
def ifs (c : TT) (t u : TS) : TS := fun C D σ H => c C σ H fun k H1 => if k = true then t C D σ H1 else u C D σ H1
def brk : TS := fun _ D σ H => D.bk σ H
def cnt : TS := fun _ D σ H => D.ct σ H
/-- code that is not come to -/
def never : TS := fun _ _ _ _ => False
/-- raise C(e), the error keeping the value as f -/
def rais (c f : String) (e : TE) : TS := fun C _ σ H => e C σ H fun v H1 => C.exc c [(f, v)] σ H1
/-- an optional name is forgotten -/
def wipeO (σ : St) : Option Nat → St
  | some i => σ.set i none
  | none => σ
def putO (σ : St) (i : Option Nat) (v : V) : St := match i with
  | some i => put σ i v
  | none => σ
def Ends.wipe (D : Ends) (i : Option Nat) : Ends := ⟨fun σ H => D.nx (wipeO σ i) H, D.rt, fun σ H => D.bk (wipeO σ i) H, fun σ H => D.ct (wipeO σ i) H⟩
/-- there is nothing at dd, or an error's fields -/
def xfree (H : Heap) (dd : Nat) : Prop := H dd = none ∨ ∃ fs, H dd = some (.xd fs)
/-- try: b, except the classes acc (as the i-th name): h. Classes of rej pass by. In h the error stands at a, its fields at dd -/
def tryx (acc rej : List String) (i : Option Nat) (b : TS) (h : String → Nat → Nat → TS) : TS := fun C D σ H => ∃ X0 : String → List (String × V) → St → Heap → Prop,
  (∀ c fs σ' H', X0 c fs σ' H' → (c ∈ acc ∧ ∀ a dd, H' a = none → xfree H' dd → a ≠ dd → h c a dd { C with exc := fun _ _ _ _ => False } (D.wipe i) (putO σ' i (.ref a)) (upd H' dd (.xd fs))) ∨ (c ∈ rej ∧ C.exc c fs σ' H')) ∧
  b { C with exc := X0 } D σ H
/-- an except clause: the classes that it takes, those that it lets by, the slot of its name, its suite -/
structure Cl where
  acc : List String
  rej : List String
  i : Option Nat
  h : String → Nat → Nat → TS
/-- an error meets the clauses, one behind the other -/
def disp (C : Cx) (D : Ends) : List Cl → String → List (String × V) → St → Heap → Prop
  | [], c, fs, σ, H => C.exc c fs σ H
  | k :: r, c, fs, σ, H => (c ∈ k.acc ∧ ∀ a dd, H a = none → xfree H dd → a ≠ dd → k.h c a dd { C with exc := fun _ _ _ _ => False } (D.wipe k.i) (putO σ k.i (.ref a)) (upd H dd (.xd fs))) ∨ (c ∈ k.rej ∧ disp C D r c fs σ H)
/-- try with several clauses -/
def trym (ks : List Cl) (b : TS) : TS := fun C D σ H => ∃ X0 : String → List (String × V) → St → Heap → Prop, (∀ c fs σ' H', X0 c fs σ' H' → disp C D ks c fs σ' H') ∧ b { C with exc := X0 } D σ H
/-- a field of the error at a -/
def efld (a dd : Nat) (e : TE) (f : String) : TE := fun C σ H Q => e C σ H fun x H1 => x = .ref a ∧ ∃ fs v, H1 dd = some (.xd fs) ∧ fs.lookup f = some v ∧ Q v H1
/-- at most n turns -/
def whn (c : TT) (b : TS) (C : Cx) (D : Ends) : Nat → St → Heap → Prop
  | 0, _, _ => False
  | n + 1, σ, H => c C σ H fun k H1 => if k = true then b C { D with nx := whn c b C D n, ct := whn c b C D n, bk := D.nx } σ H1 else D.nx σ H1
def whl (c : TT) (b : TS) : TS := fun C D σ H => ∃ n, whn c b C D n σ H
/-- what a for walks: the values of the turns, each asked of the heap at its turn -/
abbrev It := List (Heap → (V → Prop) → Prop)
/-- the turns of a for; st: what must stand at each turn and at the end -/
def fori (st : Heap → Prop) (g : TG) (b : TS) (C : Cx) (D : Ends) : List V → St → Heap → Prop
  | [], σ, H => st H ∧ D.nx σ H
  | v :: r, σ, H => st H ∧ g C v σ H fun σ1 H1 => b C { D with nx := fori st g b C D r, ct := fori st g b C D r, bk := D.nx } σ1 H1
/-- what is walked: items, and what must stand -/
abbrev TI := Cx → St → Heap → (List V → (Heap → Prop) → Heap → Prop) → Prop
def iseq (e : TE) : TI := fun C σ H Q => e C σ H fun x H1 => (∃ xs, litems H1 x = some xs ∧ Q xs (fun H2 => litems H2 x = some xs) H1) ∨ (∃ xs, titems H1 x = some xs ∧ Q xs (fun H2 => titems H2 x = some xs) H1)
def rng (lo : Int) (n : Nat) : List V := (List.range n).map fun (k : Nat) => V.int (lo + (k : Int))
def big (i : Int) : Prop := -(2 ^ 62) ≤ i ∧ i < 2 ^ 62
def irng1 (t : TA) : TI := fun C σ H Q => t C σ H fun vs H1 => ∃ j : Int, vs = [.int j] ∧ big j ∧ Q (rng 0 j.toNat) (fun _ => True) H1
def irng2 (t : TA) : TI := fun C σ H Q => t C σ H fun vs H1 => ∃ i j : Int, vs = [.int i, .int j] ∧ big i ∧ big j ∧ Q (rng i (j - i).toNat) (fun _ => True) H1
def fore (i : TI) (g : TG) (b : TS) : TS := fun C D σ H => i C σ H fun vs st H1 => fori st g b C D vs σ H1
/-- pairs that are made at each turn and taken apart at once: enumerate, zip, items -/
def fori2 (st : Heap → Prop) (g : TGs) (b : TS) (C : Cx) (D : Ends) : List (V × V) → St → Heap → Prop
  | [], σ, H => st H ∧ D.nx σ H
  | v :: r, σ, H => st H ∧ g C [v.1, v.2] σ H fun σ1 H1 => b C { D with nx := fori2 st g b C D r, ct := fori2 st g b C D r, bk := D.nx } σ1 H1
abbrev TI2 := Cx → St → Heap → (List (V × V) → (Heap → Prop) → Heap → Prop) → Prop
def enumV : Int → List V → List (V × V)
  | _, [] => []
  | k, x :: r => (.int k, x) :: enumV (k + 1) r
def ienum (e : TE) : TI2 := fun C σ H Q => e C σ H fun x H1 => (∃ xs, litems H1 x = some xs ∧ Q (enumV 0 xs) (fun H2 => litems H2 x = some xs) H1) ∨ (∃ xs, titems H1 x = some xs ∧ Q (enumV 0 xs) (fun H2 => titems H2 x = some xs) H1)
/-- two lists, or two tuples, side by side -/
def izip (t : TA) : TI2 := fun C σ H Q => t C σ H fun vs H1 => ∃ x y, vs = [x, y] ∧ ((∃ xs ys, litems H1 x = some xs ∧ litems H1 y = some ys ∧ Q (xs.zip ys) (fun H2 => litems H2 x = some xs ∧ litems H2 y = some ys) H1) ∨
  (∃ xs ys, titems H1 x = some xs ∧ titems H1 y = some ys ∧ Q (xs.zip ys) (fun H2 => titems H2 x = some xs ∧ titems H2 y = some ys) H1) ∨
  (∃ xs ys, litems H1 x = some xs ∧ titems H1 y = some ys ∧ Q (xs.zip ys) (fun H2 => litems H2 x = some xs ∧ titems H2 y = some ys) H1))
def fore2 (i : TI2) (g : TGs) (b : TS) : TS := fun C D σ H => i C σ H fun vs st H1 => fori2 st g b C D vs σ H1
/-! ### comprehensions: the names of the block are forgotten at its start; no error leaves it -/
def wipe (σ : St) : List Nat → St
  | [] => σ
  | i :: r => (wipe σ r).set i none
def Cx.calm (C : Cx) : Cx := { C with exc := fun _ _ _ _ => False }
def lci (st : Heap → Prop) (own : List Nat) (g : TG) (c : TT) (e : TE) (C : Cx) (σ : St) (Q : List V → Heap → Prop) : List V → List V → Heap → Prop
  | [], acc, H => st H ∧ Q acc H
  | v :: r, acc, H => st H ∧ g C v (wipe σ own) H fun σ1 H1 => c C σ1 H1 fun k H2 => if k = true then e C σ1 H2 fun y H3 => acc.length < line ∧ lci st own g c e C σ Q r (acc ++ [y]) H3 else lci st own g c e C σ Q r acc H2
def tyes : TT := fun _ _ H Q => Q true H
def lcomp (i : TI) (own : List Nat) (g : TG) (c : TT) (e : TE) : TE := fun C σ H Q => i C σ H fun vs st H1 => lci st own g c e C.calm σ (fun acc H2 => ∀ p, H2 p = none → Q (.ref p) (upd H2 p (.lst acc))) vs [] H1
def lci2 (st : Heap → Prop) (own : List Nat) (g : TGs) (c : TT) (e : TE) (C : Cx) (σ : St) (Q : List V → Heap → Prop) : List (V × V) → List V → Heap → Prop
  | [], acc, H => st H ∧ Q acc H
  | v :: r, acc, H => st H ∧ g C [v.1, v.2] (wipe σ own) H fun σ1 H1 => c C σ1 H1 fun k H2 => if k = true then e C σ1 H2 fun y H3 => acc.length < line ∧ lci2 st own g c e C σ Q r (acc ++ [y]) H3 else lci2 st own g c e C σ Q r acc H2
def lcomp2 (i : TI2) (own : List Nat) (g : TGs) (c : TT) (e : TE) : TE := fun C σ H Q => i C σ H fun vs st H1 => lci2 st own g c e C.calm σ (fun acc H2 => ∀ p, H2 p = none → Q (.ref p) (upd H2 p (.lst acc))) vs [] H1

/-! ### defs -/
structure Def where
  np : Nat
  n : Nat
  body : TS
def start (n : Nat) (vs : List V) : St := vs.map some ++ List.replicate (n - vs.length) none
/-- how a def answers, at most k calls deep (what is reached may be less than what is asked for) -/
def callK (T : String → String → Option Def) : Nat → String → String → List V → Heap → VK → EK → Prop
  | 0, _, _, _, _, _, _ => False
  | k + 1, c, m, vs, H, Q, E => match T c m with
    | some d => vs.length = d.np ∧ ∃ (Q0 : VK) (E0 : EK), (∀ v H, Q0 v H → Q v H) ∧ (∀ c f H, E0 c f H → E c f H) ∧ d.body ⟨callK T k, fun c fs _ H' => E0 c fs H'⟩ { nx := fun _ H' => Q0 .non H', rt := Q0 } (start d.n vs) H
    | none => False
end Z

/-! Z1: every construct of Z0 is met by the program's own syntax. -/
namespace ZS
open PySem PySem.Spec PyProof.Rows L2

abbrev St := L2.St
/-- where the defs and the classes lie -/
structure Lw where
  fa : String → Addr
  ca : String → Addr
  /-- the def (of the class named first, or of none): its address, its object, its parameters -/
  fn : String → String → Option (Addr × FuncData × List Str)
  /-- where the def at hand began -/
  h0 : Z.Heap
  H0 : Hp
def Lw.at_ (L : Lw) (h0 : Z.Heap) (H0 : Hp) : Lw := { L with h0 := h0, H0 := H0 }
def code (s : List Nat) : Str := ⟨s.toArray⟩
def Lw.v (L : Lw) : Z.V → V
  | .non => .non
  | .bl b => .bl b
  | .int i => .int i
  | .str s => .str (code s)
  | .ref a => .ref a
  | .fn x => .ref (L.fa x)
  | .cls x => .ref (L.ca x)
  | .ty x => .ty x
abbrev Lw.vs (L : Lw) (xs : List Z.V) : List V := xs.map L.v
abbrev Lw.fs (L : Lw) (fs : List (String × Z.V)) : List (Str × V) := fs.map fun p => (Str.ofString p.1, L.v p.2)
def hk : Z.Hk → Key
  | .inl i => .inl i
  | .inr s => .inr (code s)
/-- what stands at an address -/
def RO (L : Lw) (K : PySem.W.Frag) (H : Hp) (a : Addr) : Z.O → Prop
  | .lst xs => H a = some (.lst (L.vs xs))
  | .tup xs => H a = some (.tup (L.vs xs))
  | .scr xs => Rd H a (.lst (L.vs xs))
  | .dct kvs => H a = some (.dK (kvs.map fun p => (hk p.1, L.v p.2)))
  | .dctT kvs => H a = some (.dT (kvs.map fun p => (p.1.map hk, L.v p.2)))
  | .ins c fs => ∃ dx, H a = some (.ins (L.ca c) dx (L.fs fs)) ∧ Cls K (L.ca c) ∧ ∀ f ∈ fs.map (·.1), NoAttr K (L.ca c) (Str.ofString f)
  | .xd fs => H a = some (.xd (L.fs fs))
def RH (L : Lw) (K : PySem.W.Frag) (Ho : Z.Heap) (H : Hp) : Prop := ∀ a o, Ho a = some o → RO L K H a o
/-- nothing that stood is gone; what was not told of stays untold, and as it was (but for tables of code) -/
structure Gr (Ho : Z.Heap) (H : Hp) (Ho' : Z.Heap) (H' : Hp) : Prop where
  on : ∀ a, H a ≠ none → H' a ≠ none
  un : ∀ a o, H a = some o → Ho a = none → Ho' a = none ∧ ((∀ ps, o ≠ .tbl ps) → H' a = some o)
structure R (L : Lw) (K : PySem.W.Frag) (σo : Z.St) (Ho : Z.Heap) (σ : St) (H : Hp) : Prop where
  len : σo.length = σ.length
  sl : ∀ i v, Z.get σo i = some v → σ[i]? = some (some (L.v v))
  hp : RH L K Ho H
  gr : Gr L.h0 L.H0 Ho H
theorem Gr.refl (Ho : Z.Heap) (H : Hp) : Gr Ho H Ho H := ⟨fun _ h => h, fun _ _ e h => ⟨h, fun _ => e⟩⟩
theorem Gr.trans {Ho Ho1 Ho2 : Z.Heap} {H H1 H2 : Hp} (a : Gr Ho H Ho1 H1) (b : Gr Ho1 H1 Ho2 H2) : Gr Ho H Ho2 H2 :=
  ⟨fun p h => b.on p (a.on p h), fun p o e n => by
    obtain ⟨n1, k1⟩ := a.un p o e n
    cases e1 : H1 p with
    | none => exact absurd e1 (a.on p (by rw [e]; exact fun z => nomatch z))
    | some o1 =>
      obtain ⟨n2, k2⟩ := b.un p o1 e1 n1
      refine ⟨n2, fun nt => ?_⟩
      have e3 := k1 nt
      rw [e1] at e3
      cases e3
      exact k2 nt⟩

/-! ### the heaps -/
section
variable {L : Lw} {K : PySem.W.Frag} {Ho : Z.Heap} {H : Hp} {σo : Z.St} {σ : St}
theorem RO.ne {a : Addr} {o : Z.O} (h : RO L K H a o) : H a ≠ none := by
  intro e
  cases o with
  | lst xs => rw [show H a = _ from h] at e; cases e
  | tup xs => rw [show H a = _ from h] at e; cases e
  | scr xs => rcases h with h | ⟨x, h⟩ <;> rw [h] at e <;> cases e
  | dct kvs => rw [show H a = _ from h] at e; cases e
  | dctT kvs => rw [show H a = _ from h] at e; cases e
  | ins c fs => obtain ⟨dx, h, _⟩ := h; rw [h] at e; cases e
  | xd fs => rw [show H a = _ from h] at e; cases e
/-- what is told of an address does not hang on another one that is new, or changes but is no tuple -/
theorem RO.upd {a b : Addr} {o : Z.O} {u : HO} (h : RO L K H a o) (hb : a ≠ b) : RO L K (upd H b u) a o := by
  cases o with
  | lst xs => exact (upd_ne hb).trans h
  | tup xs => exact (upd_ne hb).trans h
  | scr xs =>
    rcases h with h | ⟨x, h⟩
    · exact .inl ((upd_ne hb).trans h)
    · exact .inr ⟨x, (upd_ne hb).trans h⟩
  | dct kvs => exact (upd_ne hb).trans h
  | dctT kvs => exact (upd_ne hb).trans h
  | ins c fs => obtain ⟨dx, h, r⟩ := h; exact ⟨dx, (upd_ne hb).trans h, r⟩
  | xd fs => exact (upd_ne hb).trans h
theorem RH.set {a : Addr} {o : Z.O} {u : HO} (h : RH L K Ho H) (n : RO L K (upd H a u) a o) : RH L K (Z.upd Ho a o) (upd H a u) := fun b w e => by
  by_cases hb : b = a
  · subst hb
    rw [Z.upd_same] at e
    cases e
    exact n
  · rw [Z.upd_ne hb] at e
    exact (h b w e).upd hb
/-- what is not in the model's heap is not told of -/
theorem RH.free {a : Addr} (h : RH L K Ho H) (hn : H a = none) : Ho a = none := by
  cases e : Ho a with
  | none => rfl
  | some o => exact absurd hn (h a o e).ne
/-- an object is laid that is not told of -/
theorem RH.hid {a : Addr} {u : HO} (h : RH L K Ho H) (hn : Ho a = none) : RH L K Ho (upd H a u) := fun b w e =>
  (h b w e).upd fun z => by rw [z, hn] at e; cases e
theorem Gr.new {a : Addr} {o : Z.O} {u : HO} (hn : H a = none) : Gr Ho H (Z.upd Ho a o) (upd H a u) :=
  ⟨fun p h => by
    by_cases e : p = a
    · subst e; exact absurd hn h
    · rw [upd_ne e]; exact h, fun p w h n => by
    have e : p ≠ a := fun z => by rw [z, hn] at h; cases h
    rw [Z.upd_ne e, upd_ne e]
    exact ⟨n, fun _ => h⟩⟩
theorem Gr.chg {a : Addr} {o o' : Z.O} {u : HO} (hn : Ho a = some o) : Gr Ho H (Z.upd Ho a o') (upd H a u) :=
  ⟨fun p h => by
    by_cases e : p = a
    · subst e; rw [upd_same]; exact fun z => nomatch z
    · rw [upd_ne e]; exact h, fun p w h n => by
    have e : p ≠ a := fun z => by rw [z, hn] at n; cases n
    rw [Z.upd_ne e, upd_ne e]
    exact ⟨n, fun _ => h⟩⟩
theorem Gr.hid {a : Addr} {u : HO} (hn : H a = none) : Gr Ho H Ho (upd H a u) :=
  ⟨fun p h => by
    by_cases e : p = a
    · subst e; exact absurd hn h
    · rw [upd_ne e]; exact h, fun p w h n => by
    have e : p ≠ a := fun z => by rw [z, hn] at h; cases h
    rw [upd_ne e]
    exact ⟨n, fun _ => h⟩⟩
theorem R.heap {Ho' : Z.Heap} {H' : Hp} (h : R L K σo Ho σ H) (g : RH L K Ho' H') (gr : Gr Ho H Ho' H') : R L K σo Ho' σ H' := ⟨h.len, h.sl, g, h.gr.trans gr⟩
theorem get_put : ∀ (σo : Z.St) (i j : Nat) (v w : Z.V), Z.get (Z.put σo i v) j = some w → (j = i ∧ w = v) ∨ (j ≠ i ∧ Z.get σo j = some w)
  | [], _, _, _, _, h => by cases h
  | _ :: _, 0, 0, v, w, h => .inl ⟨rfl, (Option.some.inj h).symm⟩
  | _ :: _, 0, j + 1, v, w, h => .inr ⟨by omega, h⟩
  | _ :: _, i + 1, 0, v, w, h => .inr ⟨by omega, h⟩
  | _ :: r, i + 1, j + 1, v, w, h => by
    rcases get_put r i j v w h with ⟨a, b⟩ | ⟨a, b⟩
    · exact .inl ⟨by omega, b⟩
    · exact .inr ⟨by omega, b⟩
theorem put_length : ∀ (σo : Z.St) (i : Nat) (v : Z.V), (Z.put σo i v).length = σo.length
  | [], _, _ => rfl
  | _ :: _, 0, _ => rfl
  | _ :: r, i + 1, v => by
    show (Z.put r i v).length + 1 = r.length + 1
    rw [put_length r i v]
theorem get_lt : ∀ (σo : Z.St) (i : Nat) (v : Z.V), Z.get σo i = some v → i < σo.length
  | [], _, _, h => by cases h
  | _ :: _, 0, _, _ => Nat.succ_pos _
  | _ :: r, i + 1, v, h => Nat.succ_lt_succ (get_lt r i v h)
theorem R.put (h : R L K σo Ho σ H) (i : Nat) (v : Z.V) : R L K (Z.put σo i v) Ho (σ.set i (some (L.v v))) H := by
  refine ⟨by rw [put_length, List.length_set]; exact h.len, fun j w e => ?_, h.hp, h.gr⟩
  have hl := get_lt _ _ _ e
  rw [put_length, h.len] at hl
  rcases get_put _ _ _ _ _ e with ⟨rfl, rfl⟩ | ⟨hj, e⟩
  · rw [List.getElem?_set_self hl]
  · rw [List.getElem?_set_ne (Ne.symm hj)]
    exact h.sl j w e
theorem items_rel {x : Z.V} {xs : List Z.V} (h : RH L K Ho H) (e : Z.items Ho x = some xs) : ∃ a, x = .ref a ∧ (SqL K H a (L.vs xs) ∨ SqT K H a (L.vs xs)) := by
  unfold Z.items at e
  split at e
  · rename_i a
    refine ⟨a, rfl, ?_⟩
    split at e
    · rename_i ys q; cases e; exact .inl (SqL.of (h a _ q))
    · rename_i ys q; cases e; exact .inr (SqT.of (h a _ q))
    · rename_i ys q; cases e; exact .inl (.inl (h a _ q))
    · cases e
  · cases e
theorem litems_rel {x : Z.V} {xs : List Z.V} (h : RH L K Ho H) (e : Z.litems Ho x = some xs) : ∃ a, x = .ref a ∧ SqL K H a (L.vs xs) := by
  unfold Z.litems at e
  split at e
  · rename_i a
    refine ⟨a, rfl, ?_⟩
    split at e
    · rename_i ys q; cases e; exact SqL.of (h a _ q)
    · rename_i ys q; cases e; exact .inl (h a _ q)
    · cases e
  · cases e
theorem titems_rel {x : Z.V} {xs : List Z.V} (h : RH L K Ho H) (e : Z.titems Ho x = some xs) : ∃ a, x = .ref a ∧ SqT K H a (L.vs xs) := by
  unfold Z.titems at e
  split at e
  · rename_i a
    refine ⟨a, rfl, ?_⟩
    split at e
    · rename_i ys q; cases e; exact SqT.of (h a _ q)
    · cases e
  · cases e
theorem truth_rel {x : Z.V} {k : Bool} (h : RH L K Ho H) (e : Z.truth Ho x = some k) : TruV K (L.v x) H k := by
  unfold Z.truth at e
  split at e
  · cases e; exact (rfl : false = false)
  · cases e; exact (rfl : _ = _)
  · cases e; exact (rfl : _ = _)
  · rename_i a
    split at e
    · rename_i xs q
      cases e
      exact .inl ⟨_, SqL.of (h a _ q), by simp⟩
    · rename_i xs q
      cases e
      exact .inr (.inl ⟨_, SqT.of (h a _ q), by simp⟩)
    · rename_i xs q
      cases e
      exact .inl ⟨_, .inl (h a _ q), by simp⟩
    · cases e
  · cases e
end

/-! ### the judgements -/
/-- what defs and methods keep; errors reach the code around -/
def Cmono (C : Z.Cx) : Prop := ∀ c m vs H (Q Q' : Z.VK) (E E' : Z.EK), (∀ v H, Q v H → Q' v H) → (∀ c f H, E c f H → E' c f H) → C.call c m vs H Q E → C.call c m vs H Q' E'
/-- how an error lies -/
def RE (L : Lw) (cls : Value) (d : Option Addr) (H : Hp) (c : String) (fs : List (String × Z.V)) : Prop :=
  cls = .ref (L.ca c) ∧ ∃ dx, d = some dx ∧ H dx = some (.xd (L.fs fs))
/-- the error's dict was not yet there -/
def NewD (H : Hp) (d : Option Addr) : Prop := ∀ dx, d = some dx → H dx = none
theorem NewD.back {h0 Ho : Z.Heap} {H0 H : Hp} {d : Option Addr} (n : NewD H d) (g : Gr h0 H0 Ho H) : NewD H0 d := fun dx e => by
  cases q : H0 dx with
  | none => rfl
  | some o => exact absurd (n dx e) (g.on dx (by rw [q]; exact fun z => nomatch z))
def liftW (L : Lw) (K : PySem.W.Frag) (C : Z.Cx) : WX := fun cls d σ H => ∃ c fs σo Ho, R L K σo Ho σ H ∧ RE L cls d H c fs ∧ NewD L.H0 d ∧ C.exc c fs σo Ho
/-- a def's promise, over the model's own values -/
abbrev ZCall := String → String → List Z.V → Z.Heap → Z.VK → Z.EK → Prop
def liftSp (L : Lw) (K : PySem.W.Frag) (cl : ZCall) (c m : String) (n : Nat) : Sp := fun vs H Q E => ∃ vo Ho, vs = L.vs vo ∧ vo.length = n ∧ RH L K Ho H ∧
  cl c m vo Ho (fun v Ho' => ∀ H', RH L K Ho' H' → Gr Ho H Ho' H' → Q (L.v v) H') fun c fs Ho' => ∀ cls d H', RH L K Ho' H' → Gr Ho H Ho' H' → RE L cls d H' c fs → NewD H d → E cls d H'
/-- every def of the table keeps its promise, k deep -/
def Has (L : Lw) (P : Program) (w : World) (K : PySem.W.Frag) (mg : Str → Option Value) (base : Heap) (k : Nat) (cl : ZCall) : Prop :=
  ∀ c m f fd ps, L.fn c m = some (f, fd, ps) → FnOk P w K mg base (CX P w) k f fd ps (liftSp L K cl c m ps.length)
structure Good (L : Lw) (X : Cx) (C : Z.Cx) : Prop where
  mono : Cmono C
  takes : Takes X (liftW L X.K C)
  units : X.A.units + 130 < cLine
  call : X.calm = true → ∃ k, 1 ≤ k ∧ Room (k + 1) X.A ∧ Has L X.prog X.w X.K X.mg X.base k C.call
def liftE (L : Lw) (K : PySem.W.Frag) (C : Z.Cx) (t : Z.TE) : TE := fun σ H Q => ∃ σo Ho, R L K σo Ho σ H ∧ t C σo Ho fun v Ho' => ∀ H', R L K σo Ho' σ H' → Gr Ho H Ho' H' → Q (L.v v) H'
def liftT (L : Lw) (K : PySem.W.Frag) (C : Z.Cx) (t : Z.TT) : TT := fun σ H Q => ∃ σo Ho, R L K σo Ho σ H ∧ t C σo Ho fun k Ho' => ∀ H', R L K σo Ho' σ H' → Gr Ho H Ho' H' → Q k H'
def liftA (L : Lw) (K : PySem.W.Frag) (C : Z.Cx) (t : Z.TA) : TA := fun σ H Q => ∃ σo Ho, R L K σo Ho σ H ∧ t C σo Ho fun vs Ho' => ∀ H', R L K σo Ho' σ H' → Gr Ho H Ho' H' → Q (L.vs vs) H'
def liftO (L : Lw) (K : PySem.W.Frag) (C : Z.Cx) (t : Z.TO) : TO := fun σ H Q => ∃ σo Ho, R L K σo Ho σ H ∧ t C σo Ho fun k Ho' => ∀ H', R L K σo Ho' σ H' → Gr Ho H Ho' H' → Q k H'
/-- all slots but some are as they were -/
structure But (sl : List Nat) (σ σ' : St) : Prop where
  len : σ'.length = σ.length
  at_ : ∀ j, j ∉ sl → σ'[j]? = σ[j]?
theorem But.refl (sl : List Nat) (σ : St) : But sl σ σ := ⟨rfl, fun _ _ => rfl⟩
theorem But.trans {l1 l2 : List Nat} {σ σ1 σ2 : St} (a : But l1 σ σ1) (b : But l2 σ1 σ2) : But (l1 ++ l2) σ σ2 := ⟨b.len.trans a.len, fun j h => by
  rw [b.at_ j fun z => h (List.mem_append_right _ z), a.at_ j fun z => h (List.mem_append_left _ z)]⟩
def liftG (L : Lw) (K : PySem.W.Frag) (C : Z.Cx) (t : Z.TG) (sl : List Nat) : TG := fun v σ H Q => ∃ vo σo Ho, v = L.v vo ∧ R L K σo Ho σ H ∧ t C vo σo Ho fun σo' Ho' => ∀ σ' H', R L K σo' Ho' σ' H' → Gr Ho H Ho' H' → But sl σ σ' → Q σ' H'
def liftGs (L : Lw) (K : PySem.W.Frag) (C : Z.Cx) (t : Z.TGs) (sl : List Nat) : TGs := fun vs σ H Q => ∃ vo σo Ho, vs = L.vs vo ∧ R L K σo Ho σ H ∧ t C vo σo Ho fun σo' Ho' => ∀ σ' H', R L K σo' Ho' σ' H' → Gr Ho H Ho' H' → But sl σ σ' → Q σ' H'
/-- the ends of a block that begins at Ho, H -/
def ends (L : Lw) (K : PySem.W.Frag) (_ : Z.Heap) (_ : Hp) (D : Ends) : Z.Ends where
  nx := fun σo' Ho' => ∀ σ' H', R L K σo' Ho' σ' H' → Gr L.h0 L.H0 Ho' H' → D.nx σ' H'
  rt := fun v Ho' => ∀ H', RH L K Ho' H' → Gr L.h0 L.H0 Ho' H' → D.rt (L.v v) H'
  bk := fun σo' Ho' => ∀ σ' H', R L K σo' Ho' σ' H' → Gr L.h0 L.H0 Ho' H' → D.bk σ' H'
  ct := fun σo' Ho' => ∀ σ' H', R L K σo' Ho' σ' H' → Gr L.h0 L.H0 Ho' H' → D.ct σ' H'
def liftS (L : Lw) (K : PySem.W.Frag) (C : Z.Cx) (t : Z.TS) : TS := fun D σ H => ∃ σo Ho, R L K σo Ho σ H ∧ t C (ends L K Ho H D) σo Ho
/-- one set of ends asks no more than another -/
structure Le (D D' : Z.Ends) : Prop where
  nx : ∀ σ H, D.nx σ H → D'.nx σ H
  rt : ∀ v H, D.rt v H → D'.rt v H
  bk : ∀ σ H, D.bk σ H → D'.bk σ H
  ct : ∀ σ H, D.ct σ H → D'.ct σ H
structure SE (L : Lw) (X : Cx) (e : Expr) (t : Z.TE) : Prop where
  mono : ∀ C, Cmono C → ∀ σ H (Q Q' : Z.VK), (∀ v H, Q v H → Q' v H) → t C σ H Q → t C σ H Q'
  run : ∀ C, Good L X C → PE X e (liftE L X.K C t)
structure ST (L : Lw) (X : Cx) (e : Expr) (t : Z.TT) : Prop where
  mono : ∀ C, Cmono C → ∀ σ H (Q Q' : Bool → Z.Heap → Prop), (∀ v H, Q v H → Q' v H) → t C σ H Q → t C σ H Q'
  run : ∀ C, Good L X C → PT X e (liftT L X.K C t)
/-- a test whatever its whole is (and, or) -/
structure SW (L : Lw) (X : Cx) (e : Expr) (t : Z.TT) : Prop where
  mono : ∀ C, Cmono C → ∀ σ H (Q Q' : Bool → Z.Heap → Prop), (∀ v H, Q v H → Q' v H) → t C σ H Q → t C σ H Q'
  run : ∀ C, Good L X C → PW X e (liftT L X.K C t)
structure SA (L : Lw) (X : Cx) (es : List Expr) (t : Z.TA) : Prop where
  mono : ∀ C, Cmono C → ∀ σ H (Q Q' : List Z.V → Z.Heap → Prop), (∀ v H, Q v H → Q' v H) → t C σ H Q → t C σ H Q'
  run : ∀ C, Good L X C → PA X es (liftA L X.K C t)
structure SO (L : Lw) (X : Cx) (e : Option Expr) (t : Z.TO) : Prop where
  mono : ∀ C, Cmono C → ∀ σ H (Q Q' : Option Int → Z.Heap → Prop), (∀ v H, Q v H → Q' v H) → t C σ H Q → t C σ H Q'
  run : ∀ C, Good L X C → PO X e (liftO L X.K C t)
structure SG (L : Lw) (X : Cx) (e : Expr) (t : Z.TG) (sl : List Nat) : Prop where
  mono : ∀ C, Cmono C → ∀ v σ H (Q Q' : Z.St → Z.Heap → Prop), (∀ v H, Q v H → Q' v H) → t C v σ H Q → t C v σ H Q'
  run : ∀ C, Good L X C → PG X e (liftG L X.K C t sl)
structure SGs (L : Lw) (X : Cx) (es : List Expr) (t : Z.TGs) (sl : List Nat) : Prop where
  mono : ∀ C, Cmono C → ∀ v σ H (Q Q' : Z.St → Z.Heap → Prop), (∀ v H, Q v H → Q' v H) → t C v σ H Q → t C v σ H Q'
  run : ∀ C, Good L X C → PGs X es (liftGs L X.K C t sl)
structure SS (L : Lw) (X : Cx) (st : Stmt) (t : Z.TS) : Prop where
  mono : ∀ C, Cmono C → ∀ σ H D D', Le D D' → t C D σ H → t C D' σ H
  run : ∀ C, Good L X C → PS X st (liftS L X.K C t)
structure SB (L : Lw) (X : Cx) (st : List Stmt) (t : Z.TS) : Prop where
  mono : ∀ C, Cmono C → ∀ σ H D D', Le D D' → t C D σ H → t C D' σ H
  run : ∀ C, Good L X C → PSs X st (liftS L X.K C t)
section
variable {X : Cx}
theorem impE {e : Expr} {t t' : TE} (h : PE X e t) (i : ∀ σ H Q, t' σ H Q → t σ H Q) : PE X e t' := ⟨fun pins s σ H Q I q => h.run pins s σ H Q I (i σ H Q q)⟩
theorem impT {e : Expr} {t t' : TT} (h : PT X e t) (i : ∀ σ H Q, t' σ H Q → t σ H Q) : PT X e t' := ⟨fun pins s σ H Q I q => h.run pins s σ H Q I (i σ H Q q)⟩
theorem impW {e : Expr} {t t' : TT} (h : PW X e t) (i : ∀ σ H Q, t' σ H Q → t σ H Q) : PW X e t' := ⟨fun wh pins s σ H Q I q => h.run wh pins s σ H Q I (i σ H Q q)⟩
theorem impA {e : List Expr} {t t' : TA} (h : PA X e t) (i : ∀ σ H Q, t' σ H Q → t σ H Q) : PA X e t' := ⟨fun pos pins s σ H Q I q => h.run pos pins s σ H Q I (i σ H Q q)⟩
theorem impG {e : Expr} {t t' : TG} (h : PG X e t) (i : ∀ v σ H Q, t' v σ H Q → t v σ H Q) : PG X e t' := ⟨fun pins s σ H v u Q I r q => h.run pins s σ H v u Q I r (i v σ H Q q)⟩
theorem impGs {e : List Expr} {t t' : TGs} (h : PGs X e t) (i : ∀ v σ H Q, t' v σ H Q → t v σ H Q) : PGs X e t' := ⟨fun pins s σ H v u Q I r q => h.run pins s σ H v u Q I r (i v σ H Q q)⟩
theorem impS {e : Stmt} {t t' : TS} (h : PS X e t) (i : ∀ D σ H, t' D σ H → t D σ H) : PS X e t' := ⟨fun pins s σ H D I q => h.run pins s σ H D I (i D σ H q)⟩
theorem impB {e : List Stmt} {t t' : TS} (h : PSs X e t) (i : ∀ D σ H, t' D σ H → t D σ H) : PSs X e t' := ⟨fun pins s σ H D I q => h.run pins s σ H D I (i D σ H q)⟩
end

/-! ### names, constants -/
section
variable {L : Lw} {X : Cx} {pos : Pos}
theorem s_var (i : Nat) {x : Str} (hN : X.N[i]? = some x := by rfl) (hv : Vis X.env.scope x := by first | exact Or.inl rfl | exact Or.inr (Or.inl rfl) | exact Or.inr (Or.inr rfl))
    (hd : (x == ("__debug__" : Str)) = false := by decide) (hcd : (x == ("__classdict__" : Str)) = false := by decide) : SE L X (.Name x pos) (Z.var i) := by
  refine ⟨fun C _ σ H Q Q' q h => ?_, fun C _ => impE (pe_var hN hv hd hcd) fun σ H Q ⟨σo, Ho, r, h⟩ => ?_⟩
  · unfold Z.var at h ⊢
    split at h
    · exact q _ _ h
    · exact h
  · unfold Z.var at h
    split at h
    · rename_i v e
      exact ⟨_, r.sl i v e, h H r (Gr.refl _ _)⟩
    · exact h.elim
theorem s_cst {v : Z.V} {e : Expr} (h : PE X e (tC (L.v v))) : SE L X e (Z.cst v) :=
  ⟨fun C _ σ H Q Q' q h => q _ _ h, fun C _ => impE h fun σ H Q ⟨σo, Ho, r, q⟩ => q H r (Gr.refl _ _)⟩
theorem s_int {i : Int} {j : Nat} : SE L X (.Constant (.int i) j pos) (Z.cst (.int i)) := s_cst pe_int
theorem s_bl {b : Bool} {j : Nat} : SE L X (.Constant (.bool b) j pos) (Z.cst (.bl b)) := s_cst pe_bl
theorem s_non {j : Nat} : SE L X (.Constant .none j pos) (Z.cst .non) := s_cst pe_non
theorem s_str {x : Str} {j : Nat} (s : List Nat) (h : x = code s := by rfl) : SE L X (.Constant (.str x) j pos) (Z.cst (.str s)) := by
  subst h
  exact s_cst pe_str
/-- a module's own number -/
theorem s_globI {x : Str} {i : Int} {t : Tok} (hg : Gl X x) (hm : X.mg x = some (.int i t)) (hd : (x == ("__debug__" : Str)) = false := by decide) : SE L X (.Name x pos) (Z.cst (.int i)) := s_cst (pe_glob hg hm ⟨t, rfl⟩ hd)
end
end ZS

/-! Z2: operators and comparisons. -/
namespace ZS
open PySem PySem.Spec PyProof.Rows L2
/-- a rule of two values, over the heap of Z0 -/
def lift2 (L : Lw) (K : PySem.W.Frag) (z : Z.V → Z.V → Z.Heap → Z.VK → Prop) : R2 := fun x y H Q => ∃ xo yo Ho, x = L.v xo ∧ y = L.v yo ∧ RH L K Ho H ∧ z xo yo Ho fun v Ho' => ∀ H', RH L K Ho' H' → Gr Ho H Ho' H' → Q (L.v v) H'
/-- .. that makes a truth value -/
def lift2b (L : Lw) (K : PySem.W.Frag) (z : Z.V → Z.V → Z.Heap → (Bool → Prop) → Prop) : R2 := fun x y H Q => ∃ xo yo Ho, x = L.v xo ∧ y = L.v yo ∧ RH L K Ho H ∧ z xo yo Ho fun b => Q (.bl b) H
def oz : Z.Op → Operator
  | .add => .Add
  | .sub => .Sub
  | .mul => .Mult
  | .fdiv => .FloorDiv
  | .mod => .Mod
  | .pow => .Pow
  | .shl => .LShift
  | .shr => .RShift
  | .band => .BitAnd
theorem line_eq : (Z.line : Nat) = sizeLine := by rw [sizeLine_eq]; rfl
theorem vs_len (L : Lw) (xs : List Z.V) : (L.vs xs).length = xs.length := List.length_map ..
theorem vs_app (L : Lw) (xs ys : List Z.V) : L.vs (xs ++ ys) = L.vs xs ++ L.vs ys := List.map_append ..
section
variable {L : Lw} {X : Cx} {K : PySem.W.Frag} {Ho : Z.Heap} {H : Hp}
/-- list + list, where either may be the script -/
theorem op_catS : OpR X (binaryOp .Add) (fun x y H Q => ∃ l b xs zs, x = .ref l ∧ y = .ref b ∧ SqL X.K H l xs ∧ SqL X.K H b zs ∧ xs.length + zs.length ≤ sizeLine ∧ ∀ p, H p = none → Q (.ref p) (upd H p (.lst (xs ++ zs)))) := by
  intro pins s σ H x y v u Q I rx ry h
  obtain ⟨l, b, xs, zs, rfl, rfl, hH, hB, hz, q⟩ := h
  cases rx
  cases ry
  obtain ⟨its, r, ⟨o, n, e, hc, hd, hs⟩, _⟩ := I.list hH
  obtain ⟨its2, r2, ⟨o2, n2, e2, hc2, hd2, hs2⟩, _⟩ := I.list hB
  obtain ⟨cls, d, dt, sl⟩ := o
  obtain ⟨cls2, d2, dt2, sl2⟩ := o2
  simp only at hc hd hs hc2 hd2 hs2
  subst hc hd hs hc2 hd2 hs2
  have l1 := r.length
  have l2 := r2.length
  refine concat_meets ⟨_, e, rfl⟩ ⟨_, e2, rfl⟩ noFill_list_add seq_list_add PySem.F.slot_list_add PySem.F.entry_list_add (PySem.F.args_list_add_2 _ _)
    (list_addW l b its.toArray its2.toArray n n2 none none sl sl2 (by simp only [List.size_toArray]; omega)) ⟨e, e2, ?_⟩
  have ea : its.toArray ++ its2.toArray = (its ++ its2).toArray := by simp
  rw [ea]
  exact ⟨.ref _, _, I.lnew (t' := s.toks) (r.append r2) (by rw [List.length_append]; exact hz), rfl, q _ I.fresh⟩
theorem new_lst {p : Addr} {xs : List Z.V} {Q : VK} {Qo : Z.VK} (h : RH L K Ho H) (hp : H p = none) (hq : Qo (.ref p) (Z.upd Ho p (.lst xs)))
    (k : ∀ v Ho', Qo v Ho' → ∀ H', RH L K Ho' H' → Gr Ho H Ho' H' → Q (L.v v) H') : Q (.ref p) (upd H p (.lst (L.vs xs))) :=
  k _ _ hq _ (h.set upd_same) (Gr.new hp)
theorem new_tup {p : Addr} {xs : List Z.V} {Q : VK} {Qo : Z.VK} (h : RH L K Ho H) (hp : H p = none) (hq : Qo (.ref p) (Z.upd Ho p (.tup xs)))
    (k : ∀ v Ho', Qo v Ho' → ∀ H', RH L K Ho' H' → Gr Ho H Ho' H' → Q (L.v v) H') : Q (.ref p) (upd H p (.tup (L.vs xs))) :=
  k _ _ hq _ (h.set upd_same) (Gr.new hp)

theorem op_bin (o : Z.Op) : OpR X (binaryOp (oz o)) (lift2 L X.K (Z.opr o)) := by
  intro pins s σ H x y v u Q I rx ry h
  obtain ⟨xo, yo, Ho, rfl, rfl, h, q⟩ := h
  have fin : ∀ {w : Z.V}, (∀ H', RH L X.K Ho H' → Gr Ho H Ho H' → Q (L.v w) H') → Q (L.v w) H := fun k => k H h (Gr.refl _ _)
  have list2 : ∀ {a b : Nat} {xs ys : List Z.V}, xo = .ref a → yo = .ref b → Z.litems Ho (.ref a) = some xs → Z.litems Ho (.ref b) = some ys → xs.length + ys.length ≤ Z.line →
      (∀ p, Ho p = none → ∀ H', RH L X.K (Z.upd Ho p (.lst (xs ++ ys))) H' → Gr Ho H (Z.upd Ho p (.lst (xs ++ ys))) H' → Q (L.v (.ref p)) H') → wpAny (model X.prog X.w) X.A (binaryOp .Add v u) (EP X pins σ Q) X.xe s := by
    intro a b xs ys ex ey e1 e2 hz k
    subst ex ey
    obtain ⟨_, z1, s1⟩ := litems_rel h e1
    obtain ⟨_, z2, s2⟩ := litems_rel h e2
    cases z1
    cases z2
    refine op_catS pins s σ H _ _ v u Q I rx ry ⟨a, b, L.vs xs, L.vs ys, rfl, rfl, s1, s2, by rw [vs_len, vs_len, ← line_eq]; exact hz, fun p hp => ?_⟩
    rw [← vs_app]
    exact k p (h.free hp) _ (h.set upd_same) (Gr.new hp)
  cases o with
  | add =>
    cases xo <;> cases yo <;> first
      | exact op_add pins s σ H _ _ v u Q I rx ry ⟨_, _, rfl, rfl, q H h (Gr.refl _ _)⟩
      | exact q.elim
      | skip
    rename_i a b
    rcases q with ⟨xs, ys, e1, e2, hz, k⟩ | ⟨xs, ys, e1, e2, n1, n2, hz, k⟩
    · exact list2 rfl rfl e1 e2 hz k
    · obtain ⟨_, z1, s1⟩ := titems_rel h e1
      obtain ⟨_, z2, s2⟩ := titems_rel h e2
      cases z1
      cases z2
      refine op_catT pins s σ H _ _ v u Q I rx ry ⟨a, b, L.vs xs, L.vs ys, rfl, rfl, s1, s2, fun z => n1 (List.map_eq_nil_iff.mp z), by rw [vs_len, vs_len, ← line_eq]; exact hz, fun z => absurd (List.map_eq_nil_iff.mp z) n2, fun _ p hp => ?_⟩
      rw [← vs_app]
      exact k p (h.free hp) _ (h.set upd_same) (Gr.new hp)
  | sub =>
    cases xo <;> cases yo <;> first
      | exact op_sub pins s σ H _ _ v u Q I rx ry ⟨_, _, rfl, rfl, q H h (Gr.refl _ _)⟩
      | exact q.elim
  | mul =>
    cases xo <;> cases yo <;> first
      | (obtain ⟨⟨n, m, hz, h1, h2⟩, q⟩ := q
         exact op_mulX pins s σ H _ _ v u Q I rx ry ⟨_, _, rfl, rfl, mulx_ok h1 h2 hz, q H h (Gr.refl _ _)⟩)
      | exact q.elim
      | skip
    rename_i a k
    obtain ⟨xs, e, k1, k2, hz, q⟩ := q
    refine op_rep pins s σ H _ _ v u Q I rx ry ⟨a, k, L.vs xs, rfl, rfl, h a _ e, k1, k2, by rw [vs_len, ← line_eq]; exact hz, fun p hp => ?_⟩
    have er : (List.replicate k.toNat (L.vs xs)).flatten = L.vs (List.replicate k.toNat xs).flatten := by
      show _ = List.map L.v _
      rw [List.map_flatten, List.map_replicate]
    rw [er]
    exact q p (h.free hp) _ (h.set upd_same) (Gr.new hp)
  | fdiv =>
    cases xo <;> cases yo <;> first
      | (obtain ⟨h0, h1, q⟩ := q
         exact op_fdivW pins s σ H _ _ v u Q I rx ry ⟨_, _, rfl, rfl, wide_div h0 h1 (by decide) (by decide), q H h (Gr.refl _ _)⟩)
      | exact q.elim
  | mod =>
    cases xo <;> cases yo <;> first
      | (obtain ⟨h0, q⟩ := q
         exact op_mod pins s σ H _ _ v u Q I rx ry ⟨_, _, rfl, rfl, h0, q H h (Gr.refl _ _)⟩)
      | exact q.elim
  | pow =>
    cases xo <;> cases yo <;> first
      | (obtain ⟨h0, ⟨n, h1, h2⟩, q⟩ := q
         refine (opI (C := fun i j => 0 ≤ j ∧ (Builtin.Int.intBits i : Int) * j ≤ 2 ^ 27) (g := fun i j => i ^ j.toNat) fun _ _ _ _ _ _ _ hc q => pow_int hc.1 hc.2 q) pins s σ H _ _ v u Q I rx ry ⟨_, _, rfl, rfl, ⟨h0, ?_⟩, q H h (Gr.refl _ _)⟩
         have b := PyProof.Rows.intBits_le h1
         rename_i i j
         have e2 : (j.toNat : Int) = j := Int.toNat_of_nonneg h0
         have h3 : Builtin.Int.intBits i * j.toNat ≤ 134217728 := Nat.le_trans (Nat.mul_le_mul_right _ b) h2
         have h4 : ((Builtin.Int.intBits i * j.toNat : Nat) : Int) ≤ 134217728 := by omega
         rw [Int.natCast_mul, e2] at h4
         exact h4)
      | exact q.elim
  | shl =>
    cases xo <;> cases yo <;> first
      | (obtain ⟨h0, ⟨n, h1, h2⟩, q⟩ := q
         refine op_shlW pins s σ H _ _ v u Q I rx ry ⟨_, _, rfl, rfl, ⟨h0, ?_⟩, q H h (Gr.refl _ _)⟩
         have b := PyProof.Rows.intBits_le h1
         have e : (2 : Int) ^ 27 = 134217728 := by decide
         rw [e]
         omega)
      | exact q.elim
  | shr =>
    cases xo <;> cases yo <;> first
      | (obtain ⟨h0, q⟩ := q
         exact op_shr pins s σ H _ _ v u Q I rx ry ⟨_, _, rfl, rfl, h0, q H h (Gr.refl _ _)⟩)
      | exact q.elim
  | band =>
    cases xo <;> cases yo <;> try exact q.elim
    obtain ⟨h0, h1, q⟩ := q
    refine op_and pins s σ H _ _ v u Q I rx ry ⟨_, _, rfl, rfl, ?_⟩
    show Q (V.int (Builtin.bitAnd _ _)) H
    rw [bitAnd_pp h0 h1]
    exact q H h (Gr.refl _ _)
end
/-! ### data -/
mutual
def pd : Z.D → PyData
  | .non => .none
  | .bl b => .bool b
  | .int i => .int i
  | .str s => .str (code s)
  | .lst xs => .list (pdL xs)
  | .tup xs => .tuple (pdL xs)
def pdL : List Z.D → List PyData
  | [] => []
  | x :: xs => pd x :: pdL xs
end
mutual
theorem pd_depth : ∀ d : Z.D, (pd d).depth = d.depth
  | .non => rfl
  | .bl _ => rfl
  | .int _ => rfl
  | .str _ => rfl
  | .lst xs => by simp only [pd, PyData.depth, Z.D.depth, pdL_depth xs]
  | .tup xs => by simp only [pd, PyData.depth, Z.D.depth, pdL_depth xs]
theorem pdL_depth : ∀ ds : List Z.D, PyData.depthAll (pdL ds) = Z.D.depthL ds
  | [] => rfl
  | x :: xs => by simp only [pdL, PyData.depthAll, Z.D.depthL, pd_depth x, pdL_depth xs]
end
theorem code_beq (x y : List Nat) : (code x == code y) = (x == y) := by
  have e : code x = code y ↔ x = y := ⟨fun h => by
    have h2 := congrArg (fun z : Str => z.cps.toList) h
    simpa [code] using h2, fun h => by rw [h]⟩
  by_cases h : x = y
  · subst h; simp
  · rw [beq_eq_false_iff_ne.mpr h, beq_eq_false_iff_ne.mpr fun z => h (e.mp z)]
mutual
theorem pd_eqv : ∀ d e : Z.D, PyData.eqv (pd d) (pd e) = Z.D.eqv d e
  | .lst xs, .lst ys => by simp only [pd, PyData.eqv, Z.D.eqv]; exact pdL_eqv xs ys
  | .tup xs, .tup ys => by simp only [pd, PyData.eqv, Z.D.eqv]; exact pdL_eqv xs ys
  | .str x, .str y => by simp only [pd, PyData.eqv, Z.D.eqv]; exact code_beq x y
  | .non, e => by cases e <;> simp only [pd, PyData.eqv, Z.D.eqv]
  | .bl _, e => by cases e <;> simp only [pd, PyData.eqv, Z.D.eqv]
  | .int _, e => by cases e <;> simp only [pd, PyData.eqv, Z.D.eqv]
  | .str _, .non => by simp only [pd, PyData.eqv, Z.D.eqv]
  | .str _, .bl _ => by simp only [pd, PyData.eqv, Z.D.eqv]
  | .str _, .int _ => by simp only [pd, PyData.eqv, Z.D.eqv]
  | .str _, .lst _ => by simp only [pd, PyData.eqv, Z.D.eqv]
  | .str _, .tup _ => by simp only [pd, PyData.eqv, Z.D.eqv]
  | .lst _, .non => by simp only [pd, PyData.eqv, Z.D.eqv]
  | .lst _, .bl _ => by simp only [pd, PyData.eqv, Z.D.eqv]
  | .lst _, .int _ => by simp only [pd, PyData.eqv, Z.D.eqv]
  | .lst _, .str _ => by simp only [pd, PyData.eqv, Z.D.eqv]
  | .lst _, .tup _ => by simp only [pd, PyData.eqv, Z.D.eqv]
  | .tup _, .non => by simp only [pd, PyData.eqv, Z.D.eqv]
  | .tup _, .bl _ => by simp only [pd, PyData.eqv, Z.D.eqv]
  | .tup _, .int _ => by simp only [pd, PyData.eqv, Z.D.eqv]
  | .tup _, .str _ => by simp only [pd, PyData.eqv, Z.D.eqv]
  | .tup _, .lst _ => by simp only [pd, PyData.eqv, Z.D.eqv]
theorem pdL_eqv : ∀ ds es : List Z.D, PyData.eqvAll (pdL ds) (pdL es) = Z.D.eqvL ds es
  | [], [] => rfl
  | [], _ :: _ => rfl
  | _ :: _, [] => rfl
  | x :: xs, y :: ys => by simp only [pdL, PyData.eqvAll, Z.D.eqvL, pd_eqv x y, pdL_eqv xs ys]
end
section
variable {L : Lw} {X : Cx} {K : PySem.W.Frag} {Ho : Z.Heap} {H : Hp}
mutual
theorem rep_dp (h : RH L K Ho H) : ∀ (d : Z.D) (v : Z.V), Z.Rep Ho v d → Dp K H (L.v v) (pd d)
  | .non, _, r => by cases r; exact .non
  | .bl _, _, r => by cases r; exact .bl _
  | .int _, _, r => by cases r; exact .int _
  | .str _, _, r => by cases r; exact .str _
  | .lst ds, _, r => by
    cases r with
    | lst e q =>
      obtain ⟨_, z, s⟩ := litems_rel h e
      cases z
      exact .lst s (repL_dp h ds _ q)
  | .tup ds, _, r => by
    cases r with
    | tup e q =>
      obtain ⟨_, z, s⟩ := titems_rel h e
      cases z
      exact .tup s (repL_dp h ds _ q)
theorem repL_dp (h : RH L K Ho H) : ∀ (ds : List Z.D) (vs : List Z.V), Z.RepL Ho vs ds → DpAll K H (L.vs vs) (pdL ds)
  | [], _, r => by cases r; exact .nil
  | d :: ds, _, r => by
    cases r with
    | cons q1 q2 => exact .cons (rep_dp h d _ q1) (repL_dp h ds _ q2)
end
mutual
theorem rep_lay : ∀ (d : Z.D) (v : Z.V), Z.Rep Ho v d → (pd d).canLay0 = true
  | .non, _, _ => rfl
  | .bl _, _, _ => rfl
  | .int _, _, _ => rfl
  | .str s, _, r => by
    cases r with
    | str _ q =>
      show PyData.strOk (code s) = true
      unfold PyData.strOk code
      simp only [List.all_eq_true, decide_eq_true_eq] at q
      simp only [Array.all_eq_true, decide_eq_true_eq]
      intro i hi
      exact q _ (by simp)
  | .lst ds, _, r => by
    cases r with
    | lst _ q => exact repL_lay ds _ q
  | .tup ds, _, r => by
    cases r with
    | tup _ q => exact repL_lay ds _ q
theorem repL_lay : ∀ (ds : List Z.D) (vs : List Z.V), Z.RepL Ho vs ds → PyData.canLayAll0 (pdL ds) = true
  | [], _, _ => rfl
  | d :: ds, _, r => by
    cases r with
    | cons q1 q2 =>
      show ((pd d).canLay0 && PyData.canLayAll0 (pdL ds)) = true
      rw [rep_lay d _ q1, repL_lay ds _ q2]
      rfl
end
theorem rep_shaped {d : Z.D} {v : Z.V} (r : Z.Rep Ho v d) (h : d.depth ≤ 64) : SeqAt.shaped (pd d) = true := by
  show ((pd d).canLay0 && decide ((pd d).depth ≤ 64)) = true
  rw [rep_lay d v r, pd_depth, decide_eq_true h]
  rfl
end
def cz : Z.Cm → CmpOp
  | .eq => .Eq
  | .ne => .NotEq
  | .lt => .Lt
  | .le => .LtE
  | .gt => .Gt
  | .ge => .GtE
  | .is => .Is
  | .isnot => .IsNot
  | .isin => .In
  | .notin => .NotIn
theorem flat_rel (L : Lw) {x : Z.V} (h : Z.flatV x = true) : flatV (L.v x) = true := by
  cases x <;> first | rfl | cases h
theorem eqF_rel (L : Lw) {x y : Z.V} (hx : Z.flatV x = true) (hy : Z.flatV y = true) : eqV (L.v x) (L.v y) = Z.eqF x y := by
  cases x <;> try cases hx
  all_goals (cases y <;> first | rfl | (exact code_beq _ _))
theorem inF_rel (L : Lw) {x : Z.V} (hx : Z.flatV x = true) : ∀ xs : List Z.V, xs.all Z.flatV = true → (L.vs xs).all flatV = true ∧ inV (L.v x) (L.vs xs) = Z.inF x xs
  | [], _ => ⟨rfl, rfl⟩
  | y :: r, h => by
    have h2 : Z.flatV y = true ∧ r.all Z.flatV = true := by simpa using h
    obtain ⟨i1, i2⟩ := inF_rel L hx r h2.2
    refine ⟨?_, ?_⟩
    · show (flatV (L.v y) && (L.vs r).all flatV) = true
      rw [flat_rel L h2.1, i1]
      rfl
    · show (eqV (L.v y) (L.v x) || inV (L.v x) (L.vs r)) = (Z.eqF y x || Z.inF x r)
      rw [eqF_rel L h2.1 hx, i2]
section
variable {L : Lw} {X : Cx} {K : PySem.W.Frag} {Ho : Z.Heap} {H : Hp}
theorem hk_inj {j k : Z.Hk} : hk j = hk k ↔ j = k := by
  constructor
  · intro h
    cases j with
    | inl a =>
      cases k with
      | inl b => exact congrArg _ (Sum.inl.inj h)
      | inr b => exact nomatch h
    | inr a =>
      cases k with
      | inl b => exact nomatch h
      | inr b =>
        have h2 := congrArg (fun z : Str => z.cps.toList) (Sum.inr.inj h)
        have h3 : a = b := by simpa [code] using h2
        rw [h3]
  · intro h
    rw [h]
theorem hks_inj : ∀ {j k : List Z.Hk}, j.map hk = k.map hk ↔ j = k
  | [], [] => ⟨fun _ => rfl, fun _ => rfl⟩
  | [], _ :: _ => ⟨fun h => (nomatch h), fun h => (nomatch h)⟩
  | _ :: _, [] => ⟨fun h => (nomatch h), fun h => (nomatch h)⟩
  | a :: j, b :: k => by
    constructor
    · intro h
      have h1 : hk a = hk b ∧ j.map hk = k.map hk := by simpa using h
      rw [hk_inj.mp h1.1, hks_inj.mp h1.2]
    · intro h
      rw [h]
theorem look_rel {κ κ' : Type} [DecidableEq κ] [DecidableEq κ'] {f : κ → κ'} (hf : ∀ j k, f j = f k ↔ j = k) (k : κ) : ∀ kvs : List (κ × Z.V), valV (kvs.map fun p => (f p.1, L.v p.2)) (f k) = (Z.look k kvs).map L.v
  | [] => rfl
  | (j, v) :: r => by
    rw [List.map_cons]
    unfold Z.look
    by_cases h : j = k
    · subst h
      rw [valV_pos rfl, if_pos rfl]
      rfl
    · rw [if_neg h, ← look_rel hf k r]
      unfold valV
      rw [List.find?_cons_of_neg (by simpa using fun z => h ((hf j k).mp z))]
theorem hkOf_rel {y : Z.V} {k : Z.Hk} (h : Z.hkOf y = some k) : L.v y = kV (hk k) := by
  cases y <;> cases h <;> rfl
theorem hksOf_rel : ∀ {ys : List Z.V} {k : List Z.Hk}, Z.hksOf ys = some k → L.vs ys = (k.map hk).map kV
  | [], k, h => by cases h; rfl
  | y :: r, k, h => by
    unfold Z.hksOf at h
    split at h
    · rename_i a b e1 e2
      cases h
      show L.v y :: L.vs r = kV (hk a) :: (b.map hk).map kV
      rw [hkOf_rel e1, hksOf_rel e2]
    · cases h
theorem dget_rel {x y : Z.V} {r : Option Z.V} (h : RH L K Ho H) (g : Z.dget Ho x y r) : ∃ a, x = .ref a ∧ DGet H a (L.v y) (r.map L.v) := by
  rcases g with ⟨a, kvs, k, rfl, e, hk', rfl⟩ | ⟨a, kvs, b, ys, k, rfl, e, rfl, eb, hk', rfl⟩
  · refine ⟨a, rfl, ?_⟩
    rw [hkOf_rel hk', ← look_rel (fun _ _ => hk_inj) k kvs]
    exact DGet.k (h a _ e)
  · refine ⟨a, rfl, ?_⟩
    rw [← look_rel (fun _ _ => hks_inj) k kvs]
    have q := h b _ eb
    refine DGet.t (b := b) (h a _ e) ?_
    rw [show H b = _ from q, hksOf_rel hk']
theorem putKv_rel {κ κ' : Type} [DecidableEq κ] [DecidableEq κ'] {f : κ → κ'} (hf : ∀ j k, f j = f k ↔ j = k) (k : κ) (v : Z.V) (kvs : List (κ × Z.V)) (nd : (kvs.map (·.1)).Nodup) :
    putK (kvs.map fun p => (f p.1, L.v p.2)) (f k) (L.v v) = (Z.putKv k v kvs).map fun p => (f p.1, L.v p.2) := by
  induction kvs with
  | nil => rfl
  | cons p r ih =>
    obtain ⟨j, w⟩ := p
    have nd2 : j ∉ r.map (·.1) ∧ (r.map (·.1)).Nodup := List.nodup_cons.mp nd
    unfold Z.putKv
    by_cases h : j = k
    · subst h
      rw [if_pos rfl]
      unfold putK
      have hm : (List.map (fun kv => if kv.1 = f j then (kv.1, L.v v) else kv) (r.map fun p => (f p.1, L.v p.2))) = r.map fun p => (f p.1, L.v p.2) := by
        rw [List.map_map]
        refine List.map_congr_left fun q hq => ?_
        have : ¬ f q.1 = f j := fun z => nd2.1 (by rw [← (hf _ _).mp z]; exact List.mem_map_of_mem hq)
        simp [this]
      simp only [List.map_cons, List.any_cons, decide_true, Bool.true_or, if_true]
      rw [hm]
    · rw [if_neg h]
      have h' : ¬ f j = f k := fun z => h ((hf _ _).mp z)
      have ih2 := ih nd2.2
      unfold putK at ih2 ⊢
      simp only [List.map_cons, List.any_cons, decide_eq_false h', Bool.false_or, if_neg h', List.cons_append]
      split
      · rename_i c
        rw [if_pos c] at ih2
        rw [ih2]
      · rename_i c
        rw [if_neg c] at ih2
        rw [ih2]
theorem pdL_any (d : Z.D) : ∀ ds : List Z.D, ((pdL ds).any fun z => PyData.eqv z (pd d)) = ds.any fun z => Z.D.eqv z d
  | [] => rfl
  | x :: r => by
    show (PyData.eqv (pd x) (pd d) || (pdL r).any _) = (Z.D.eqv x d || r.any _)
    rw [pd_eqv, pdL_any d r]
theorem op_cmp (hu0 : X.A.units + 130 < cLine) (o : Z.Cm) : OpR X (compareOp (cz o)) (lift2b L X.K (Z.cmpr o)) := by
  intro pins s σ H x y v u Q I rx ry h
  have hu : X.A.units + 64 < cLine := by omega
  obtain ⟨xo, yo, Ho, rfl, rfl, h, q⟩ := h
  have data : ∀ {F : Bool → Prop}, Z.eqD xo yo Ho F → ∃ d e, Dp X.K H (L.v xo) d ∧ Dp X.K H (L.v yo) e ∧ SeqAt.shaped d = true ∧ SeqAt.shaped e = true ∧ F (PyData.eqv d e) := by
    rintro F ⟨d, e, rd, re, d1, d2, q⟩
    exact ⟨pd d, pd e, rep_dp h d _ rd, rep_dp h e _ re, rep_shaped rd d1, rep_shaped re d2, by rw [pd_eqv]; exact q⟩
  cases o with
  | eq =>
    obtain ⟨d, e, q1, q2, q3, q4, q⟩ := data (F := fun b => Q (.bl b) H) (by cases xo <;> cases yo <;> exact q)
    exact op_eqD hu pins s σ H _ _ v u Q I rx ry ⟨d, e, q1, q2, q3, q4, q⟩
  | ne =>
    obtain ⟨d, e, q1, q2, q3, q4, q⟩ := data (F := fun b => Q (.bl (!b)) H) (by cases xo <;> cases yo <;> exact q)
    exact op_neD hu pins s σ H _ _ v u Q I rx ry ⟨d, e, q1, q2, q3, q4, q⟩
  | lt =>
    cases xo <;> cases yo <;> first
      | exact op_lt pins s σ H _ _ v u Q I rx ry ⟨_, _, rfl, rfl, q⟩
      | exact q.elim
      | skip
    obtain ⟨ns, ms, e1, e2, q⟩ := q
    obtain ⟨_, z1, s1⟩ := titems_rel h e1
    obtain ⟨_, z2, s2⟩ := titems_rel h e2
    cases z1
    cases z2
    have em : ∀ zs : List Int, L.vs (zs.map Z.V.int) = zs.map V.int := fun zs => by
      rw [Lw.vs, List.map_map]
      rfl
    have el : ∀ zs ws : List Int, HT.lexLt zs ws = Z.lexLt zs ws := by
      intro zs
      induction zs with
      | nil => intro ws; cases ws <;> rfl
      | cons z zs ih =>
        intro ws
        cases ws with
        | nil => rfl
        | cons w ws =>
          show (if z = w then HT.lexLt zs ws else decide (z < w)) = (if z = w then Z.lexLt zs ws else decide (z < w))
          rw [ih]
    rw [em] at s1 s2
    exact op_ltT (by omega) pins s σ H _ _ v u Q I rx ry ⟨_, _, ns, ms, rfl, rfl, s1, s2, by rw [el]; exact q⟩
  | le =>
    cases xo <;> cases yo <;> first
      | exact op_le pins s σ H _ _ v u Q I rx ry ⟨_, _, rfl, rfl, q⟩
      | exact q.elim
  | gt =>
    cases xo <;> cases yo <;> first
      | exact op_gt pins s σ H _ _ v u Q I rx ry ⟨_, _, rfl, rfl, q⟩
      | exact q.elim
  | ge =>
    cases xo <;> cases yo <;> first
      | exact op_ge pins s σ H _ _ v u Q I rx ry ⟨_, _, rfl, rfl, q⟩
      | exact q.elim
  | is =>
    cases yo with
    | non =>
      refine op_isN pins s σ H _ _ v u Q I rx ry ⟨rfl, ?_⟩
      have e : decide (L.v xo = V.non) = decide (xo = Z.V.non) := by cases xo <;> rfl
      rw [e]
      exact q
    | bl b =>
      cases xo <;> first
        | (refine op_isBl pins s σ H _ _ v u Q I rx ry ⟨_, _, rfl, rfl, ?_⟩
           rw [← Bool.beq_eq_decide_eq]
           exact q)
        | exact q.elim
    | int _ => cases xo <;> exact q.elim
    | str _ => cases xo <;> exact q.elim
    | ref _ => cases xo <;> exact q.elim
    | fn _ => cases xo <;> exact q.elim
    | cls _ => cases xo <;> exact q.elim
    | ty _ => cases xo <;> exact q.elim
  | isnot =>
    cases yo with
    | non =>
      refine op_notN pins s σ H _ _ v u Q I rx ry ⟨rfl, ?_⟩
      have e : decide (L.v xo = V.non) = decide (xo = Z.V.non) := by cases xo <;> rfl
      rw [e]
      exact q
    | bl b =>
      cases xo <;> first
        | (refine op_notBl pins s σ H _ _ v u Q I rx ry ⟨_, _, rfl, rfl, ?_⟩
           rw [← Bool.beq_eq_decide_eq]
           exact q)
        | exact q.elim
    | int _ => cases xo <;> exact q.elim
    | str _ => cases xo <;> exact q.elim
    | ref _ => cases xo <;> exact q.elim
    | fn _ => cases xo <;> exact q.elim
    | cls _ => cases xo <;> exact q.elim
    | ty _ => cases xo <;> exact q.elim
  | isin =>
    cases yo with
    | ref b =>
      rcases q with ⟨xs, e, f1, f2, q⟩ | ⟨r, g, q⟩ | ⟨d, ds, rd, re, d1, d2, q⟩
      · obtain ⟨_, z, sq⟩ := items_rel h e
        cases z
        obtain ⟨g1, g2⟩ := inF_rel L f1 xs f2
        refine op_in_seq pins s σ H _ _ v u Q I rx ry ⟨b, L.vs xs, rfl, sq, flat_rel L f1, g1, ?_⟩
        rw [g2]
        exact q
      · obtain ⟨_, z, g⟩ := dget_rel h g
        cases z
        obtain rfl : u = Value.ref b := ry
        refine d_in (by omega) I g rx fun s2 I2 => ⟨.bl _, H, I2, rfl, ?_⟩
        have e : (r.map L.v).isSome = r.isSome := by cases r <;> rfl
        rw [e]
        exact q
      · refine op_inD (by omega) pins s σ H _ _ v u Q I rx ry ⟨pd d, pdL ds, rep_dp h d _ rd, rep_dp h (.lst ds) _ re, rep_shaped rd d1, rep_shaped re d2, ?_⟩
        rw [pdL_any]
        exact q
    | _ => exact q.elim
  | notin =>
    cases yo with
    | ref b =>
      rcases q with ⟨xs, e, f1, f2, q⟩ | ⟨r, g, q⟩ | ⟨d, ds, rd, re, d1, d2, q⟩
      · obtain ⟨_, z, sq⟩ := items_rel h e
        cases z
        obtain ⟨g1, g2⟩ := inF_rel L f1 xs f2
        refine op_notIn_seq pins s σ H _ _ v u Q I rx ry ⟨b, L.vs xs, rfl, sq, flat_rel L f1, g1, ?_⟩
        rw [g2]
        exact q
      · obtain ⟨_, z, g⟩ := dget_rel h g
        cases z
        obtain rfl : u = Value.ref b := ry
        refine d_notIn (by omega) I g rx fun s2 I2 => ⟨.bl _, H, I2, rfl, ?_⟩
        have e : (r.map L.v).isSome = r.isSome := by cases r <;> rfl
        rw [e]
        exact q
      · refine op_notInD (by omega) pins s σ H _ _ v u Q I rx ry ⟨pd d, pdL ds, rep_dp h d _ rd, rep_dp h (.lst ds) _ re, rep_shaped rd d1, rep_shaped re d2, ?_⟩
        rw [pdL_any]
        exact q
    | _ => exact q.elim
end
end ZS

/-! Z3: expressions, tests. -/
namespace ZS
open PySem PySem.Spec PyProof.Rows L2
section
variable {L : Lw} {X : Cx} {a b c e : Expr} {ta tb tc : Z.TE} {pos : Pos}
theorem opr_mono (o : Z.Op) (x y : Z.V) (H : Z.Heap) (Q Q' : Z.VK) (q : ∀ v H, Q v H → Q' v H) (h : Z.opr o x y H Q) : Z.opr o x y H Q' := by
  cases o with
  | add =>
    cases x <;> cases y <;> first
      | exact q _ _ h
      | exact h.elim
      | (rcases h with ⟨xs, ys, e1, e2, z, k⟩ | ⟨xs, ys, e1, e2, n1, n2, z, k⟩
         · exact .inl ⟨xs, ys, e1, e2, z, fun p hp => q _ _ (k p hp)⟩
         · exact .inr ⟨xs, ys, e1, e2, n1, n2, z, fun p hp => q _ _ (k p hp)⟩)
  | mul =>
    cases x <;> cases y <;> first
      | exact ⟨h.1, q _ _ h.2⟩
      | exact h.elim
      | (obtain ⟨xs, e, z1, z2, z3, k⟩ := h
         exact ⟨xs, e, z1, z2, z3, fun p hp => q _ _ (k p hp)⟩)
  | sub => cases x <;> cases y <;> first | exact q _ _ h | exact h.elim
  | fdiv => cases x <;> cases y <;> first | exact ⟨h.1, h.2.1, q _ _ h.2.2⟩ | exact h.elim
  | mod => cases x <;> cases y <;> first | exact ⟨h.1, q _ _ h.2⟩ | exact h.elim
  | pow => cases x <;> cases y <;> first | exact ⟨h.1, h.2.1, q _ _ h.2.2⟩ | exact h.elim
  | shl => cases x <;> cases y <;> first | exact ⟨h.1, h.2.1, q _ _ h.2.2⟩ | exact h.elim
  | shr => cases x <;> cases y <;> first | exact ⟨h.1, q _ _ h.2⟩ | exact h.elim
  | band => cases x <;> cases y <;> first | exact ⟨h.1, h.2.1, q _ _ h.2.2⟩ | exact h.elim
theorem eqD_mono {x y : Z.V} {H : Z.Heap} {Q Q' : Bool → Prop} (q : ∀ b, Q b → Q' b) (h : Z.eqD x y H Q) : Z.eqD x y H Q' := by
  obtain ⟨d, e, r1, r2, d1, d2, h⟩ := h
  exact ⟨d, e, r1, r2, d1, d2, q _ h⟩
theorem cmpr_mono (o : Z.Cm) (x y : Z.V) (H : Z.Heap) (Q Q' : Bool → Prop) (q : ∀ b, Q b → Q' b) (h : Z.cmpr o x y H Q) : Z.cmpr o x y H Q' := by
  cases o with
  | eq => cases x <;> cases y <;> exact eqD_mono q h
  | ne => cases x <;> cases y <;> exact eqD_mono (fun b => q (!b)) h
  | lt =>
    cases x <;> cases y <;> first
      | exact q _ h
      | exact h.elim
      | (obtain ⟨ns, ms, e1, e2, h⟩ := h
         exact ⟨ns, ms, e1, e2, q _ h⟩)
  | le => cases x <;> cases y <;> first | exact q _ h | exact h.elim
  | gt => cases x <;> cases y <;> first | exact q _ h | exact h.elim
  | ge => cases x <;> cases y <;> first | exact q _ h | exact h.elim
  | is => cases y <;> first | exact q _ h | (cases x <;> first | exact q _ h | exact h.elim)
  | isnot => cases y <;> first | exact q _ h | (cases x <;> first | exact q _ h | exact h.elim)
  | isin =>
    cases y <;> first
      | exact h.elim
      | (rcases h with ⟨xs, e, f1, f2, h⟩ | ⟨r, g, h⟩ | h
         · exact .inl ⟨xs, e, f1, f2, q _ h⟩
         · exact .inr (.inl ⟨r, g, q _ h⟩)
         · obtain ⟨d, ds, h1, h2, h3, h4, h5⟩ := h
           exact .inr (.inr ⟨d, ds, h1, h2, h3, h4, q _ h5⟩))
  | notin =>
    cases y <;> first
      | exact h.elim
      | (rcases h with ⟨xs, e, f1, f2, h⟩ | ⟨r, g, h⟩ | h
         · exact .inl ⟨xs, e, f1, f2, q _ h⟩
         · exact .inr (.inl ⟨r, g, q _ h⟩)
         · obtain ⟨d, ds, h1, h2, h3, h4, h5⟩ := h
           exact .inr (.inr ⟨d, ds, h1, h2, h3, h4, q _ h5⟩))

/-! ### operators -/
theorem s_bin (o : Z.Op) (ha : SE L X a ta) (hb : SE L X b tb) : SE L X (.BinOp a (oz o) b pos) (Z.bin o ta tb) := by
  refine ⟨fun C m σ H Q Q' q h => ha.mono C m _ _ _ _ (fun x H1 h1 => hb.mono C m _ _ _ _ (fun y H2 h2 => opr_mono o x y H2 Q Q' q h2) h1) h, fun C g => ?_⟩
  refine impE (pe_op (op_bin (L := L) o) (ha.run C g) (hb.run C g)) fun σ H Q ⟨σo, Ho, r, h⟩ => ?_
  refine ⟨σo, Ho, r, ha.mono C g.mono _ _ _ _ (fun x Ho1 h1 H1 r1 g1 => ?_) h⟩
  refine ⟨σo, Ho1, r1, hb.mono C g.mono _ _ _ _ (fun y Ho2 h2 H2 r2 g2 => ?_) h1⟩
  refine ⟨x, y, Ho2, rfl, rfl, r2.hp, opr_mono o x y Ho2 _ _ (fun v Ho3 h3 H3 r3 g3 => h3 H3 (r2.heap r3 g3) (g1.trans (g2.trans g3))) h2⟩
theorem s_neg (ha : SE L X a ta) : SE L X (.UnaryOp .USub a pos) (Z.neg ta) := by
  refine ⟨fun C m σ H Q Q' q h => ha.mono C m _ _ _ _ (fun x H1 h1 => ?_) h, fun C g => ?_⟩
  · cases x <;> first | exact q _ _ h1 | exact h1.elim
  · refine impE (pe_un un_neg (ha.run C g)) fun σ H Q ⟨σo, Ho, r, h⟩ => ?_
    refine ⟨σo, Ho, r, ha.mono C g.mono _ _ _ _ (fun x Ho1 h1 H1 r1 g1 => ?_) h⟩
    cases x <;> first
      | exact ⟨_, rfl, h1 H1 r1 g1⟩
      | exact h1.elim
theorem s_cmp (o : Z.Cm) (ha : SE L X a ta) (hb : SE L X b tb) (hm : behindInMarks (cz o) b = false := by first | exact nomark _ | rfl | (with_unfolding_all rfl)) : SE L X (.Compare a [cz o] [b] pos) (Z.cmp o ta tb) := by
  refine ⟨fun C m σ H Q Q' q h => ha.mono C m _ _ _ _ (fun x H1 h1 => hb.mono C m _ _ _ _ (fun y H2 h2 => cmpr_mono o x y H2 _ _ (fun k => q _ _) h2) h1) h, fun C g => ?_⟩
  refine impE (pe_cmpR (op_cmp (L := L) g.units o) (ha.run C g) (hb.run C g) hm) fun σ H Q ⟨σo, Ho, r, h⟩ => ?_
  refine ⟨σo, Ho, r, ha.mono C g.mono _ _ _ _ (fun x Ho1 h1 H1 r1 g1 => ?_) h⟩
  refine ⟨σo, Ho1, r1, hb.mono C g.mono _ _ _ _ (fun y Ho2 h2 H2 r2 g2 => ?_) h1⟩
  exact ⟨x, y, Ho2, rfl, rfl, r2.hp, cmpr_mono o x y Ho2 _ _ (fun k h3 => h3 H2 r2 (g1.trans g2)) h2⟩
theorem s_tcmp (o : Z.Cm) (ha : SE L X a ta) (hb : SE L X b tb) (hm : behindInMarks (cz o) b = false := by first | exact nomark _ | rfl | (with_unfolding_all rfl)) : ST L X (.Compare a [cz o] [b] pos) (Z.tt (Z.cmp o ta tb)) := by
  have se := s_cmp (pos := pos) o ha hb hm
  refine ⟨fun C m σ H Q Q' q h => se.mono C m _ _ _ _ (fun x H1 ⟨k, e, h1⟩ => ⟨k, e, q _ _ h1⟩) h, fun C g => ?_⟩
  refine impT (pt_cmpR (op_cmp (L := L) g.units o) (ha.run C g) (hb.run C g) hm) fun σ H Q ⟨σo, Ho, r, h⟩ => ?_
  refine ⟨σo, Ho, r, ha.mono C g.mono _ _ _ _ (fun x Ho1 h1 H1 r1 g1 => ?_) h⟩
  refine ⟨σo, Ho1, r1, hb.mono C g.mono _ _ _ _ (fun y Ho2 h2 H2 r2 g2 => ?_) h1⟩
  refine ⟨x, y, Ho2, rfl, rfl, r2.hp, cmpr_mono o x y Ho2 _ _ (fun k h3 => ?_) h2⟩
  obtain ⟨k2, e, h3⟩ := h3
  cases e
  exact ⟨k, rfl, h3 H2 r2 (g1.trans g2)⟩
theorem chain_mono (o o' : Z.Cm) (ha : SE L X a ta) (hb : SE L X b tb) (hc : SE L X c tc) : ∀ C, Cmono C → ∀ σ H (Q Q' : Z.VK), (∀ v H, Q v H → Q' v H) → Z.chain o o' ta tb tc C σ H Q → Z.chain o o' ta tb tc C σ H Q' := by
  intro C m σ H Q Q' q h
  refine ha.mono C m _ _ _ _ (fun x H1 h1 => hb.mono C m _ _ _ _ (fun y H2 h2 => cmpr_mono o x y H2 _ _ (fun k h3 => ?_) h2) h1) h
  cases k with
  | true => exact hc.mono C m _ _ _ _ (fun z H3 h4 => cmpr_mono o' y z H3 _ _ (fun l => q _ _) h4) h3
  | false => exact q _ _ h3
theorem s_chain (o o' : Z.Cm) (ha : SE L X a ta) (hb : SE L X b tb) (hc : SE L X c tc) (hm : lastMarks [cz o, cz o'] [b, c] = false := by with_unfolding_all rfl) : SE L X (.Compare a [cz o, cz o'] [b, c] pos) (Z.chain o o' ta tb tc) := by
  refine ⟨chain_mono o o' ha hb hc, fun C g => ?_⟩
  refine impE (pe_chain (op_cmp (L := L) g.units o) (op_cmp (L := L) g.units o') (ha.run C g) (hb.run C g) (hc.run C g) hm) fun σ H Q ⟨σo, Ho, r, h⟩ => ?_
  refine ⟨σo, Ho, r, ha.mono C g.mono _ _ _ _ (fun x Ho1 h1 H1 r1 g1 => ?_) h⟩
  refine ⟨σo, Ho1, r1, hb.mono C g.mono _ _ _ _ (fun y Ho2 h2 H2 r2 g2 => ?_) h1⟩
  refine ⟨x, y, Ho2, rfl, rfl, r2.hp, cmpr_mono o x y Ho2 _ _ (fun k h3 => ⟨k, rfl, ?_⟩) h2⟩
  cases k with
  | true =>
    refine iteT ⟨σo, Ho2, r2, hc.mono C g.mono _ _ _ _ (fun z Ho3 h4 H3 r3 g3 => ?_) h3⟩
    exact ⟨y, z, Ho3, rfl, rfl, r3.hp, cmpr_mono o' y z Ho3 _ _ (fun l h5 => h5 H3 r3 (g1.trans (g2.trans g3))) h4⟩
  | false => exact iteF (h3 H2 r2 (g1.trans g2))
theorem s_tchain (o o' : Z.Cm) (ha : SE L X a ta) (hb : SE L X b tb) (hc : SE L X c tc) (hm : lastMarks [cz o, cz o'] [b, c] = false := by with_unfolding_all rfl) : ST L X (.Compare a [cz o, cz o'] [b, c] pos) (Z.tt (Z.chain o o' ta tb tc)) := by
  refine ⟨fun C m σ H Q Q' q h => chain_mono o o' ha hb hc C m _ _ _ _ (fun x H1 ⟨k, e, h1⟩ => ⟨k, e, q _ _ h1⟩) h, fun C g => ?_⟩
  refine impT (pt_chain (op_cmp (L := L) g.units o) (op_cmp (L := L) g.units o') (ha.run C g) (hb.run C g) (hc.run C g) hm) fun σ H Q ⟨σo, Ho, r, h⟩ => ?_
  refine ⟨σo, Ho, r, ha.mono C g.mono _ _ _ _ (fun x Ho1 h1 H1 r1 g1 => ?_) h⟩
  refine ⟨σo, Ho1, r1, hb.mono C g.mono _ _ _ _ (fun y Ho2 h2 H2 r2 g2 => ?_) h1⟩
  refine ⟨x, y, Ho2, rfl, rfl, r2.hp, cmpr_mono o x y Ho2 _ _ (fun k h3 => ⟨k, rfl, ?_⟩) h2⟩
  cases k with
  | true =>
    refine iteT ⟨σo, Ho2, r2, hc.mono C g.mono _ _ _ _ (fun z Ho3 h4 H3 r3 g3 => ?_) h3⟩
    refine ⟨y, z, Ho3, rfl, rfl, r3.hp, cmpr_mono o' y z Ho3 _ _ (fun l h5 => ?_) h4⟩
    obtain ⟨l2, e, h5⟩ := h5
    cases e
    exact ⟨l, rfl, h5 H3 r3 (g1.trans (g2.trans g3))⟩
  | false =>
    obtain ⟨l2, e, h3⟩ := h3
    cases e
    exact iteF ⟨false, rfl, h3 H2 r2 (g1.trans g2)⟩

/-! ### tests -/
/-- any expression as a test -/
theorem s_tt (ha : SE L X a ta) (he : ∀ whole, isTrue a X.env whole = (do let v ← whole; standAt a.pos; holding [v] (truthy v)) := by intro _; rfl) : ST L X a (Z.tt ta) := by
  refine ⟨fun C m σ H Q Q' q h => ha.mono C m _ _ _ _ (fun x H1 ⟨k, e, h1⟩ => ⟨k, e, q _ _ h1⟩) h, fun C g => ?_⟩
  refine impT (pt_truth (ha.run C g) he) fun σ H Q ⟨σo, Ho, r, h⟩ => ?_
  refine ⟨σo, Ho, r, ha.mono C g.mono _ _ _ _ (fun x Ho1 h1 H1 r1 g1 => ?_) h⟩
  obtain ⟨k, e, h2⟩ := h1
  exact ⟨k, truth_rel r1.hp e, h2 H1 r1 g1⟩
variable {t u : Z.TT} {rest : List Expr}
theorem s_and1 (ha : ST L X a t) : SW L X (.BoolOp .And [a] pos) t := ⟨ha.mono, fun C g => pw_and1 (ha.run C g)⟩
theorem s_or1 (ha : ST L X a t) : SW L X (.BoolOp .Or [a] pos) t := ⟨ha.mono, fun C g => pw_or1 (ha.run C g)⟩
theorem s_and (ha : ST L X a t) (hb : SW L X (.BoolOp .And (b :: rest) pos) u) : SW L X (.BoolOp .And (a :: b :: rest) pos) (Z.tand t u) := by
  refine ⟨fun C m σ H Q Q' q h => ha.mono C m _ _ _ _ (fun k H1 h1 => ?_) h, fun C g => ?_⟩
  · cases k with
    | true => exact hb.mono C m _ _ _ _ q h1
    | false => exact q _ _ h1
  · refine impW (pw_and (ha.run C g) (hb.run C g)) fun σ H Q ⟨σo, Ho, r, h⟩ => ?_
    refine ⟨σo, Ho, r, ha.mono C g.mono _ _ _ _ (fun k Ho1 h1 H1 r1 g1 => ?_) h⟩
    cases k with
    | true => exact iteT ⟨σo, Ho1, r1, hb.mono C g.mono _ _ _ _ (fun l Ho2 h2 H2 r2 g2 => h2 H2 r2 (g1.trans g2)) h1⟩
    | false => exact iteF (h1 H1 r1 g1)
theorem s_or (ha : ST L X a t) (hb : SW L X (.BoolOp .Or (b :: rest) pos) u) : SW L X (.BoolOp .Or (a :: b :: rest) pos) (Z.tor t u) := by
  refine ⟨fun C m σ H Q Q' q h => ha.mono C m _ _ _ _ (fun k H1 h1 => ?_) h, fun C g => ?_⟩
  · cases k with
    | true => exact q _ _ h1
    | false => exact hb.mono C m _ _ _ _ q h1
  · refine impW (pw_or (ha.run C g) (hb.run C g)) fun σ H Q ⟨σo, Ho, r, h⟩ => ?_
    refine ⟨σo, Ho, r, ha.mono C g.mono _ _ _ _ (fun k Ho1 h1 H1 r1 g1 => ?_) h⟩
    cases k with
    | true => exact iteT (h1 H1 r1 g1)
    | false => exact iteF ⟨σo, Ho1, r1, hb.mono C g.mono _ _ _ _ (fun l Ho2 h2 H2 r2 g2 => h2 H2 r2 (g1.trans g2)) h1⟩
theorem s_tw (h : SW L X a t) : ST L X a t := ⟨h.mono, fun C g => (h.run C g).pt⟩
theorem s_not (ha : ST L X a t) : ST L X (.UnaryOp .Not a pos) (Z.tnot t) := by
  refine ⟨fun C m σ H Q Q' q h => ha.mono C m _ _ _ _ (fun k H1 h1 => q _ _ h1) h, fun C g => ?_⟩
  refine impT (pt_not (ha.run C g)) fun σ H Q ⟨σo, Ho, r, h⟩ => ?_
  exact ⟨σo, Ho, r, h⟩

/-! ### by truth, as values -/
theorem s_ife (hc : ST L X c t) (ha : SE L X a ta) (hb : SE L X b tb) : SE L X (.IfExp c a b pos) (Z.ife t ta tb) := by
  refine ⟨fun C m σ H Q Q' q h => hc.mono C m _ _ _ _ (fun k H1 h1 => ?_) h, fun C g => ?_⟩
  · cases k with
    | true => exact ha.mono C m _ _ _ _ q h1
    | false => exact hb.mono C m _ _ _ _ q h1
  · refine impE (pe_ifExp (hc.run C g) (ha.run C g) (hb.run C g)) fun σ H Q ⟨σo, Ho, r, h⟩ => ?_
    refine ⟨σo, Ho, r, hc.mono C g.mono _ _ _ _ (fun k Ho1 h1 H1 r1 g1 => ?_) h⟩
    cases k with
    | true => exact iteT ⟨σo, Ho1, r1, ha.mono C g.mono _ _ _ _ (fun l Ho2 h2 H2 r2 g2 => h2 H2 r2 (g1.trans g2)) h1⟩
    | false => exact iteF ⟨σo, Ho1, r1, hb.mono C g.mono _ _ _ _ (fun l Ho2 h2 H2 r2 g2 => h2 H2 r2 (g1.trans g2)) h1⟩
theorem s_one {op : BoolOp} (h : SE L X a ta) : SE L X (.BoolOp op [a] pos) ta := ⟨h.mono, fun C g => pe_one (h.run C g)⟩
theorem s_orv (ha : SE L X a ta) (hb : SE L X (.BoolOp .Or (b :: rest) pos) tb) : SE L X (.BoolOp .Or (a :: b :: rest) pos) (Z.orv ta tb) := by
  refine ⟨fun C m σ H Q Q' q h => ha.mono C m _ _ _ _ (fun x H1 h1 => ?_) h, fun C g => ?_⟩
  · obtain ⟨k, e, h1⟩ := h1
    refine ⟨k, e, ?_⟩
    cases k with
    | true => exact q _ _ h1
    | false => exact hb.mono C m _ _ _ _ q h1
  · refine impE (pe_orT (ha.run C g) (hb.run C g)) fun σ H Q ⟨σo, Ho, r, h⟩ => ?_
    refine ⟨σo, Ho, r, ha.mono C g.mono _ _ _ _ (fun x Ho1 h1 H1 r1 g1 => ?_) h⟩
    obtain ⟨k, e, h1⟩ := h1
    refine ⟨k, truth_rel r1.hp e, ?_⟩
    cases k with
    | true => exact iteT (h1 H1 r1 g1)
    | false => exact iteF ⟨σo, Ho1, r1, hb.mono C g.mono _ _ _ _ (fun l Ho2 h2 H2 r2 g2 => h2 H2 r2 (g1.trans g2)) h1⟩
theorem s_andv (ha : SE L X a ta) (hb : SE L X (.BoolOp .And (b :: rest) pos) tb) : SE L X (.BoolOp .And (a :: b :: rest) pos) (Z.andv ta tb) := by
  refine ⟨fun C m σ H Q Q' q h => ha.mono C m _ _ _ _ (fun x H1 h1 => ?_) h, fun C g => ?_⟩
  · obtain ⟨k, e, h1⟩ := h1
    refine ⟨k, e, ?_⟩
    cases k with
    | true => exact hb.mono C m _ _ _ _ q h1
    | false => exact q _ _ h1
  · refine impE (pe_andT (ha.run C g) (hb.run C g)) fun σ H Q ⟨σo, Ho, r, h⟩ => ?_
    refine ⟨σo, Ho, r, ha.mono C g.mono _ _ _ _ (fun x Ho1 h1 H1 r1 g1 => ?_) h⟩
    obtain ⟨k, e, h1⟩ := h1
    refine ⟨k, truth_rel r1.hp e, ?_⟩
    cases k with
    | true => exact iteT ⟨σo, Ho1, r1, hb.mono C g.mono _ _ _ _ (fun l Ho2 h2 H2 r2 g2 => h2 H2 r2 (g1.trans g2)) h1⟩
    | false => exact iteF (h1 H1 r1 g1)
theorem s_notv (ha : SE L X a ta) : SE L X (.UnaryOp .Not a pos) (Z.notv ta) := by
  refine ⟨fun C m σ H Q Q' q h => ha.mono C m _ _ _ _ (fun x H1 ⟨k, e, h1⟩ => ⟨k, e, q _ _ h1⟩) h, fun C g => ?_⟩
  refine impE (pe_notT (ha.run C g)) fun σ H Q ⟨σo, Ho, r, h⟩ => ?_
  refine ⟨σo, Ho, r, ha.mono C g.mono _ _ _ _ (fun x Ho1 h1 H1 r1 g1 => ?_) h⟩
  obtain ⟨k, e, h1⟩ := h1
  exact ⟨k, truth_rel r1.hp e, h1 H1 r1 g1⟩

/-! ### subscripts -/
theorem ixN_eq (n : Nat) (i : Int) : L2.ixN n i = Z.ixN n i := rfl
theorem atI_vs {xs : List Z.V} {i : Int} {v : Z.V} (h : Z.atI xs i = some v) : atI (L.vs xs) i = some (L.v v) := by
  unfold Z.atI at h
  unfold L2.atI
  rw [vs_len, ixN_eq]
  cases e : Z.ixN xs.length i with
  | none => rw [e] at h; cases h
  | some j =>
    rw [e] at h
    show (L.vs xs)[j]? = _
    have h : xs[j]? = some v := h
    rw [List.getElem?_map, h]
    rfl
theorem s_ix (ha : SE L X a ta) (hb : SE L X b tb) (hs : PlainIx b := by exact fun _ _ => rfl) : SE L X (.Subscript a b pos) (Z.ix ta tb) := by
  refine ⟨fun C m σ H Q Q' q h => ha.mono C m _ _ _ _ (fun x H1 h1 => hb.mono C m _ _ _ _ (fun y H2 ⟨xs, i, v, e1, e2, e3, h2⟩ => ⟨xs, i, v, e1, e2, e3, q _ _ h2⟩) h1) h, fun C g => ?_⟩
  refine impE (pe_ix (ix_list.or ix_tup) (ha.run C g) (hb.run C g) hs) fun σ H Q ⟨σo, Ho, r, h⟩ => ?_
  refine ⟨σo, Ho, r, ha.mono C g.mono _ _ _ _ (fun x Ho1 h1 H1 r1 g1 => ?_) h⟩
  refine ⟨σo, Ho1, r1, hb.mono C g.mono _ _ _ _ (fun y Ho2 h2 H2 r2 g2 => ?_) h1⟩
  obtain ⟨xs, i, v, e1, rfl, e3, h2⟩ := h2
  obtain ⟨p, rfl, sq⟩ := items_rel r2.hp e1
  rcases sq with sq | sq
  · exact .inl ⟨p, L.vs xs, i, L.v v, rfl, rfl, sq, atI_vs e3, h2 H2 r2 (g1.trans g2)⟩
  · exact .inr ⟨p, L.vs xs, i, L.v v, rfl, rfl, sq, atI_vs e3, h2 H2 r2 (g1.trans g2)⟩
theorem s_dix (ha : SE L X a ta) (hb : SE L X b tb) (hs : PlainIx b := by exact fun _ _ => rfl) : SE L X (.Subscript a b pos) (Z.dix ta tb) := by
  refine ⟨fun C m σ H Q Q' q h => ha.mono C m _ _ _ _ (fun x H1 h1 => hb.mono C m _ _ _ _ (fun y H2 ⟨v, e1, h2⟩ => ⟨v, e1, q _ _ h2⟩) h1) h, fun C g => ?_⟩
  refine impE (pe_dget (by have := g.units; omega) (ha.run C g) (hb.run C g) hs) fun σ H Q ⟨σo, Ho, r, h⟩ => ?_
  refine ⟨σo, Ho, r, ha.mono C g.mono _ _ _ _ (fun x Ho1 h1 H1 r1 g1 => ?_) h⟩
  refine ⟨σo, Ho1, r1, hb.mono C g.mono _ _ _ _ (fun y Ho2 h2 H2 r2 g2 => ?_) h1⟩
  obtain ⟨v, e1, h2⟩ := h2
  obtain ⟨p, rfl, dg⟩ := dget_rel r2.hp e1
  exact ⟨p, L.v v, rfl, dg, h2 H2 r2 (g1.trans g2)⟩
variable {lo hi : Option Expr} {tl th : Z.TO} {p2 : Pos}
theorem s_pno : SO L X none Z.pno := ⟨fun C m σ H Q Q' q h => q _ _ h, fun C g => ⟨fun pins s σ H Q I ⟨σo, Ho, r, h⟩ => po_none.run pins s σ H Q I (h H r (Gr.refl _ _))⟩⟩
theorem s_pso (ha : SE L X a ta) : SO L X (some a) (Z.pso ta) := by
  refine ⟨fun C m σ H Q Q' q h => ha.mono C m _ _ _ _ (fun x H1 ⟨i, e, h1⟩ => ⟨i, e, q _ _ h1⟩) h, fun C g => ⟨fun pins s σ H Q I ⟨σo, Ho, r, h⟩ => ?_⟩⟩
  refine (po_some (ha.run C g)).run pins s σ H Q I ⟨σo, Ho, r, ha.mono C g.mono _ _ _ _ (fun x Ho1 h1 H1 r1 g1 => ?_) h⟩
  obtain ⟨i, rfl, h1⟩ := h1
  exact ⟨i, rfl, h1 H1 r1 g1⟩
theorem cut_vs (xs : List Z.V) (lo hi : Option Int) : L2.cutV (L.vs xs) lo hi = L.vs (Z.cutV xs lo hi) := by
  have e : ∀ n d o, HT.sIx n d o = Z.sIx n d o := fun n d o => by cases o <;> rfl
  unfold L2.cutV Z.cutV
  rw [vs_len, e, e, Lw.vs, ← List.map_drop, ← List.map_take]
theorem s_slc (ha : SE L X a ta) (hl : SO L X lo tl) (hh : SO L X hi th) : SE L X (.Subscript a (.Slice lo hi none p2) pos) (Z.slc ta tl th) := by
  have mo : ∀ C, Cmono C → ∀ σ H (Q Q' : Z.VK), (∀ v H, Q v H → Q' v H) → Z.slc ta tl th C σ H Q → Z.slc ta tl th C σ H Q' := by
    intro C m σ H Q Q' q h
    refine ha.mono C m _ _ _ _ (fun x H1 h1 => hl.mono C m _ _ _ _ (fun l H2 h2 => hh.mono C m _ _ _ _ (fun u H3 h3 => ?_) h2) h1) h
    rcases h3 with ⟨xs, e, k⟩ | ⟨xs, e, n, k⟩
    · exact .inl ⟨xs, e, fun p hp => q _ _ (k p hp)⟩
    · exact .inr ⟨xs, e, n, fun p hp => q _ _ (k p hp)⟩
  refine ⟨mo, fun C g => ?_⟩
  refine impE (pe_slice (sl_list.or sl_tup) (ha.run C g) (hl.run C g) (hh.run C g)) fun σ H Q ⟨σo, Ho, r, h⟩ => ?_
  refine ⟨σo, Ho, r, ha.mono C g.mono _ _ _ _ (fun x Ho1 h1 H1 r1 g1 => ?_) h⟩
  refine ⟨σo, Ho1, r1, hl.mono C g.mono _ _ _ _ (fun l Ho2 h2 H2 r2 g2 => ?_) h1⟩
  refine ⟨σo, Ho2, r2, hh.mono C g.mono _ _ _ _ (fun u Ho3 h3 H3 r3 g3 => ?_) h2⟩
  have g13 := g1.trans (g2.trans g3)
  rcases h3 with ⟨xs, e, k⟩ | ⟨xs, e, n, k⟩
  · obtain ⟨p, rfl, sq⟩ := litems_rel r3.hp e
    refine .inl ⟨p, L.vs xs, rfl, sq, fun q hq => ?_⟩
    rw [cut_vs]
    exact k q (r3.hp.free hq) _ (r3.heap (r3.hp.set upd_same) (Gr.new hq)) (g13.trans (Gr.new hq))
  · obtain ⟨p, rfl, sq⟩ := titems_rel r3.hp e
    have es : ∀ n d o, HT.sIx n d o = Z.sIx n d o := fun n d o => by cases o <;> rfl
    refine .inr ⟨p, L.vs xs, rfl, sq, by rw [vs_len, es, es]; exact n, fun q hq => ?_⟩
    rw [cut_vs]
    exact k q (r3.hp.free hq) _ (r3.heap (r3.hp.set upd_same) (Gr.new hq)) (g13.trans (Gr.new hq))
theorem s_revs {k : Nat} {p1 p3 : Pos} (ha : SE L X a ta) : SE L X (.Subscript a (.Slice none none (some (.UnaryOp .USub (.Constant (.int 1) k p1) p2)) p3) pos) (Z.revs ta) := by
  refine ⟨fun C m σ H Q Q' q h => ha.mono C m _ _ _ _ (fun x H1 ⟨xs, e, h1⟩ => ⟨xs, e, fun p hp => q _ _ (h1 p hp)⟩) h, fun C g => ?_⟩
  refine impE (pe_revL (ha.run C g)) fun σ H Q ⟨σo, Ho, r, h⟩ => ?_
  refine ⟨σo, Ho, r, ha.mono C g.mono _ _ _ _ (fun x Ho1 h1 H1 r1 g1 => ?_) h⟩
  obtain ⟨xs, e, h1⟩ := h1
  obtain ⟨p, rfl, sq⟩ := litems_rel r1.hp e
  refine ⟨p, L.vs xs, rfl, sq, fun q hq => ?_⟩
  have er : (L.vs xs).reverse = L.vs xs.reverse := by
    show (List.map L.v xs).reverse = List.map L.v xs.reverse
    rw [List.map_reverse]
  rw [er]
  exact h1 q (r1.hp.free hq) _ (r1.heap (r1.hp.set upd_same) (Gr.new hq)) (g1.trans (Gr.new hq))

/-! ### fields -/
theorem ofString_inj {x y : String} (h : Str.ofString x = Str.ofString y) : x = y := by
  rw [Str.ofString_eq_toList, Str.ofString_eq_toList] at h
  have h2 : (x.toList.map Char.toNat) = y.toList.map Char.toNat := by
    have := congrArg (fun z : Str => z.cps.toList) h
    simpa using this
  have inj : ∀ (a b : List Char), a.map Char.toNat = b.map Char.toNat → a = b := by
    intro a
    induction a with
    | nil => intro b h; cases b with
      | nil => rfl
      | cons _ _ => cases h
    | cons c a ih =>
      intro b h
      cases b with
      | nil => cases h
      | cons d b =>
        have h3 : c.toNat = d.toNat ∧ a.map Char.toNat = b.map Char.toNat := by simpa using h
        rw [ih b h3.2, Char.toNat_inj.mp h3.1]
  exact String.toList_inj.mp (inj _ _ h2)
theorem fs_look (f : String) : ∀ fs : List (String × Z.V), (L.fs fs).lookup (Str.ofString f) = (fs.lookup f).map L.v
  | [] => rfl
  | (g, v) :: r => by
    have ih := fs_look f r
    by_cases h : f = g
    · subst h
      simp [List.lookup_cons_self, Lw.fs]
    · have h1 : (f == g) = false := beq_eq_false_iff_ne.mpr h
      have h2 : (Str.ofString f == Str.ofString g) = false := beq_eq_false_iff_ne.mpr fun z => h (ofString_inj z)
      show List.lookup (Str.ofString f) ((Str.ofString g, L.v v) :: L.fs r) = _
      rw [List.lookup_cons, List.lookup_cons, h1, h2]
      exact ih
theorem fs_mem {f : String} {v : Z.V} : ∀ {fs : List (String × Z.V)}, fs.lookup f = some v → f ∈ fs.map (·.1)
  | [], h => by cases h
  | (g, w) :: r, h => by
    by_cases e : f = g
    · subst e
      simp
    · rw [List.lookup_cons, beq_eq_false_iff_ne.mpr e] at h
      exact List.mem_cons_of_mem _ (fs_mem h)
theorem s_fld (f : String) {x : Str} (ha : SE L X a ta) (hx : x = Str.ofString f := by rfl) (hb : attributeBase a x X.env (eval a X.env) = eval a X.env := by rfl) : SE L X (.Attribute a x pos) (Z.fld ta f) := by
  subst hx
  refine ⟨fun C m σ H Q Q' q h => ha.mono C m _ _ _ _ (fun x H1 ⟨p, c, fs, v, e1, e2, e3, h1⟩ => ⟨p, c, fs, v, e1, e2, e3, q _ _ h1⟩) h, fun C g => ?_⟩
  refine impE (pe_fld (ha.run C g) hb) fun σ H Q ⟨σo, Ho, r, h⟩ => ?_
  refine ⟨σo, Ho, r, ha.mono C g.mono _ _ _ _ (fun x Ho1 h1 H1 r1 g1 => ?_) h⟩
  obtain ⟨p, c, fs, v, rfl, e2, e3, h1⟩ := h1
  obtain ⟨dx, hi, hc, hn⟩ := r1.hp p _ e2
  exact ⟨p, _, dx, L.fs fs, L.v v, rfl, hi, hc, hn f (fs_mem e3), by rw [fs_look, e3]; rfl, h1 H1 r1 g1⟩

/-! ### argument lists, displays -/
variable {es : List Expr} {tr : Z.TA}
theorem s_anil : SA L X [] Z.anil := ⟨fun C m σ H Q Q' q h => q _ _ h, fun C g => impA pa_nil fun σ H Q ⟨σo, Ho, r, h⟩ => h H r (Gr.refl _ _)⟩
theorem s_acons (ha : SE L X a ta) (hr : SA L X es tr) (hs : starEach (a :: es) X.env = (false, eval a X.env) :: starEach es X.env := by rfl) : SA L X (a :: es) (Z.acons ta tr) := by
  refine ⟨fun C m σ H Q Q' q h => ha.mono C m _ _ _ _ (fun x H1 h1 => hr.mono C m _ _ _ _ (fun xs H2 h2 => q _ _ h2) h1) h, fun C g => ?_⟩
  refine impA (pa_cons (ha.run C g) (hr.run C g) hs) fun σ H Q ⟨σo, Ho, r, h⟩ => ?_
  refine ⟨σo, Ho, r, ha.mono C g.mono _ _ _ _ (fun x Ho1 h1 H1 r1 g1 => ?_) h⟩
  exact ⟨σo, Ho1, r1, hr.mono C g.mono _ _ _ _ (fun xs Ho2 h2 H2 r2 g2 => h2 H2 r2 (g1.trans g2)) h1⟩
theorem s_tup {k : Nat} (h : SA L X es tr) : SE L X (.Tuple es k pos) (Z.tupl tr) := by
  refine ⟨fun C m σ H Q Q' q hh => h.mono C m _ _ _ _ (fun xs H1 ⟨z, h1⟩ => ⟨z, fun p hp => q _ _ (h1 p hp)⟩) hh, fun C g => ?_⟩
  refine impE (pe_tup (h.run C g)) fun σ H Q ⟨σo, Ho, r, hh⟩ => ?_
  refine ⟨σo, Ho, r, h.mono C g.mono _ _ _ _ (fun xs Ho1 h1 H1 r1 g1 => ?_) hh⟩
  exact ⟨by rw [vs_len, ← line_eq]; exact h1.1, fun p hp => h1.2 p (r1.hp.free hp) _ (r1.heap (r1.hp.set upd_same) (Gr.new hp)) (g1.trans (Gr.new hp))⟩
theorem s_lst (h : SA L X es tr) : SE L X (.List es pos) (Z.lstl tr) := by
  refine ⟨fun C m σ H Q Q' q hh => h.mono C m _ _ _ _ (fun xs H1 ⟨z, h1⟩ => ⟨z, fun p hp => q _ _ (h1 p hp)⟩) hh, fun C g => ?_⟩
  refine impE (pe_lst (h.run C g)) fun σ H Q ⟨σo, Ho, r, hh⟩ => ?_
  refine ⟨σo, Ho, r, h.mono C g.mono _ _ _ _ (fun xs Ho1 h1 H1 r1 g1 => ?_) hh⟩
  exact ⟨by rw [vs_len, ← line_eq]; exact h1.1, fun p hp => h1.2 p (r1.hp.free hp) _ (r1.heap (r1.hp.set upd_same) (Gr.new hp)) (g1.trans (Gr.new hp))⟩
theorem s_dnew : SE L X (.Dict [] [] pos) Z.dnew := by
  refine ⟨fun C m σ H Q Q' q h p hp => q _ _ (h p hp), fun C g => ?_⟩
  refine impE pe_dnewK fun σ H Q ⟨σo, Ho, r, h⟩ => ?_
  intro d hd
  exact h d (r.hp.free hd) _ (r.heap (r.hp.set upd_same) (Gr.new hd)) (Gr.new hd)
end
end ZS

/-! Z4: built-ins and their methods. -/
namespace ZS
open PySem PySem.Spec PyProof.Rows L2
def lift1 (L : Lw) (K : PySem.W.Frag) (z : Z.B1) : List V → Hp → VK → Prop := fun vs H Q => ∃ vo Ho, vs = L.vs vo ∧ RH L K Ho H ∧ z vo Ho fun v Ho' => ∀ H', RH L K Ho' H' → Gr Ho H Ho' H' → Q (L.v v) H'
def liftM (L : Lw) (K : PySem.W.Frag) (z : Z.M1) : V → List V → Hp → VK → Prop := fun x vs H Q => ∃ xo vo Ho, x = L.v xo ∧ vs = L.vs vo ∧ RH L K Ho H ∧ z xo vo Ho fun v Ho' => ∀ H', RH L K Ho' H' → Gr Ho H Ho' H' → Q (L.v v) H'
def Mono1 (z : Z.B1) : Prop := ∀ vs H (Q Q' : Z.VK), (∀ v H, Q v H → Q' v H) → z vs H Q → z vs H Q'
def MonoM (z : Z.M1) : Prop := ∀ x vs H (Q Q' : Z.VK), (∀ v H, Q v H → Q' v H) → z x vs H Q → z x vs H Q'
theorem ints_vs (L : Lw) (ns : List Int) : L.vs (ns.map Z.V.int) = ns.map V.int := by
  show List.map L.v (List.map Z.V.int ns) = _
  rw [List.map_map]
  rfl
theorem bls_vs (L : Lw) (ns : List Bool) : L.vs (ns.map Z.V.bl) = ns.map V.bl := by
  show List.map L.v (List.map Z.V.bl ns) = _
  rw [List.map_map]
  rfl
theorem erase_map {α β : Type} (f : α → β) : ∀ (l : List α) (i : Nat), (l.map f).eraseIdx i = (l.eraseIdx i).map f
  | [], _ => rfl
  | _ :: _, 0 => rfl
  | x :: r, i + 1 => by
    show f x :: (r.map f).eraseIdx i = f x :: (r.eraseIdx i).map f
    rw [erase_map f r i]
section
variable {L : Lw} {X : Cx} {a b c e : Expr} {es : List Expr} {ta tb tc : Z.TE} {t : Z.TA} {pos p : Pos}
theorem blt_mono {z : Z.B1} (mz : Mono1 z) (ha : SA L X es t) : ∀ C, Cmono C → ∀ σ H (Q Q' : Z.VK), (∀ v H, Q v H → Q' v H) → Z.blt z t C σ H Q → Z.blt z t C σ H Q' :=
  fun C m σ H Q Q' q h => ha.mono C m _ _ _ _ (fun vs H1 h1 => mz vs H1 Q Q' q h1) h
theorem s_blt {id : String} {x : Str} {z : Z.B1} (mz : Mono1 z) (hc : ∀ C, Good L X C → CallR X (.builtin id) (lift1 L X.K z)) (hg : Gl X x) (hm : X.mg x = none) (hv : bootBuiltins x = some (.builtin id)) (ha : SA L X (e :: es) t)
    (hn : x ≠ "__name__" := by decide) (hdb : (x == ("__debug__" : Str)) = false := by decide) (he : starEach (e :: es) X.env = (false, eval e X.env) :: starEach es X.env := by rfl) (hpl : (backTo pos (starEach es X.env)).any (·.1) = false := by rfl) :
    SE L X (.Call (.Name x p) (e :: es) [] pos) (Z.blt z t) := by
  refine ⟨blt_mono mz ha, fun C g => ?_⟩
  refine impE (pe_callB (hc C g) hg hm hv (ha.run C g) hn hdb he hpl) fun σ H Q ⟨σo, Ho, r, h⟩ => ?_
  refine ⟨σo, Ho, r, ha.mono C g.mono _ _ _ _ (fun vs Ho1 h1 H1 r1 g1 => ?_) h⟩
  exact ⟨vs, Ho1, rfl, r1.hp, mz vs Ho1 _ _ (fun v Ho2 h2 H2 r2 g2 => h2 H2 (r1.heap r2 g2) (g1.trans g2)) h1⟩
theorem s_blT {T : String} {x : Str} {z : Z.B1} (mz : Mono1 z) (hc : ∀ C, Good L X C → CallR X (.type T) (lift1 L X.K z)) (hg : Gl X x) (hm : X.mg x = none) (hv : bootBuiltins x = some (.type T)) (ha : SA L X (e :: es) t)
    (hn : x ≠ "__name__" := by decide) (hdb : (x == ("__debug__" : Str)) = false := by decide) (he : starEach (e :: es) X.env = (false, eval e X.env) :: starEach es X.env := by rfl) (hpl : (backTo pos (starEach es X.env)).any (·.1) = false := by rfl) :
    SE L X (.Call (.Name x p) (e :: es) [] pos) (Z.blt z t) := by
  refine ⟨blt_mono mz ha, fun C g => ?_⟩
  refine impE (pe_callTy (hc C g) hg hm hv (ha.run C g) hn hdb he hpl) fun σ H Q ⟨σo, Ho, r, h⟩ => ?_
  refine ⟨σo, Ho, r, ha.mono C g.mono _ _ _ _ (fun vs Ho1 h1 H1 r1 g1 => ?_) h⟩
  exact ⟨vs, Ho1, rfl, r1.hp, mz vs Ho1 _ _ (fun v Ho2 h2 H2 r2 g2 => h2 H2 (r1.heap r2 g2) (g1.trans g2)) h1⟩
/-- from a rule of the layer -/
theorem callr {f : Value} {r : List V → Hp → VK → Prop} {z : Z.B1} (h : CallR X f r) (i : ∀ vo Ho H Q, RH L X.K Ho H → z vo Ho (fun v Ho' => ∀ H', RH L X.K Ho' H' → Gr Ho H Ho' H' → Q (L.v v) H') → r (L.vs vo) H Q) : CallR X f (lift1 L X.K z) := by
  intro pins s σ H vs us Q I rv q
  obtain ⟨vo, Ho, rfl, rh, q⟩ := q
  exact h pins s σ H _ us Q I rv (i vo Ho H Q rh q)
theorem m_len : Mono1 Z.bLen := fun vs H Q Q' q ⟨x, xs, e, i, h⟩ => ⟨x, xs, e, i, q _ _ h⟩
theorem c_len : CallR X (.builtin "len") (lift1 L X.K Z.bLen) := callr call_len_seq fun vo Ho H Q rh h => by
  obtain ⟨x, xs, rfl, i, h⟩ := h
  obtain ⟨p, rfl, sq⟩ := items_rel rh i
  exact ⟨p, L.vs xs, rfl, sq, by rw [vs_len]; exact h H rh (Gr.refl _ _)⟩
theorem m_abs : Mono1 Z.bAbs := fun vs H Q Q' q ⟨i, e, h⟩ => ⟨i, e, q _ _ h⟩
theorem c_abs : CallR X (.builtin "abs") (lift1 L X.K Z.bAbs) := callr call_abs fun vo Ho H Q rh h => by
  obtain ⟨i, rfl, h⟩ := h
  refine ⟨i, rfl, ?_⟩
  have e : (if i < 0 then -i else i) = (i.natAbs : Int) := by split <;> omega
  rw [e]
  exact h H rh (Gr.refl _ _)
theorem m_int : Mono1 Z.bInt := fun vs H Q Q' q h => by
  unfold Z.bInt at h ⊢
  split at h
  · exact q _ _ h
  · exact q _ _ h
  · exact h.elim
theorem c_int : CallR X (.type "int") (lift1 L X.K Z.bInt) := callr call_int1 fun vo Ho H Q rh h => by
  unfold Z.bInt at h
  split at h
  · exact .inl ⟨_, rfl, h H rh (Gr.refl _ _)⟩
  · exact .inr ⟨_, rfl, h H rh (Gr.refl _ _)⟩
  · exact h.elim
theorem m_max2 : Mono1 Z.bMax2 := fun vs H Q Q' q ⟨i, j, e, h⟩ => ⟨i, j, e, q _ _ h⟩
theorem c_max2 (hc : X.calm = true) : CallR X (.builtin "max") (lift1 L X.K Z.bMax2) := callr (call_max2 hc) fun vo Ho H Q rh h => by
  obtain ⟨i, j, rfl, h⟩ := h
  refine ⟨i, j, rfl, ?_⟩
  have e : (if j > i then j else i) = max i j := by split <;> omega
  rw [e]
  exact h H rh (Gr.refl _ _)
theorem m_min2 : Mono1 Z.bMin2 := fun vs H Q Q' q ⟨i, j, e, h⟩ => ⟨i, j, e, q _ _ h⟩
theorem c_min2 (hc : X.calm = true) : CallR X (.builtin "min") (lift1 L X.K Z.bMin2) := callr (call_min2 hc) fun vo Ho H Q rh h => by
  obtain ⟨i, j, rfl, h⟩ := h
  refine ⟨i, j, rfl, ?_⟩
  have e : (if j < i then j else i) = min i j := by split <;> omega
  rw [e]
  exact h H rh (Gr.refl _ _)
theorem m_sum : Mono1 Z.bSum := fun vs H Q Q' q ⟨x, ns, e, i, h⟩ => ⟨x, ns, e, i, q _ _ h⟩
/-- of a list or a tuple of ints -/
def rSumA (K : PySem.W.Frag) : List V → Hp → VK → Prop := fun vs H Q => ∃ (a : Addr) (ns : List Int), vs = [V.ref a] ∧ (SqL K H a (ns.map V.int) ∨ SqT K H a (ns.map V.int)) ∧ Q (.int ns.sum) H
theorem cr_sumA (hc : X.calm = true) : CallR X (.builtin "sum") (rSumA X.K) := by
  intro pins s σ H vs us Q I r h
  obtain ⟨a, ns, rfl, hs, q⟩ := h
  rcases hs with hs | hs
  · exact cr_sum hc pins s σ H _ us Q I r ⟨a, ns, rfl, hs, q⟩
  · obtain ⟨its, rv, hl, _⟩ := I.tuple hs
    rw [Vals.ref1 r]
    obtain ⟨xs, e⟩ := rv.ints.allInts.items
    have hn : numsOf (intItems xs).toList = ns := by rw [← e]; exact rv.ints.numsOf
    rw [PySem.nums_intItems] at hn
    have hl2 : s.heap.IsTuple a its.toArray := hl
    rw [e] at hl2
    refine PySem.W.ktm_sumG (I.ok.hd hc) hl2 fun h' tk t' hk => ?_
    rw [PySem.preSum_eq, List.take_of_length_le (by simp), hn]
    exact ⟨.int _, H, I.kept hk, ⟨_, rfl⟩, q⟩
theorem c_sum (hc : X.calm = true) : CallR X (.builtin "sum") (lift1 L X.K Z.bSum) := callr (cr_sumA hc) fun vo Ho H Q rh h => by
  obtain ⟨x, ns, rfl, i, h⟩ := h
  obtain ⟨p, rfl, sq⟩ := items_rel rh i
  rw [ints_vs] at sq
  exact ⟨p, ns, rfl, sq, h H rh (Gr.refl _ _)⟩
theorem m_max1 : Mono1 Z.bMax1 := fun vs H Q Q' q ⟨x, ns, e, i, z, h⟩ => ⟨x, ns, e, i, z, fun m h1 h2 => q _ _ (h m h1 h2)⟩
theorem c_max1 (hc : X.calm = true) : CallR X (.builtin "max") (lift1 L X.K Z.bMax1) := callr (cr_max hc) fun vo Ho H Q rh h => by
  obtain ⟨x, ns, rfl, i, z, h⟩ := h
  obtain ⟨p, rfl, sq⟩ := litems_rel rh i
  rw [ints_vs] at sq
  exact ⟨p, ns, rfl, sq, z, fun m h1 h2 => h m h1 h2 H rh (Gr.refl _ _)⟩
theorem m_min1 : Mono1 Z.bMin1 := fun vs H Q Q' q ⟨x, ns, e, i, z, h⟩ => ⟨x, ns, e, i, z, fun m h1 h2 => q _ _ (h m h1 h2)⟩
theorem c_min1 (hc : X.calm = true) : CallR X (.builtin "min") (lift1 L X.K Z.bMin1) := callr (cr_min hc) fun vo Ho H Q rh h => by
  obtain ⟨x, ns, rfl, i, z, h⟩ := h
  obtain ⟨p, rfl, sq⟩ := litems_rel rh i
  rw [ints_vs] at sq
  exact ⟨p, ns, rfl, sq, z, fun m h1 h2 => h m h1 h2 H rh (Gr.refl _ _)⟩
theorem m_all : Mono1 Z.bAll := fun vs H Q Q' q ⟨x, ns, e, i, h⟩ => ⟨x, ns, e, i, q _ _ h⟩
theorem c_all (hc : X.calm = true) : CallR X (.builtin "all") (lift1 L X.K Z.bAll) := callr (cr_all hc) fun vo Ho H Q rh h => by
  obtain ⟨x, ns, rfl, i, h⟩ := h
  obtain ⟨p, rfl, sq⟩ := litems_rel rh i
  rw [bls_vs] at sq
  exact ⟨p, ns, rfl, sq, h H rh (Gr.refl _ _)⟩
theorem m_any : Mono1 Z.bAny := fun vs H Q Q' q ⟨x, ns, e, i, h⟩ => ⟨x, ns, e, i, q _ _ h⟩
theorem c_any (hc : X.calm = true) : CallR X (.builtin "any") (lift1 L X.K Z.bAny) := callr (cr_any hc) fun vo Ho H Q rh h => by
  obtain ⟨x, ns, rfl, i, h⟩ := h
  obtain ⟨p, rfl, sq⟩ := litems_rel rh i
  rw [bls_vs] at sq
  exact ⟨p, ns, rfl, sq, h H rh (Gr.refl _ _)⟩
theorem m_list : Mono1 Z.bList := fun vs H Q Q' q ⟨x, xs, e, i, h⟩ => ⟨x, xs, e, i, fun p hp => q _ _ (h p hp)⟩
theorem c_list : CallR X (.type "list") (lift1 L X.K Z.bList) := callr call_list_of fun vo Ho H Q rh h => by
  obtain ⟨x, xs, rfl, i, h⟩ := h
  obtain ⟨p, rfl, sq⟩ := items_rel rh i
  exact ⟨p, L.vs xs, rfl, sq, fun q hq => h q (rh.free hq) _ (rh.set upd_same) (Gr.new hq)⟩
theorem m_tuple : Mono1 Z.bTuple := fun vs H Q Q' q ⟨x, xs, e, h⟩ => ⟨x, xs, e, h.elim (fun h => .inl ⟨h.1, fun p hp => q _ _ (h.2 p hp)⟩) fun h => .inr ⟨h.1, q _ _ h.2⟩⟩
theorem c_tuple : CallR X (.type "tuple") (lift1 L X.K Z.bTuple) := callr call_tuple_of fun vo Ho H Q rh h => by
  obtain ⟨x, xs, rfl, h⟩ := h
  rcases h with ⟨i, h⟩ | ⟨i, h⟩
  · obtain ⟨p, rfl, sq⟩ := litems_rel rh i
    exact ⟨p, L.vs xs, rfl, .inl ⟨sq, fun q hq => h q (rh.free hq) _ (rh.set upd_same) (Gr.new hq)⟩⟩
  · obtain ⟨p, rfl, sq⟩ := titems_rel rh i
    exact ⟨p, L.vs xs, rfl, .inr ⟨sq, h H rh (Gr.refl _ _)⟩⟩
theorem m_sortedI : Mono1 Z.bSortedI := fun vs H Q Q' q ⟨x, ns, e, i, h⟩ => ⟨x, ns, e, i, fun ns' p h1 h2 hp => q _ _ (h ns' p h1 h2 hp)⟩
theorem c_sortedI : CallR X (.builtin "sorted") (lift1 L X.K Z.bSortedI) := callr cr_sortedI fun vo Ho H Q rh h => by
  obtain ⟨x, ns, rfl, i, h⟩ := h
  obtain ⟨p, rfl, sq⟩ := litems_rel rh i
  rw [ints_vs] at sq
  refine ⟨p, ns, rfl, sq, fun ns' q h1 h2 hq => ?_⟩
  rw [← ints_vs L]
  exact h ns' q h1 h2 (rh.free hq) _ (rh.set upd_same) (Gr.new hq)
theorem s_lrng1 {p2 p3 : Pos} (hc : X.calm = true) (hgl : Gl X "list") (hml : X.mg "list" = none) (hg : Gl X "range") (hm : X.mg "range" = none) (ha : SE L X a ta)
    (n1 : starEach [a] X.env = (false, eval a X.env) :: starEach [] X.env := by rfl)
    (n2 : starEach [Expr.Call (.Name "range" p2) [a] [] p3] X.env = (false, eval (Expr.Call (.Name "range" p2) [a] [] p3) X.env) :: starEach [] X.env := by rfl) : SE L X (.Call (.Name "list" p) [.Call (.Name "range" p2) [a] [] p3] [] pos) (Z.lrng1 ta) := by
  refine ⟨fun C m σ H Q Q' q h => ha.mono C m _ _ _ _ (fun x H1 ⟨j, e, z, z2, h1⟩ => ⟨j, e, z, z2, fun p hp => q _ _ (h1 p hp)⟩) h, fun C g => ?_⟩
  refine impE (pe_listRg hc hgl hml (prg_1 hg hm (ha.run C g) n1) n2) fun σ H Q ⟨σo, Ho, r, h⟩ => ?_
  refine ⟨σo, Ho, r, ha.mono C g.mono _ _ _ _ (fun x Ho1 h1 H1 r1 g1 => ?_) h⟩
  obtain ⟨j, rfl, z, z2, h1⟩ := h1
  have z : j ≤ 16777216 := z
  refine ⟨j, rfl, ⟨by omega, by omega, by omega, by omega, by omega⟩, fun q hq => ?_⟩
  have e : rgV 0 j = L.vs ((List.range j.toNat).map fun (k : Nat) => Z.V.int k) := by
    unfold rgV
    show _ = List.map L.v _
    rw [List.map_map, Int.sub_zero]
    refine List.map_congr_left fun i _ => ?_
    show V.int (0 + (i : Int)) = V.int i
    rw [Int.zero_add]
  rw [e]
  exact h1 q (r1.hp.free hq) _ (r1.heap (r1.hp.set upd_same) (Gr.new hq)) (g1.trans (Gr.new hq))
theorem s_lrng2 {p2 p3 : Pos} (hc : X.calm = true) (hgl : Gl X "list") (hml : X.mg "list" = none) (hg : Gl X "range") (hm : X.mg "range" = none) (ha : SE L X a ta) (hb : SE L X b tb)
    (n1 : starEach [a, b] X.env = (false, eval a X.env) :: starEach [b] X.env := by rfl) (n3 : starEach [b] X.env = (false, eval b X.env) :: starEach [] X.env := by rfl) (hp : (backTo p3 (starEach [b] X.env)).any (·.1) = false := by rfl)
    (n2 : starEach [Expr.Call (.Name "range" p2) [a, b] [] p3] X.env = (false, eval (Expr.Call (.Name "range" p2) [a, b] [] p3) X.env) :: starEach [] X.env := by rfl) : SE L X (.Call (.Name "list" p) [.Call (.Name "range" p2) [a, b] [] p3] [] pos) (Z.lrng2 ta tb) := by
  refine ⟨fun C m σ H Q Q' q h => ha.mono C m _ _ _ _ (fun x H1 h1 => hb.mono C m _ _ _ _ (fun y H2 ⟨i, j, e, e2, z, h1⟩ => ⟨i, j, e, e2, z, fun p hp => q _ _ (h1 p hp)⟩) h1) h, fun C g => ?_⟩
  refine impE (pe_listRg hc hgl hml (prg_2 hg hm (ha.run C g) (hb.run C g) n1 n3 hp) n2) fun σ H Q ⟨σo, Ho, r, h⟩ => ?_
  refine ⟨σo, Ho, r, ha.mono C g.mono _ _ _ _ (fun x Ho1 h1 H1 r1 g1 => ?_) h⟩
  refine ⟨σo, Ho1, r1, hb.mono C g.mono _ _ _ _ (fun y Ho2 h2 H2 r2 g2 => ?_) h1⟩
  obtain ⟨i, j, rfl, rfl, ⟨z1, z2, z3, z4, z5⟩, h2⟩ := h2
  have z5 : (j - i).toNat ≤ 16777216 := z5
  refine ⟨i, j, rfl, rfl, ⟨z1, z2, z3, z4, by omega⟩, fun q hq => ?_⟩
  have e : rgV i j = L.vs ((List.range (j - i).toNat).map fun (k : Nat) => Z.V.int (i + k)) := by
    unfold rgV
    show _ = List.map L.v _
    rw [List.map_map]
    rfl
  rw [e]
  exact h2 q (r2.hp.free hq) _ (r2.heap (r2.hp.set upd_same) (Gr.new hq)) (g1.trans (g2.trans (Gr.new hq)))

/-! ### methods of lists -/
variable {o : Expr} {to : Z.TE} {name : Str} {apos cpos : Pos} {T id : String} {z : Z.M1}
theorem mtr {r : V → List V → Hp → VK → Prop} (h : MtR X id r) (i : ∀ xo vo Ho H Q, RH L X.K Ho H → z xo vo Ho (fun v Ho' => ∀ H', RH L X.K Ho' H' → Gr Ho H Ho' H' → Q (L.v v) H') → r (L.v xo) (L.vs vo) H Q) : MtR X id (liftM L X.K z) := by
  intro pins s σ H x vs v us Q I rx rv q
  obtain ⟨xo, vo, Ho, rfl, rfl, rh, q⟩ := q
  exact h pins s σ H _ _ v us Q I rx rv (i xo vo Ho H Q rh q)
theorem ty_list {x : Z.V} {Ho : Z.Heap} {H : Hp} (rh : RH L X.K Ho H) (h : Z.isL x Ho) : tyV X.K "list" (L.v x) H := by
  obtain ⟨xs, e⟩ := h
  obtain ⟨p, rfl, sq⟩ := litems_rel rh e
  exact .inl ⟨rfl, _, sq⟩
theorem s_bm0 {k : Z.V → Z.Heap → Prop} (hk : ∀ x Ho H, RH L X.K Ho H → k x Ho → tyV X.K T (L.v x) H) (mz : MonoM z) (pa : PlainAttrs T) (slot : Slot T name id) (hty : typeOf (.builtin id) = pure (.type "method_descriptor")) (hm : MtR X id (liftM L X.K z)) (ho : SE L X o to)
    (hbase : attributeBase o name X.env (eval o X.env) = eval o X.env := by rfl) (hline : (apos.endLine == cpos.line) = true := by rfl) : SE L X (.Call (.Attribute o name apos) [] [] cpos) (Z.bmt k z to Z.anil) := by
  refine ⟨fun C m σ H Q Q' q h => ho.mono C m _ _ _ _ (fun x H1 ⟨k1, h1⟩ => ⟨k1, mz x [] H1 Q Q' q h1⟩) h, fun C g => ?_⟩
  refine impE (pe_bm0 pa slot hty hm (ho.run C g) hbase hline) fun σ H Q ⟨σo, Ho, r, h⟩ => ?_
  refine ⟨σo, Ho, r, ho.mono C g.mono _ _ _ _ (fun x Ho1 h1 H1 r1 g1 => ?_) h⟩
  obtain ⟨k1, h1⟩ := h1
  exact ⟨hk x Ho1 H1 r1.hp k1, x, [], Ho1, rfl, rfl, r1.hp, mz x [] Ho1 _ _ (fun v Ho2 h2 H2 r2 g2 => h2 H2 (r1.heap r2 g2) (g1.trans g2)) h1⟩
theorem s_bm {k : Z.V → Z.Heap → Prop} (hk : ∀ x Ho H, RH L X.K Ho H → k x Ho → tyV X.K T (L.v x) H) (mz : MonoM z) (pa : PlainAttrs T) (slot : Slot T name id) (hty : typeOf (.builtin id) = pure (.type "method_descriptor")) (hm : MtR X id (liftM L X.K z)) (ho : SE L X o to) (ha : SA L X (e :: es) t)
    (hbase : attributeBase o name X.env (eval o X.env) = eval o X.env := by rfl)
    (hfew : ((backTo cpos (starEach (e :: es) X.env)).all (fun x => !x.1) && (backToKw cpos (keywordEach [] X.env)).all (fun x => x.1.isSome)
      && decide ((e :: es).length + ([] : List Keyword).length + (if ([] : List Keyword).isEmpty then 0 else 1) < 30)) = true := by rfl)
    (hline : (apos.endLine == cpos.line) = true := by rfl) (hs : starEach (e :: es) X.env = (false, eval e X.env) :: starEach es X.env := by rfl) (hplain : (backTo cpos (starEach es X.env)).any (·.1) = false := by rfl) :
    SE L X (.Call (.Attribute o name apos) (e :: es) [] cpos) (Z.bmt k z to t) := by
  refine ⟨fun C m σ H Q Q' q h => ho.mono C m _ _ _ _ (fun x H1 ⟨k1, h1⟩ => ⟨k1, ha.mono C m _ _ _ _ (fun vs H2 h2 => mz x vs H2 Q Q' q h2) h1⟩) h, fun C g => ?_⟩
  refine impE (pe_bm pa slot hty hm (ho.run C g) (ha.run C g) hbase hfew hline hs hplain) fun σ H Q ⟨σo, Ho, r, h⟩ => ?_
  refine ⟨σo, Ho, r, ho.mono C g.mono _ _ _ _ (fun x Ho1 h1 H1 r1 g1 => ?_) h⟩
  obtain ⟨k1, h1⟩ := h1
  refine ⟨hk x Ho1 H1 r1.hp k1, σo, Ho1, r1, ha.mono C g.mono _ _ _ _ (fun vs Ho2 h2 H2 r2 g2 => ?_) h1⟩
  exact ⟨x, vs, Ho2, rfl, rfl, r2.hp, mz x vs Ho2 _ _ (fun v Ho3 h3 H3 r3 g3 => h3 H3 (r2.heap r3 g3) (g1.trans (g2.trans g3))) h2⟩
theorem mm_append : MonoM Z.mAppend := fun x vs H Q Q' q ⟨a, xs, y, e1, e2, e3, z, h⟩ => ⟨a, xs, y, e1, e2, e3, z, q _ _ h⟩
theorem mc_append : MtR X "list.append" (liftM L X.K Z.mAppend) := mtr mt_append fun xo vo Ho H Q rh h => by
  obtain ⟨a, xs, y, rfl, rfl, e3, z, h⟩ := h
  refine ⟨a, L.vs xs, L.v y, rfl, rfl, rh a _ e3, by rw [vs_len, ← line_eq]; exact z, ?_⟩
  have e : L.vs xs ++ [L.v y] = L.vs (xs ++ [y]) := (vs_app L xs [y]).symm
  rw [e]
  exact h _ (rh.set upd_same) (Gr.chg e3)
theorem mm_extend : MonoM Z.mExtend := fun x vs H Q Q' q ⟨a, b, xs, zs, e1, e2, e3, e4, z, h⟩ => ⟨a, b, xs, zs, e1, e2, e3, e4, z, q _ _ h⟩
theorem mc_extend : MtR X "list.extend" (liftM L X.K Z.mExtend) := mtr mt_extend fun xo vo Ho H Q rh h => by
  obtain ⟨a, b, xs, zs, rfl, rfl, e3, e4, z, h⟩ := h
  refine ⟨a, b, L.vs xs, L.vs zs, rfl, rfl, rh a _ e3, rh b _ e4, by rw [vs_len, vs_len, ← line_eq]; exact z, ?_⟩
  rw [← vs_app]
  exact h _ (rh.set upd_same) (Gr.chg e3)
theorem mm_pop0 : MonoM Z.mPop0 := fun x vs H Q Q' q ⟨a, xs, y, e1, e2, e3, h⟩ => ⟨a, xs, y, e1, e2, e3, q _ _ h⟩
theorem mc_pop0 : MtR X "list.pop" (liftM L X.K Z.mPop0) := mtr mt_pop fun xo vo Ho H Q rh h => by
  obtain ⟨a, xs, y, rfl, rfl, e3, h⟩ := h
  have e : L.vs (xs ++ [y]) = L.vs xs ++ [L.v y] := vs_app L xs [y]
  refine ⟨a, L.vs (xs ++ [y]), L.v y, rfl, rfl, rh a _ e3, ?_, ?_⟩
  · rw [e]
    simp
  · rw [e, List.dropLast_concat]
    exact h _ (rh.set upd_same) (Gr.chg e3)
theorem mm_popAt : MonoM Z.mPopAt := fun x vs H Q Q' q ⟨a, xs, i, k, y, e1, e2, e3, z, e4, e5, h⟩ => ⟨a, xs, i, k, y, e1, e2, e3, z, e4, e5, q _ _ h⟩
theorem mc_popAt : MtR X "list.pop" (liftM L X.K Z.mPopAt) := mtr mt_popAt fun xo vo Ho H Q rh h => by
  obtain ⟨a, xs, i, k, y, rfl, rfl, e3, z, e4, e5, h⟩ := h
  obtain ⟨q1, q2, q3, q4⟩ := ixN_seq (show L2.ixN xs.length i = some k from e4)
  refine ⟨a, L.vs xs, i, k, L.v y, rfl, rfl, rh a _ e3, by omega, by omega, by rw [vs_len]; exact q1, ?_, ?_⟩
  · show (List.map L.v xs)[k]? = _
    rw [List.getElem?_map, e5]
    rfl
  · have e : (L.vs xs).eraseIdx k = L.vs (xs.eraseIdx k) := by
      exact erase_map L.v xs k
    rw [e]
    exact h _ (rh.set upd_same) (Gr.chg e3)
theorem mm_reverse : MonoM Z.mReverse := fun x vs H Q Q' q ⟨a, xs, e1, e2, e3, h⟩ => ⟨a, xs, e1, e2, e3, q _ _ h⟩
theorem mc_reverse : MtR X "list.reverse" (liftM L X.K Z.mReverse) := mtr mt_reverse fun xo vo Ho H Q rh h => by
  obtain ⟨a, xs, rfl, rfl, e3, h⟩ := h
  refine ⟨a, L.vs xs, rfl, rfl, rh a _ e3, ?_⟩
  have e : (L.vs xs).reverse = L.vs xs.reverse := by
    show (List.map L.v xs).reverse = List.map L.v xs.reverse
    rw [List.map_reverse]
  rw [e]
  exact h _ (rh.set upd_same) (Gr.chg e3)
/-- x.bit_length() -/
theorem s_bitl (ho : SE L X o to) (hbase : attributeBase o "bit_length" X.env (eval o X.env) = eval o X.env := by rfl) (hline : (apos.endLine == cpos.line) = true := by rfl) : SE L X (.Call (.Attribute o "bit_length" apos) [] [] cpos) (Z.bitl to) := by
  refine ⟨fun C m σ H Q Q' q h => ho.mono C m _ _ _ _ (fun x H1 ⟨i, e, h1⟩ => ⟨i, e, q _ _ h1⟩) h, fun C g => ?_⟩
  refine impE (pe_bits (ho.run C g) hbase hline) fun σ H Q ⟨σo, Ho, r, h⟩ => ?_
  refine ⟨σo, Ho, r, ho.mono C g.mono _ _ _ _ (fun x Ho1 h1 H1 r1 g1 => ?_) h⟩
  obtain ⟨i, rfl, h1⟩ := h1
  refine ⟨i, rfl, ?_⟩
  have e : Builtin.Int.intBits i = Z.bits i := by
    unfold Builtin.Int.intBits Z.bits
    by_cases z : i = 0
    · subst z
      rfl
    · rw [if_neg z, if_neg (by simpa using z)]
  rw [e]
  exact h1 H1 r1 g1
end
end ZS

/-! Z5: targets, statements, loops, comprehensions. -/
namespace ZS
open PySem PySem.Spec PyProof.Rows L2
section
variable {L : Lw} {X : Cx} {a b c e : Expr} {es : List Expr} {ta tb tc te : Z.TE} {t : Z.TA} {pos p : Pos} {g g1 g2 : Z.TG} {gs : Z.TGs} {K : PySem.W.Frag} {Ho : Z.Heap} {H : Hp}
/-! ### targets -/
theorem s_gname {i : Nat} {x : Str} (hN : X.N.Nodup) (hi : X.N[i]? = some x := by rfl) (hx : Loc X.env.scope x := by first | exact Or.inl rfl | exact Or.inr rfl) (hf : X.fn x = true ∨ X.env.scope.names.lookup x = some .local := by first | exact .inl rfl | exact .inr rfl) : SG L X (.Name x pos) (Z.gname i) [i] := by
  refine ⟨fun C m v σ H Q Q' q h => q _ _ h, fun C g => ?_⟩
  refine impG (pg_name hN hi hx hf) fun v σ H Q ⟨vo, σo, Ho, ev, r, h⟩ => ?_
  subst ev
  exact h _ _ (r.put i vo) (Gr.refl _ _) ⟨List.length_set .., fun j hj => List.getElem?_set_ne (fun z => hj (by simp [z]))⟩
theorem s_gsub (ha : SE L X a ta) (hb : SE L X b tb)
    (hs : ∀ v, assign (.Subscript a b pos) X.env v = (do
      let ov ← holding [v] (eval a X.env)
      let iv ← holding [v, ov] (eval b X.env)
      standAt pos
      holding [v, ov, iv] (setItem ov iv v)
      release [v, ov, iv] []) := by intro _; rfl) : SG L X (.Subscript a b pos) (Z.gsub ta tb) [] := by
  refine ⟨fun C m v σ H Q Q' q h => ha.mono C m _ _ _ _ (fun x H1 h1 => hb.mono C m _ _ _ _ (fun y H2 ⟨p, xs, k, j, e1, e2, e3, e4, h2⟩ => ⟨p, xs, k, j, e1, e2, e3, e4, q _ _ h2⟩) h1) h, fun C g => ?_⟩
  refine impG (pg_sub (ha.run C g) (hb.run C g) set_list hs) fun v σ H Q ⟨vo, σo, Ho, ev, r, h⟩ => ?_
  subst ev
  refine ⟨σo, Ho, r, ha.mono C g.mono _ _ _ _ (fun x Ho1 h1 H1 r1 g1 => ?_) h⟩
  refine ⟨σo, Ho1, r1, hb.mono C g.mono _ _ _ _ (fun y Ho2 h2 H2 r2 g2 => ?_) h1⟩
  obtain ⟨p, xs, k, j, rfl, rfl, e3, e4, h2⟩ := h2
  refine ⟨p, L.vs xs, k, j, rfl, rfl, r2.hp p _ e3, by rw [vs_len]; exact e4, ?_⟩
  have e : (L.vs xs).set j (L.v vo) = L.vs (xs.set j vo) := by
    show (List.map L.v xs).set j (L.v vo) = List.map L.v (xs.set j vo)
    rw [List.map_set]
  rw [e]
  exact h2 _ _ (r2.heap (r2.hp.set upd_same) (Gr.chg e3)) (g1.trans (g2.trans (Gr.chg e3))) (But.refl _ _)
theorem s_gnil : SGs L X [] Z.gnil [] := ⟨fun C m v σ H Q Q' q h => ⟨h.1, q _ _ h.2⟩, fun C g => impGs pgs_nil fun v σ H Q ⟨vo, σo, Ho, ev, r, h⟩ => by
  obtain ⟨rfl, h⟩ := h
  subst ev
  exact ⟨rfl, h _ _ r (Gr.refl _ _) (But.refl _ _)⟩⟩
theorem s_gcons {l1 l2 : List Nat} (ha : SG L X a g l1) (hr : SGs L X es gs l2) (hs : (assignEach (a :: es) X.env).map (·.2) = assign a X.env :: (assignEach es X.env).map (·.2) := by rfl) : SGs L X (a :: es) (Z.gcons g gs) (l1 ++ l2) := by
  refine ⟨fun C m v σ H Q Q' q ⟨x, ws, ev, h⟩ => ⟨x, ws, ev, ha.mono C m _ _ _ _ _ (fun σ1 H1 h1 => hr.mono C m _ _ _ _ _ q h1) h⟩, fun C gd => ?_⟩
  refine impGs (pgs_cons (ha.run C gd) (hr.run C gd) hs) fun v σ H Q ⟨vo, σo, Ho, ev, r, h⟩ => ?_
  obtain ⟨x, ws, rfl, h⟩ := h
  subst ev
  refine ⟨L.v x, L.vs ws, rfl, x, σo, Ho, rfl, r, ha.mono C gd.mono _ _ _ _ _ (fun σ1 Ho1 h1 σ2 H1 r1 g1 bt => ?_) h⟩
  exact ⟨ws, σ1, Ho1, rfl, r1, hr.mono C gd.mono _ _ _ _ _ (fun σ3 Ho2 h2 σ4 H2 r2 g2 bt2 => h2 σ4 H2 r2 (g1.trans g2) (bt.trans bt2)) h1⟩
theorem s_gtup {n k : Nat} {sl : List Nat} (hc : X.calm = true) (h : SGs L X es gs sl) (hn : (assignEach es X.env).length = n := by rfl) (hst : (assignEach es X.env).findIdx? (·.1) = none := by rfl) : SG L X (.Tuple es k pos) (Z.gtup n gs) sl := by
  refine ⟨fun C m v σ H Q Q' q ⟨xs, e, z, h1⟩ => ⟨xs, e, z, h.mono C m _ _ _ _ _ q h1⟩, fun C gd => ?_⟩
  refine impG (pg_tup hc (h.run C gd) hn hst) fun v σ H Q ⟨vo, σo, Ho, ev, r, h1⟩ => ?_
  obtain ⟨xs, e, z, h1⟩ := h1
  obtain ⟨q, rfl, sq⟩ := titems_rel r.hp e
  subst ev
  exact ⟨q, L.vs xs, rfl, sq, by rw [vs_len]; exact z, xs, σo, Ho, rfl, r, h1⟩

/-! ### plain statements -/
variable {st : Stmt} {rest b1 b2 : List Stmt} {u v u1 u2 : Z.TS}
theorem Le.seq {D D' : Z.Ends} (l : Le D D') {n n' : Z.St → Z.Heap → Prop} (h : ∀ σ H, n σ H → n' σ H) : Le { D with nx := n } { D' with nx := n' } := ⟨h, l.rt, l.bk, l.ct⟩
/-- the ends of what begins later ask no more -/
theorem ends_le {Ho Ho1 : Z.Heap} {H H1 : Hp} (g : Gr Ho H Ho1 H1) (D : Ends) : Le (ends L K Ho H D) (ends L K Ho1 H1 D) :=
  ⟨fun _ _ h => h, fun _ _ h => h, fun _ _ h => h, fun _ _ h => h⟩
theorem s_bnil : SB L X [] Z.skip := ⟨fun C m σ H D D' l h => l.nx _ _ h, fun C gd => impB pss_nil fun D σ H ⟨σo, Ho, r, h⟩ => h σ H r r.gr⟩
theorem s_bone (h : SS L X st u) : SB L X [st] u := ⟨h.mono, fun C gd => pss_one (h.run C gd)⟩
theorem s_bcons (h : SS L X st u) (hr : SB L X rest v) : SB L X (st :: rest) (Z.seq u v) := by
  refine ⟨fun C m σ H D D' l h1 => h.mono C m _ _ _ _ (l.seq fun σ1 H1 h2 => hr.mono C m _ _ _ _ l h2) h1, fun C gd => ?_⟩
  refine impB (pss_cons (h.run C gd) (hr.run C gd)) fun D σ H ⟨σo, Ho, r, h1⟩ => ?_
  refine ⟨σo, Ho, r, h.mono C gd.mono _ _ { ends L X.K Ho H D with nx := fun σ1 H1 => v C (ends L X.K Ho H D) σ1 H1 } _ ⟨fun σ1 Ho1 h2 σ2 H2 r2 g2 => ?_, fun _ _ h => h, fun _ _ h => h, fun _ _ h => h⟩ h1⟩
  exact ⟨σ1, Ho1, r2, hr.mono C gd.mono _ _ _ _ (ends_le g2 D) h2⟩
theorem s_never : SS L X st Z.never := ⟨fun C m σ H D D' l h => h.elim, fun C gd => impS ps_never fun D σ H ⟨σo, Ho, r, h⟩ => h.elim⟩
theorem s_bnever : SB L X rest Z.never := ⟨fun C m σ H D D' l h => h.elim, fun C gd => impB pss_never fun D σ H ⟨σo, Ho, r, h⟩ => h.elim⟩
theorem s_pass : SS L X (.Pass pos) Z.skip := ⟨fun C m σ H D D' l h => l.nx _ _ h, fun C gd => impS ps_pass fun D σ H ⟨σo, Ho, r, h⟩ => h σ H r r.gr⟩
theorem s_brk : SS L X (.Break pos) Z.brk := ⟨fun C m σ H D D' l h => l.bk _ _ h, fun C gd => impS ps_break fun D σ H ⟨σo, Ho, r, h⟩ => h σ H r r.gr⟩
theorem s_cnt : SS L X (.Continue pos) Z.cnt := ⟨fun C m σ H D D' l h => l.ct _ _ h, fun C gd => impS ps_continue fun D σ H ⟨σo, Ho, r, h⟩ => h σ H r r.gr⟩
theorem asg_mono {sl : List Nat} (hg : SG L X a g sl) (he : SE L X e te) : ∀ C, Cmono C → ∀ σ H D D', Le D D' → Z.asg g te C D σ H → Z.asg g te C D' σ H :=
  fun C m σ H D D' l h => he.mono C m _ _ _ _ (fun v H1 h1 => hg.mono C m _ _ _ _ _ l.nx h1) h
theorem s_asg {sl : List Nat} (hg : SG L X a g sl) (he : SE L X e te) (hs : swapsWithSole [a] e pos.line X.env = pure false := by rfl) (hw : swappedStores [a] e X.env = pure none := by rfl)
    (h1 : (assignEach [a] X.env).map (·.2) = [assign a X.env] := by rfl) : SS L X (.Assign [a] e pos) (Z.asg g te) := by
  refine ⟨asg_mono hg he, fun C gd => ?_⟩
  refine impS (ps_asg (he.run C gd) (hg.run C gd) hs hw h1) fun D σ H ⟨σo, Ho, r, h⟩ => ?_
  refine ⟨σo, Ho, r, he.mono C gd.mono _ _ _ _ (fun v Ho1 h1 H1 r1 g1 => ?_) h⟩
  exact ⟨v, σo, Ho1, rfl, r1, hg.mono C gd.mono _ _ _ _ _ (fun σ2 Ho2 h2 σ3 H3 r3 g3 _ => h2 σ3 H3 r3 r3.gr) h1⟩
/-- name = e -/
theorem s_set {i : Nat} {x : Str} {pos' : Pos} (hN : X.N.Nodup) (he : SE L X e te) (hi : X.N[i]? = some x := by rfl) (hx : Loc X.env.scope x := by first | exact Or.inl rfl | exact Or.inr rfl)
    (hs : swapsWith e (some (.Name x pos')) pos.line X.env = pure false := by rfl) (hf : X.fn x = true ∨ X.env.scope.names.lookup x = some .local := by first | exact .inl rfl | exact .inr rfl) : SS L X (.Assign [.Name x pos'] e pos) (Z.asg (Z.gname i) te) := by
  refine ⟨asg_mono (s_gname (pos := pos') hN hi hx hf) he, fun C gd => ?_⟩
  refine impS (ps_set hN hi hx (he.run C gd) hs hf) fun D σ H ⟨σo, Ho, r, h⟩ => ?_
  refine ⟨σo, Ho, r, he.mono C gd.mono _ _ _ _ (fun v Ho1 h1 H1 r1 g1 => ?_) h⟩
  exact h1 _ _ (r1.put i v) r1.gr
theorem s_asg2 {l1 l2 : List Nat} (h1 : SG L X a g1 l1) (h2 : SG L X b g2 l2) (he : SE L X e te) (ha : (assignEach [a, b] X.env).map (·.2) = [assign a X.env, assign b X.env] := by rfl) (hw : swappedStores [a, b] e X.env = pure none := by rfl) : SS L X (.Assign [a, b] e pos) (Z.asg2 g1 g2 te) := by
  refine ⟨fun C m σ H D D' l h => he.mono C m _ _ _ _ (fun v H1 k1 => h1.mono C m _ _ _ _ _ (fun σ2 H2 k2 => h2.mono C m _ _ _ _ _ l.nx k2) k1) h, fun C gd => ?_⟩
  refine impS (ps_asg2 (he.run C gd) (h1.run C gd) (h2.run C gd) ha hw) fun D σ H ⟨σo, Ho, r, h⟩ => ?_
  refine ⟨σo, Ho, r, he.mono C gd.mono _ _ _ _ (fun v Ho1 k1 H1 r1 gr1 => ?_) h⟩
  refine ⟨v, σo, Ho1, rfl, r1, h1.mono C gd.mono _ _ _ _ _ (fun σ2 Ho2 k2 σ3 H2 r2 gr2 _ => ?_) k1⟩
  exact ⟨v, σ2, Ho2, rfl, r2, h2.mono C gd.mono _ _ _ _ _ (fun σ4 Ho3 k3 σ5 H3 r3 gr3 _ => k3 σ5 H3 r3 r3.gr) k2⟩
theorem par_mono {n : Nat} {sl : List Nat} (hg : SGs L X es gs sl) {as : List Expr} (ha : SA L X as t) : ∀ C, Cmono C → ∀ σ H D D', Le D D' → Z.par n gs t C D σ H → Z.par n gs t C D' σ H :=
  fun C m σ H D D' l h => ha.mono C m _ _ _ _ (fun v H1 h1 => ⟨h1.1, hg.mono C m _ _ _ _ _ l.nx h1.2⟩) h
/-- a, b, .. = e, f, .. by way of a tuple that nobody sees -/
theorem s_par {n k k2 : Nat} {p1 p2 : Pos} {sl : List Nat} {as : List Expr} (hc : X.calm = true) (hg : SGs L X es gs sl) (ha : SA L X as t) (hn : (assignEach es X.env).length = n := by rfl) (hst : (assignEach es X.env).findIdx? (·.1) = none := by rfl) (hz : n ≤ 1000 := by decide)
    (hs : swapsWithSole [.Tuple es k p1] (.Tuple as k2 p2) pos.line X.env = pure false := by rfl) (hw : swappedStores [.Tuple es k p1] (.Tuple as k2 p2) X.env = pure none := by rfl)
    (h1 : (assignEach [.Tuple es k p1] X.env).map (·.2) = [assign (.Tuple es k p1) X.env] := by rfl) : SS L X (.Assign [.Tuple es k p1] (.Tuple as k2 p2) pos) (Z.par n gs t) := by
  refine ⟨par_mono hg ha, fun C gd => ?_⟩
  refine impS (ps_asg (pe_tup (ha.run C gd)) (pg_tup hc (hg.run C gd) hn hst) hs hw h1) fun D σ H ⟨σo, Ho, r, h⟩ => ?_
  refine ⟨σo, Ho, r, ha.mono C gd.mono _ _ _ _ (fun vs Ho1 h1 H1 r1 g1 => ?_) h⟩
  obtain ⟨hl, h1⟩ := h1
  refine ⟨by rw [vs_len, hl, sizeLine_eq]; omega, fun q hq => ?_⟩
  have g2 : Gr Ho H Ho1 (upd H1 q (.tup (L.vs vs))) := g1.trans (Gr.hid hq)
  refine ⟨q, L.vs vs, rfl, SqT.of upd_same, by rw [vs_len]; exact hl, vs, σo, Ho1, rfl, r1.heap (r1.hp.hid (r1.hp.free hq)) (Gr.hid hq), hg.mono C gd.mono _ _ _ _ _ (fun σ2 Ho2 h2 σ3 H3 r3 g3 _ => ?_) h1⟩
  exact h2 σ3 H3 r3 r3.gr
/-- a, b = e, f of two plain local names -/
theorem s_par2 {i j k k2 : Nat} {x y : Str} {px py p1 p2 : Pos} (hc : X.calm = true) (hN : X.N.Nodup) (ha : SA L X [a, b] t) (hi : X.N[i]? = some x := by rfl) (hj : X.N[j]? = some y := by rfl) (hij : i ≠ j := by decide)
    (hx : X.env.scope.names.lookup x = some .local := by rfl) (hy : X.env.scope.names.lookup y = some .local := by rfl)
    (hw : swappedStores [.Tuple [.Name x px, .Name y py] k p1] (.Tuple [a, b] k2 p2) X.env = pure (some [x, y]) := by rfl)
    (hs : swapsWithSole [.Tuple [.Name x px, .Name y py] k p1] (.Tuple [a, b] k2 p2) pos.line X.env = pure false := by rfl) :
    SS L X (.Assign [.Tuple [.Name x px, .Name y py] k p1] (.Tuple [a, b] k2 p2) pos) (Z.par 2 (Z.gcons (Z.gname i) (Z.gcons (Z.gname j) Z.gnil)) t) := by
  refine ⟨fun C m σ H D D' l h => ha.mono C m _ _ _ _ (fun v H1 h1 => ⟨h1.1, ?_⟩) h, fun C gd => ?_⟩
  · obtain ⟨_, v1, ws, e1, v2, ws2, e2, e3, h2⟩ := h1
    exact ⟨v1, ws, e1, v2, ws2, e2, e3, l.nx _ _ h2⟩
  · refine impS (ps_par hc hN hi hj hij hx hy (ha.run C gd) hw hs) fun D σ H ⟨σo, Ho, r, h⟩ => ?_
    refine ⟨σo, Ho, r, ha.mono C gd.mono _ _ _ _ (fun vs Ho1 h1 H1 r1 g1 => ?_) h⟩
    obtain ⟨_, v1, ws, rfl, v2, ws2, rfl, rfl, h2⟩ := h1
    exact ⟨L.v v1, L.v v2, rfl, h2 _ _ ((r1.put i v1).put j v2) r1.gr⟩
theorem s_par3 {i j l k k2 : Nat} {x y z : Str} {px py pz p1 p2 : Pos} (hc : X.calm = true) (hN : X.N.Nodup) (ha : SA L X [a, b, c] t) (hi : X.N[i]? = some x := by rfl) (hj : X.N[j]? = some y := by rfl) (hl : X.N[l]? = some z := by rfl) (hij : i ≠ j := by decide) (hil : i ≠ l := by decide) (hjl : j ≠ l := by decide)
    (hx : X.env.scope.names.lookup x = some .local := by rfl) (hy : X.env.scope.names.lookup y = some .local := by rfl) (hz : X.env.scope.names.lookup z = some .local := by rfl)
    (hw : swappedStores [.Tuple [.Name x px, .Name y py, .Name z pz] k p1] (.Tuple [a, b, c] k2 p2) X.env = pure (some [x, y, z]) := by rfl)
    (hs : swapsWithSole [.Tuple [.Name x px, .Name y py, .Name z pz] k p1] (.Tuple [a, b, c] k2 p2) pos.line X.env = pure false := by rfl) :
    SS L X (.Assign [.Tuple [.Name x px, .Name y py, .Name z pz] k p1] (.Tuple [a, b, c] k2 p2) pos) (Z.par 3 (Z.gcons (Z.gname i) (Z.gcons (Z.gname j) (Z.gcons (Z.gname l) Z.gnil))) t) := by
  refine ⟨fun C m σ H D D' l h => ha.mono C m _ _ _ _ (fun v H1 h1 => ⟨h1.1, ?_⟩) h, fun C gd => ?_⟩
  · obtain ⟨_, v1, ws, e1, v2, ws2, e2, v3, ws3, e3, e4, h2⟩ := h1
    exact ⟨v1, ws, e1, v2, ws2, e2, v3, ws3, e3, e4, l.nx _ _ h2⟩
  · refine impS (ps_par3 hc hN hi hj hl hij hil hjl hx hy hz (ha.run C gd) hw hs) fun D σ H ⟨σo, Ho, r, h⟩ => ?_
    refine ⟨σo, Ho, r, ha.mono C gd.mono _ _ _ _ (fun vs Ho1 h1 H1 r1 g1 => ?_) h⟩
    obtain ⟨_, v1, ws, rfl, v2, ws2, rfl, v3, ws3, rfl, rfl, h2⟩ := h1
    exact ⟨L.v v1, L.v v2, L.v v3, rfl, h2 _ _ (((r1.put i v1).put j v2).put l v3) r1.gr⟩
theorem augo_mono {k : Bool} {x y : Z.V} {Q Q' : Z.V → Prop} (q : ∀ v, Q v → Q' v) (h : Z.augo k x y Q) : Z.augo k x y Q' := by
  cases k <;> cases x <;> cases y <;> first | exact q _ h | exact h.elim
theorem s_augA {i : Nat} {x : Str} {pos' : Pos} (hN : X.N.Nodup) (he : SE L X e te) (hi : X.N[i]? = some x := by rfl) (hx : Loc X.env.scope x := by first | exact Or.inl rfl | exact Or.inr rfl)
    (hf : X.fn x = true ∨ X.env.scope.names.lookup x = some .local := by first | exact .inl rfl | exact .inr rfl) : SS L X (.AugAssign (.Name x pos') .Add e pos) (Z.aug i true te) := by
  refine ⟨fun C m σ H D D' l h => ?_, fun C gd => ?_⟩
  · unfold Z.aug at h ⊢
    split at h
    · exact he.mono C m _ _ _ _ (fun y H1 h1 => augo_mono (fun z => l.nx _ _) h1) h
    · exact h.elim
  · refine impS (ps_aug hN hi hx (he.run C gd) ip_add hf) fun D σ H ⟨σo, Ho, r, h⟩ => ?_
    unfold Z.aug at h
    split at h
    · rename_i v ev
      refine ⟨L.v v, r.sl i v ev, σo, Ho, r, he.mono C gd.mono _ _ _ _ (fun y Ho1 h1 H1 r1 g1 => ?_) h⟩
      cases v <;> cases y <;> first
        | exact h1.elim
        | exact ⟨_, _, rfl, rfl, h1 _ _ (r1.put i _) r1.gr⟩
    · exact h.elim
theorem s_augS {i : Nat} {x : Str} {pos' : Pos} (hN : X.N.Nodup) (he : SE L X e te) (hi : X.N[i]? = some x := by rfl) (hx : Loc X.env.scope x := by first | exact Or.inl rfl | exact Or.inr rfl)
    (hf : X.fn x = true ∨ X.env.scope.names.lookup x = some .local := by first | exact .inl rfl | exact .inr rfl) : SS L X (.AugAssign (.Name x pos') .Sub e pos) (Z.aug i false te) := by
  refine ⟨fun C m σ H D D' l h => ?_, fun C gd => ?_⟩
  · unfold Z.aug at h ⊢
    split at h
    · exact he.mono C m _ _ _ _ (fun y H1 h1 => augo_mono (fun z => l.nx _ _) h1) h
    · exact h.elim
  · refine impS (ps_aug hN hi hx (he.run C gd) ip_sub hf) fun D σ H ⟨σo, Ho, r, h⟩ => ?_
    unfold Z.aug at h
    split at h
    · rename_i v ev
      refine ⟨L.v v, r.sl i v ev, σo, Ho, r, he.mono C gd.mono _ _ _ _ (fun y Ho1 h1 H1 r1 g1 => ?_) h⟩
      cases v <;> cases y <;> first
        | exact h1.elim
        | exact ⟨_, _, rfl, rfl, h1 _ _ (r1.put i _) r1.gr⟩
    · exact h.elim
theorem s_drop (he : SE L X e te) (hs : swapsWith e none pos.line X.env = pure false := by rfl) : SS L X (.Expr e pos) (Z.drop te) := by
  refine ⟨fun C m σ H D D' l h => he.mono C m _ _ _ _ (fun v H1 h1 => l.nx _ _ h1) h, fun C gd => ?_⟩
  refine impS (ps_expr (he.run C gd) hs) fun D σ H ⟨σo, Ho, r, h⟩ => ?_
  exact ⟨σo, Ho, r, he.mono C gd.mono _ _ _ _ (fun v Ho1 h1 H1 r1 g1 => h1 σ H1 r1 r1.gr) h⟩
theorem s_ret (he : SE L X e te) : SS L X (.Return (some e) pos) (Z.ret te) := by
  refine ⟨fun C m σ H D D' l h => he.mono C m _ _ _ _ (fun v H1 h1 => l.rt _ _ h1) h, fun C gd => ?_⟩
  refine impS (ps_ret (he.run C gd)) fun D σ H ⟨σo, Ho, r, h⟩ => ?_
  exact ⟨σo, Ho, r, he.mono C gd.mono _ _ _ _ (fun v Ho1 h1 H1 r1 g1 => h1 H1 r1.hp r1.gr) h⟩
theorem s_retN : SS L X (.Return none pos) Z.retN := ⟨fun C m σ H D D' l h => l.rt _ _ h, fun C gd => impS ps_retN fun D σ H ⟨σo, Ho, r, h⟩ => h H r.hp r.gr⟩
variable {tq : Z.TT}
theorem s_if (hc : ST L X c tq) (ha : SB L X b1 u1) (hb : SB L X b2 u2) : SS L X (.If c b1 b2 pos) (Z.ifs tq u1 u2) := by
  refine ⟨fun C m σ H D D' l h => hc.mono C m _ _ _ _ (fun k H1 h1 => ?_) h, fun C gd => ?_⟩
  · cases k with
    | true => exact ha.mono C m _ _ _ _ l h1
    | false => exact hb.mono C m _ _ _ _ l h1
  · refine impS (ps_if (hc.run C gd) (ha.run C gd) (hb.run C gd)) fun D σ H ⟨σo, Ho, r, h⟩ => ?_
    refine ⟨σo, Ho, r, hc.mono C gd.mono _ _ _ _ (fun k Ho1 h1 H1 r1 g1 => ?_) h⟩
    cases k with
    | true => exact iteT ⟨σo, Ho1, r1, ha.mono C gd.mono _ _ _ _ (ends_le g1 D) h1⟩
    | false => exact iteF ⟨σo, Ho1, r1, hb.mono C gd.mono _ _ _ _ (ends_le g1 D) h1⟩

/-! ### while -/
theorem whn_mono (hc : ST L X c tq) (hb : SB L X b1 u1) : ∀ C, Cmono C → ∀ (n : Nat) σ H D D', Le D D' → Z.whn tq u1 C D n σ H → Z.whn tq u1 C D' n σ H := by
  intro C m n
  induction n with
  | zero => intro σ H D D' l h; exact h
  | succ n ih =>
    intro σ H D D' l h
    refine hc.mono C m _ _ _ _ (fun k H1 h1 => ?_) h
    cases k with
    | true => exact hb.mono C m _ _ { D with nx := Z.whn tq u1 C D n, ct := Z.whn tq u1 C D n, bk := D.nx } _ ⟨fun σ H h => ih σ H D D' l h, l.rt, l.nx, fun σ H h => ih σ H D D' l h⟩ h1
    | false => exact l.nx _ _ h1
theorem s_whl (hp : PassesOwn (model X.prog X.w) X.A X.env X.xe) (hc : ST L X c tq) (hb : SB L X b1 u1) : SS L X (.While c b1 [] pos) (Z.whl tq u1) := by
  refine ⟨fun C m σ H D D' l ⟨n, h⟩ => ⟨n, whn_mono hc hb C m n σ H D D' l h⟩, fun C gd => ?_⟩
  refine impS (ps_while hp (hc.run C gd) (hb.run C gd)) fun D σ H ⟨σo, Ho, r, n, h⟩ => ?_
  refine ⟨fun n σ1 H1 => ∃ σo1 Ho1, R L X.K σo1 Ho1 σ1 H1 ∧ Gr L.h0 L.H0 Ho1 H1 ∧ Z.whn tq u1 C (ends L X.K Ho H D) n σo1 Ho1, ⟨n, σo, Ho, r, r.gr, h⟩, ?_⟩
  rintro n σ1 H1 ⟨σo1, Ho1, r1, g1, h1⟩
  cases n with
  | zero => exact h1.elim
  | succ n =>
    refine ⟨σo1, Ho1, r1, hc.mono C gd.mono _ _ _ _ (fun k Ho2 h2 H2 r2 g2 => ?_) h1⟩
    have g12 := r2.gr
    cases k with
    | false => exact iteF (h2 σ1 H2 r2 g12)
    | true =>
      refine iteT ⟨fun σ' H' => ∃ σo3 Ho3, R L X.K σo3 Ho3 σ' H' ∧ Gr L.h0 L.H0 Ho3 H' ∧ Z.whn tq u1 C (ends L X.K Ho H D) n σo3 Ho3, fun σ' H' w => ⟨n, Nat.lt_succ_self n, w⟩, ?_⟩
      refine ⟨σo1, Ho2, r2, hb.mono C gd.mono _ _ { ends L X.K Ho H D with nx := Z.whn tq u1 C (ends L X.K Ho H D) n, ct := Z.whn tq u1 C (ends L X.K Ho H D) n, bk := (ends L X.K Ho H D).nx } _ ⟨fun σ3 Ho3 h3 σ' H' r3 g3 => ?_, fun v Ho3 h3 H' r3 g3 => h3 H' r3 g3, fun σ3 Ho3 h3 σ' H' r3 g3 => h3 σ' H' r3 g3, fun σ3 Ho3 h3 σ' H' r3 g3 => ?_⟩ h2⟩
      · exact ⟨σ3, Ho3, r3, g3, h3⟩
      · exact ⟨σ3, Ho3, r3, g3, h3⟩
end
end ZS

/-! Z6: what loops walk. First enumerate over a tuple, as a rule of the model. -/
namespace ZS
open PySem PySem.Spec PyProof.Rows L2
section
open AutoSeq1 (wpAny_loadPart')
theorem enum_newT (a : Addr) (its : Array Value) (n : Nat) (dd : Option Addr) (sl : Array (Option Value)) :
    Meets (Builtin.«enumerate.__new__» ⟨[.type "enumerate", .ref a], []⟩) (fun _ W s => s.heap.get? a = some { cls := .type "tuple", dict := dd, data := .seq its n, slots := sl } ∧
      W (.ok (.ret (.ref (s.heap.push { cls := .type "tuple_iterator", data := .fields #[.ref a, .int 0 0] }).objs.size)))
        { s with heap := (s.heap.push { cls := .type "tuple_iterator", data := .fields #[.ref a, .int 0 0] }).push { cls := .type "enumerate", data := .fields #[.none, .bool false, .ref s.heap.objs.size, rawInt 0, .none, .none] } }) :=
  .of_wp fun prog w A W s h => by
    obtain ⟨hp, g, d, tk, os⟩ := s
    obtain ⟨hl, h⟩ := h
    have hsub := sub_enumerate
    have hT : Heap.IsTuple (Shared.heap ⟨hp, g, d, tk, os⟩) a its := ⟨_, hl, rfl, n, rfl⟩
    wp_walk using wpAny_loadPart' hl
    refine wpAny_stack_any fun st => wpAny_pure ?_
    split
    · rename_i c _ _ _ _ _
      cases (c == Value.type "enumerate") <;> (wp_walk using wpAny_loadPart' hl, wpAny_pyIter_tuple hT; exact ⟨_, rfl, h⟩)
    · wp_walk using wpAny_loadPart' hl, wpAny_pyIter_tuple hT
      exact ⟨_, rfl, h⟩
end
section
variable {prog : Program} {w : World} {A : Around} {E : Value → Shared → Prop} {s : Shared}
theorem call_enumT {a : Addr} {its : Array Value} {Q : Value → Shared → Prop} (hT : s.heap.IsTuple a its)
    (k : ∀ h', IsEnum h' (s.heap.objs.size + 1) s.heap.objs.size 0 .none → h'.IsTupleIter s.heap.objs.size a 0 → (∀ b o, s.heap.get? b = some o → h'.get? b = some o) → Q (.ref (s.heap.objs.size + 1)) { s with heap := h' }) :
    wpAny (model prog w) A (call (.type "enumerate") [.ref a]) Q E s := by
  obtain ⟨⟨c, dd, dt, sl⟩, hl, hc, n, hd⟩ := hT
  cases (show c = .type "tuple" from hc)
  cases (show dt = .seq its n from hd)
  refine callType_new F.called_enumerate (by decide) (F.typeCall_enumerate_1 _) (F.newCall_enumerate_1 _) (fun obj => F.args_object_init_2 obj _) F.entry_enumerate_new (enum_newT a its n dd sl) ⟨hl, ?_⟩
  have hz : (s.heap.push { cls := .type "tuple_iterator", data := .fields #[.ref a, .int 0 0] }).objs.size = s.heap.objs.size + 1 := Heap.size_push ..
  have e1 := Heap.get?_push_size (s.heap.push { cls := .type "tuple_iterator", data := .fields #[.ref a, .int 0 0] }) (o := { cls := .type "enumerate", data := .fields #[.none, .bool false, .ref s.heap.objs.size, rawInt 0, .none, .none] }) rfl
  rw [hz] at e1
  show _ ∧ _
  rw [hz]
  exact ⟨⟨_, e1, rfl⟩, k _ e1 ⟨_, Heap.get?_push_of_some _ (Heap.get?_push_size _ rfl), rfl, rfl⟩ fun b o x => Heap.get?_push_of_some _ (Heap.get?_push_of_some _ x)⟩
end
/-- the items of the tuple at a, each in a new pair with its number -/
def IteT (K : PySem.W.Frag) (a : Addr) : It :=
  ⟨fun i H => ∃ (xs : List V) (x : V), SqT K H a xs ∧ xs[i]? = some x, fun i H v H' => ∃ T x, v = .ref T ∧ H T = none ∧ H' = upd H T (.tup [.int (i : Nat), x]) ∧ ∀ xs, SqT K H a xs → xs[i]? = some x, fun i H => ∃ xs : List V, SqT K H a xs ∧ xs.length = i⟩
theorem turn_enumT {P : Program} {w : World} {K : PySem.W.Frag} {elts : List Expr} {kk : Nat} {tpos : Pos} (a e it : Addr) :
    Turn P w K (.Tuple elts kk tpos) (IteT K a) [e, it] e (fun i h => (∃ old, IsEnum h e it ((i : Nat) : Int) old) ∧ h.IsTupleIter it a i ∧ e ≠ it) where
  mem := by simp
  obj := fun i h st b hb => by
    obtain ⟨⟨old, he⟩, ⟨o, ho, hc, hd⟩, _⟩ := st
    rcases (by simpa using hb : b = e ∨ b = it) with z | z
    · rw [z]
      exact ⟨_, he, fun v q => nomatch q⟩
    · rw [z]
      exact ⟨o, ho, fun v q => by rw [hd] at q; cases q⟩
  keep := fun i h h' st k => let ⟨⟨old, he⟩, hi, hne⟩ := st; ⟨⟨old, k e (by simp) _ he⟩, hi.at fun o q => k it (by simp) o q, hne⟩
  item := by
    intro X hP hw hK hc i pins s σ H E I hf st hg
    subst hP hw hK
    obtain ⟨⟨old, he⟩, hit, hne⟩ := st
    obtain ⟨xs, x, hq, hx⟩ := hg
    obtain ⟨its, rv, pt, hz⟩ := I.tuple hq
    obtain ⟨u, hu, ru⟩ := rv.get hx
    have hel : e < s.heap.objs.size := Heap.lt_size he
    have hil : it < s.heap.objs.size := by
      obtain ⟨_, q, _⟩ := hit
      exact Heap.lt_size q
    have hT : s.heap.IsTuple a its.toArray := pt
    obtain ⟨f0, f1, f2, f3, f4, f5⟩ := hf it (by simp)
    have hai : a ≠ it := fun z => by
      rw [z] at hT
      obtain ⟨o, ho, hoc, n, hod⟩ := hT
      obtain ⟨o2, ho2, hc2, hd2⟩ := hit
      rw [ho] at ho2
      cases ho2
      rw [hod] at hd2
      cases hd2
    have hae : e ≠ a := fun z => by
      rw [← z] at hT
      obtain ⟨o, ho, hoc, n, hod⟩ := hT
      rw [show s.heap.get? e = _ from he] at ho
      cases ho
      cases hod
    have D := Draws.tuple (prog := X.prog) (w := X.w) (A := X.A.in1) (I.ok.hd hc) it a hai its.toArray
    have hlt : i < its.toArray.size := by
      have := (List.getElem?_eq_some_iff.mp hu).1
      simpa using this
    refine wpAny_pyNext_enum_itemD D he ⟨hit, hT⟩ hlt hne (by simp [hae, hne]) fun x' h' tk hx' ho st' hTup hsz hk => ?_
    have ex : x' = u := by
      have hx2 : its.toArray[i]? = some x' := hx'
      rw [List.getElem?_toArray, hu] at hx2
      exact (Option.some.inj hx2).symm
    subst ex
    refine ⟨_, rfl, wpAny_letOwnedTupleGo_enum (s := { s with heap := h', toks := tk + 1 }) ho fun h'' he' sb => ?_⟩
    have hT2 : h''.get? s.heap.objs.size = some { cls := .type "tuple", data := .seq #[.int i tk, x'] } := (sb.2 _ (Nat.ne_of_gt hel)).trans hTup
    have new : ObjOk X.prog X.w (upd H s.heap.objs.size (.tup [.int (i : Nat), x])) h'' s.heap.objs.size (.tup [.int (i : Nat), x]) :=
      ⟨by show 2 ≤ sizeLine; decide, [.int i tk, x'], .cons ⟨_, rfl⟩ (.cons ru .nil), ⟨_, hT2, rfl, _, rfl⟩⟩
    have I1 : Inv X pins σ (upd H s.heap.objs.size (.tup [.int (i : Nat), x])) { s with heap := h'', toks := tk + 1 } :=
      I.turnedNew (ch := [e, it]) (fun b ob hb q => (sb.2 b (fun z => hb (by simp [z]))).trans (hk b ob (fun z => hb (by simp [z])) (fun z => hb (by simp [z])) q)) hf (Nat.le_refl _) new
    have e1 : ((i + 1 : Nat) : Int) = (i : Int) + 1 := by omega
    refine ⟨.ref s.heap.objs.size, _, I1, rfl, ⟨_, x, rfl, I.hok.fresh (Nat.le_refl _), rfl, fun ys hy => by rw [I.tuple_inj hy hq]; exact hx⟩, ⟨⟨x', by rw [e1]; exact he'⟩, st'.1.at fun o q => (sb.2 it (Ne.symm hne)).trans q, hne⟩, fun b hb => ?_⟩
    have hb' : b < s.heap.objs.size := by
      rcases (by simpa using hb : b = e ∨ b = it) with z | z
      · rw [z]; exact hel
      · rw [z]; exact hil
    rw [upd_ne (Nat.ne_of_lt hb')]
    exact (hf b hb).1
  done := by
    intro X hP hw hK hc i pins s σ H E I hf st hg
    subst hP hw hK
    obtain ⟨⟨old, he⟩, hit, hne⟩ := st
    obtain ⟨xs, hq, hx⟩ := hg
    obtain ⟨its, rv, pt, hz⟩ := I.tuple hq
    obtain ⟨f0, f1, f2, f3, f4, f5⟩ := hf it (by simp)
    have hT : s.heap.IsTuple a its.toArray := pt
    have hai : a ≠ it := fun z => by
      rw [z] at hT
      obtain ⟨o, ho, hoc, n, hod⟩ := hT
      obtain ⟨o2, ho2, hc2, hd2⟩ := hit
      rw [ho] at ho2
      cases ho2
      rw [hod] at hd2
      cases hd2
    have hl := rv.length
    have D := Draws.tuple (prog := X.prog) (w := X.w) (A := X.A.in1) (I.ok.hd hc) it a hai its.toArray
    have ei : its.toArray.size = i := by
      rw [List.size_toArray]
      omega
    exact wpAny_pyNext_enum_endD D he ⟨by rw [ei]; exact hit, hT⟩ fun h' eb => ⟨rfl, I.turned (t' := s.toks) (fun b o hb q => eb b o hb q) f0 f1 f3 f4 f5⟩
  self := fun A i s Q E st h => let ⟨⟨_, he⟩, _⟩ := st; wpAny_pyIter_enum he h
/-- enumerate of a list or a tuple -/
def iEnumS (K : PySem.W.Frag) (ta : TA) : TI := fun σ H W => ta σ H fun vs H1 => ∃ a, vs = [.ref a] ∧ ((∃ xs, SqL K H1 a xs ∧ W (Ite K a) H1) ∨ ∃ xs, SqT K H1 a xs ∧ W (IteT K a) H1)
theorem pi_enumS {X : Cx} {e : Expr} {ta : TA} {p pos tpos : Pos} {elts : List Expr} {kk : Nat} (hg : Gl X "enumerate") (hm : X.mg "enumerate" = none) (ha : PA X [e] ta) (hs : starEach [e] X.env = [(false, eval e X.env)] := by rfl) :
    PI X (.Tuple elts kk tpos) (.Call (.Name "enumerate" p) [e] [] pos) (iEnumS X.K ta) := by
  refine ⟨fun pins s σ H W I h => ?_⟩
  refine Call_ (ld_blt I hg hm boot_enumerate (PyProof.Rows.callWith_type1 (thn (ha.run pos pins s σ H _ I h) fun us s1 ⟨vs, H1, I1, r1, q1⟩ => ?_) hs rfl))
  obtain ⟨a, ex, q⟩ := q1
  subst ex
  obtain ⟨u, rfl, r⟩ := vals1 r1
  cases r
  have old : ∀ b, (b = s1.heap.objs.size + 1 ∨ b = s1.heap.objs.size) → s1.heap.objs.size ≤ b := fun b hb => by
    rcases hb with z | z
    · rw [z]; exact Nat.le_succ _
    · rw [z]; exact Nat.le_refl _
  rcases q with ⟨xs, hq, q⟩ | ⟨xs, hq, q⟩
  · obtain ⟨its, rv, pl, hz⟩ := I1.list hq
    refine call_enumerate_list pl.isList fun h' he hit hsz hk => wpAny_pyIter_enum he ?_
    have I2 : Inv X pins σ H1 { s1 with heap := h' } := I1.kept (t' := s1.toks) hk
    refine ⟨s1.heap.objs.size + 1, [s1.heap.objs.size + 1, s1.heap.objs.size], _, _, H1, rfl, I2, turn_enum a (s1.heap.objs.size + 1) s1.heap.objs.size, ⟨⟨.none, he⟩, hit, Nat.succ_ne_self _⟩, fun b hb => ?_, q⟩
    have hle := old b (by simpa using hb)
    exact I1.fpOk hle (I1.hok.fresh hle)
  · obtain ⟨its, rv, pl, hz⟩ := I1.tuple hq
    refine call_enumT (show s1.heap.IsTuple a its.toArray from pl) fun h' he hit hk => wpAny_pyIter_enum he ?_
    have I2 : Inv X pins σ H1 { s1 with heap := h' } := I1.kept (t' := s1.toks) hk
    refine ⟨s1.heap.objs.size + 1, [s1.heap.objs.size + 1, s1.heap.objs.size], _, _, H1, rfl, I2, turn_enumT a (s1.heap.objs.size + 1) s1.heap.objs.size, ⟨⟨.none, he⟩, hit, Nat.succ_ne_self _⟩, fun b hb => ?_, q⟩
    have hle := old b (by simpa using hb)
    exact I1.fpOk hle (I1.hok.fresh hle)
/-- a list or a tuple walked -/
def iSeq (K : PySem.W.Frag) (te : TE) : TI := fun σ H W => te σ H fun x H1 => ∃ a, x = .ref a ∧ ((∃ xs, SqL K H1 a xs ∧ W (Itl K a) H1) ∨ ∃ xs, SqT K H1 a xs ∧ W (Itt K a) H1)
theorem pi_seq {X : Cx} {tg e : Expr} {te : TE} (he : PE X e te) : PI X tg e (iSeq X.K te) := by
  refine ⟨fun pins s σ H W I h => ?_⟩
  refine thn (he.run pins s σ H _ I h) fun v s1 ⟨x, H1, I1, r1, q1⟩ => ?_
  obtain ⟨a, ex, q⟩ := q1
  subst ex
  cases r1
  have fp : ∀ b ∈ [s1.heap.objs.size], FpOk X pins H1 b := fun b hb => by
    rw [show b = s1.heap.objs.size by simpa using hb]
    exact I1.fpOk (Nat.le_refl _) (I1.hok.fresh (Nat.le_refl _))
  rcases q with ⟨xs, hq, q⟩ | ⟨xs, hq, q⟩
  · obtain ⟨its, rv, pl, hz⟩ := I1.list hq
    exact wpAny_pyIter_list pl.isList ⟨_, [s1.heap.objs.size], _, _, H1, rfl, I1.kept (t' := s1.toks) fun b o e => Heap.get?_push_of_some _ e, turn_list a _, ⟨_, Heap.get?_push_size _ rfl, rfl, rfl⟩, fp, q⟩
  · obtain ⟨its, rv, pl, hz⟩ := I1.tuple hq
    exact wpAny_pyIter_tuple (show s1.heap.IsTuple a its.toArray from pl) ⟨_, [s1.heap.objs.size], _, _, H1, rfl, I1.kept (t' := s1.toks) fun b o e => Heap.get?_push_of_some _ e, turn_tuple a _, ⟨_, Heap.get?_push_size _ rfl, rfl, rfl⟩, fp, q⟩

/-! ### what is walked, over the heap of Z0 -/
/-- the model's iterator gives these values in turn, while st -/
structure ItOk (L : Lw) (K : PySem.W.Frag) (J : It) (vs : List Z.V) (st : Z.Heap → Prop) : Prop where
  go : ∀ i Ho H, i < vs.length → RH L K Ho H → st Ho → J.go i H
  stop : ∀ Ho H, RH L K Ho H → st Ho → J.stop vs.length H
  yld : ∀ i Ho H x H', i < vs.length → RH L K Ho H → st Ho → J.yld i H x H' → H' = H ∧ ∃ v, vs[i]? = some v ∧ x = L.v v
/-- .. pairs, each in a new tuple that is not told of -/
structure ItOk2 (L : Lw) (K : PySem.W.Frag) (J : It) (vs : List (Z.V × Z.V)) (st : Z.Heap → Prop) : Prop where
  go : ∀ i Ho H, i < vs.length → RH L K Ho H → st Ho → J.go i H
  stop : ∀ Ho H, RH L K Ho H → st Ho → J.stop vs.length H
  yld : ∀ i Ho H x H', i < vs.length → RH L K Ho H → st Ho → J.yld i H x H' → ∃ T v, x = .ref T ∧ vs[i]? = some v ∧ H T = none ∧ H' = upd H T (.tup [L.v v.1, L.v v.2])
def liftI (L : Lw) (K : PySem.W.Frag) (C : Z.Cx) (t : Z.TI) : TI := fun σ H W => ∃ σo Ho, R L K σo Ho σ H ∧ t C σo Ho fun vs st Ho1 => ∀ J H1, R L K σo Ho1 σ H1 → Gr Ho H Ho1 H1 → ItOk L K J vs st → W J H1
def liftI2 (L : Lw) (K : PySem.W.Frag) (C : Z.Cx) (t : Z.TI2) : TI := fun σ H W => ∃ σo Ho, R L K σo Ho σ H ∧ t C σo Ho fun vs st Ho1 => ∀ J H1, R L K σo Ho1 σ H1 → Gr Ho H Ho1 H1 → ItOk2 L K J vs st → W J H1
structure SI (L : Lw) (X : Cx) (tg e : Expr) (t : Z.TI) : Prop where
  mono : ∀ C, Cmono C → ∀ σ H (Q Q' : List Z.V → (Z.Heap → Prop) → Z.Heap → Prop), (∀ v st H, Q v st H → Q' v st H) → t C σ H Q → t C σ H Q'
  run : ∀ C, Good L X C → PI X tg e (liftI L X.K C t)
structure SI2 (L : Lw) (X : Cx) (tg e : Expr) (t : Z.TI2) : Prop where
  mono : ∀ C, Cmono C → ∀ σ H (Q Q' : List (Z.V × Z.V) → (Z.Heap → Prop) → Z.Heap → Prop), (∀ v st H, Q v st H → Q' v st H) → t C σ H Q → t C σ H Q'
  run : ∀ C, Good L X C → PI X tg e (liftI2 L X.K C t)
section
variable {L : Lw} {X : Cx} {tg a b c e elt : Expr} {es : List Expr} {ta tb tc te : Z.TE} {t : Z.TA} {pos p : Pos} {g : Z.TG} {gs : Z.TGs} {K : PySem.W.Frag} {Ho : Z.Heap} {H : Hp}
theorem impI {tg e : Expr} {t t' : TI} (h : PI X tg e t) (i : ∀ σ H W, t' σ H W → t σ H W) : PI X tg e t' := ⟨fun pins s σ H W I q => h.run pins s σ H W I (i σ H W q)⟩
theorem vs_get {xs : List Z.V} {i : Nat} {x : V} (h : (L.vs xs)[i]? = some x) : ∃ v, xs[i]? = some v ∧ x = L.v v := by
  have h : (List.map L.v xs)[i]? = some x := h
  rw [List.getElem?_map] at h
  cases e : xs[i]? with
  | none => rw [e] at h; cases h
  | some v => rw [e] at h; exact ⟨v, rfl, (Option.some.inj h).symm⟩
theorem vs_at {xs : List Z.V} {i : Nat} (h : i < xs.length) : ∃ v, xs[i]? = some v ∧ (L.vs xs)[i]? = some (L.v v) := by
  refine ⟨xs[i], List.getElem?_eq_getElem h, ?_⟩
  show (List.map L.v xs)[i]? = _
  rw [List.getElem?_map, List.getElem?_eq_getElem h]
  rfl
theorem ok_l {q : Nat} {xs : List Z.V} : ItOk L K (Itl K q) xs (fun H2 => Z.litems H2 (.ref q) = some xs) := by
  have sq : ∀ {Ho H}, RH L K Ho H → Z.litems Ho (.ref q) = some xs → SqL K H q (L.vs xs) := fun r s => by
    obtain ⟨_, z, h⟩ := litems_rel r s
    cases z
    exact h
  refine ⟨fun i Ho H hi r s => ?_, fun Ho H r s => ?_, fun i Ho H x H' hi r s y => ?_⟩
  · obtain ⟨v, _, e⟩ := vs_at (L := L) hi
    exact ⟨_, _, sq r s, e⟩
  · exact ⟨_, sq r s, by rw [vs_len]; exact Nat.le_refl _⟩
  · obtain ⟨rfl, y⟩ := y
    exact ⟨rfl, vs_get (y _ (sq r s))⟩
theorem ok_t {q : Nat} {xs : List Z.V} : ItOk L K (Itt K q) xs (fun H2 => Z.titems H2 (.ref q) = some xs) := by
  have sq : ∀ {Ho H}, RH L K Ho H → Z.titems Ho (.ref q) = some xs → SqT K H q (L.vs xs) := fun r s => by
    obtain ⟨_, z, h⟩ := titems_rel r s
    cases z
    exact h
  refine ⟨fun i Ho H hi r s => ?_, fun Ho H r s => ?_, fun i Ho H x H' hi r s y => ?_⟩
  · obtain ⟨v, _, e⟩ := vs_at (L := L) hi
    exact ⟨_, _, sq r s, e⟩
  · exact ⟨_, sq r s, by rw [vs_len]; exact Nat.le_refl _⟩
  · obtain ⟨rfl, y⟩ := y
    exact ⟨rfl, vs_get (y _ (sq r s))⟩
theorem s_iseq (he : SE L X e te) : SI L X tg e (Z.iseq te) := by
  refine ⟨fun C m σ H Q Q' q h => he.mono C m _ _ _ _ (fun x H1 h1 => ?_) h, fun C gd => ?_⟩
  · rcases h1 with ⟨xs, i, h1⟩ | ⟨xs, i, h1⟩
    · exact .inl ⟨xs, i, q _ _ _ h1⟩
    · exact .inr ⟨xs, i, q _ _ _ h1⟩
  · refine impI (pi_seq (he.run C gd)) fun σ H W ⟨σo, Ho, r, h⟩ => ?_
    refine ⟨σo, Ho, r, he.mono C gd.mono _ _ _ _ (fun x Ho1 h1 H1 r1 g1 => ?_) h⟩
    rcases h1 with ⟨xs, i, h1⟩ | ⟨xs, i, h1⟩
    · obtain ⟨q, rfl, sq⟩ := litems_rel r1.hp i
      exact ⟨q, rfl, .inl ⟨_, sq, h1 _ H1 r1 g1 ok_l⟩⟩
    · obtain ⟨q, rfl, sq⟩ := titems_rel r1.hp i
      exact ⟨q, rfl, .inr ⟨_, sq, h1 _ H1 r1 g1 ok_t⟩⟩
theorem ok_r {lo : Int} {n : Nat} : ItOk L K (Itr lo n) (Z.rng lo n) (fun _ => True) := by
  have hl : (Z.rng lo n).length = n := by
    unfold Z.rng
    rw [List.length_map, List.length_range]
  refine ⟨fun i Ho H hi r s => by rw [hl] at hi; exact hi, fun Ho H r s => by rw [hl]; exact Nat.le_refl _, fun i Ho H x H' hi r s y => ?_⟩
  rw [hl] at hi
  obtain ⟨rfl, rfl⟩ := y
  refine ⟨rfl, .int (lo + i), ?_, rfl⟩
  unfold Z.rng
  rw [List.getElem?_map, List.getElem?_range hi]
  rfl
theorem s_irng1 {p2 : Pos} (hg : Gl X "range") (hm : X.mg "range" = none) (ha : SA L X [a] t) (hs : starEach [a] X.env = [(false, eval a X.env)] := by rfl) : SI L X tg (.Call (.Name "range" p2) [a] [] pos) (Z.irng1 t) := by
  refine ⟨fun C m σ H Q Q' q h => ha.mono C m _ _ _ _ (fun x H1 ⟨j, e, z, h1⟩ => ⟨j, e, z, q _ _ _ h1⟩) h, fun C gd => ?_⟩
  refine impI (pi_range1 hg hm (ha.run C gd) hs) fun σ H W ⟨σo, Ho, r, h⟩ => ?_
  refine ⟨σo, Ho, r, ha.mono C gd.mono _ _ _ _ (fun x Ho1 h1 H1 r1 g1 => ?_) h⟩
  obtain ⟨j, rfl, z, h1⟩ := h1
  exact ⟨j, rfl, z.1, z.2, h1 _ H1 r1 g1 ok_r⟩
theorem s_irng2 {p2 : Pos} (hg : Gl X "range") (hm : X.mg "range" = none) (ha : SA L X [a, b] t) (hs : starEach [a, b] X.env = [(false, eval a X.env), (false, eval b X.env)] := by rfl) (hs2 : starEach [b] X.env = [(false, eval b X.env)] := by rfl) : SI L X tg (.Call (.Name "range" p2) [a, b] [] pos) (Z.irng2 t) := by
  refine ⟨fun C m σ H Q Q' q h => ha.mono C m _ _ _ _ (fun x H1 ⟨i, j, e, z1, z2, h1⟩ => ⟨i, j, e, z1, z2, q _ _ _ h1⟩) h, fun C gd => ?_⟩
  refine impI (pi_range2 hg hm (ha.run C gd) hs hs2) fun σ H W ⟨σo, Ho, r, h⟩ => ?_
  refine ⟨σo, Ho, r, ha.mono C gd.mono _ _ _ _ (fun x Ho1 h1 H1 r1 g1 => ?_) h⟩
  obtain ⟨i, j, rfl, z1, z2, h1⟩ := h1
  exact ⟨i, j, rfl, ⟨z1.1, z1.2, z2.1, z2.2⟩, h1 _ H1 r1 g1 ok_r⟩
theorem enum_at : ∀ (xs : List Z.V) (k : Int) (i : Nat) (x : Z.V), xs[i]? = some x → (Z.enumV k xs)[i]? = some (.int (k + i), x)
  | [], _, _, _, h => by simp at h
  | y :: r, k, 0, x, h => by
    have e : y = x := by simpa using h
    subst e
    simp [Z.enumV]
  | y :: r, k, i + 1, x, h => by
    have e := enum_at r (k + 1) i x (by simpa using h)
    have e2 : k + 1 + (i : Int) = k + ((i + 1 : Nat) : Int) := by omega
    rw [e2] at e
    simpa [Z.enumV] using e
theorem enum_len : ∀ (xs : List Z.V) (k : Int), (Z.enumV k xs).length = xs.length
  | [], _ => rfl
  | y :: r, k => by
    show (Z.enumV (k + 1) r).length + 1 = r.length + 1
    rw [enum_len r]
theorem ok_el {q : Nat} {xs : List Z.V} : ItOk2 L K (Ite K q) (Z.enumV 0 xs) (fun H2 => Z.litems H2 (.ref q) = some xs) := by
  have sq : ∀ {Ho H}, RH L K Ho H → Z.litems Ho (.ref q) = some xs → SqL K H q (L.vs xs) := fun r s => by
    obtain ⟨_, z, h⟩ := litems_rel r s
    cases z
    exact h
  refine ⟨fun i Ho H hi r s => ?_, fun Ho H r s => ?_, fun i Ho H x H' hi r s y => ?_⟩
  · rw [enum_len] at hi
    obtain ⟨v, _, e⟩ := vs_at (L := L) hi
    exact ⟨_, _, sq r s, e⟩
  · exact ⟨_, sq r s, by rw [vs_len, enum_len]; exact Nat.le_refl _⟩
  · obtain ⟨T, z, rfl, hT, rfl, y⟩ := y
    obtain ⟨v, e1, rfl⟩ := vs_get (y _ (sq r s))
    exact ⟨T, _, rfl, enum_at xs 0 i v e1, hT, by rw [Int.zero_add]; rfl⟩
theorem ok_et {q : Nat} {xs : List Z.V} : ItOk2 L K (IteT K q) (Z.enumV 0 xs) (fun H2 => Z.titems H2 (.ref q) = some xs) := by
  have sq : ∀ {Ho H}, RH L K Ho H → Z.titems Ho (.ref q) = some xs → SqT K H q (L.vs xs) := fun r s => by
    obtain ⟨_, z, h⟩ := titems_rel r s
    cases z
    exact h
  refine ⟨fun i Ho H hi r s => ?_, fun Ho H r s => ?_, fun i Ho H x H' hi r s y => ?_⟩
  · rw [enum_len] at hi
    obtain ⟨v, _, e⟩ := vs_at (L := L) hi
    exact ⟨_, _, sq r s, e⟩
  · exact ⟨_, sq r s, by rw [vs_len, enum_len]⟩
  · obtain ⟨T, z, rfl, hT, rfl, y⟩ := y
    obtain ⟨v, e1, rfl⟩ := vs_get (y _ (sq r s))
    exact ⟨T, _, rfl, enum_at xs 0 i v e1, hT, by rw [Int.zero_add]; rfl⟩
theorem s_ienum {elts : List Expr} {kk : Nat} {tpos p2 : Pos} (hg : Gl X "enumerate") (hm : X.mg "enumerate" = none) (he : SE L X e te) (hs : starEach [e] X.env = (false, eval e X.env) :: starEach [] X.env := by rfl) :
    SI2 L X (.Tuple elts kk tpos) (.Call (.Name "enumerate" p2) [e] [] pos) (Z.ienum te) := by
  refine ⟨fun C m σ H Q Q' q h => he.mono C m _ _ _ _ (fun x H1 h1 => ?_) h, fun C gd => ?_⟩
  · rcases h1 with ⟨xs, i, h1⟩ | ⟨xs, i, h1⟩
    · exact .inl ⟨xs, i, q _ _ _ h1⟩
    · exact .inr ⟨xs, i, q _ _ _ h1⟩
  · refine impI (pi_enumS hg hm (pa_cons (he.run C gd) pa_nil hs) hs) fun σ H W ⟨σo, Ho, r, h⟩ => ?_
    refine ⟨σo, Ho, r, he.mono C gd.mono _ _ _ _ (fun x Ho1 h1 H1 r1 g1 => ?_) h⟩
    rcases h1 with ⟨xs, i, h1⟩ | ⟨xs, i, h1⟩
    · obtain ⟨q, rfl, sq⟩ := litems_rel r1.hp i
      exact ⟨q, rfl, .inl ⟨_, sq, h1 _ H1 r1 g1 ok_el⟩⟩
    · obtain ⟨q, rfl, sq⟩ := titems_rel r1.hp i
      exact ⟨q, rfl, .inr ⟨_, sq, h1 _ H1 r1 g1 ok_et⟩⟩

/-! ### for -/
variable {ti : Z.TI} {ti2 : Z.TI2} {b1 : List Stmt} {u1 : Z.TS} {sl : List Nat}
theorem fori_mono {st : Z.Heap → Prop} (hg : SG L X tg g sl) (hb : SB L X b1 u1) : ∀ C, Cmono C → ∀ vs σ H D D', Le D D' → Z.fori st g u1 C D vs σ H → Z.fori st g u1 C D' vs σ H := by
  intro C m vs
  induction vs with
  | nil => intro σ H D D' l h; exact ⟨h.1, l.nx _ _ h.2⟩
  | cons v r ih =>
    intro σ H D D' l h
    refine ⟨h.1, hg.mono C m _ _ _ _ _ (fun σ1 H1 h1 => ?_) h.2⟩
    exact hb.mono C m _ _ { D with nx := Z.fori st g u1 C D r, ct := Z.fori st g u1 C D r, bk := D.nx } _ ⟨fun σ H h => ih σ H D D' l h, l.rt, l.nx, fun σ H h => ih σ H D D' l h⟩ h1
theorem s_fore (hp : PassesOwn (model X.prog X.w) X.A X.env X.xe) (hc : X.calm = true) (hi : SI L X tg e ti) (hg : SG L X tg g sl) (hb : SB L X b1 u1) (hs : ∀ x, foldedSetIterable e X.env x = pure x := by intro _; rfl) : SS L X (.For tg e b1 [] pos) (Z.fore ti g u1) := by
  refine ⟨fun C m σ H D D' l h => hi.mono C m _ _ _ _ (fun vs st H1 h1 => fori_mono hg hb C m vs σ H1 D D' l h1) h, fun C gd => ?_⟩
  refine impS (ps_for hp hc (hi.run C gd) (hg.run C gd) (hb.run C gd) hs) fun D σ H ⟨σo, Ho, r, h⟩ => ?_
  refine ⟨σo, Ho, r, hi.mono C gd.mono _ _ _ _ (fun vs st Ho1 h1 J H1 r1 g1 ok => ?_) h⟩
  refine ⟨fun i m σ2 H2 => m = vs.length - i ∧ i ≤ vs.length ∧ ∃ σo2 Ho2, R L X.K σo2 Ho2 σ2 H2 ∧ Gr L.h0 L.H0 Ho2 H2 ∧ Z.fori st g u1 C (ends L X.K Ho H D) (vs.drop i) σo2 Ho2, ⟨vs.length, by simp, Nat.zero_le _, σo, Ho1, r1, r1.gr, h1⟩, ?_⟩
  rintro i m σ2 H2 ⟨rfl, hi, σo2, Ho2, r2, g2, h2⟩
  by_cases hlt : i < vs.length
  · rw [List.drop_eq_getElem_cons hlt] at h2
    obtain ⟨s2, h2⟩ := h2
    refine .inr ⟨ok.go i Ho2 H2 hlt r2.hp s2, fun σ' H' => ∃ σo3 Ho3, R L X.K σo3 Ho3 σ' H' ∧ Gr L.h0 L.H0 Ho3 H' ∧ Z.fori st g u1 C (ends L X.K Ho H D) (vs.drop (i + 1)) σo3 Ho3, fun σ' H' ⟨σo3, Ho3, w⟩ => ⟨vs.length - (i + 1), by omega, rfl, hlt, σo3, Ho3, w⟩, fun x H3 y => ?_⟩
    obtain ⟨rfl, v, ev, rfl⟩ := ok.yld i Ho2 H2 x H3 hlt r2.hp s2 y
    rw [List.getElem?_eq_getElem hlt] at ev
    cases ev
    refine ⟨_, σo2, Ho2, rfl, r2, hg.mono C gd.mono _ _ _ _ _ (fun σ4 Ho4 h4 σ5 H5 r5 g5 _ => ?_) h2⟩

    refine ⟨σ4, Ho4, r5, hb.mono C gd.mono _ _ { ends L X.K Ho H D with nx := Z.fori st g u1 C (ends L X.K Ho H D) (vs.drop (i + 1)), ct := Z.fori st g u1 C (ends L X.K Ho H D) (vs.drop (i + 1)), bk := (ends L X.K Ho H D).nx } _
      ⟨fun σ6 Ho6 h6 σ' H' r6 g6 => ⟨σ6, Ho6, r6, g6, h6⟩, fun v Ho6 h6 H' r6 g6 => h6 H' r6 g6, fun σ6 Ho6 h6 σ' H' r6 g6 => h6 σ' H' r6 g6, fun σ6 Ho6 h6 σ' H' r6 g6 => ⟨σ6, Ho6, r6, g6, h6⟩⟩ h4⟩
  · have ei : i = vs.length := by omega
    subst ei
    rw [List.drop_length] at h2
    exact .inl ⟨ok.stop Ho2 H2 r2.hp h2.1, h2.2 σ2 H2 r2 g2⟩
theorem fori2_mono {st : Z.Heap → Prop} (hg : SGs L X es gs sl) (hb : SB L X b1 u1) : ∀ C, Cmono C → ∀ vs σ H D D', Le D D' → Z.fori2 st gs u1 C D vs σ H → Z.fori2 st gs u1 C D' vs σ H := by
  intro C m vs
  induction vs with
  | nil => intro σ H D D' l h; exact ⟨h.1, l.nx _ _ h.2⟩
  | cons v r ih =>
    intro σ H D D' l h
    refine ⟨h.1, hg.mono C m _ _ _ _ _ (fun σ1 H1 h1 => ?_) h.2⟩
    exact hb.mono C m _ _ { D with nx := Z.fori2 st gs u1 C D r, ct := Z.fori2 st gs u1 C D r, bk := D.nx } _ ⟨fun σ H h => ih σ H D D' l h, l.rt, l.nx, fun σ H h => ih σ H D D' l h⟩ h1
theorem s_fore2 {k : Nat} {p2 : Pos} (hp : PassesOwn (model X.prog X.w) X.A X.env X.xe) (hc : X.calm = true) (hi : SI2 L X (.Tuple [a, b] k p2) e ti2) (hg : SGs L X [a, b] gs sl) (hb : SB L X b1 u1)
    (hn : (assignEach [a, b] X.env).length = 2 := by rfl) (hst : (assignEach [a, b] X.env).findIdx? (·.1) = none := by rfl) (hs : ∀ x, foldedSetIterable e X.env x = pure x := by intro _; rfl) : SS L X (.For (.Tuple [a, b] k p2) e b1 [] pos) (Z.fore2 ti2 gs u1) := by
  refine ⟨fun C m σ H D D' l h => hi.mono C m _ _ _ _ (fun vs st H1 h1 => fori2_mono hg hb C m vs σ H1 D D' l h1) h, fun C gd => ?_⟩
  refine impS (ps_for hp hc (hi.run C gd) (pg_tup hc (hg.run C gd) hn hst) (hb.run C gd) hs) fun D σ H ⟨σo, Ho, r, h⟩ => ?_
  refine ⟨σo, Ho, r, hi.mono C gd.mono _ _ _ _ (fun vs st Ho1 h1 J H1 r1 g1 ok => ?_) h⟩
  refine ⟨fun i m σ2 H2 => m = vs.length - i ∧ i ≤ vs.length ∧ ∃ σo2 Ho2, R L X.K σo2 Ho2 σ2 H2 ∧ Gr L.h0 L.H0 Ho2 H2 ∧ Z.fori2 st gs u1 C (ends L X.K Ho H D) (vs.drop i) σo2 Ho2, ⟨vs.length, by simp, Nat.zero_le _, σo, Ho1, r1, r1.gr, h1⟩, ?_⟩
  rintro i m σ2 H2 ⟨rfl, hi, σo2, Ho2, r2, g2, h2⟩
  by_cases hlt : i < vs.length
  · rw [List.drop_eq_getElem_cons hlt] at h2
    obtain ⟨s2, h2⟩ := h2
    refine .inr ⟨ok.go i Ho2 H2 hlt r2.hp s2, fun σ' H' => ∃ σo3 Ho3, R L X.K σo3 Ho3 σ' H' ∧ Gr L.h0 L.H0 Ho3 H' ∧ Z.fori2 st gs u1 C (ends L X.K Ho H D) (vs.drop (i + 1)) σo3 Ho3, fun σ' H' ⟨σo3, Ho3, w⟩ => ⟨vs.length - (i + 1), by omega, rfl, hlt, σo3, Ho3, w⟩, fun x H3 y => ?_⟩
    obtain ⟨T, v, rfl, ev, hT, rfl⟩ := ok.yld i Ho2 H2 x H3 hlt r2.hp s2 y
    rw [List.getElem?_eq_getElem hlt] at ev
    cases ev

    refine ⟨T, _, rfl, SqT.of upd_same, rfl, [(vs[i]).1, (vs[i]).2], σo2, Ho2, rfl, r2.heap (r2.hp.hid (r2.hp.free hT)) (Gr.hid hT), hg.mono C gd.mono _ _ _ _ _ (fun σ4 Ho4 h4 σ5 H5 r5 g5 _ => ?_) h2⟩

    refine ⟨σ4, Ho4, r5, hb.mono C gd.mono _ _ { ends L X.K Ho H D with nx := Z.fori2 st gs u1 C (ends L X.K Ho H D) (vs.drop (i + 1)), ct := Z.fori2 st gs u1 C (ends L X.K Ho H D) (vs.drop (i + 1)), bk := (ends L X.K Ho H D).nx } _
      ⟨fun σ6 Ho6 h6 σ' H' r6 g6 => ⟨σ6, Ho6, r6, g6, h6⟩, fun v Ho6 h6 H' r6 g6 => h6 H' r6 g6, fun σ6 Ho6 h6 σ' H' r6 g6 => h6 σ' H' r6 g6, fun σ6 Ho6 h6 σ' H' r6 g6 => ⟨σ6, Ho6, r6, g6, h6⟩⟩ h4⟩
  · have ei : i = vs.length := by omega
    subst ei
    rw [List.drop_length] at h2
    exact .inl ⟨ok.stop Ho2 H2 r2.hp h2.1, h2.2 σ2 H2 r2 g2⟩

/-! ### comprehensions -/
theorem get_wipe : ∀ (own : List Nat) (σo : Z.St) (i : Nat) (v : Z.V), Z.get (Z.wipe σo own) i = some v → Z.get σo i = some v ∧ i ∉ own := by
  have gs : ∀ (σo : Z.St) (i j : Nat) (v : Z.V), Z.get (σo.set i none) j = some v → Z.get σo j = some v ∧ j ≠ i := by
    intro σo
    induction σo with
    | nil => intro i j v h; cases h
    | cons o r ih =>
      intro i j v h
      cases i with
      | zero =>
        cases j with
        | zero => cases h
        | succ j => exact ⟨h, by omega⟩
      | succ i =>
        cases j with
        | zero => exact ⟨h, by omega⟩
        | succ j =>
          obtain ⟨h1, h2⟩ := ih i j v h
          exact ⟨h1, by omega⟩
  intro own
  induction own with
  | nil => intro σo i v h; exact ⟨h, by simp⟩
  | cons o r ih =>
    intro σo i v h
    obtain ⟨h1, h2⟩ := gs _ _ _ _ h
    obtain ⟨h3, h4⟩ := ih σo i v h1
    exact ⟨h3, by simp only [List.mem_cons, not_or]; exact ⟨h2, h4⟩⟩
theorem wipe_at {σ : St} {i : Nat} : ∀ {vs : List Nat}, i ∉ vs → (wipe σ vs)[i]? = σ[i]?
  | [], _ => rfl
  | v :: vs, h => by
    have h2 : i ≠ v ∧ i ∉ vs := by simpa using h
    unfold wipe
    rw [List.getElem?_set_ne (Ne.symm h2.1), wipe_at h2.2]
theorem R.wipe {σo : Z.St} {σ : St} (r : R L K σo Ho σ H) (own : List Nat) : R L K (Z.wipe σo own) Ho (wipe σ own) H := by
  refine ⟨?_, fun i v h => ?_, r.hp, r.gr⟩
  · rw [wipe_length]
    have e : ∀ own : List Nat, (Z.wipe σo own).length = σo.length := by
      intro own
      induction own with
      | nil => rfl
      | cons o l ih => show ((Z.wipe σo l).set o none).length = _; rw [List.length_set, ih]
    rw [e]
    exact r.len
  · obtain ⟨h1, h2⟩ := get_wipe own σo i v h
    rw [wipe_at h2]
    exact r.sl i v h1
/-- what agrees outside of the wiped slots is wiped to the same -/
theorem wipe_but {σ σ' : St} {own sl : List Nat} (b : But sl (wipe σ own) σ') (hs : ∀ i ∈ sl, i ∈ own) : wipe σ' own = wipe σ own := by
  have hl : σ'.length = σ.length := by rw [b.len, wipe_length]
  refine List.ext_getElem? fun i => ?_
  by_cases hi : i ∈ own
  · have key : ∀ (τ : St) (vs : List Nat), i ∈ vs → i < τ.length → (wipe τ vs)[i]? = some none := by
      intro τ vs
      induction vs with
      | nil => intro h; cases h
      | cons v vs ih =>
        intro h hlt
        unfold wipe
        by_cases e : v = i
        · subst e
          rw [List.getElem?_set_self (by rw [wipe_length]; exact hlt)]
        · rw [List.getElem?_set_ne e]
          exact ih ((List.mem_cons.mp h).resolve_left (Ne.symm e)) hlt
    by_cases hlt : i < σ.length
    · rw [key σ' own hi (by rw [hl]; exact hlt), key σ own hi hlt]
    · rw [List.getElem?_eq_none (by rw [wipe_length, hl]; omega), List.getElem?_eq_none (by rw [wipe_length]; omega)]
  · rw [wipe_at hi, b.at_ i (fun z => hi (hs i z)), wipe_at hi]
/-- the block of a comprehension -/
theorem Good.blk {C : Z.Cx} (gd : Good L X C) {s : Shared} {H : Hp} {scope : Scope} {ce : Env} {fp : List Addr} : Good L (X.blk s H scope ce fp) C.calm :=
  ⟨gd.mono, fun u s' ⟨_, _, _, _, _, _, _, _, _, _, _, _, _, _, _, _, _, _, _, _, _, _, _, z⟩ => z, gd.units, gd.call⟩
/-- a clause's tests -/
structure STs (L : Lw) (X : Cx) (ifs : List Expr) (t : Z.TT) : Prop where
  mono : ∀ C, Cmono C → ∀ σ H (Q Q' : Bool → Z.Heap → Prop), (∀ v H, Q v H → Q' v H) → t C σ H Q → t C σ H Q'
  run : ∀ C, Good L X C → PTs X ifs (liftT L X.K C t)
theorem s_ts0 : STs L X [] Z.tyes := ⟨fun C m σ H Q Q' q h => q _ _ h, fun C gd => ⟨fun pins s σ H Q I ⟨σo, Ho, r, h⟩ => (pts_nil (X := X)).run pins s σ H Q I (h H r (Gr.refl _ _))⟩⟩
theorem s_ts1 {tq : Z.TT} (h : ST L X c tq) : STs L X [c] tq := ⟨h.mono, fun C gd => pts_one (h.run C gd)⟩
variable {ifs : List Expr} {tq : Z.TT} {own : List Nat}
/-- what stands during a comprehension: the new list at D holds acc and is not told of -/
structure Dur (L : Lw) (K : PySem.W.Frag) (D : Addr) (Ho : Z.Heap) (H : Hp) (acc : List Z.V) (Ho' : Z.Heap) (H' : Hp) : Prop where
  hp : RH L K Ho' H'
  at_ : H' D = some (.lst (L.vs acc))
  no : Ho' D = none
  on : ∀ a, H a ≠ none → H' a ≠ none
  un : ∀ a o, a ≠ D → H a = some o → Ho a = none → Ho' a = none ∧ ((∀ ps, o ≠ .tbl ps) → H' a = some o)
theorem Dur.gr {D : Addr} {acc : List Z.V} {Ho1 : Z.Heap} {H1 : Hp} (d : Dur L K D Ho H acc Ho1 H1) (hD : H D = none) : Gr Ho H Ho1 H1 := ⟨d.on, fun a o e1 e2 => d.un a o (fun z => by rw [z, hD] at e1; cases e1) e1 e2⟩
theorem Dur.start {D : Addr} (r : RH L K Ho H) (hD : H D = none) : Dur L K D Ho H [] Ho (upd H D (.lst [])) :=
  ⟨r.hid (r.free hD), upd_same, r.free hD, fun a h => by
    by_cases e : a = D
    · subst e; exact absurd hD h
    · rw [upd_ne e]; exact h, fun a o n e1 e2 => ⟨e2, fun _ => by rw [upd_ne n]; exact e1⟩⟩
theorem Dur.step {D : Addr} {acc : List Z.V} {Ho1 Ho2 : Z.Heap} {H1 H2 : Hp} (d : Dur L K D Ho H acc Ho1 H1) (r : RH L K Ho2 H2) (g : Gr Ho1 H1 Ho2 H2) : Dur L K D Ho H acc Ho2 H2 := by
  obtain ⟨n, k⟩ := g.un D _ d.at_ d.no
  refine ⟨r, k (fun ps z => (nomatch z)), n, fun a h => g.on a (d.on a h), fun a o na e1 e2 => ?_⟩
  obtain ⟨n1, k1⟩ := d.un a o na e1 e2
  cases q : H1 a with
  | none => exact absurd q (d.on a (by rw [e1]; exact fun z => nomatch z))
  | some o1 =>
    obtain ⟨n2, k2⟩ := g.un a o1 q n1
    refine ⟨n2, fun nt => ?_⟩
    have e3 := k1 nt
    rw [q] at e3
    cases e3
    exact k2 nt
theorem Dur.push {D : Addr} {acc : List Z.V} {Ho1 : Z.Heap} {H1 : Hp} (d : Dur L K D Ho H acc Ho1 H1) (v : Z.V) : Dur L K D Ho H (acc ++ [v]) Ho1 (upd H1 D (.lst (L.vs acc ++ [L.v v]))) := by
  have e : L.vs acc ++ [L.v v] = L.vs (acc ++ [v]) := (vs_app L acc [v]).symm
  refine ⟨d.hp.hid d.no, by rw [upd_same, e], d.no, fun a h => ?_, fun a o n e1 e2 => ?_⟩
  · by_cases z : a = D
    · subst z; rw [upd_same]; exact fun z => nomatch z
    · rw [upd_ne z]; exact d.on a h
  · rw [upd_ne n]
    exact d.un a o n e1 e2
/-- at the end the list is told of -/
theorem Dur.told {D : Addr} {acc : List Z.V} {Ho1 : Z.Heap} {H1 : Hp} (d : Dur L K D Ho H acc Ho1 H1) (hD : H D = none) : RH L K (Z.upd Ho1 D (.lst acc)) H1 ∧ Gr Ho H (Z.upd Ho1 D (.lst acc)) H1 := by
  refine ⟨fun b w e => ?_, d.on, fun a o e1 e2 => ?_⟩
  · by_cases hb : b = D
    · subst hb
      rw [Z.upd_same] at e
      cases e
      exact d.at_
    · rw [Z.upd_ne hb] at e
      exact d.hp b w e
  · have na : a ≠ D := fun z => by rw [z, hD] at e1; cases e1
    rw [Z.upd_ne na]
    exact d.un a o na e1 e2
theorem lci_mono {X1 X2 X3 : Cx} {st : Z.Heap → Prop} (hg : SG L X1 tg g sl) (ht : STs L X2 ifs tq) (he : SE L X3 elt te) : ∀ C, Cmono C → ∀ vs σ acc H (Q Q' : List Z.V → Z.Heap → Prop), (∀ v H, Q v H → Q' v H) → Z.lci st own g tq te C σ Q vs acc H → Z.lci st own g tq te C σ Q' vs acc H := by
  intro C m vs
  induction vs with
  | nil => intro σ acc H Q Q' q h; exact ⟨h.1, q _ _ h.2⟩
  | cons v r ih =>
    intro σ acc H Q Q' q h
    refine ⟨h.1, hg.mono C m _ _ _ _ _ (fun σ1 H1 h1 => ht.mono C m _ _ _ _ (fun k H2 h2 => ?_) h1) h.2⟩
    cases k with
    | true => exact he.mono C m _ _ _ _ (fun y H3 h3 => ⟨h3.1, ih σ _ H3 Q Q' q h3.2⟩) h2
    | false => exact ih σ _ H2 Q Q' q h2
section
variable {scope : Scope} {owns : List (Str × Nat)}
/-- the reading of a comprehension -/
theorem lc_read {C : Z.Cx} (gd : Good L X C) {σ : St} {σo : Z.St} {Ho1 : Z.Heap} {H1 : Hp} {J : It} {vs : List Z.V} {st : Z.Heap → Prop} {Qd : Addr → Hp → Prop} (r1 : R L X.K σo Ho1 σ H1) (ok : ItOk L X.K J vs st)
    (hg : ∀ C, Cmono C → ∀ v σ H (Q Q' : Z.St → Z.Heap → Prop), (∀ v H, Q v H → Q' v H) → g C v σ H Q → g C v σ H Q') (ht : ∀ C, Cmono C → ∀ σ H (Q Q' : Bool → Z.Heap → Prop), (∀ v H, Q v H → Q' v H) → tq C σ H Q → tq C σ H Q')
    (he : ∀ C, Cmono C → ∀ σ H (Q Q' : Z.VK), (∀ v H, Q v H → Q' v H) → te C σ H Q → te C σ H Q') (hs : ∀ i ∈ sl, i ∈ own)
    (h1 : Z.lci st own g tq te C.calm σo (fun acc H2 => ∀ p, H2 p = none → ∀ H', RH L X.K (Z.upd H2 p (.lst acc)) H' → Gr Ho1 H1 (Z.upd H2 p (.lst acc)) H' → Qd p H') vs [] Ho1) :
    ∀ D, H1 D = none → ∃ W : Nat → Nat → Hp → Prop, (∃ m, W 0 m (upd H1 D (.lst []))) ∧ ∀ i m H, W i m H →
      (J.stop i H ∧ Qd D H) ∨ (J.go i H ∧ ∃ Nx : Hp → Prop, (∀ H', Nx H' → ∃ m', m' < m ∧ W (i + 1) m' H') ∧ ∀ x H', J.yld i H x H' → liftG L X.K C.calm g sl x (wipe σ own) H' fun σ2 H2 => wipe σ2 own = wipe σ own ∧ liftT L X.K C.calm tq σ2 H2 fun b H3 =>
        if b = true then liftE L X.K C.calm te σ2 H3 fun y H4 => ∃ acc, H4 D = some (.lst acc) ∧ acc.length < sizeLine ∧ Nx (upd H4 D (.lst (acc ++ [y]))) else Nx H3) := by
  intro D hD
  refine ⟨fun i m H2 => m = vs.length - i ∧ i ≤ vs.length ∧ ∃ acc Ho2, Dur L X.K D Ho1 H1 acc Ho2 H2 ∧ Z.lci st own g tq te C.calm σo (fun acc H2 => ∀ p, H2 p = none → ∀ H', RH L X.K (Z.upd H2 p (.lst acc)) H' → Gr Ho1 H1 (Z.upd H2 p (.lst acc)) H' → Qd p H') (vs.drop i) acc Ho2,
    ⟨vs.length, by simp, Nat.zero_le _, [], Ho1, Dur.start r1.hp hD, h1⟩, ?_⟩
  rintro i m H2 ⟨rfl, hi, acc, Ho2, d2, h2⟩
  by_cases hlt : i < vs.length
  · rw [List.drop_eq_getElem_cons hlt] at h2
    obtain ⟨s2, h2⟩ := h2
    refine .inr ⟨ok.go i Ho2 H2 hlt d2.hp s2, fun H' => ∃ acc Ho3, Dur L X.K D Ho1 H1 acc Ho3 H' ∧ Z.lci st own g tq te C.calm σo (fun acc H2 => ∀ p, H2 p = none → ∀ H', RH L X.K (Z.upd H2 p (.lst acc)) H' → Gr Ho1 H1 (Z.upd H2 p (.lst acc)) H' → Qd p H') (vs.drop (i + 1)) acc Ho3,
      fun H' w => ⟨vs.length - (i + 1), by omega, rfl, hlt, w⟩, fun x H3 y => ?_⟩
    obtain ⟨rfl, v, ev, rfl⟩ := ok.yld i Ho2 H2 x H3 hlt d2.hp s2 y
    rw [List.getElem?_eq_getElem hlt] at ev
    cases ev
    refine ⟨_, _, Ho2, rfl, (r1.wipe own).heap d2.hp (d2.gr hD), hg C.calm gd.mono _ _ _ _ _ (fun σ4 Ho4 h4 σ5 H5 r5 g5 bt => ?_) h2⟩
    have d5 := d2.step r5.hp g5
    refine ⟨wipe_but bt hs, σ4, Ho4, r5, ht C.calm gd.mono _ _ _ _ (fun k Ho6 h6 H6 r6 g6 => ?_) h4⟩
    have d6 := d5.step r6.hp g6
    cases k with
    | false => exact iteF ⟨acc, Ho6, d6, h6⟩
    | true =>
      refine iteT ⟨σ4, Ho6, r6, he C.calm gd.mono _ _ _ _ (fun w Ho7 h7 H7 r7 g7 => ?_) h6⟩
      have d7 := d6.step r7.hp g7
      exact ⟨_, d7.at_, by rw [vs_len, ← line_eq]; exact h7.1, acc ++ [w], Ho7, d7.push w, h7.2⟩
  · have ei : i = vs.length := by omega
    subst ei
    rw [List.drop_length] at h2
    obtain ⟨t1, t2⟩ := d2.told hD
    exact .inl ⟨ok.stop Ho2 H2 d2.hp h2.1, h2.2 D d2.no H2 t1 t2⟩
/-- what a comprehension asks, told over Z0 -/
theorem lc_imp {C : Z.Cx} (gd : Good L X C) (hi : SI L X tg e ti) {X1 X2 X3 : Cx} (hg : SG L X1 tg g sl) (ht : STs L X2 ifs tq) (he : SE L X3 elt te) (hsl : ∀ i ∈ sl, i ∈ own) {σ : St} {H : Hp} {Q : L2.VK} (h : liftE L X.K C (Z.lcomp ti own g tq te) σ H Q) :
    tLc (liftI L X.K C ti) (liftG L X.K C.calm g sl) (liftT L X.K C.calm tq) (liftE L X.K C.calm te) own σ H Q := by
  obtain ⟨σo, Ho, r, h⟩ := h
  refine ⟨σo, Ho, r, hi.mono C gd.mono _ _ _ _ (fun vs st Ho1 h1 J H1 r1 g1 ok => ?_) h⟩
  refine lc_read (Qd := fun p H' => Q (.ref p) H') gd r1 ok hg.mono ht.mono he.mono hsl ?_
  exact lci_mono hg ht he C.calm gd.mono vs σo [] Ho1 _ _ (fun acc H2 h p hp H' rh gr => h p hp H' (r1.heap rh gr) (g1.trans gr)) h1
theorem lcomp_mono (hi : SI L X tg e ti) {X1 X2 X3 : Cx} (hg : SG L X1 tg g sl) (ht : STs L X2 ifs tq) (he : SE L X3 elt te) : ∀ C, Cmono C → ∀ σ H (Q Q' : Z.VK), (∀ v H, Q v H → Q' v H) → Z.lcomp ti own g tq te C σ H Q → Z.lcomp ti own g tq te C σ H Q' :=
  fun C m σ H Q Q' q h => hi.mono C m _ _ _ _ (fun vs st H1 h1 => lci_mono hg ht he C.calm m vs σ [] H1 _ _ (fun v H h p hp => q _ _ (h p hp)) h1) h
theorem s_lcomp (hc : X.calm = true) (hN : X.N.Nodup) (hi : SI L X tg e ti) (bk : BlkOk X.N X.env.scope scope owns)
    (hg : ∀ (s : Shared) (H : Hp) (C : Addr) (cl : List (Str × Addr)) (fp : List Addr), SG L (X.blk s H scope (compEnvC scope cl C X.env) fp) tg g sl) (ht : ∀ (s : Shared) (H : Hp) (C : Addr) (cl : List (Str × Addr)) (fp : List Addr), STs L (X.blk s H scope (compEnvC scope cl C X.env) fp) ifs tq)
    (he : ∀ (s : Shared) (H : Hp) (C : Addr) (cl : List (Str × Addr)) (fp : List Addr), SE L (X.blk s H scope (compEnvC scope cl C X.env) fp) elt te) (hown : owns.map (·.2) = own := by rfl) (hsl : ∀ i ∈ sl, i ∈ own := by decide) (hs : ∀ x, foldedSetIterable e X.env x = pure x := by intro _; rfl) :
    SE L X (.ListComp elt [⟨tg, e, ifs, 0⟩] scope pos) (Z.lcomp ti own g tq te) := by
  subst hown
  refine ⟨lcomp_mono hi (hg X.s_0 X.H_0 0 [] []) (ht X.s_0 X.H_0 0 [] []) (he X.s_0 X.H_0 0 [] []), fun C gd => ?_⟩
  exact impE (pe_lc (g := liftG L X.K C.calm g sl) (tt := liftT L X.K C.calm tq) (te := liftE L X.K C.calm te) hc hN (hi.run C gd) bk (fun s H C' cl fp => (hg s H C' cl fp).run C.calm gd.blk) (fun s H C' cl fp => (ht s H C' cl fp).run C.calm gd.blk) (fun s H C' cl fp => (he s H C' cl fp).run C.calm gd.blk) hs) fun σ H Q h => lc_imp gd hi (hg X.s_0 X.H_0 0 [] []) (ht X.s_0 X.H_0 0 [] []) (he X.s_0 X.H_0 0 [] []) hsl h
/-- y = [..] on one line -/
theorem s_setLc {i : Nat} {y : Str} {py spos : Pos} (hc : X.calm = true) (hN : X.N.Nodup) (hi : SI L X tg e ti) (bk : BlkOk X.N X.env.scope scope owns)
    (hg : ∀ (s : Shared) (H : Hp) (C : Addr) (cl : List (Str × Addr)) (fp : List Addr), SG L (X.blk s H scope (compEnvC scope cl C X.env) fp) tg g sl) (ht : ∀ (s : Shared) (H : Hp) (C : Addr) (cl : List (Str × Addr)) (fp : List Addr), STs L (X.blk s H scope (compEnvC scope cl C X.env) fp) ifs tq)
    (he : ∀ (s : Shared) (H : Hp) (C : Addr) (cl : List (Str × Addr)) (fp : List Addr), SE L (X.blk s H scope (compEnvC scope cl C X.env) fp) elt te) (hown : owns.map (·.2) = own := by rfl) (hsl : ∀ i ∈ sl, i ∈ own := by decide) (hy : X.N[i]? = some y := by rfl) (hyl : X.env.scope.names.lookup y = some .local := by rfl)
    (hsw : swapsWith (.ListComp elt [⟨tg, e, ifs, 0⟩] scope pos) (some (.Name y py)) spos.line X.env = pure true := by exact sw_true rfl rfl rfl (by decide +kernel)) (hs : ∀ x, foldedSetIterable e X.env x = pure x := by intro _; rfl) :
    SS L X (.Assign [.Name y py] (.ListComp elt [⟨tg, e, ifs, 0⟩] scope pos) spos) (Z.asg (Z.gname i) (Z.lcomp ti own g tq te)) := by
  subst hown
  have mo := lcomp_mono (own := owns.map (·.2)) hi (hg X.s_0 X.H_0 0 [] []) (ht X.s_0 X.H_0 0 [] []) (he X.s_0 X.H_0 0 [] [])
  refine ⟨fun C m σ H D D' l h => mo C m _ _ _ _ (fun v H1 h1 => l.nx _ _ h1) h, fun C gd => ?_⟩
  refine impS (ps_setLc (g := liftG L X.K C.calm g sl) (tt := liftT L X.K C.calm tq) (te := liftE L X.K C.calm te) hc hN hy hyl hsw (hi.run C gd) bk (fun s H C' cl fp => (hg s H C' cl fp).run C.calm gd.blk) (fun s H C' cl fp => (ht s H C' cl fp).run C.calm gd.blk) (fun s H C' cl fp => (he s H C' cl fp).run C.calm gd.blk) hs) fun D σ H ⟨σo, Ho, r, h⟩ => ?_
  refine lc_imp gd hi (hg X.s_0 X.H_0 0 [] []) (ht X.s_0 X.H_0 0 [] []) (he X.s_0 X.H_0 0 [] []) hsl ⟨σo, Ho, r, mo C gd.mono _ _ _ _ (fun v Ho1 h1 H1 r1 g1 => ?_) h⟩
  exact h1 _ _ (r1.put i v) r1.gr

/-! ### .. over pairs -/
theorem lci2_mono {X1 X2 X3 : Cx} {st : Z.Heap → Prop} (hg : SGs L X1 es gs sl) (ht : STs L X2 ifs tq) (he : SE L X3 elt te) : ∀ C, Cmono C → ∀ vs σ acc H (Q Q' : List Z.V → Z.Heap → Prop), (∀ v H, Q v H → Q' v H) → Z.lci2 st own gs tq te C σ Q vs acc H → Z.lci2 st own gs tq te C σ Q' vs acc H := by
  intro C m vs
  induction vs with
  | nil => intro σ acc H Q Q' q h; exact ⟨h.1, q _ _ h.2⟩
  | cons v r ih =>
    intro σ acc H Q Q' q h
    refine ⟨h.1, hg.mono C m _ _ _ _ _ (fun σ1 H1 h1 => ht.mono C m _ _ _ _ (fun k H2 h2 => ?_) h1) h.2⟩
    cases k with
    | true => exact he.mono C m _ _ _ _ (fun y H3 h3 => ⟨h3.1, ih σ _ H3 Q Q' q h3.2⟩) h2
    | false => exact ih σ _ H2 Q Q' q h2
theorem lc_read2 {C : Z.Cx} (gd : Good L X C) {σ : St} {σo : Z.St} {Ho1 : Z.Heap} {H1 : Hp} {J : It} {vs : List (Z.V × Z.V)} {st : Z.Heap → Prop} {Qd : Addr → Hp → Prop} (r1 : R L X.K σo Ho1 σ H1) (ok : ItOk2 L X.K J vs st)
    (hg : ∀ C, Cmono C → ∀ v σ H (Q Q' : Z.St → Z.Heap → Prop), (∀ v H, Q v H → Q' v H) → gs C v σ H Q → gs C v σ H Q') (ht : ∀ C, Cmono C → ∀ σ H (Q Q' : Bool → Z.Heap → Prop), (∀ v H, Q v H → Q' v H) → tq C σ H Q → tq C σ H Q')
    (he : ∀ C, Cmono C → ∀ σ H (Q Q' : Z.VK), (∀ v H, Q v H → Q' v H) → te C σ H Q → te C σ H Q') (hs : ∀ i ∈ sl, i ∈ own)
    (h1 : Z.lci2 st own gs tq te C.calm σo (fun acc H2 => ∀ p, H2 p = none → ∀ H', RH L X.K (Z.upd H2 p (.lst acc)) H' → Gr Ho1 H1 (Z.upd H2 p (.lst acc)) H' → Qd p H') vs [] Ho1) :
    ∀ D, H1 D = none → ∃ W : Nat → Nat → Hp → Prop, (∃ m, W 0 m (upd H1 D (.lst []))) ∧ ∀ i m H, W i m H →
      (J.stop i H ∧ Qd D H) ∨ (J.go i H ∧ ∃ Nx : Hp → Prop, (∀ H', Nx H' → ∃ m', m' < m ∧ W (i + 1) m' H') ∧ ∀ x H', J.yld i H x H' → gTup X.K 2 (liftGs L X.K C.calm gs sl) x (wipe σ own) H' fun σ2 H2 => wipe σ2 own = wipe σ own ∧ liftT L X.K C.calm tq σ2 H2 fun b H3 =>
        if b = true then liftE L X.K C.calm te σ2 H3 fun y H4 => ∃ acc, H4 D = some (.lst acc) ∧ acc.length < sizeLine ∧ Nx (upd H4 D (.lst (acc ++ [y]))) else Nx H3) := by
  intro D hD
  refine ⟨fun i m H2 => m = vs.length - i ∧ i ≤ vs.length ∧ ∃ acc Ho2, Dur L X.K D Ho1 H1 acc Ho2 H2 ∧ Z.lci2 st own gs tq te C.calm σo (fun acc H2 => ∀ p, H2 p = none → ∀ H', RH L X.K (Z.upd H2 p (.lst acc)) H' → Gr Ho1 H1 (Z.upd H2 p (.lst acc)) H' → Qd p H') (vs.drop i) acc Ho2,
    ⟨vs.length, by simp, Nat.zero_le _, [], Ho1, Dur.start r1.hp hD, h1⟩, ?_⟩
  rintro i m H2 ⟨rfl, hi, acc, Ho2, d2, h2⟩
  by_cases hlt : i < vs.length
  · rw [List.drop_eq_getElem_cons hlt] at h2
    obtain ⟨s2, h2⟩ := h2
    refine .inr ⟨ok.go i Ho2 H2 hlt d2.hp s2, fun H' => ∃ acc Ho3, Dur L X.K D Ho1 H1 acc Ho3 H' ∧ Z.lci2 st own gs tq te C.calm σo (fun acc H2 => ∀ p, H2 p = none → ∀ H', RH L X.K (Z.upd H2 p (.lst acc)) H' → Gr Ho1 H1 (Z.upd H2 p (.lst acc)) H' → Qd p H') (vs.drop (i + 1)) acc Ho3,
      fun H' w => ⟨vs.length - (i + 1), by omega, rfl, hlt, w⟩, fun x H3 y => ?_⟩
    obtain ⟨T, v, rfl, ev, hT, rfl⟩ := ok.yld i Ho2 H2 x H3 hlt d2.hp s2 y
    rw [List.getElem?_eq_getElem hlt] at ev
    cases ev
    have d3 : Dur L X.K D Ho1 H1 acc Ho2 (upd H2 T (.tup [L.v (vs[i]).1, L.v (vs[i]).2])) := d2.step (d2.hp.hid (d2.hp.free hT)) (Gr.hid hT)
    refine ⟨T, _, rfl, SqT.of upd_same, rfl, [(vs[i]).1, (vs[i]).2], _, Ho2, rfl, (r1.wipe own).heap d3.hp (d3.gr hD), hg C.calm gd.mono _ _ _ _ _ (fun σ4 Ho4 h4 σ5 H5 r5 g5 bt => ?_) h2⟩
    have d5 := d3.step r5.hp g5
    refine ⟨wipe_but bt hs, σ4, Ho4, r5, ht C.calm gd.mono _ _ _ _ (fun k Ho6 h6 H6 r6 g6 => ?_) h4⟩
    have d6 := d5.step r6.hp g6
    cases k with
    | false => exact iteF ⟨acc, Ho6, d6, h6⟩
    | true =>
      refine iteT ⟨σ4, Ho6, r6, he C.calm gd.mono _ _ _ _ (fun w Ho7 h7 H7 r7 g7 => ?_) h6⟩
      have d7 := d6.step r7.hp g7
      exact ⟨_, d7.at_, by rw [vs_len, ← line_eq]; exact h7.1, acc ++ [w], Ho7, d7.push w, h7.2⟩
  · have ei : i = vs.length := by omega
    subst ei
    rw [List.drop_length] at h2
    obtain ⟨t1, t2⟩ := d2.told hD
    exact .inl ⟨ok.stop Ho2 H2 d2.hp h2.1, h2.2 D d2.no H2 t1 t2⟩
theorem lc_imp2 {C : Z.Cx} (gd : Good L X C) (hi : SI2 L X tg e ti2) {X1 X2 X3 : Cx} (hg : SGs L X1 es gs sl) (ht : STs L X2 ifs tq) (he : SE L X3 elt te) (hsl : ∀ i ∈ sl, i ∈ own) {σ : St} {H : Hp} {Q : L2.VK} (h : liftE L X.K C (Z.lcomp2 ti2 own gs tq te) σ H Q) :
    tLc (liftI2 L X.K C ti2) (gTup X.K 2 (liftGs L X.K C.calm gs sl)) (liftT L X.K C.calm tq) (liftE L X.K C.calm te) own σ H Q := by
  obtain ⟨σo, Ho, r, h⟩ := h
  refine ⟨σo, Ho, r, hi.mono C gd.mono _ _ _ _ (fun vs st Ho1 h1 J H1 r1 g1 ok => ?_) h⟩
  refine lc_read2 (Qd := fun p H' => Q (.ref p) H') gd r1 ok hg.mono ht.mono he.mono hsl ?_
  exact lci2_mono hg ht he C.calm gd.mono vs σo [] Ho1 _ _ (fun acc H2 h p hp H' rh gr => h p hp H' (r1.heap rh gr) (g1.trans gr)) h1
theorem lcomp2_mono (hi : SI2 L X tg e ti2) {X1 X2 X3 : Cx} (hg : SGs L X1 es gs sl) (ht : STs L X2 ifs tq) (he : SE L X3 elt te) : ∀ C, Cmono C → ∀ σ H (Q Q' : Z.VK), (∀ v H, Q v H → Q' v H) → Z.lcomp2 ti2 own gs tq te C σ H Q → Z.lcomp2 ti2 own gs tq te C σ H Q' :=
  fun C m σ H Q Q' q h => hi.mono C m _ _ _ _ (fun vs st H1 h1 => lci2_mono hg ht he C.calm m vs σ [] H1 _ _ (fun v H h p hp => q _ _ (h p hp)) h1) h
theorem s_lcomp2 {k : Nat} {p2 : Pos} (hc : X.calm = true) (hN : X.N.Nodup) (hi : SI2 L X (.Tuple [a, b] k p2) e ti2) (bk : BlkOk X.N X.env.scope scope owns)
    (hg : ∀ (s : Shared) (H : Hp) (C : Addr) (cl : List (Str × Addr)) (fp : List Addr), SGs L (X.blk s H scope (compEnvC scope cl C X.env) fp) [a, b] gs sl) (ht : ∀ (s : Shared) (H : Hp) (C : Addr) (cl : List (Str × Addr)) (fp : List Addr), STs L (X.blk s H scope (compEnvC scope cl C X.env) fp) ifs tq)
    (he : ∀ (s : Shared) (H : Hp) (C : Addr) (cl : List (Str × Addr)) (fp : List Addr), SE L (X.blk s H scope (compEnvC scope cl C X.env) fp) elt te) (hown : owns.map (·.2) = own := by rfl) (hsl : ∀ i ∈ sl, i ∈ own := by decide) (hs : ∀ x, foldedSetIterable e X.env x = pure x := by intro _; rfl)
    (hn : ∀ env, (assignEach [a, b] env).length = 2 := by intro _; rfl) (hst : ∀ env, (assignEach [a, b] env).findIdx? (·.1) = none := by intro _; rfl) :
    SE L X (.ListComp elt [⟨.Tuple [a, b] k p2, e, ifs, 0⟩] scope pos) (Z.lcomp2 ti2 own gs tq te) := by
  subst hown
  refine ⟨lcomp2_mono hi (hg X.s_0 X.H_0 0 [] []) (ht X.s_0 X.H_0 0 [] []) (he X.s_0 X.H_0 0 [] []), fun C gd => ?_⟩
  exact impE (pe_lc (g := gTup X.K 2 (liftGs L X.K C.calm gs sl)) (tt := liftT L X.K C.calm tq) (te := liftE L X.K C.calm te) hc hN (hi.run C gd) bk (fun s H C' cl fp => pg_tup hc ((hg s H C' cl fp).run C.calm gd.blk) (hn _) (hst _)) (fun s H C' cl fp => (ht s H C' cl fp).run C.calm gd.blk) (fun s H C' cl fp => (he s H C' cl fp).run C.calm gd.blk) hs) fun σ H Q h => lc_imp2 gd hi (hg X.s_0 X.H_0 0 [] []) (ht X.s_0 X.H_0 0 [] []) (he X.s_0 X.H_0 0 [] []) hsl h
theorem s_setLc2 {k i : Nat} {y : Str} {py spos p2 : Pos} (hc : X.calm = true) (hN : X.N.Nodup) (hi : SI2 L X (.Tuple [a, b] k p2) e ti2) (bk : BlkOk X.N X.env.scope scope owns)
    (hg : ∀ (s : Shared) (H : Hp) (C : Addr) (cl : List (Str × Addr)) (fp : List Addr), SGs L (X.blk s H scope (compEnvC scope cl C X.env) fp) [a, b] gs sl) (ht : ∀ (s : Shared) (H : Hp) (C : Addr) (cl : List (Str × Addr)) (fp : List Addr), STs L (X.blk s H scope (compEnvC scope cl C X.env) fp) ifs tq)
    (he : ∀ (s : Shared) (H : Hp) (C : Addr) (cl : List (Str × Addr)) (fp : List Addr), SE L (X.blk s H scope (compEnvC scope cl C X.env) fp) elt te) (hown : owns.map (·.2) = own := by rfl) (hsl : ∀ i ∈ sl, i ∈ own := by decide) (hy : X.N[i]? = some y := by rfl) (hyl : X.env.scope.names.lookup y = some .local := by rfl)
    (hsw : swapsWith (.ListComp elt [⟨.Tuple [a, b] k p2, e, ifs, 0⟩] scope pos) (some (.Name y py)) spos.line X.env = pure true := by exact sw_true rfl rfl rfl (by decide +kernel)) (hs : ∀ x, foldedSetIterable e X.env x = pure x := by intro _; rfl)
    (hn : ∀ env, (assignEach [a, b] env).length = 2 := by intro _; rfl) (hst : ∀ env, (assignEach [a, b] env).findIdx? (·.1) = none := by intro _; rfl) :
    SS L X (.Assign [.Name y py] (.ListComp elt [⟨.Tuple [a, b] k p2, e, ifs, 0⟩] scope pos) spos) (Z.asg (Z.gname i) (Z.lcomp2 ti2 own gs tq te)) := by
  subst hown
  have mo := lcomp2_mono (own := owns.map (·.2)) hi (hg X.s_0 X.H_0 0 [] []) (ht X.s_0 X.H_0 0 [] []) (he X.s_0 X.H_0 0 [] [])
  refine ⟨fun C m σ H D D' l h => mo C m _ _ _ _ (fun v H1 h1 => l.nx _ _ h1) h, fun C gd => ?_⟩
  refine impS (ps_setLc (g := gTup X.K 2 (liftGs L X.K C.calm gs sl)) (tt := liftT L X.K C.calm tq) (te := liftE L X.K C.calm te) hc hN hy hyl hsw (hi.run C gd) bk (fun s H C' cl fp => pg_tup hc ((hg s H C' cl fp).run C.calm gd.blk) (hn _) (hst _)) (fun s H C' cl fp => (ht s H C' cl fp).run C.calm gd.blk) (fun s H C' cl fp => (he s H C' cl fp).run C.calm gd.blk) hs) fun D σ H ⟨σo, Ho, r, h⟩ => ?_
  refine lc_imp2 gd hi (hg X.s_0 X.H_0 0 [] []) (ht X.s_0 X.H_0 0 [] []) (he X.s_0 X.H_0 0 [] []) hsl ⟨σo, Ho, r, mo C gd.mono _ _ _ _ (fun v Ho1 h1 H1 r1 g1 => ?_) h⟩
  exact h1 _ _ (r1.put i v) r1.gr
end
end
end ZS

/-! Z7: calls of defs, methods, classes; defs keep their promises. -/
namespace ZS
open PySem PySem.Spec PyProof.Rows L2

/-! ### how arguments are bound -/
def permV (pm : List (Sum Nat Value)) (us : List Value) : List Value := pm.map fun p => match p with
  | .inl i => us.getD i .none
  | .inr v => v
/-- the same places, defaults alike -/
inductive PmRel (L : Lw) : List (Sum Nat Z.V) → List (Sum Nat Value) → Prop
  | nil : PmRel L [] []
  | pos {i : Nat} {r r'} : PmRel L r r' → PmRel L (.inl i :: r) (.inl i :: r')
  | dfl {v : Z.V} {u : Value} {r r'} : RelV (L.v v) u → PmRel L r r' → PmRel L (.inr v :: r) (.inr u :: r')
theorem vals_getD {L : Lw} : ∀ {vs : List Z.V} {us : List Value} (i : Nat), Vals (L.vs vs) us → RelV (L.v (vs.getD i .non)) (us.getD i .none)
  | [], us, i, h => by cases h; exact rfl
  | v :: vs, us, 0, h => by cases h with | cons r _ => exact r
  | v :: vs, us, i + 1, h => by cases h with | cons _ r => exact vals_getD i r
theorem vals_perm {L : Lw} {pm : List (Sum Nat Z.V)} {pm' : List (Sum Nat Value)} (p : PmRel L pm pm') {vs : List Z.V} {us : List Value} (h : Vals (L.vs vs) us) : Vals (L.vs (Z.perm pm vs)) (permV pm' us) := by
  induction p with
  | nil => exact .nil
  | pos _ ih => exact .cons (vals_getD _ h) ih
  | dfl r _ ih => exact .cons r ih
/-- a way to call: n values stand by place, ks are named -/
structure Shp (L : Lw) (K : PySem.W.Frag) (fd : FuncData) (ps : List Str) (n : Nat) (ks : List Str) (pm : List (Sum Nat Z.V)) : Prop where
  len : pm.length = ps.length
  to : ∃ pm', PmRel L pm pm' ∧ ∀ (s : Shared) (us ws : List Value), K.In s.heap → us.length = n → ws.length = ks.length → BindsTo s fd ⟨us, ks.zip ws⟩ (ps.zip (permV pm' (us ++ ws)))
theorem perm_len (pm : List (Sum Nat Z.V)) (vs : List Z.V) : (Z.perm pm vs).length = pm.length := by unfold Z.perm; rw [List.length_map]
section
variable {L : Lw} {K : PySem.W.Frag} {x qual : Str} {params : Arguments} {body : List Stmt} {scope : Scope} {f : Addr} {fd : FuncData} {ps ks : List Str} {n : Nat} {pm : List (Sum Nat Z.V)}
/-- every parameter is given -/
theorem shp_all {pm' : List (Sum Nat Value)} {dV kV doc pmm cdv ct : Value} {an : Option Addr} (len : pm.length = ps.length) (p : PmRel L pm pm')
    (h : ∀ (us ws : List Value), us.length = n → ws.length = ks.length → bindArgs (PySem.W.fnOf x qual params body scope dV kV doc pmm an cdv ct) ⟨us, ks.zip ws⟩ = pure (ps.zip (permV pm' (us ++ ws)))) :
    Shp L K (PySem.W.fnOf x qual params body scope dV kV doc pmm an cdv ct) ps n ks pm := ⟨len, pm', p, fun s us ws _ l1 l2 => .of_eq (h us ws l1 l2)⟩
/-- with defaults, which stand in a tuple of the module -/
theorem shp_dfl {pm' : List (Sum Nat Value)} {kV doc pmm cdv ct : Value} {an : Option Addr} {T : Addr} {o : Obj} {its : Array Value} {m : Nat} (lT : K.lookup T = some o) (oT : o.data = .seq its m) (len : pm.length = ps.length) (p : PmRel L pm pm')
    (h : ∀ (us ws : List Value), us.length = n → ws.length = ks.length → ∃ k, bindArgs (PySem.W.fnOf x qual params body scope (.ref T) kV doc pmm an cdv ct) ⟨us, ks.zip ws⟩ = seqItems? (.ref T) >>= k ∧ k (some its) = pure (ps.zip (permV pm' (us ++ ws)))) :
    Shp L K (PySem.W.fnOf x qual params body scope (.ref T) kV doc pmm an cdv ct) ps n ks pm := ⟨len, pm', p, fun s us ws X l1 l2 => by
      obtain ⟨k, e1, e2⟩ := h us ws l1 l2
      refine L2.BindsTo.of_looks fun M => ?_
      rw [e1]
      exact looks_items X lT oT (.of_pure e2)⟩
end

/-! ### written arguments -/
section
variable {L : Lw} {X : Cx} {e o : Expr} {es : List Expr} {te to : Z.TE} {t tk : Z.TA} {pos p apos kpos : Pos} {kws : List Keyword} {nm : Option Str} {ks : List Str} {n : Nat}
structure SKw (L : Lw) (X : Cx) (kws : List Keyword) (t : Z.TA) : Prop where
  mono : ∀ C, Cmono C → ∀ σ H (Q Q' : List Z.V → Z.Heap → Prop), (∀ v H, Q v H → Q' v H) → t C σ H Q → t C σ H Q'
  run : ∀ C, Good L X C → PK X kws (liftA L X.K C t)
theorem impK {t t' : TA} (h : PK X kws t) (i : ∀ σ H Q, t' σ H Q → t σ H Q) : PK X kws t' := ⟨fun pos pins s σ H Q I q => h.run pos pins s σ H Q I (i σ H Q q)⟩
theorem s_knil : SKw L X [] Z.anil := ⟨fun C m σ H Q Q' q h => q _ _ h, fun C g => impK pk_nil fun σ H Q ⟨σo, Ho, r, h⟩ => h H r (Gr.refl _ _)⟩
theorem s_kcons (ha : SE L X e te) (hr : SKw L X kws t) : SKw L X (⟨nm, e, kpos⟩ :: kws) (Z.acons te t) := by
  refine ⟨fun C m σ H Q Q' q h => ha.mono C m _ _ _ _ (fun v H1 h1 => hr.mono C m _ _ _ _ (fun vs H2 h2 => q _ _ h2) h1) h, fun C g => ?_⟩
  refine impK (pk_cons (ha.run C g) (hr.run C g)) fun σ H Q ⟨σo, Ho, r, h⟩ => ?_
  refine ⟨σo, Ho, r, ha.mono C g.mono _ _ _ _ (fun x Ho1 h1 H1 r1 g1 => ?_) h⟩
  exact ⟨σo, Ho1, r1, hr.mono C g.mono _ _ _ _ (fun xs Ho2 h2 H2 r2 g2 => h2 H2 r2 (g1.trans g2)) h1⟩
/-- the arguments of a call -/
structure SC (L : Lw) (X : Cx) (es : List Expr) (kws : List Keyword) (n : Nat) (ks : List Str) (t : Z.TA) : Prop where
  mono : ∀ C, Cmono C → ∀ σ H (Q Q' : List Z.V → Z.Heap → Prop), (∀ v H, Q v H → Q' v H) → t C σ H Q → t C σ H Q'
  run : ∀ C, Good L X C → ∀ (pos : Pos) (f : Value) (first : List Value) pins s σ H (Q : List V → Hp → Prop) (Rq : Value → Shared → Prop), PySem.W.keepIn X.K f = true → Inv X pins σ H s → liftA L X.K C t σ H Q →
    (∀ us ws s1 vs H1, (vs.length = n + ks.length → us.length = n ∧ ws.length = ks.length) → Inv X pins σ H1 s1 → Vals vs (us ++ ws) → Q vs H1 → wpAny (model X.prog X.w) X.A (call f (first ++ us) (ks.zip ws)) Rq X.xe s1) →
    wpAny (model X.prog X.w) X.A (callWith pos f first (backTo pos (starEach es X.env)) (backToKw pos (keywordEach kws X.env))) Rq X.xe s
theorem sc_none : SC L X [] [] 0 [] Z.anil := by
  refine ⟨fun C m σ H Q Q' q h => q _ _ h, fun C g pos f first pins s σ H Q Rq hk I h k => ?_⟩
  obtain ⟨σo, Ho, r, h⟩ := h
  exact PySem.W.callWith_K0 I.kIn hk (k [] [] s [] H (fun _ => ⟨rfl, rfl⟩) I .nil (h H r (Gr.refl _ _)))
theorem sc_pos (ha : SA L X (e :: es) t) (n : Nat) (he : starEach (e :: es) X.env = (false, eval e X.env) :: starEach es X.env := by rfl) (hpl : ∀ pos, (backTo pos (starEach es X.env)).any (·.1) = false := by intro _; rfl) : SC L X (e :: es) [] n [] t := by
  refine ⟨ha.mono, fun C g pos f first pins s σ H Q Rq hk I h k => ?_⟩
  refine PySem.W.callWith_K (h₀ := X.base) I.ok.mod.kin hk (thn ((ha.run C g).run pos pins s σ H _ I h) fun us s1 ⟨vs, H1, I1, r, q⟩ => ⟨I1.kIn, ?_⟩) he (hpl pos)
  exact k us [] s1 vs H1 (fun e => ⟨by rw [← r.length]; exact e, rfl⟩) I1 (by rw [List.append_nil]; exact r) q
theorem akw_mono {ta : Z.TA} (ha : SA L X es ta) (hk : SKw L X kws tk) : ∀ C, Cmono C → ∀ σ H (Q Q' : List Z.V → Z.Heap → Prop), (∀ v H, Q v H → Q' v H) → Z.akw n ta tk C σ H Q → Z.akw n ta tk C σ H Q' :=
  fun C m σ H Q Q' q h => ha.mono C m _ _ _ _ (fun xs H1 h1 => ⟨h1.1, hk.mono C m _ _ _ _ (fun ys H2 h2 => q _ _ h2) h1.2⟩) h
theorem vs_append (L : Lw) (xs ys : List Z.V) : L.vs (xs ++ ys) = L.vs xs ++ L.vs ys := List.map_append
theorem sc_kw (ha : SA L X (e :: es) t) (hkw : SKw L X kws tk) (n : Nat) (he : starEach (e :: es) X.env = (false, eval e X.env) :: starEach es X.env := by rfl) (hall : ∀ pos, (backToKw pos (keywordEach kws X.env)).all (·.1.isSome) = true := by intro _; rfl) (hks : ∀ pos, (backToKw pos (keywordEach kws X.env)).filterMap (·.1) = ks := by intro _; rfl)
    (hpl : ∀ pos, ((backTo pos (starEach (e :: es) X.env)).any (·.1) || (backToKw pos (keywordEach kws X.env)).any (·.1.isNone)) = false := by intro _; rfl) : SC L X (e :: es) kws n ks (Z.akw n t tk) := by
  refine ⟨akw_mono ha hkw, fun C g pos f first pins s σ H Q Rq hk I h k => ?_⟩
  obtain ⟨σo, Ho, r, h⟩ := h
  refine PySem.W.callWith_KW (h₀ := X.base) I.ok.mod.kin hk (hall pos) (thn ((ha.run C g).run pos pins s σ H (fun vs H1 => ∃ xs Ho1, vs = L.vs xs ∧ xs.length = n ∧ R L X.K σo Ho1 σ H1 ∧ Gr Ho H Ho1 H1 ∧ tk C σo Ho1 fun ys Ho2 => ∀ H', R L X.K σo Ho2 σ H' → Gr Ho H Ho2 H' → Q (L.vs (xs ++ ys)) H') I ?_) fun us s1 ⟨vs, H1, I1, r1, xs, Ho1, ev, hl, rr, g1, q⟩ => ?_) (hpl pos) he
  · exact ⟨σo, Ho, r, ha.mono C g.mono _ _ _ _ (fun xs Ho1 h1 H1 r1 g1 => ⟨xs, Ho1, rfl, h1.1, r1, g1, h1.2⟩) h⟩
  · subst ev
    refine thn ((hkw.run C g).run pos pins s1 σ H1 (fun zs H2 => Q (L.vs xs ++ zs) H2) I1 ⟨σo, Ho1, rr, hkw.mono C g.mono _ _ _ _ (fun ys Ho2 h2 H2 r2 g2 => ?_) q⟩) fun ws s2 ⟨zs, H2, I2, rz, q2⟩ => ⟨I2.kIn, ?_⟩
    · show Q (L.vs xs ++ L.vs ys) H2
      rw [← vs_append]
      exact h2 H2 r2 (g1.trans g2)
    · rw [hks pos]
      refine k us ws s2 _ H2 (fun el => ?_) I2 (r1.append rz) q2
      have l1 := r1.length
      have l2 := rz.length
      rw [List.length_append] at el
      rw [vs_len] at l1 el
      omega
theorem sc_kw0 (hkw : SKw L X kws tk) (hall : ∀ pos, (backToKw pos (keywordEach kws X.env)).all (·.1.isSome) = true := by intro _; rfl) (hks : ∀ pos, (backToKw pos (keywordEach kws X.env)).filterMap (·.1) = ks := by intro _; rfl)
    (hpl : ∀ pos, ((backTo pos (starEach [] X.env)).any (·.1) || (backToKw pos (keywordEach kws X.env)).any (·.1.isNone)) = false := by intro _; rfl) : SC L X [] kws 0 ks tk := by
  refine ⟨hkw.mono, fun C g pos f first pins s σ H Q Rq hk I h k => ?_⟩
  refine PySem.W.callWith_KW0 (h₀ := X.base) I.ok.mod.kin hk (hall pos) (thn ((hkw.run C g).run pos pins s σ H _ I h) fun ws s2 ⟨zs, H2, I2, rz, q2⟩ => ⟨I2.kIn, ?_⟩) (hpl pos)
  rw [hks pos]
  refine k [] ws s2 zs H2 (fun el => ⟨rfl, ?_⟩) I2 rz q2
  rw [← rz.length]
  omega

/-! ### calls -/
variable {C : Z.Cx} {c m : String} {fd : FuncData} {f : Addr} {ps : List Str} {pm : List (Sum Nat Z.V)} {x mm : Str}
/-- what a caller says of a callee's error -/
def wishE (L : Lw) (K : PySem.W.Frag) (C : Z.Cx) (σ : St) : XK := fun cls d H' => liftW L K C cls d σ H'
theorem run_def (gd : Good L X C) (hcm : X.calm = true) {pins : List (Addr × Obj)} {σ : St} {H : Hp} {s : Shared} {us ws : List Value} {vo : List Z.V} {σo : Z.St} {Ho : Z.Heap} {Qo : Z.VK} {Q : L2.VK} (hf : L.fn c m = some (f, fd, ps)) (hs : Shp L X.K fd ps n ks pm) (I : Inv X pins σ H s) (rr : R L X.K σo Ho σ H)
    (r : Vals (L.vs vo) (us ++ ws)) (l1 : us.length = n) (l2 : ws.length = ks.length) (h : C.call c m (Z.perm pm vo) Ho Qo fun c fs Ho' => C.exc c fs σo Ho') (hQ : ∀ v Ho' H', Qo v Ho' → R L X.K σo Ho' σ H' → Gr Ho H Ho' H' → Q (L.v v) H') :
    wpAny (model X.prog X.w) X.A (call (.ref f) us (ks.zip ws)) (EP X pins σ Q) X.xe s := by
  obtain ⟨k, _, hr, F⟩ := gd.call hcm
  have F := F c m f fd ps hf
  obtain ⟨pm', hp, hb⟩ := hs.to
  refine wpAny_call (codeAny_mono (F.run X.A X.stack s H ⟨us, ks.zip ws⟩ (permV pm' (us ++ ws)) (L.vs (Z.perm pm vo)) Q (wishE L X.K C σ) (hr.mono (Nat.le_succ k)) I.env0 (hb s us ws I.kIn l1 l2) (vals_perm hp r) ?_) fun r s' hq => ?_)
  · refine ⟨Z.perm pm vo, Ho, rfl, by rw [perm_len, hs.len], rr.hp, gd.mono _ _ _ _ _ _ _ _ (fun v Ho' q H' rh g => hQ v Ho' H' q (rr.heap rh g) g) (fun c fs Ho' q cls d H' rh g re nd => ?_) h⟩
    exact ⟨c, fs, σo, Ho', rr.heap rh g, re, nd.back rr.gr, q⟩
  · cases r with
    | error e => exact gd.takes e s' (XE.of_call I (fun _ _ _ h => h) hq)
    | ok fl =>
      cases fl with
      | ret u => exact I.after hq
      | next => exact False.elim hq
      | brk => exact False.elim hq
      | cont => exact False.elim hq
theorem callf_mono {nm : String} {k : Nat} (ha : SC L X es kws n ks t) : ∀ C, Cmono C → ∀ σ H (Q Q' : Z.VK), (∀ v H, Q v H → Q' v H) → Z.callf nm k pm t C σ H Q → Z.callf nm k pm t C σ H Q' :=
  fun C mo σ H Q Q' q h => ha.mono C mo _ _ _ _ (fun vs H1 h1 => ⟨h1.1, mo _ _ _ _ _ _ _ _ q (fun _ _ _ h => h) h1.2⟩) h
/-- f(..) -/
theorem s_call (m : String) (hf : L.fn "" m = some (f, fd, ps)) (hk : PySem.W.keepIn X.K (.ref f) = true) (hm : X.mg x = some (.ref f)) (hs : Shp L X.K fd ps n ks pm) (ha : SC L X es kws n ks t) (hg : Gl X x := by rfl) (hdb : (x == ("__debug__" : Str)) = false := by decide) (hcm : X.calm = true := by rfl) :
    SE L X (.Call (.Name x p) es kws pos) (Z.callf m (n + ks.length) pm t) := by
  refine ⟨callf_mono ha, fun C gd => ⟨fun pins s σ H Q I ⟨σo, Ho, r, h⟩ => ?_⟩⟩
  refine wpAny_Call_Name_kw (ld_glob I hg hm ?_ hdb)
  refine ha.run C gd pos (.ref f) [] pins s σ H (fun vs H1 => ∃ vo Ho1, vs = L.vs vo ∧ vo.length = n + ks.length ∧ R L X.K σo Ho1 σ H1 ∧ Gr Ho H Ho1 H1 ∧ C.call "" m (Z.perm pm vo) Ho1 (fun v Ho' => ∀ H', R L X.K σo Ho' σ H' → Gr Ho H Ho' H' → Q (L.v v) H') fun c fs H' => C.exc c fs σo H') _ hk I ⟨σo, Ho, r, ha.mono C gd.mono _ _ _ _ (fun vs Ho1 h1 H1 r1 g1 => ⟨vs, Ho1, rfl, h1.1, r1, g1, h1.2⟩) h⟩ fun us ws s1 vs H1 hl I1 rv q => ?_
  obtain ⟨vo, Ho1, rfl, lv, r1, g1, q⟩ := q
  obtain ⟨l1, l2⟩ := hl (by rw [vs_len]; exact lv)
  exact run_def gd hcm hf hs I1 r1 rv l1 l2 q fun v Ho' H' h rr gg => h H' rr (g1.trans gg)
/-- o.m(..) -/
structure MethOk (L : Lw) (K : PySem.W.Frag) (c m : String) (n : Nat) (ks : List Str) (pm : List (Sum Nat Z.V)) : Prop where
  ex : ∃ f fd ps, L.fn c m = some (f, fd, ps) ∧ Meth K (L.ca c) (Str.ofString m) f ∧ Shp L K fd ps (n + 1) ks pm
theorem lookNone {fs : List (String × Z.V)} {m : String} (h : fs.lookup m = none) : (L.fs fs).lookup (Str.ofString m) = none := by rw [fs_look, h]; rfl
theorem meth_mono {cs : List String} {k : Nat} (ho : SE L X o to) (ha : SC L X es kws n ks t) : ∀ C, Cmono C → ∀ σ H (Q Q' : Z.VK), (∀ v H, Q v H → Q' v H) → Z.meth cs to m k pm t C σ H Q → Z.meth cs to m k pm t C σ H Q' :=
  fun C mo σ H Q Q' q h => ho.mono C mo _ _ _ _ (fun x H1 ⟨a, c, fs, e1, e2, e3, e4, h1⟩ => ⟨a, c, fs, e1, e2, e3, e4, ha.mono C mo _ _ _ _ (fun vs H2 h2 => ⟨h2.1, mo _ _ _ _ _ _ _ _ q (fun _ _ _ h => h) h2.2⟩) h1⟩) h
theorem s_meth {pl : Sem Bool} (cs : List String) (m : String) (hms : ∀ c ∈ cs, MethOk L X.K c m n ks pm) (ho : SE L X o to) (ha : SC L X es kws n ks t) (hmm : mm = Str.ofString m := by rfl)
    (ht : eval (.Call (.Attribute o mm apos) es kws pos) X.env = (do
      let ov ← eval o X.env
      standAt apos.atName
      let (f, first) ← holding [ov] (getMethod ov mm pl)
      callWith pos f first (backTo pos (starEach es X.env)) (backToKw pos (keywordEach kws X.env))) := by rfl) (hcm : X.calm = true := by rfl) :
    SE L X (.Call (.Attribute o mm apos) es kws pos) (Z.meth cs to m (n + ks.length) pm t) := by
  refine ⟨meth_mono ho ha, fun C gd => ⟨fun pins s σ H Q I ⟨σo, Ho, r, h⟩ => ?_⟩⟩
  refine PySem.W.methodCall_KW (pl := pl) (thn ((ho.run C gd).run pins s σ H (fun v H1 => ∃ a c fs Ho1, v = .ref a ∧ Ho1 a = some (.ins c fs) ∧ c ∈ cs ∧ fs.lookup m = none ∧ R L X.K σo Ho1 σ H1 ∧ Gr Ho H Ho1 H1 ∧ t C σo Ho1 fun vs H2 => vs.length = n + ks.length ∧
    C.call c m (Z.perm pm (.ref a :: vs)) H2 (fun v Ho' => ∀ H', R L X.K σo Ho' σ H' → Gr Ho H Ho' H' → Q (L.v v) H') fun c fs H' => C.exc c fs σo H') I ⟨σo, Ho, r, ho.mono C gd.mono _ _ _ _ (fun x Ho1 h1 H1 r1 g1 => ?_) h⟩) fun u s1 ⟨v, H1, I1, ru, a, c, fs, Ho1, ev, ea, ec, lm, r1, g1, q⟩ => ?_) ht
  · obtain ⟨a, c, fs, rfl, e2, e3, e4, h1⟩ := h1
    exact ⟨a, c, fs, Ho1, rfl, e2, e3, e4, r1, g1, h1⟩
  · subst ev
    obtain rfl : u = Value.ref a := ru
    obtain ⟨f, fd, ps, hf, hm, hs⟩ := (hms c ec).ex
    obtain ⟨dx, hi, hcl, hn⟩ := r1.hp a _ ea
    subst hmm
    refine getmeth_ok I1 hi hcl hm (lookNone lm) ?_
    refine ha.run C gd pos (.ref f) [.ref a] pins s1 σ H1 (fun vs H2 => ∃ vo Ho2, vs = L.vs vo ∧ vo.length = n + ks.length ∧ R L X.K σo Ho2 σ H2 ∧ Gr Ho H Ho2 H2 ∧ C.call c m (Z.perm pm (.ref a :: vo)) Ho2 (fun v Ho' => ∀ H', R L X.K σo Ho' σ H' → Gr Ho H Ho' H' → Q (L.v v) H') fun c fs H' => C.exc c fs σo H') _ hm.kp I1 ⟨σo, Ho1, r1, ha.mono C gd.mono _ _ _ _ (fun vs Ho2 h2 H2 r2 g2 => ⟨vs, Ho2, rfl, h2.1, r2, g1.trans g2, h2.2⟩) q⟩ fun us ws s2 vs H2 hl I2 rv q2 => ?_
    obtain ⟨vo, Ho2, rfl, lv, r2, g2, q2⟩ := q2
    obtain ⟨l1, l2⟩ := hl (by rw [vs_len]; exact lv)
    exact run_def (us := .ref a :: us) (vo := .ref a :: vo) gd hcm hf hs I2 r2 (.cons rfl rv) (by show us.length + 1 = n + 1; rw [l1]) l2 q2 fun v Ho' H' h rr gg => h H' rr (g2.trans gg)
/-- C(..) -/
structure MakeOk (L : Lw) (K : PySem.W.Frag) (c : String) (n : Nat) (ks : List Str) (pm : List (Sum Nat Z.V)) : Prop where
  ex : ∃ f fd ps, L.fn c "__init__" = some (f, fd, ps) ∧ Mk K (L.ca c) f ∧ Shp L K fd ps (n + 1) ks pm
  cls : Cls K (L.ca c)
theorem make_mono {k : Nat} (ha : SC L X es kws n ks t) : ∀ C, Cmono C → ∀ σ H (Q Q' : Z.VK), (∀ v H, Q v H → Q' v H) → Z.make c k pm t C σ H Q → Z.make c k pm t C σ H Q' :=
  fun C mo σ H Q Q' q h => ha.mono C mo _ _ _ _ (fun vs H1 h1 => ⟨h1.1, fun p hp => mo _ _ _ _ _ _ _ _ (fun v H2 h2 => ⟨h2.1, q _ _ h2.2⟩) (fun _ _ _ h => h) (h1.2 p hp)⟩) h
theorem s_make (c : String) (hc : MakeOk L X.K c n ks pm) (hm : X.mg x = some (.ref (L.ca c))) (ha : SC L X es kws n ks t) (hg : Gl X x := by rfl) (hdb : (x == ("__debug__" : Str)) = false := by decide) (hcm : X.calm = true := by rfl) : SE L X (.Call (.Name x p) es kws pos) (Z.make c (n + ks.length) pm t) := by
  refine ⟨make_mono ha, fun C gd => ⟨fun pins s σ H Q I ⟨σo, Ho, r, h⟩ => ?_⟩⟩
  obtain ⟨f, fd, ps, hf, M, hs⟩ := hc.ex
  refine wpAny_Call_Name_kw (ld_glob I hg hm ?_ hdb)
  refine ha.run C gd pos (.ref (L.ca c)) [] pins s σ H (fun vs H1 => ∃ vo Ho1, vs = L.vs vo ∧ vo.length = n + ks.length ∧ R L X.K σo Ho1 σ H1 ∧ Gr Ho H Ho1 H1 ∧ ∀ p, Ho1 p = none → C.call c "__init__" (Z.perm pm (.ref p :: vo)) (Z.upd Ho1 p (.ins c [])) (fun v Ho' => v = .non ∧ ∀ H', R L X.K σo Ho' σ H' → Gr Ho H Ho' H' → Q (.ref p) H') fun c fs H' => C.exc c fs σo H') _ M.kp I ⟨σo, Ho, r, ha.mono C gd.mono _ _ _ _ (fun vs Ho1 h1 H1 r1 g1 => ⟨vs, Ho1, rfl, h1.1, r1, g1, h1.2⟩) h⟩ fun us ws s1 vs H1 hl I1 rv q => ?_
  obtain ⟨vo, Ho1, rfl, lv, r1, g1, q⟩ := q
  obtain ⟨l1, l2⟩ := hl (by rw [vs_len]; exact lv)
  obtain ⟨k, _, hr, F⟩ := gd.call hcm
  have F := F c "__init__" f fd ps hf
  obtain ⟨pm', hp, hb⟩ := hs.to
  have n1 : H1 (s1.heap.objs.size + 1) = none := I1.hok.fresh (Nat.le_succ _)
  have n0 : H1 s1.heap.objs.size = none := I1.hok.fresh (Nat.le_refl _)
  have I2 := Inv.made (C := L.ca c) I1
  have ne : s1.heap.objs.size ≠ s1.heap.objs.size + 1 := Nat.ne_of_lt (Nat.lt_succ_self _)
  have rv2 : Vals (L.vs (.ref (s1.heap.objs.size + 1) :: vo)) ((Value.ref (s1.heap.objs.size + 1) :: us) ++ ws) := .cons rfl rv
  have rh0 : RH L X.K Ho1 (upd H1 s1.heap.objs.size (.own (s1.heap.objs.size + 1))) := r1.hp.hid (r1.hp.free n0)
  have rh : RH L X.K (Z.upd Ho1 (s1.heap.objs.size + 1) (.ins c [])) (upd (upd H1 s1.heap.objs.size (.own (s1.heap.objs.size + 1))) (s1.heap.objs.size + 1) (.ins (L.ca c) s1.heap.objs.size [])) :=
    rh0.set ⟨s1.heap.objs.size, upd_same, hc.cls, fun f hf => absurd hf (by simp)⟩
  have g2 : Gr Ho1 H1 (Z.upd Ho1 (s1.heap.objs.size + 1) (.ins c [])) (upd (upd H1 s1.heap.objs.size (.own (s1.heap.objs.size + 1))) (s1.heap.objs.size + 1) (.ins (L.ca c) s1.heap.objs.size [])) :=
    (Gr.hid n0).trans (Gr.new (by rw [upd_ne (Ne.symm ne)]; exact n1))
  refine wpAny_call (make_map (f := f) I1.kIn M.makes M.init (beq_iff_eq.mp M.fn) (codeAny_mono (F.run _ X.stack _ _ ⟨Value.ref (s1.heap.objs.size + 1) :: us, ks.zip ws⟩ (permV pm' (Value.ref (s1.heap.objs.size + 1) :: us ++ ws)) (L.vs (Z.perm pm (.ref (s1.heap.objs.size + 1) :: vo)))
    (fun v H2 => v = .non ∧ Q (.ref (s1.heap.objs.size + 1)) H2) (wishE L X.K C σ) (hr.make (L.ca c) us (ks.zip ws)) (I2.env0.make (L.ca c) us (ks.zip ws)) (hb _ (Value.ref (s1.heap.objs.size + 1) :: us) ws I2.kIn (by show us.length + 1 = n + 1; rw [l1]) l2) (vals_perm hp rv2) ?_) fun r s' hq' => ?_))
  · refine ⟨Z.perm pm (.ref (s1.heap.objs.size + 1) :: vo), _, rfl, by rw [perm_len, hs.len], rh, gd.mono _ _ _ _ _ _ _ _ (fun v Ho' q H' rh' g => ?_) (fun c fs Ho' q cls d H' rh' g re nd => ⟨c, fs, σo, Ho', r1.heap rh' (g2.trans g), re, nd.back (r1.gr.trans g2), q⟩) (q _ (r1.hp.free n1))⟩
    obtain ⟨rfl, q⟩ := q
    exact ⟨rfl, q H' (r1.heap rh' (g2.trans g)) (g1.trans (g2.trans g))⟩
  · cases r with
    | error e => exact gd.takes e s' (XE.of_call I2 (fun _ _ _ h => h) hq')
    | ok fl =>
      cases fl with
      | ret u =>
        obtain ⟨v, H', I3, rv, ev, q3⟩ := I2.after hq'
        subst ev
        exact ⟨rv, ⟨V.ref (s1.heap.objs.size + 1), H', I3, rfl, q3⟩⟩
      | next => exact False.elim hq'
      | brk => exact False.elim hq'
      | cont => exact False.elim hq'
end

/-! ### defs -/
section
variable {L : Lw} {P : Program} {w : World} {K : PySem.W.Frag} {mg : Str → Option Value} {base : Heap}
/-- the entry -/
theorem r_start {vo : List Z.V} {Ho : Z.Heap} {H : Hp} {N : List Str} {n : Nat} (hn : n = N.length) (h : RH L K Ho H) (gr : Gr L.h0 L.H0 Ho H) : R L K (Z.start n vo) Ho (L2.start N (L.vs vo)) H := by
  subst hn
  unfold Z.start L2.start
  refine ⟨by simp, fun i v e => ?_, h, gr⟩
  have key : ∀ (vo : List Z.V) (m i : Nat) (v : Z.V), Z.get (vo.map some ++ List.replicate m none) i = some v → ((L.vs vo).map some ++ List.replicate m none)[i]? = some (some (L.v v)) := by
    intro vo
    induction vo with
    | nil =>
      intro m
      induction m with
      | zero => intro i v h; cases h
      | succ m ih =>
        intro i v h
        cases i with
        | zero => cases h
        | succ i => exact ih i v h
    | cons a r ih =>
      intro m i v h
      cases i with
      | zero => cases h; rfl
      | succ i => exact ih m i v h
  have e2 := key vo (N.length - vo.length) i v e
  rw [vs_len]
  exact e2
/-- a def of the table -/
structure DefOk (L : Lw) (P : Program) (w : World) (K : PySem.W.Frag) (mg : Str → Option Value) (base : Heap) (f : Addr) (fd : FuncData) (ps : List Str) (d : Z.Def) : Prop where
  np : d.np = ps.length
  ex : ∃ (name qual : Str) (params : Arguments) (body : List Stmt) (scope : Scope) (dV kV doc pm cdv ct oc : Value) (an od : Option Addr) (osl : Array (Option Value)) (N : List Str),
    fd = PySem.W.fnOf name qual params body scope dV kV doc pm an cdv ct ∧ K.lookup f = some ⟨oc, od, .func fd, osl⟩ ∧ PySem.W.codeIn K cdv qual = true ∧ FnScope N ps scope ∧ d.n = N.length ∧
    ∀ h0 H0 A outer s H E, SB (L.at_ h0 H0) (cxOf (CX P w) P w K mg base N qual scope f cdv A outer s H E) body d.body
theorem callK_mono (T : String → String → Option Z.Def) (k : Nat) (ex : String → List (String × Z.V) → Z.St → Z.Heap → Prop) : Cmono ⟨Z.callK T k, ex⟩ := by
  intro c m vs H Q Q' E E' q e h
  show Z.callK T k c m vs H Q' E'
  have h : Z.callK T k c m vs H Q E := h
  cases k with
  | zero => exact h
  | succ k =>
    unfold Z.callK at h ⊢
    cases ht : T c m with
    | none => rw [ht] at h; exact h
    | some d =>
      rw [ht] at h
      obtain ⟨hl, Q0, E0, q0, e0, hb⟩ := h
      exact ⟨hl, Q0, E0, fun v H x => q v H (q0 v H x), fun c f H x => e c f H (e0 c f H x), hb⟩
/-- every def of the table keeps its promise -/
theorem has_all (T : String → String → Option Z.Def) (hT : ∀ c m f fd ps, L.fn c m = some (f, fd, ps) → ∃ d, T c m = some d ∧ DefOk L P w K mg base f fd ps d) : ∀ k, Has L P w K mg base (2 * k + 1) (Z.callK T k) := by
  intro k
  induction k with
  | zero =>
    intro c m f fd ps hf
    refine ⟨fun vs H Q E ⟨vo, Ho, e, hl, _⟩ => by rw [e, vs_len]; exact hl, fun A outer s H args us vs Q E hr he hb hv hs => ?_⟩
    obtain ⟨vo, Ho, e, hl, rh, h⟩ := hs
    exact False.elim h
  | succ k ih =>
    intro c m f fd ps hf
    obtain ⟨d, hd, D⟩ := hT c m f fd ps hf
    obtain ⟨name, qual, params, body, scope, dV, kV, doc, pm, cdv, ct, oc, an, od, osl, N, rfl, lk, hcd, S, hn, hsb⟩ := D.ex
    show FnOk P w K mg base (CX P w) ((2 * k + 2) + 1) f _ ps _
    refine fn_of lk hcd S (fun vs H Q E ⟨vo, Ho, e, hl, _⟩ => by rw [e, vs_len]; exact hl) fun A outer s H vs Q E hr hsp => ?_
    obtain ⟨vo, Ho, rfl, hl, rh, h⟩ := hsp
    unfold Z.callK at h
    rw [hd] at h
    obtain ⟨_, Q0, E0, q0, e0, hb⟩ := h
    have tk : Takes (cxOf (CX P w) P w K mg base N qual scope f cdv A outer s H E) (fun cls d _ H => E cls d H) := takes_of rfl rfl rfl rfl
    have gd : Good (L.at_ Ho H) (cxOf (CX P w) P w K mg base N qual scope f cdv A outer s H E) ⟨Z.callK T k, fun c fs _ H' => E0 c fs H'⟩ :=
      ⟨callK_mono T k _, tk.imp fun cls d σ H' ⟨c, fs, σo, Ho', r, re, nd, x⟩ => e0 _ _ _ x cls d H' r.hp r.gr re nd, (show (A.deeper (envOfC qual scope s.heap.objs.size f cdv)).units + 130 < cLine by have := hr.un; omega), fun _ => ⟨2 * k + 1, Nat.le_add_left 1 _, hr, ih⟩⟩
    refine ⟨_, (hsb Ho H A outer s H E).run _ gd, Z.start d.n vo, Ho, r_start (L := L.at_ Ho H) hn rh (Gr.refl _ _), ?_⟩
    refine (hsb Ho H A outer s H E).mono _ gd.mono _ _ { nx := fun _ H2 => Q0 .non H2, rt := Q0 } _ ⟨fun σ1 Ho1 x σ2 H2 r2 g2 => q0 .non _ x H2 r2.hp g2, fun v Ho1 x H2 r2 g2 => q0 _ _ x H2 r2 g2, fun _ _ (x : False) => x.elim, fun _ _ (x : False) => x.elim⟩ hb
end
end ZS

/-! Z8: isinstance, repr. -/
namespace ZS
open PySem PySem.Spec PyProof.Rows L2
section
variable {L : Lw} {X : Cx} {a b c e : Expr} {es : List Expr} {ta tb tc te : Z.TE} {t : Z.TA} {pos p q tpos : Pos} {x : Str}
def tyNames : List String := ["int", "bool", "str", "list", "tuple", "dict"]
def tyAll : List String := ["NoneType", "int", "bool", "str", "list", "tuple", "dict"]
theorem kits : ∀ T ∈ tyAll, ∀ c ∈ tyNames, kitB T c = some (Z.subT T c) := by decide +kernel
theorem tyOf_mem {H : Z.Heap} {x : Z.V} {T : String} (h : Z.tyOf H x = some T) : T ∈ tyAll := by
  unfold Z.tyOf at h
  split at h <;> first
    | (cases h <;> decide)
    | (split at h <;> cases h <;> decide)
theorem ty_rel {K : PySem.W.Frag} {Ho : Z.Heap} {H : Hp} {x : Z.V} {T : String} (r : RH L K Ho H) (h : Z.tyOf Ho x = some T) : TyX K H (L.v x) (.type T) := by
  unfold Z.tyOf at h
  split at h
  · cases h; exact .base .non
  · cases h; exact .base (.bl _)
  · cases h; exact .base (.int _)
  · cases h; exact .base (.str _)
  · rename_i a
    split at h
    · rename_i xs e; cases h; exact .base (.lst (r a _ e))
    · rename_i xs e
      cases h
      rcases r a _ e with z | ⟨o, z⟩
      · exact .base (.lst z)
      · exact .base (.frz z)
    · rename_i xs e; cases h; exact .base (.tup (r a _ e))
    · rename_i xs e; cases h; exact .base (.dK (r a _ e))
    · rename_i xs e; cases h; exact .base (.dT (r a _ e))
    · cases h
  · cases h
theorem kit_any {K : PySem.W.Frag} {T : String} (hT : T ∈ tyAll) : ∀ {ts : List String}, (∀ c ∈ ts, c ∈ tyNames) → PySem.W.kitAny K (.type T) (ts.map Value.type) = some (ts.any (Z.subT T))
  | [], _ => rfl
  | c :: r, h => by
    have e := kit_ty (K := K) (kits T hT c (h c (List.mem_cons_self ..)))
    have ih := kit_any (K := K) hT (ts := r) fun d hd => h d (List.mem_cons_of_mem _ hd)
    show _ = some (Z.subT T c || r.any (Z.subT T))
    refine kitAny_cons e (fun z => ?_) (fun z => by rw [z]; rfl)
    rw [z]
    exact ih
theorem isi_mono {ts : List String} (he : SE L X e te) : ∀ C, Cmono C → ∀ σ H (Q Q' : Z.VK), (∀ v H, Q v H → Q' v H) → Z.isi te ts C σ H Q → Z.isi te ts C σ H Q' :=
  fun C m σ H Q Q' q h => he.mono C m _ _ _ _ (fun x H1 ⟨k, e, h1⟩ => ⟨k, e, q _ _ h1⟩) h
/-- isinstance(e, T) -/
theorem s_isi1 (T : String) (he : SE L X e te) (hm : X.mg "isinstance" = none) (hmT : X.mg x = none) (hv : bootBuiltins x = some (.type T)) (hT : T ∈ tyNames := by decide) (hg : Gl X "isinstance" := by rfl) (hgT : Gl X x := by rfl) (hn : x ≠ "__name__" := by decide) (hd : (x == ("__debug__" : Str)) = false := by decide)
    (hs : starEach [e, .Name x q] X.env = (false, eval e X.env) :: starEach [.Name x q] X.env := by rfl) : SE L X (.Call (.Name "isinstance" p) [e, .Name x q] [] pos) (Z.isi te [T]) := by
  refine ⟨isi_mono he, fun C gd => ?_⟩
  refine impE (pe_callB call_isi hg hm PyProof.Rows.boot_isinstance (pa_cons (he.run C gd) (pa_cons (pe_bltn (v := .ty T) hgT hmT hv rfl hn hd) pa_nil) hs) (he := hs)) fun σ H Q ⟨σo, Ho, r, h⟩ => ?_
  refine ⟨σo, Ho, r, he.mono C gd.mono _ _ _ _ (fun v Ho1 h1 H1 r1 g1 => ?_) h⟩
  obtain ⟨k, e, h1⟩ := h1
  unfold Z.isTy at e
  cases et : Z.tyOf Ho1 v with
  | none => rw [et] at e; cases e
  | some T1 =>
    rw [et] at e
    cases e
    refine ⟨L.v v, .ty T, .type T1, .type T, _, rfl, .ty T, ty_rel r1.hp et, kit_ty (kits T1 (tyOf_mem et) T hT), ?_⟩
    have z : Q (V.bl ([T].any (Z.subT T1))) H1 := h1 H1 r1 g1
    rw [List.any_cons, List.any_nil, Bool.or_false] at z
    exact z
/-- the types of a written tuple of them -/
inductive TyNs (X : Cx) : List Expr → List String → Prop
  | nil : TyNs X [] []
  | cons {x : Str} {q : Pos} {T : String} {r : List Expr} {ts : List String} (hg : Gl X x) (hm : X.mg x = none) (hv : bootBuiltins x = some (.type T)) (hT : T ∈ tyNames) (hn : x ≠ "__name__") (hd : (x == ("__debug__" : Str)) = false) (hr : TyNs X r ts) : TyNs X (.Name x q :: r) (T :: ts)
theorem tyns_names {es : List Expr} {ts : List String} (h : TyNs X es ts) : ∀ c ∈ ts, c ∈ tyNames := by
  induction h with
  | nil => intro c hc; cases hc
  | cons _ _ _ hT _ _ _ ih =>
    intro c hc
    rcases List.mem_cons.mp hc with z | z
    · rw [z]; exact hT
    · exact ih c z
def tTys (ts : List String) : TA := fun _ H Q => Q (ts.map V.ty) H
theorem tyns_pa {es : List Expr} {ts : List String} (h : TyNs X es ts) : PA X es (tTys ts) := by
  induction h with
  | nil => exact impA pa_nil fun σ H Q h => h
  | cons hg hm hv _ hn hd _ ih => exact impA (pa_cons (pe_bltn (v := .ty _) hg hm hv rfl hn hd) ih (by rfl)) fun σ H Q h => h
theorem tyns_pair : ∀ ts : List String, Paired ClsV (ts.map V.ty) (ts.map Value.type)
  | [] => .nil
  | t :: r => .cons (.ty t) (tyns_pair r)
/-- isinstance(e, (T, T2, ..)) -/
theorem s_isiN {ts : List String} {k : Nat} (he : SE L X e te) (hm : X.mg "isinstance" = none) (hts : TyNs X es ts) (hl : ts.length ≤ 100 := by decide) (hg : Gl X "isinstance" := by rfl)
    (hs : starEach [e, .Tuple es k tpos] X.env = (false, eval e X.env) :: starEach [.Tuple es k tpos] X.env := by rfl) (hs2 : starEach [.Tuple es k tpos] X.env = (false, eval (.Tuple es k tpos) X.env) :: starEach [] X.env := by rfl)
    (hpl : (backTo pos (starEach [.Tuple es k tpos] X.env)).any (·.1) = false := by rfl) : SE L X (.Call (.Name "isinstance" p) [e, .Tuple es k tpos] [] pos) (Z.isi te ts) := by
  refine ⟨isi_mono he, fun C gd => ?_⟩
  refine impE (pe_callB call_isiT hg hm PyProof.Rows.boot_isinstance (pa_cons (he.run C gd) (pa_cons (pe_tup (tyns_pa hts)) pa_nil hs2) hs) (he := hs) (hpl := hpl)) fun σ H Q ⟨σo, Ho, r, h⟩ => ?_
  refine ⟨σo, Ho, r, he.mono C gd.mono _ _ _ _ (fun v Ho1 h1 H1 r1 g1 => ?_) h⟩
  obtain ⟨kb, e, h1⟩ := h1
  unfold Z.isTy at e
  cases et : Z.tyOf Ho1 v with
  | none => rw [et] at e; cases e
  | some T1 =>
    rw [et] at e
    cases e
    refine ⟨by rw [List.length_map]; exact Nat.le_trans hl (by decide), fun tp hp => ?_⟩
    have r2 : R L X.K σo Ho1 σ (upd H1 tp (.tup (ts.map V.ty))) := r1.heap (r1.hp.hid (r1.hp.free hp)) (Gr.hid hp)
    exact ⟨L.v v, tp, ts.map V.ty, .type T1, ts.map Value.type, _, rfl, upd_same, tyns_pair ts, ty_rel r2.hp et, kit_any (tyOf_mem et) (tyns_names hts), h1 _ r2 (g1.trans (Gr.hid hp))⟩
theorem call_repr_bool : CallR X (.builtin "repr") (fun xs H Q => ∃ b : Bool, xs = [.bl b] ∧ Q (.str (if b then "True" else "False")) H) := by
  intro pins s σ H xs us Q I r h
  obtain ⟨b, rfl, q⟩ := h
  obtain ⟨u, rfl, r1⟩ := vals1 r
  cases (show u = Value.bool b from r1)
  exact PySem.P.repr_of_bool ⟨.str _, H, I.tok _, ⟨_, rfl⟩, q⟩
theorem m_repr : Mono1 Z.bRepr := fun vs H Q Q' q h => by
  unfold Z.bRepr at h ⊢
  split at h
  · exact q _ _ h
  · exact ⟨h.1, q _ _ h.2⟩
  · exact h.elim
theorem txt_code (s : String) : code (Z.txt s) = Str.ofString s := by
  rw [Str.ofString_eq_toList]
  rfl
theorem c_repr : CallR X (.builtin "repr") (lift1 L X.K Z.bRepr) := by
  intro pins s σ H vs us Q I rv q
  obtain ⟨vo, Ho, rfl, rh, h⟩ := q
  unfold Z.bRepr at h
  split at h
  · rename_i b
    refine call_repr_bool pins s σ H _ us Q I rv ⟨b, rfl, ?_⟩
    have z := h H rh (Gr.refl _ _)
    cases b <;> exact z
  · rename_i i
    refine SkE.call_repr_int pins s σ H _ us Q I rv ⟨i, rfl, h.1, ?_⟩
    have z := h.2 H rh (Gr.refl _ _)
    rw [← txt_code]
    exact z
  · exact h.elim
end
end ZS

/-! ZP: rules for proofs over the combinators. -/
namespace Z

/-! ### heaps -/
theorem upd_old {H : Heap} {p q : Nat} {o o' : O} (h : H q = some o) (hp : H p = none) : upd H p o' q = some o := by
  rw [upd_ne fun z => by rw [z, hp] at h; cases h]
  exact h
/-- all that stood stands as it was, but for S -/
def Fr (S : List Nat) (H H' : Heap) : Prop := ∀ q o, H q = some o → q ∉ S → H' q = some o
theorem Fr.refl (S : List Nat) (H : Heap) : Fr S H H := fun _ _ h _ => h
theorem Fr.trans {S : List Nat} {H H1 H2 : Heap} (a : Fr S H H1) (b : Fr S H1 H2) : Fr S H H2 := fun q o h n => b q o (a q o h n) n
theorem Fr.new {S : List Nat} {H : Heap} {p : Nat} {o : O} (hp : H p = none) : Fr S H (upd H p o) := fun _ _ h _ => upd_old h hp
theorem Fr.chg {S : List Nat} {H : Heap} {p : Nat} {o : O} (hp : p ∈ S) : Fr S H (upd H p o) := fun q _ h n => by
  rw [upd_ne fun z => n (by rw [z]; exact hp)]
  exact h
theorem Fr.mono {S S' : List Nat} {H H' : Heap} (a : Fr S H H') (s : ∀ q ∈ S, q ∈ S') : Fr S' H H' := fun q o h n => a q o h fun z => n (s q z)
/-- what is new is new to what stood before -/
theorem Fr.fresh {S : List Nat} {H H' : Heap} {p : Nat} (a : Fr S H H') (hS : ∀ q ∈ S, ∃ o, H' q = some o) (hp : H' p = none) : H p = none := by
  cases e : H p with
  | none => rfl
  | some o =>
    by_cases m : p ∈ S
    · obtain ⟨o', e'⟩ := hS p m
      rw [hp] at e'
      cases e'
    · have := a p o e m
      rw [hp] at this
      cases this

/-! ### statements in turn -/
theorem seq_k {t u : TS} {C : Cx} {D : Ends} {σ : St} {H : Heap} (M : St → Heap → Prop) (h1 : ∀ K : St → Heap → Prop, (∀ σ1 H1, M σ1 H1 → K σ1 H1) → t C { D with nx := K } σ H) (h2 : ∀ σ1 H1, M σ1 H1 → u C D σ1 H1) : seq t u C D σ H := h1 _ h2
/-- a name is set -/
theorem asg_k {i : Nat} {e : TE} {u : TS} {C : Cx} {D : Ends} {σ : St} {H : Heap} (P : V → Heap → Prop) (h1 : ∀ K : VK, (∀ v H1, P v H1 → K v H1) → e C σ H K) (h2 : ∀ v H1, P v H1 → u C D (put σ i v) H1) : seq (asg (gname i) e) u C D σ H := h1 _ h2
theorem fori_k {st : Heap → Prop} {g : TG} {b : TS} {C : Cx} {D : Ends} (I : Nat → St → Heap → Prop) : ∀ {vs : List V} {σ : St} {H : Heap}, (h0 : I 0 σ H) →
    (step : ∀ i v σ H, vs[i]? = some v → I i σ H → st H ∧ ∀ K : St → Heap → Prop, (∀ σ2 H2, I (i + 1) σ2 H2 → K σ2 H2) → g C v σ H fun σ1 H1 => b C { D with nx := K, ct := K, bk := D.nx } σ1 H1) →
    (done : ∀ σ H, I vs.length σ H → st H ∧ D.nx σ H) → fori st g b C D vs σ H := by
  intro vs
  induction vs generalizing I with
  | nil => intro σ H h0 _ done; exact done σ H h0
  | cons v r ih =>
    intro σ H h0 step done
    obtain ⟨s, h⟩ := step 0 v σ H rfl h0
    refine ⟨s, h _ fun σ2 H2 h2 => ?_⟩
    exact ih (fun i => I (i + 1)) h2 (fun i w σ H e h => step (i + 1) w σ H e h) fun σ H h => done σ H h
theorem fori2_k {st : Heap → Prop} {g : TGs} {b : TS} {C : Cx} {D : Ends} (I : Nat → St → Heap → Prop) : ∀ {vs : List (V × V)} {σ : St} {H : Heap}, (h0 : I 0 σ H) →
    (step : ∀ i v σ H, vs[i]? = some v → I i σ H → st H ∧ ∀ K : St → Heap → Prop, (∀ σ2 H2, I (i + 1) σ2 H2 → K σ2 H2) → g C [v.1, v.2] σ H fun σ1 H1 => b C { D with nx := K, ct := K, bk := D.nx } σ1 H1) →
    (done : ∀ σ H, I vs.length σ H → st H ∧ D.nx σ H) → fori2 st g b C D vs σ H := by
  intro vs
  induction vs generalizing I with
  | nil => intro σ H h0 _ done; exact done σ H h0
  | cons v r ih =>
    intro σ H h0 step done
    obtain ⟨s, h⟩ := step 0 v σ H rfl h0
    refine ⟨s, h _ fun σ2 H2 h2 => ?_⟩
    exact ih (fun i => I (i + 1)) h2 (fun i w σ H e h => step (i + 1) w σ H e h) fun σ H h => done σ H h
theorem whl_k {c : TT} {b : TS} {C : Cx} {D : Ends} (I : Nat → St → Heap → Prop) {n : Nat} {σ : St} {H : Heap} (h0 : I n σ H)
    (step : ∀ m σ H, I m σ H → ∀ K : St → Heap → Prop, (∀ m' σ2 H2, m' < m → I m' σ2 H2 → K σ2 H2) → c C σ H fun k H1 => if k = true then b C { D with nx := K, ct := K, bk := D.nx } σ H1 else D.nx σ H1) : whl c b C D σ H := by
  refine ⟨n + 1, ?_⟩
  have key : ∀ n m σ H, m ≤ n → I m σ H → whn c b C D (n + 1) σ H := by
    intro n
    induction n with
    | zero =>
      intro m σ H hm h
      have : m = 0 := by omega
      subst this
      exact step 0 σ H h (whn c b C D 0) fun m' _ _ l => by omega
    | succ n ih =>
      intro m σ H hm h
      exact step m σ H h (whn c b C D (n + 1)) fun m' σ2 H2 l h2 => ih m' σ2 H2 (by omega) h2
  exact key n n σ H (Nat.le_refl n) h0
/-- a comprehension: I by the turn, what is made so far, the heap -/
theorem lci_k {st : Heap → Prop} {own : List Nat} {g : TG} {c : TT} {e : TE} {C : Cx} {σ : St} {Q : List V → Heap → Prop} (I : Nat → List V → Heap → Prop) : ∀ {vs acc : List V} {H : Heap}, (h0 : I 0 acc H) →
    (step : ∀ i v acc H, vs[i]? = some v → I i acc H → st H ∧ ∀ K : List V → Heap → Prop, (∀ acc2 H2, I (i + 1) acc2 H2 → K acc2 H2) → g C v (wipe σ own) H fun σ1 H1 => c C σ1 H1 fun k H2 => if k = true then e C σ1 H2 fun y H3 => acc.length < line ∧ K (acc ++ [y]) H3 else K acc H2) →
    (done : ∀ acc H, I vs.length acc H → st H ∧ Q acc H) → lci st own g c e C σ Q vs acc H := by
  intro vs
  induction vs generalizing I with
  | nil => intro acc H h0 _ done; exact done acc H h0
  | cons v r ih =>
    intro acc H h0 step done
    obtain ⟨s, h⟩ := step 0 v acc H rfl h0
    refine ⟨s, h (fun acc2 H2 => lci st own g c e C σ Q r acc2 H2) fun acc2 H2 h2 => ?_⟩
    exact ih (fun i => I (i + 1)) h2 (fun i w acc H e h => step (i + 1) w acc H e h) fun acc H h => done acc H h
theorem lci2_k {st : Heap → Prop} {own : List Nat} {g : TGs} {c : TT} {e : TE} {C : Cx} {σ : St} {Q : List V → Heap → Prop} (I : Nat → List V → Heap → Prop) : ∀ {vs : List (V × V)} {acc : List V} {H : Heap}, (h0 : I 0 acc H) →
    (step : ∀ i v acc H, vs[i]? = some v → I i acc H → st H ∧ ∀ K : List V → Heap → Prop, (∀ acc2 H2, I (i + 1) acc2 H2 → K acc2 H2) → g C [v.1, v.2] (wipe σ own) H fun σ1 H1 => c C σ1 H1 fun k H2 => if k = true then e C σ1 H2 fun y H3 => acc.length < line ∧ K (acc ++ [y]) H3 else K acc H2) →
    (done : ∀ acc H, I vs.length acc H → st H ∧ Q acc H) → lci2 st own g c e C σ Q vs acc H := by
  intro vs
  induction vs generalizing I with
  | nil => intro acc H h0 _ done; exact done acc H h0
  | cons v r ih =>
    intro acc H h0 step done
    obtain ⟨s, h⟩ := step 0 v acc H rfl h0
    refine ⟨s, h (fun acc2 H2 => lci2 st own g c e C σ Q r acc2 H2) fun acc2 H2 h2 => ?_⟩
    exact ih (fun i => I (i + 1)) h2 (fun i w acc H e h => step (i + 1) w acc H e h) fun acc H h => done acc H h
/-- a comprehension without a test that draws nothing and makes nothing else -/
theorem lci_pure {st : Heap → Prop} {own : List Nat} {g : TG} {e : TE} {C : Cx} {σ : St} {Q : List V → Heap → Prop} {H : Heap} (f : V → V) (hst : st H) : ∀ {vs acc : List V}, acc.length + vs.length ≤ line →
    (∀ v ∈ vs, ∀ K : VK, K (f v) H → g C v (wipe σ own) H fun σ1 H1 => e C σ1 H1 K) → Q (acc ++ vs.map f) H → lci st own g tyes e C σ Q vs acc H := by
  intro vs
  induction vs with
  | nil =>
    intro acc hl he q
    rw [List.map_nil, List.append_nil] at q
    exact ⟨hst, q⟩
  | cons v r ih =>
    intro acc hl he q
    have hl : acc.length + (r.length + 1) ≤ line := hl
    refine ⟨hst, he v (List.mem_cons_self ..) (fun y H3 => acc.length < line ∧ lci st own g tyes e C σ Q r (acc ++ [y]) H3) ⟨by omega, ?_⟩⟩
    refine ih (by rw [List.length_append]; show acc.length + 1 + r.length ≤ line; omega) (fun w hw => he w (List.mem_cons_of_mem _ hw)) ?_
    rw [List.append_assoc]
    exact q
abbrev ZTab := List ((String × String) × Def)
def defOf (t : ZTab) : String → String → Option Def := fun c m => t.lookup (c, m)
/-- the script alone -/
def heap0 (a : Nat) (ns : List Int) : Heap := fun b => if b = a then some (.scr (ns.map .int)) else none
/-- a script's number -/
def Fit (z : Int) : Prop := small 1048576 z
/-- the law, over the combinators -/
def LawOk (t : ZTab) (k : Nat) : Prop := ∀ a ns, List.length ns ≤ 63 → (∀ z ∈ ns, Fit z) → callK (defOf t) k "" "law" [.ref a] (heap0 a ns) (fun v _ => v = .bl true) fun _ _ _ => False
/-- a def is called -/
theorem call_k {T : String → String → Option Def} {k : Nat} {c m : String} {vs : List V} {H : Heap} {Q : VK} {E : EK} {np n : Nat} {b : TS} (h : T c m = some ⟨np, n, b⟩) (hl : vs.length = np) (hb : b ⟨callK T k, fun c fs _ H' => E c fs H'⟩ { nx := fun _ H' => Q .non H', rt := Q } (start n vs) H) : callK T (k + 1) c m vs H Q E := by
  unfold callK
  rw [h]
  exact ⟨hl, Q, E, fun _ _ h => h, fun _ _ _ h => h, hb⟩
theorem call_mono {T : String → String → Option Def} {k : Nat} {c m : String} {vs : List V} {H : Heap} {Q Q' : VK} {E E' : EK} (h : callK T k c m vs H Q E) (q : ∀ v H, Q v H → Q' v H) (e : ∀ c f H, E c f H → E' c f H) : callK T k c m vs H Q' E' := by
  cases k with
  | zero => exact h
  | succ k =>
    unfold callK at h ⊢
    cases ht : T c m with
    | none => rw [ht] at h; exact h
    | some d =>
      rw [ht] at h
      obtain ⟨hl, Q0, E0, q0, e0, hb⟩ := h
      exact ⟨hl, Q0, E0, fun v H x => q v H (q0 v H x), fun c f H x => e c f H (e0 c f H x), hb⟩

/-! ### equality of values -/
theorem rep_int {H : Heap} {i : Int} {d : D} : Rep H (.int i) d ↔ d = .int i := ⟨fun h => by cases h; rfl, fun h => by subst h; exact .int i⟩
theorem rep_bl {H : Heap} {i : Bool} {d : D} : Rep H (.bl i) d ↔ d = .bl i := ⟨fun h => by cases h; rfl, fun h => by subst h; exact .bl i⟩
theorem rep_non {H : Heap} {d : D} : Rep H .non d ↔ d = .non := ⟨fun h => by cases h; rfl, fun h => by subst h; exact .non⟩
theorem rep_str {H : Heap} {s : List Nat} {d : D} : Rep H (.str s) d ↔ (s.all (fun c => decide (c < 1114112)) = true ∧ d = .str s) := ⟨fun h => by cases h; exact ⟨by assumption, rfl⟩, fun ⟨h1, h2⟩ => by subst h2; exact .str s h1⟩
theorem eqD_int {H : Heap} {i j : Int} {Q : Bool → Prop} : eqD (.int i) (.int j) H Q ↔ Q (i == j) := by
  unfold eqD
  simp [rep_int, D.depth, D.eqv]
theorem eqD_bl {H : Heap} {i j : Bool} {Q : Bool → Prop} : eqD (.bl i) (.bl j) H Q ↔ Q (i == j) := by
  unfold eqD
  simp [rep_bl, D.depth, D.eqv]
theorem eqD_str {H : Heap} {i j : List Nat} {Q : Bool → Prop} : eqD (.str i) (.str j) H Q ↔ (i.all (fun c => decide (c < 1114112)) = true ∧ j.all (fun c => decide (c < 1114112)) = true ∧ Q (i == j)) := by
  refine ⟨fun ⟨d, e, r1, r2, _, _, q⟩ => ?_, fun ⟨a, b, q⟩ => ⟨.str i, .str j, .str i a, .str j b, Nat.zero_le _, Nat.zero_le _, q⟩⟩
  obtain ⟨a, rfl⟩ := rep_str.mp r1
  obtain ⟨b, rfl⟩ := rep_str.mp r2
  exact ⟨a, b, q⟩
/-- lists of flat values -/
theorem repL_ints {H : Heap} : ∀ ns : List Int, RepL H (ns.map V.int) (ns.map D.int)
  | [] => .nil
  | n :: r => .cons (.int n) (repL_ints r)
theorem depthL_ints : ∀ ns : List Int, D.depthL (ns.map D.int) = 0
  | [] => rfl
  | n :: r => by
    show max 0 (D.depthL (r.map D.int)) = 0
    rw [depthL_ints r]
    rfl
theorem eqvL_ints : ∀ ns ms : List Int, D.eqvL (ns.map D.int) (ms.map D.int) = (ns == ms)
  | [], [] => rfl
  | [], _ :: _ => rfl
  | _ :: _, [] => rfl
  | n :: r, m :: t => by
    show (n == m && D.eqvL (r.map D.int) (t.map D.int)) = _
    rw [eqvL_ints r t]
    rfl
/-- two lists of numbers -/
theorem eqD_ints {H : Heap} {p q : Nat} {ns ms : List Int} {Q : Bool → Prop} (hp : litems H (.ref p) = some (ns.map .int)) (hq : litems H (.ref q) = some (ms.map .int)) (h : Q (ns == ms)) : eqD (.ref p) (.ref q) H Q := by
  refine ⟨.lst (ns.map .int), .lst (ms.map .int), .lst hp (repL_ints ns), .lst hq (repL_ints ms), ?_, ?_, ?_⟩
  · show D.depthL _ + 1 ≤ 64
    rw [depthL_ints]
    decide
  · show D.depthL _ + 1 ≤ 64
    rw [depthL_ints]
    decide
  · show Q (D.eqvL _ _)
    rw [eqvL_ints]
    exact h

/-! ### steps by the kinds of the values -/
section
variable {H : Heap} {Q : VK} {P : Bool → Prop} {i j : Int} {a b p : Nat} {x y : V} {xs ys : List V}
theorem opr_add_ii : opr .add (.int i) (.int j) H Q = Q (.int (i + j)) H := rfl
theorem opr_add_rr : opr .add (.ref a) (.ref b) H Q = ((∃ xs ys, litems H (.ref a) = some xs ∧ litems H (.ref b) = some ys ∧ xs.length + ys.length ≤ line ∧ ∀ p, H p = none → Q (.ref p) (upd H p (.lst (xs ++ ys)))) ∨
      (∃ xs ys, titems H (.ref a) = some xs ∧ titems H (.ref b) = some ys ∧ xs ≠ [] ∧ ys ≠ [] ∧ xs.length + ys.length ≤ line ∧ ∀ p, H p = none → Q (.ref p) (upd H p (.tup (xs ++ ys))))) := rfl
theorem opr_sub_ii : opr .sub (.int i) (.int j) H Q = Q (.int (i - j)) H := rfl
theorem opr_mul_ii : opr .mul (.int i) (.int j) H Q = ((∃ n m, n + m ≤ 134217728 ∧ small n i ∧ small m j) ∧ Q (.int (i * j)) H) := rfl
theorem opr_mul_ri : opr .mul (.ref a) (.int i) H Q = (∃ xs, H a = some (.lst xs) ∧ -(2 ^ 63) ≤ i ∧ i < 2 ^ 63 ∧ xs.length * i.toNat ≤ line ∧ ∀ p, H p = none → Q (.ref p) (upd H p (.lst (List.replicate i.toNat xs).flatten))) := rfl
theorem opr_fdiv : opr .fdiv (.int i) (.int j) H Q = (0 < j ∧ small 9000 j ∧ Q (.int (i / j)) H) := rfl
theorem opr_mod : opr .mod (.int i) (.int j) H Q = (0 < j ∧ Q (.int (i % j)) H) := rfl
theorem opr_pow : opr .pow (.int i) (.int j) H Q = (0 ≤ j ∧ (∃ n, small n i ∧ n * j.toNat ≤ 134217728) ∧ Q (.int (i ^ j.toNat)) H) := rfl
theorem opr_shl : opr .shl (.int i) (.int j) H Q = (0 ≤ j ∧ (∃ n, small n i ∧ n + j.toNat ≤ 134217728) ∧ Q (.int (i * 2 ^ j.toNat)) H) := rfl
theorem opr_shr : opr .shr (.int i) (.int j) H Q = (0 ≤ j ∧ Q (.int (i / 2 ^ j.toNat)) H) := rfl
theorem opr_band : opr .band (.int i) (.int j) H Q = (0 ≤ i ∧ 0 ≤ j ∧ Q (.int ((i.toNat &&& j.toNat : Nat) : Int)) H) := rfl
theorem cmpr_eq : cmpr .eq x y H P = eqD x y H P := by cases x <;> cases y <;> rfl
theorem cmpr_ne : cmpr .ne x y H P = eqD x y H fun b => P (!b) := by cases x <;> cases y <;> rfl
theorem cmpr_lt : cmpr .lt (.int i) (.int j) H P = P (decide (i < j)) := rfl
theorem cmpr_ltT : cmpr .lt (.ref a) (.ref b) H P = ∃ ns ms, titems H (.ref a) = some (ns.map V.int) ∧ titems H (.ref b) = some (ms.map V.int) ∧ P (lexLt ns ms) := rfl
theorem cmpr_le : cmpr .le (.int i) (.int j) H P = P (decide (i ≤ j)) := rfl
theorem cmpr_gt : cmpr .gt (.int i) (.int j) H P = P (decide (j < i)) := rfl
theorem cmpr_ge : cmpr .ge (.int i) (.int j) H P = P (decide (j ≤ i)) := rfl
theorem cmpr_is : cmpr .is x .non H P = P (decide (x = .non)) := by cases x <;> rfl
theorem cmpr_isB {u v : Bool} : cmpr .is (.bl u) (.bl v) H P = P (u == v) := rfl
theorem cmpr_isnot : cmpr .isnot x .non H P = P (!decide (x = .non)) := by cases x <;> rfl
theorem cmpr_isnotB {u v : Bool} : cmpr .isnot (.bl u) (.bl v) H P = P (!(u == v)) := rfl
theorem cmpr_in : cmpr .isin x (.ref b) H P = ((∃ xs, items H (.ref b) = some xs ∧ flatV x = true ∧ xs.all flatV = true ∧ P (inF x xs)) ∨ (∃ r, dget H (.ref b) x r ∧ P r.isSome) ∨ inD x b H P) := by cases x <;> rfl
theorem cmpr_notin : cmpr .notin x (.ref b) H P = ((∃ xs, items H (.ref b) = some xs ∧ flatV x = true ∧ xs.all flatV = true ∧ P (!inF x xs)) ∨ (∃ r, dget H (.ref b) x r ∧ P (!r.isSome)) ∨ inD x b H fun k => P (!k)) := by cases x <;> rfl
def itemsO : Option O → Option (List V)
  | some (.lst xs) => some xs
  | some (.tup xs) => some xs
  | some (.scr xs) => some xs
  | _ => none
def litemsO : Option O → Option (List V)
  | some (.lst xs) => some xs
  | some (.scr xs) => some xs
  | _ => none
def titemsO : Option O → Option (List V)
  | some (.tup xs) => some xs
  | _ => none
def truthO : Option O → Option Bool
  | some (.lst xs) => some (!xs.isEmpty)
  | some (.tup xs) => some (!xs.isEmpty)
  | some (.scr xs) => some (!xs.isEmpty)
  | _ => none
def tyO : Option O → Option String
  | some (.lst _) => some "list"
  | some (.scr _) => some "list"
  | some (.tup _) => some "tuple"
  | some (.dct _) => some "dict"
  | some (.dctT _) => some "dict"
  | _ => none
theorem items_r : items H (.ref a) = itemsO (H a) := by
  show (match H a with | some (.lst xs) => some xs | some (.tup xs) => some xs | some (.scr xs) => some xs | _ => none) = _
  unfold itemsO
  rfl
theorem litems_r : litems H (.ref a) = litemsO (H a) := by
  show (match H a with | some (.lst xs) => some xs | some (.scr xs) => some xs | _ => none) = _
  unfold litemsO
  rfl
theorem titems_r : titems H (.ref a) = titemsO (H a) := by
  show (match H a with | some (.tup xs) => some xs | _ => none) = _
  unfold titemsO
  rfl
theorem truth_r : truth H (.ref a) = truthO (H a) := by
  show (match H a with | some (.lst xs) => some (!xs.isEmpty) | some (.tup xs) => some (!xs.isEmpty) | some (.scr xs) => some (!xs.isEmpty) | _ => none) = _
  unfold truthO
  rfl
theorem tyOf_r : tyOf H (.ref a) = tyO (H a) := by
  show (match H a with | some (.lst _) => some "list" | some (.scr _) => some "list" | some (.tup _) => some "tuple" | some (.dct _) => some "dict" | some (.dctT _) => some "dict" | _ => none) = _
  unfold tyO
  rfl
theorem itemsO_l : itemsO (some (.lst xs)) = some xs := rfl
theorem itemsO_t : itemsO (some (.tup xs)) = some xs := rfl
theorem itemsO_s : itemsO (some (.scr xs)) = some xs := rfl
theorem litemsO_l : litemsO (some (.lst xs)) = some xs := rfl
theorem litemsO_t : litemsO (some (.tup xs)) = none := rfl
theorem litemsO_s : litemsO (some (.scr xs)) = some xs := rfl
theorem titemsO_l : titemsO (some (.lst xs)) = none := rfl
theorem titemsO_t : titemsO (some (.tup xs)) = some xs := rfl
theorem titemsO_s : titemsO (some (.scr xs)) = none := rfl
theorem truthO_l : truthO (some (.lst xs)) = some (!xs.isEmpty) := rfl
theorem truthO_t : truthO (some (.tup xs)) = some (!xs.isEmpty) := rfl
theorem truthO_s : truthO (some (.scr xs)) = some (!xs.isEmpty) := rfl
theorem truth_b {u : Bool} : truth H (.bl u) = some u := rfl
theorem truth_n : truth H .non = some false := rfl
theorem truth_i : truth H (.int i) = some (i != 0) := rfl
theorem tyO_l : tyO (some (.lst xs)) = some "list" := rfl
theorem tyO_t : tyO (some (.tup xs)) = some "tuple" := rfl
theorem tyO_s : tyO (some (.scr xs)) = some "list" := rfl
theorem tyO_d {kvs} : tyO (some (.dct kvs)) = some "dict" := rfl
theorem tyOf_b {u : Bool} : tyOf H (.bl u) = some "bool" := rfl
theorem tyOf_n : tyOf H .non = some "NoneType" := rfl
theorem tyOf_i : tyOf H (.int i) = some "int" := rfl
theorem tyOf_st {s : List Nat} : tyOf H (.str s) = some "str" := rfl
theorem atI_lt (h0 : 0 ≤ i) (h1 : i < xs.length) : atI xs i = xs[i.toNat]? := by
  unfold atI ixN
  rw [if_pos h0, if_pos h1]
  rfl
theorem atI_neg (h0 : i < 0) (h1 : -(xs.length : Int) ≤ i) : atI xs i = xs[(i + xs.length).toNat]? := by
  unfold atI ixN
  rw [if_neg (by omega), if_pos h1]
  rfl
theorem ixN_lt {n : Nat} (h0 : 0 ≤ i) (h1 : i < n) : ixN n i = some i.toNat := by
  unfold ixN
  rw [if_pos h0, if_pos h1]
theorem ixN_neg {n : Nat} (h0 : i < 0) (h1 : -(n : Int) ≤ i) : ixN n i = some (i + n).toNat := by
  unfold ixN
  rw [if_neg (by omega), if_pos h1]
theorem bInt_i : bInt [.int i] H Q = Q (.int i) H := rfl
theorem bInt_b {u : Bool} : bInt [.bl u] H Q = Q (.int (if u then 1 else 0)) H := rfl
theorem bRepr_b {u : Bool} : bRepr [.bl u] H Q = Q (.str (if u then [84, 114, 117, 101] else [70, 97, 108, 115, 101])) H := rfl
theorem bRepr_i : bRepr [.int i] H Q = (i.natAbs.log2 < 1920 ∧ Q (.str (txt (toString i))) H) := rfl
theorem augo_t {P : V → Prop} : augo true (.int i) (.int j) P = P (.int (i + j)) := rfl
theorem augo_f {P : V → Prop} : augo false (.int i) (.int j) P = P (.int (i - j)) := rfl
end

/-! ### numbers -/
theorem small_of {n : Nat} {i : Int} (h1 : -(2 ^ n : Nat) < i) (h2 : i < (2 ^ n : Nat)) : small n i := by
  unfold small
  omega
theorem mul_fits {n m : Nat} {i j : Int} (h : n + m ≤ 134217728) (hi : small n i) (hj : small m j) : ∃ n m, n + m ≤ 134217728 ∧ small n i ∧ small m j := ⟨n, m, h, hi, hj⟩
theorem small_abs {n : Nat} {i : Int} {b : Nat} (h : i.natAbs ≤ b) (hb : b < 2 ^ n) : small n i := by
  unfold small
  omega
theorem small_mono {n m : Nat} {i : Int} (h : small n i) (l : n ≤ m) : small m i := Nat.lt_of_lt_of_le h (Nat.pow_le_pow_right (by decide) l)
theorem small_mul {n m : Nat} {i j : Int} (hi : small n i) (hj : small m j) : small (n + m) (i * j) := by
  unfold small at *
  rw [Int.natAbs_mul, Nat.pow_add]
  exact Nat.mul_lt_mul'' hi hj
theorem small_add {n : Nat} {i j : Int} (hi : small n i) (hj : small n j) : small (n + 1) (i + j) := by
  unfold small at *
  rw [Nat.pow_succ]
  omega
theorem small_9000 {i : Int} (h : small 200 i) : small 9000 i := small_mono h (by decide)
theorem mul_k {i j : Int} (hi : small 10000 i) (hj : small 10000 j) : ∃ n m, n + m ≤ 134217728 ∧ small n i ∧ small m j := ⟨10000, 10000, by decide, hi, hj⟩
theorem fit_b {i : Int} (h1 : -(2 ^ 200) < i) (h2 : i < 2 ^ 200) : Fit i := by
  unfold Fit
  exact small_mono (n := 200) (m := 1048576) (by unfold small; omega) (by decide)
theorem fit_zero : Fit 0 := fit_b (by decide) (by decide)
/-- small by its bounds (200 figures) -/
theorem small_b {n : Nat} {i : Int} (h1 : -(2 ^ 200) < i) (h2 : i < 2 ^ 200) (hn : 200 ≤ n) : small n i := small_mono (n := 200) (by unfold small; omega) hn
theorem mod_rng {i j : Int} (h : 0 < j) : 0 ≤ i % j ∧ i % j < j := ⟨Int.emod_nonneg _ (by omega), Int.emod_lt_of_pos _ h⟩
/-- a list of numbers stands -/
theorem items_l {H : Heap} {p : Nat} {xs : List V} (h : H p = some (.lst xs)) : items H (.ref p) = some xs := by simp [items, h]
theorem items_t {H : Heap} {p : Nat} {xs : List V} (h : H p = some (.tup xs)) : items H (.ref p) = some xs := by simp [items, h]
theorem litems_l {H : Heap} {p : Nat} {xs : List V} (h : H p = some (.lst xs)) : litems H (.ref p) = some xs := by simp [litems, h]
theorem litems_s {H : Heap} {p : Nat} {xs : List V} (h : H p = some (.scr xs)) : litems H (.ref p) = some xs := by simp [litems, h]
theorem titems_t {H : Heap} {p : Nat} {xs : List V} (h : H p = some (.tup xs)) : titems H (.ref p) = some xs := by simp [titems, h]
end Z

/-! Z9: built-ins by their names; tables of defs; the end. -/
namespace ZS
open PySem PySem.Spec PyProof.Rows L2
section
variable {L : Lw} {X : Cx} {a b c e o : Expr} {es : List Expr} {ta tb tc te to : Z.TE} {t : Z.TA} {pos p apos : Pos}
theorem b_len (hm : X.mg "len" = none) (ha : SA L X (e :: es) t) (hg : Gl X "len" := by rfl) (he : starEach (e :: es) X.env = (false, eval e X.env) :: starEach es X.env := by rfl) (hpl : (backTo pos (starEach es X.env)).any (·.1) = false := by rfl) : SE L X (.Call (.Name "len" p) (e :: es) [] pos) (Z.blt Z.bLen t) :=
  s_blt m_len (fun C g => c_len) hg hm boot_len ha (by decide) (by decide) he hpl
theorem b_abs (hm : X.mg "abs" = none) (ha : SA L X (e :: es) t) (hg : Gl X "abs" := by rfl) (he : starEach (e :: es) X.env = (false, eval e X.env) :: starEach es X.env := by rfl) (hpl : (backTo pos (starEach es X.env)).any (·.1) = false := by rfl) : SE L X (.Call (.Name "abs" p) (e :: es) [] pos) (Z.blt Z.bAbs t) :=
  s_blt m_abs (fun C g => c_abs) hg hm boot_abs ha (by decide) (by decide) he hpl
theorem b_int (hm : X.mg "int" = none) (ha : SA L X (e :: es) t) (hg : Gl X "int" := by rfl) (he : starEach (e :: es) X.env = (false, eval e X.env) :: starEach es X.env := by rfl) (hpl : (backTo pos (starEach es X.env)).any (·.1) = false := by rfl) : SE L X (.Call (.Name "int" p) (e :: es) [] pos) (Z.blt Z.bInt t) :=
  s_blT m_int (fun C g => c_int) hg hm boot_int ha (by decide) (by decide) he hpl
theorem b_max2 (hc : X.calm = true) (hm : X.mg "max" = none) (ha : SA L X (e :: es) t) (hg : Gl X "max" := by rfl) (he : starEach (e :: es) X.env = (false, eval e X.env) :: starEach es X.env := by rfl) (hpl : (backTo pos (starEach es X.env)).any (·.1) = false := by rfl) : SE L X (.Call (.Name "max" p) (e :: es) [] pos) (Z.blt Z.bMax2 t) :=
  s_blt m_max2 (fun C g => c_max2 hc) hg hm boot_max ha (by decide) (by decide) he hpl
theorem b_min2 (hc : X.calm = true) (hm : X.mg "min" = none) (ha : SA L X (e :: es) t) (hg : Gl X "min" := by rfl) (he : starEach (e :: es) X.env = (false, eval e X.env) :: starEach es X.env := by rfl) (hpl : (backTo pos (starEach es X.env)).any (·.1) = false := by rfl) : SE L X (.Call (.Name "min" p) (e :: es) [] pos) (Z.blt Z.bMin2 t) :=
  s_blt m_min2 (fun C g => c_min2 hc) hg hm boot_min ha (by decide) (by decide) he hpl
theorem b_sum (hc : X.calm = true) (hm : X.mg "sum" = none) (ha : SA L X (e :: es) t) (hg : Gl X "sum" := by rfl) (he : starEach (e :: es) X.env = (false, eval e X.env) :: starEach es X.env := by rfl) (hpl : (backTo pos (starEach es X.env)).any (·.1) = false := by rfl) : SE L X (.Call (.Name "sum" p) (e :: es) [] pos) (Z.blt Z.bSum t) :=
  s_blt m_sum (fun C g => c_sum hc) hg hm boot_sum ha (by decide) (by decide) he hpl
theorem b_max1 (hc : X.calm = true) (hm : X.mg "max" = none) (ha : SA L X (e :: es) t) (hg : Gl X "max" := by rfl) (he : starEach (e :: es) X.env = (false, eval e X.env) :: starEach es X.env := by rfl) (hpl : (backTo pos (starEach es X.env)).any (·.1) = false := by rfl) : SE L X (.Call (.Name "max" p) (e :: es) [] pos) (Z.blt Z.bMax1 t) :=
  s_blt m_max1 (fun C g => c_max1 hc) hg hm boot_max ha (by decide) (by decide) he hpl
theorem b_min1 (hc : X.calm = true) (hm : X.mg "min" = none) (ha : SA L X (e :: es) t) (hg : Gl X "min" := by rfl) (he : starEach (e :: es) X.env = (false, eval e X.env) :: starEach es X.env := by rfl) (hpl : (backTo pos (starEach es X.env)).any (·.1) = false := by rfl) : SE L X (.Call (.Name "min" p) (e :: es) [] pos) (Z.blt Z.bMin1 t) :=
  s_blt m_min1 (fun C g => c_min1 hc) hg hm boot_min ha (by decide) (by decide) he hpl
theorem b_all (hc : X.calm = true) (hm : X.mg "all" = none) (ha : SA L X (e :: es) t) (hg : Gl X "all" := by rfl) (he : starEach (e :: es) X.env = (false, eval e X.env) :: starEach es X.env := by rfl) (hpl : (backTo pos (starEach es X.env)).any (·.1) = false := by rfl) : SE L X (.Call (.Name "all" p) (e :: es) [] pos) (Z.blt Z.bAll t) :=
  s_blt m_all (fun C g => c_all hc) hg hm boot_all ha (by decide) (by decide) he hpl
theorem b_any (hc : X.calm = true) (hm : X.mg "any" = none) (ha : SA L X (e :: es) t) (hg : Gl X "any" := by rfl) (he : starEach (e :: es) X.env = (false, eval e X.env) :: starEach es X.env := by rfl) (hpl : (backTo pos (starEach es X.env)).any (·.1) = false := by rfl) : SE L X (.Call (.Name "any" p) (e :: es) [] pos) (Z.blt Z.bAny t) :=
  s_blt m_any (fun C g => c_any hc) hg hm boot_any ha (by decide) (by decide) he hpl
theorem b_list (hm : X.mg "list" = none) (ha : SA L X (e :: es) t) (hg : Gl X "list" := by rfl) (he : starEach (e :: es) X.env = (false, eval e X.env) :: starEach es X.env := by rfl) (hpl : (backTo pos (starEach es X.env)).any (·.1) = false := by rfl) : SE L X (.Call (.Name "list" p) (e :: es) [] pos) (Z.blt Z.bList t) :=
  s_blT m_list (fun C g => c_list) hg hm boot_list ha (by decide) (by decide) he hpl
theorem b_tuple (hm : X.mg "tuple" = none) (ha : SA L X (e :: es) t) (hg : Gl X "tuple" := by rfl) (he : starEach (e :: es) X.env = (false, eval e X.env) :: starEach es X.env := by rfl) (hpl : (backTo pos (starEach es X.env)).any (·.1) = false := by rfl) : SE L X (.Call (.Name "tuple" p) (e :: es) [] pos) (Z.blt Z.bTuple t) :=
  s_blT m_tuple (fun C g => c_tuple) hg hm boot_tuple ha (by decide) (by decide) he hpl
theorem b_sortedI (hm : X.mg "sorted" = none) (ha : SA L X (e :: es) t) (hg : Gl X "sorted" := by rfl) (he : starEach (e :: es) X.env = (false, eval e X.env) :: starEach es X.env := by rfl) (hpl : (backTo pos (starEach es X.env)).any (·.1) = false := by rfl) : SE L X (.Call (.Name "sorted" p) (e :: es) [] pos) (Z.blt Z.bSortedI t) :=
  s_blt m_sortedI (fun C g => c_sortedI) hg hm boot_sorted ha (by decide) (by decide) he hpl
theorem b_repr (hm : X.mg "repr" = none) (ha : SA L X (e :: es) t) (hg : Gl X "repr" := by rfl) (he : starEach (e :: es) X.env = (false, eval e X.env) :: starEach es X.env := by rfl) (hpl : (backTo pos (starEach es X.env)).any (·.1) = false := by rfl) : SE L X (.Call (.Name "repr" p) (e :: es) [] pos) (Z.blt Z.bRepr t) :=
  s_blt m_repr (fun C g => c_repr) hg hm boot_repr ha (by decide) (by decide) he hpl
theorem bm_append (ho : SE L X o to) (ha : SA L X (e :: es) t)
    (hbase : attributeBase o "append" X.env (eval o X.env) = eval o X.env := by rfl)
    (hfew : ((backTo pos (starEach (e :: es) X.env)).all (fun x => !x.1) && (backToKw pos (keywordEach [] X.env)).all (fun x => x.1.isSome)
      && decide ((e :: es).length + ([] : List Keyword).length + (if ([] : List Keyword).isEmpty then 0 else 1) < 30)) = true := by rfl)
    (hline : (apos.endLine == pos.line) = true := by rfl) (hs : starEach (e :: es) X.env = (false, eval e X.env) :: starEach es X.env := by rfl) (hplain : (backTo pos (starEach es X.env)).any (·.1) = false := by rfl) :
    SE L X (.Call (.Attribute o "append" apos) (e :: es) [] pos) (Z.bmt Z.isL Z.mAppend to t) :=
  s_bm (fun x Ho H rh h => ty_list rh h) mm_append F.plainAttrs_list F.slot_list_append rfl mc_append ho ha hbase hfew hline hs hplain
theorem bm_extend (ho : SE L X o to) (ha : SA L X (e :: es) t)
    (hbase : attributeBase o "extend" X.env (eval o X.env) = eval o X.env := by rfl)
    (hfew : ((backTo pos (starEach (e :: es) X.env)).all (fun x => !x.1) && (backToKw pos (keywordEach [] X.env)).all (fun x => x.1.isSome)
      && decide ((e :: es).length + ([] : List Keyword).length + (if ([] : List Keyword).isEmpty then 0 else 1) < 30)) = true := by rfl)
    (hline : (apos.endLine == pos.line) = true := by rfl) (hs : starEach (e :: es) X.env = (false, eval e X.env) :: starEach es X.env := by rfl) (hplain : (backTo pos (starEach es X.env)).any (·.1) = false := by rfl) :
    SE L X (.Call (.Attribute o "extend" apos) (e :: es) [] pos) (Z.bmt Z.isL Z.mExtend to t) :=
  s_bm (fun x Ho H rh h => ty_list rh h) mm_extend F.plainAttrs_list F.slot_list_extend rfl mc_extend ho ha hbase hfew hline hs hplain
theorem bm_pop0 (ho : SE L X o to) (hbase : attributeBase o "pop" X.env (eval o X.env) = eval o X.env := by rfl) (hline : (apos.endLine == pos.line) = true := by rfl) : SE L X (.Call (.Attribute o "pop" apos) [] [] pos) (Z.bmt Z.isL Z.mPop0 to Z.anil) :=
  s_bm0 (fun x Ho H rh h => ty_list rh h) mm_pop0 F.plainAttrs_list F.slot_list_pop rfl mc_pop0 ho hbase hline
theorem bm_popAt (ho : SE L X o to) (ha : SA L X (e :: es) t)
    (hbase : attributeBase o "pop" X.env (eval o X.env) = eval o X.env := by rfl)
    (hfew : ((backTo pos (starEach (e :: es) X.env)).all (fun x => !x.1) && (backToKw pos (keywordEach [] X.env)).all (fun x => x.1.isSome)
      && decide ((e :: es).length + ([] : List Keyword).length + (if ([] : List Keyword).isEmpty then 0 else 1) < 30)) = true := by rfl)
    (hline : (apos.endLine == pos.line) = true := by rfl) (hs : starEach (e :: es) X.env = (false, eval e X.env) :: starEach es X.env := by rfl) (hplain : (backTo pos (starEach es X.env)).any (·.1) = false := by rfl) :
    SE L X (.Call (.Attribute o "pop" apos) (e :: es) [] pos) (Z.bmt Z.isL Z.mPopAt to t) :=
  s_bm (fun x Ho H rh h => ty_list rh h) mm_popAt F.plainAttrs_list F.slot_list_pop rfl mc_popAt ho ha hbase hfew hline hs hplain
theorem bm_reverse (ho : SE L X o to) (hbase : attributeBase o "reverse" X.env (eval o X.env) = eval o X.env := by rfl) (hline : (apos.endLine == pos.line) = true := by rfl) : SE L X (.Call (.Attribute o "reverse" apos) [] [] pos) (Z.bmt Z.isL Z.mReverse to Z.anil) :=
  s_bm0 (fun x Ho H rh h => ty_list rh h) mm_reverse F.plainAttrs_list F.slot_list_reverse rfl mc_reverse ho hbase hline
theorem s_globN {x : Str} {i : Int} (h : ∃ t, X.mg x = some (.int i t)) (hg : Gl X x := by rfl) (hd : (x == ("__debug__" : Str)) = false := by decide) : SE L X (.Name x pos) (Z.cst (.int i)) := by
  obtain ⟨t, e⟩ := h
  exact s_globI hg e hd
end

/-! ### what the text says of a def -/
/-- the defaults: none, or a tuple of the module -/
def DflZ (L : Lw) (K : PySem.W.Frag) (dV : Value) (dvs : List Z.V) : Prop := (dvs = [] ∧ dV = .none) ∨ (dvs ≠ [] ∧ ∃ (T : Addr) (o : Obj) (its : List Value) (n : Nat), dV = .ref T ∧ K.lookup T = some o ∧ o.data = .seq its.toArray n ∧ Vals (L.vs dvs) its)
/-- a def of the module, or of the class c -/
structure DF (L : Lw) (K : PySem.W.Frag) (c m qual : String) (st : Stmt) (ps : List Str) (dvs : List Z.V) (f : Addr) : Prop where
  ex : ∃ (oc : Value) (od an : Option Addr) (dV kV doc pmm cdv ct : Value) (osl : Array (Option Value)), L.fn c m = some (f, PySem.W.fnOf (Str.ofString m) (Str.ofString qual) (defArgs st) (defBody st) (defScope st) dV kV doc pmm an cdv ct, ps) ∧
    K.lookup f = some ⟨oc, od, .func (PySem.W.fnOf (Str.ofString m) (Str.ofString qual) (defArgs st) (defBody st) (defScope st) dV kV doc pmm an cdv ct), osl⟩ ∧ PySem.W.codeIn K cdv (Str.ofString qual) = true ∧ DflZ L K dV dvs
  kp : PySem.W.keepIn K (.ref f) = true
/-- what a call of it asks -/
structure CallOk (L : Lw) (K : PySem.W.Frag) (mg : Str → Option Value) (m : String) (n : Nat) (ks : List Str) (pm : List (Sum Nat Z.V)) : Prop where
  ex : ∃ f fd ps, L.fn "" m = some (f, fd, ps) ∧ PySem.W.keepIn K (.ref f) = true ∧ mg (Str.ofString m) = some (.ref f) ∧ Shp L K fd ps n ks pm
def pmZ (dvs : List Z.V) (l : List (Sum Nat Nat)) : List (Sum Nat Z.V) := l.map fun p => match p with
  | .inl i => .inl i
  | .inr i => .inr (dvs.getD i .non)
def pmV (its : List Value) (l : List (Sum Nat Nat)) : List (Sum Nat Value) := l.map fun p => match p with
  | .inl i => .inl i
  | .inr i => .inr (its.getD i .none)
theorem pm_rel {L : Lw} {dvs : List Z.V} {its : List Value} (r : Vals (L.vs dvs) its) : ∀ l : List (Sum Nat Nat), PmRel L (pmZ dvs l) (pmV its l)
  | [] => .nil
  | .inl i :: l => .pos (pm_rel r l)
  | .inr i :: l => .dfl (vals_getD i r) (pm_rel r l)
section
variable {L : Lw} {K : PySem.W.Frag} {mg : Str → Option Value} {c m qual : String} {st : Stmt} {ps ks : List Str} {n : Nat} {dvs : List Z.V} {f : Addr}
/-- no defaults -/
theorem DF.shp (F : DF L K c m qual st ps [] f) (l : List (Sum Nat Nat)) (len : l.length = ps.length)
    (h : ∀ (kV doc pmm cdv ct : Value) (an : Option Addr) (us ws : List Value), us.length = n → ws.length = ks.length → bindArgs (PySem.W.fnOf (Str.ofString m) (Str.ofString qual) (defArgs st) (defBody st) (defScope st) .none kV doc pmm an cdv ct) ⟨us, ks.zip ws⟩ = pure (ps.zip (permV (pmV [] l) (us ++ ws)))) :
    ∃ fd, L.fn c m = some (f, fd, ps) ∧ Shp L K fd ps n ks (pmZ [] l) := by
  obtain ⟨oc, od, an, dV, kV, doc, pmm, cdv, ct, osl, h1, h2, h3, h4⟩ := F.ex
  rcases h4 with ⟨_, rfl⟩ | ⟨ne, _⟩
  · exact ⟨_, h1, shp_all (by unfold pmZ; rw [List.length_map]; exact len) (pm_rel .nil l) (h kV doc pmm cdv ct an)⟩
  · exact absurd rfl ne
/-- defaults -/
theorem DF.shpD (F : DF L K c m qual st ps dvs f) (l : List (Sum Nat Nat)) (len : l.length = ps.length) (hd : dvs ≠ [])
    (h : ∀ (T : Addr) (kV doc pmm cdv ct : Value) (an : Option Addr) (us ws its : List Value), us.length = n → ws.length = ks.length → its.length = dvs.length →
      ∃ k, bindArgs (PySem.W.fnOf (Str.ofString m) (Str.ofString qual) (defArgs st) (defBody st) (defScope st) (.ref T) kV doc pmm an cdv ct) ⟨us, ks.zip ws⟩ = seqItems? (.ref T) >>= k ∧ k (some its.toArray) = pure (ps.zip (permV (pmV its l) (us ++ ws)))) :
    ∃ fd, L.fn c m = some (f, fd, ps) ∧ Shp L K fd ps n ks (pmZ dvs l) := by
  obtain ⟨oc, od, an, dV, kV, doc, pmm, cdv, ct, osl, h1, h2, h3, h4⟩ := F.ex
  rcases h4 with ⟨e, _⟩ | ⟨_, T, o, its, k, rfl, lT, oT, r⟩
  · exact absurd e hd
  · have hl : its.length = dvs.length := by rw [← r.length, vs_len]
    exact ⟨_, h1, shp_dfl lT oT (by unfold pmZ; rw [List.length_map]; exact len) (pm_rel r l) fun us ws l1 l2 => h T kV doc pmm cdv ct an us ws its l1 l2 hl⟩
theorem DF.call {pm : List (Sum Nat Z.V)} (F : DF L K "" m m st ps dvs f) (hm : mg (Str.ofString m) = some (.ref f)) (S : ∃ fd, L.fn "" m = some (f, fd, ps) ∧ Shp L K fd ps n ks pm) : CallOk L K mg m n ks pm := by
  obtain ⟨fd, h1, h2⟩ := S
  exact ⟨f, fd, ps, h1, F.kp, hm, h2⟩
end
theorem s_callO {L : Lw} {X : Cx} {x : Str} {p pos : Pos} {es : List Expr} {kws : List Keyword} {n : Nat} {ks : List Str} {pm : List (Sum Nat Z.V)} {t : Z.TA} (m : String) (co : CallOk L X.K X.mg m n ks pm) (ha : SC L X es kws n ks t) (hx : x = Str.ofString m := by rfl) (hg : Gl X x := by rfl) (hdb : (x == ("__debug__" : Str)) = false := by decide) {k : Nat} (hk : k = n + ks.length := by rfl) (hcm : X.calm = true := by rfl) :
    SE L X (.Call (.Name x p) es kws pos) (Z.callf m k pm t) := by
  subst hk
  obtain ⟨f, fd, ps, h1, h2, h3, h4⟩ := co.ex
  subst hx
  exact s_call m h1 h2 h3 h4 ha hg hdb hcm
theorem DF.ok {L : Lw} {P : Program} {w : World} {K : PySem.W.Frag} {mg : Str → Option Value} {base : Heap} {c m qual : String} {st : Stmt} {ps N : List Str} {dvs : List Z.V} {d : Z.Def} {f : Addr} {fd : FuncData} (F : DF L K c m qual st ps dvs f) (hf : L.fn c m = some (f, fd, ps)) (np : d.np = ps.length) (S : FnScope N ps (defScope st)) (hn : d.n = N.length)
    (hb : ∀ h0 H0 (f : Addr) (cdv : Value) A outer s H E, SB (L.at_ h0 H0) (cxOf (CX P w) P w K mg base N (Str.ofString qual) (defScope st) f cdv A outer s H E) (defBody st) d.body) : DefOk L P w K mg base f fd ps d := by
  obtain ⟨oc, od, an, dV, kV, doc, pmm, cdv, ct, osl, h1, h2, h3, h4⟩ := F.ex
  rw [hf] at h1
  cases h1
  exact ⟨np, _, _, _, _, _, _, _, _, _, _, _, _, _, _, _, N, rfl, h2, h3, S, hn, fun h0 H0 A outer s H E => hb h0 H0 f cdv A outer s H E⟩

/-! ### tables -/
abbrev Tab := List ((String × String) × Addr × FuncData × List Str)
def lwOf (fa ca : String → Addr) (t : Tab) : Lw := ⟨fa, ca, fun c m => t.lookup (c, m), fun _ => none, fun _ => none⟩
inductive Tabs (L : Lw) (P : Program) (w : World) (K : PySem.W.Frag) (mg : Str → Option Value) (base : Heap) : Tab → Z.ZTab → Prop
  | nil : Tabs L P w K mg base [] []
  | cons {k : String × String} {f : Addr} {fd : FuncData} {ps : List Str} {d : Z.Def} {r : Tab} {r' : Z.ZTab} : DefOk L P w K mg base f fd ps d → Tabs L P w K mg base r r' → Tabs L P w K mg base ((k, f, fd, ps) :: r) ((k, d) :: r')
theorem Tabs.at_ {L : Lw} {P : Program} {w : World} {K : PySem.W.Frag} {mg : Str → Option Value} {base : Heap} {t : Tab} {z : Z.ZTab} (h : Tabs L P w K mg base t z) : ∀ c m f fd ps, t.lookup (c, m) = some (f, fd, ps) → ∃ d, z.lookup (c, m) = some d ∧ DefOk L P w K mg base f fd ps d := by
  induction h with
  | nil => intro c m f fd ps h; cases h
  | @cons k f1 fd1 ps1 d r r' h1 _ ih =>
    intro c m f fd ps h
    rw [List.lookup_cons] at h ⊢
    cases e : ((c, m) == k) with
    | true =>
      rw [e] at h
      cases h
      exact ⟨d, rfl, h1⟩
    | false =>
      rw [e] at h
      exact ih c m f fd ps h
/-- the law's promise -/
def spLaw : Sp := fun vs H Q _ => ∃ (a : Addr) (ns : List Int), vs = [.ref a] ∧ ns.length ≤ 63 ∧ (∀ z ∈ ns, Z.small 1048576 z) ∧ Rd H a (.lst (ns.map V.int)) ∧ ∀ H', Q (.bl true) H'
theorem fn_law {fa ca : String → Addr} {P : Program} {w : World} {K : PySem.W.Frag} {mg : Str → Option Value} {base : Heap} {t : Tab} {z : Z.ZTab} {f : Addr} {fd : FuncData} {x : Str} {k : Nat} (h : Tabs (lwOf fa ca t) P w K mg base t z) (hf : t.lookup ("", "law") = some (f, fd, [x])) (law : Z.LawOk z k) :
    FnOk P w K mg base (CX P w) (2 * k + 1) f fd [x] spLaw := by
  refine (has_all (L := lwOf fa ca t) (T := Z.defOf z) h.at_ k "" "law" f fd [x] hf).imp fun vs H Q E ⟨a, ns, ev, hl, hbits, hs, q⟩ => ?_
  subst ev
  refine ⟨[.ref a], Z.heap0 a ns, rfl, rfl, fun b o e => ?_, callK_mono (Z.defOf z) k (fun _ _ _ _ => False) _ _ _ _ _ _ _ _ (fun v Ho e H' r g => ?_) (fun _ _ _ h => h.elim) (law a ns hl hbits)⟩
  · by_cases hb : b = a
    · subst hb
      unfold Z.heap0 at e
      rw [if_pos rfl] at e
      cases e
      show Rd H b (.lst ((lwOf fa ca t).vs (ns.map Z.V.int)))
      rw [ints_vs]
      exact hs
    · unfold Z.heap0 at e
      rw [if_neg hb] at e
      cases e
  · subst e
    exact q H'
theorem spLaw_at {K : PySem.W.Frag} {H : Hp} {a : Addr} {ns : List Int} (hl : ns.length ≤ 63) (hbits : ∀ z ∈ ns, Builtin.Int.intBits z ≤ 1048576) (hS : SqL K H a (ns.map V.int)) (hK : (K.all fun p => p.2.cls != Value.type "list") = true) : spLaw [.ref a] H (fun v _ => v = .bl true) fun _ _ _ => False := by
  rcases hS with h | ⟨o, its, n, hk, hc, _⟩
  · exact ⟨a, ns, rfl, hl, fun z hz => PySem.intBits_le_iff.mp (hbits z hz), h, fun _ => rfl⟩
  · have hm : ∃ p ∈ K, p.2 = o := by
      revert hk
      clear hK hl
      induction K with
      | nil => intro hk; cases hk
      | cons q r ih =>
        intro hk
        obtain ⟨b, u⟩ := q
        unfold List.lookup at hk
        split at hk
        · cases hk
          exact ⟨_, List.mem_cons_self .., rfl⟩
        · obtain ⟨p, h1, h2⟩ := ih hk
          exact ⟨p, List.mem_cons_of_mem _ h1, h2⟩
    obtain ⟨p, h1, rfl⟩ := hm
    have z := List.all_eq_true.mp hK p h1
    rw [hc] at z
    exact absurd z (by decide)
theorem cx_none {P : Program} {w : World} {H : Hp} {s : Shared} {e : Value} {s' : Shared} (h : CX P w [] H s (fun _ _ _ => False) e s') : False := by
  obtain ⟨_, _, _, _, _, _, _, _, _, _, _, _, z⟩ := h
  exact z
end ZS

/-! ZA: stores to attributes and slices, starred items, more methods. -/
namespace ZS
open PySem PySem.Spec PyProof.Rows L2
section
variable {L : Lw} {X : Cx} {a b c e o : Expr} {es : List Expr} {ta tb tc te to : Z.TE} {t : Z.TA} {pos p apos p2 : Pos}
/-! ### o.f as a target -/
def gFldM (K : PySem.W.Frag) (ta : TE) (f : Str) : TG := fun v σ H Q => ta σ H fun x H1 => ∃ a C dx fs, x = .ref a ∧ H1 a = some (.ins C dx fs) ∧ Cls K C ∧ NoAttr K C f ∧ fs.length < 1000 ∧ Q σ (upd H1 a (.ins C dx (putF f v fs)))
theorem pg_fldM {f : Str} {t : TE} (ho : PE X o t) (ha : ∀ v, assign (.Attribute o f pos) X.env v = (do
      let ov ← holding [v] (eval o X.env)
      standAt pos.atName
      holding [v, ov] (setAttr ov f v)
      release [v, ov] []) := by intro _; rfl) : PG X (.Attribute o f pos) (gFldM X.K t f) := by
  refine ⟨fun pins s σ H v u Q I r h => ?_⟩
  rw [ha]
  refine wpAny_bind (wpAny_holding (thn (ho.run pins s σ H _ I h) fun ov s1 ⟨x, H1, I1, r1, q1⟩ => ?_))
  obtain ⟨a, C, dx, fs, ex, ea, cl, na, hl, q⟩ := q1
  subst ex
  obtain rfl : ov = Value.ref a := r1
  refine wpAny_bind (wpAny_standAt (wpAny_bind (wpAny_holding (setattr_ok I1 ea cl na hl r fun s2 I2 => ?_))))
  exact wpAny_release ⟨σ, _, I2, q⟩
theorem putF_rel (f : String) (v : Z.V) : ∀ fs : List (String × Z.V), L.fs (Z.putF f v fs) = putF (Str.ofString f) (L.v v) (L.fs fs)
  | [] => rfl
  | (g, w) :: r => by
    show L.fs (if g = f then (g, v) :: r else (g, w) :: Z.putF f v r) = (if Str.ofString g = Str.ofString f then _ else _)
    by_cases h : g = f
    · rw [if_pos h, if_pos (by rw [h])]
      rfl
    · rw [if_neg h, if_neg fun z => h (ofString_inj z)]
      show _ :: L.fs (Z.putF f v r) = _
      rw [putF_rel f v r]
theorem putF_mem {f : String} {v : Z.V} : ∀ {fs : List (String × Z.V)} {g : String}, g ∈ (Z.putF f v fs).map (·.1) → g = f ∨ g ∈ fs.map (·.1)
  | [], g, h => .inl (by simpa [Z.putF] using h)
  | (k, w) :: r, g, h => by
    have h : g ∈ (if k = f then (k, v) :: r else (k, w) :: Z.putF f v r).map (·.1) := h
    by_cases e : k = f
    · rw [if_pos e] at h
      exact .inr h
    · rw [if_neg e] at h
      rcases List.mem_cons.mp h with h | h
      · exact .inr (by simp [h])
      · rcases putF_mem h with h | h
        · exact .inl h
        · exact .inr (List.mem_cons_of_mem _ h)
theorem s_gfld (cs : List String) (f : String) {x : Str} (hn : ∀ c ∈ cs, NoAttr X.K (L.ca c) (Str.ofString f)) (ho : SE L X o to) (hx : x = Str.ofString f := by rfl) (ha : ∀ v, assign (.Attribute o x pos) X.env v = (do
      let ov ← holding [v] (eval o X.env)
      standAt pos.atName
      holding [v, ov] (setAttr ov x v)
      release [v, ov] []) := by intro _; rfl) : SG L X (.Attribute o x pos) (Z.gfld cs to f) [] := by
  subst hx
  refine ⟨fun C m v σ H Q Q' q h => ho.mono C m _ _ _ _ (fun x H1 ⟨a, c, fs, e1, e2, e3, e4, h1⟩ => ⟨a, c, fs, e1, e2, e3, e4, q _ _ h1⟩) h, fun C g => ?_⟩
  refine impG (pg_fldM (ho.run C g) ha) fun v σ H Q ⟨vo, σo, Ho, ev, r, h⟩ => ?_
  subst ev
  refine ⟨σo, Ho, r, ho.mono C g.mono _ _ _ _ (fun x Ho1 h1 H1 r1 g1 => ?_) h⟩
  obtain ⟨p, c, fs, rfl, e2, e3, e4, h1⟩ := h1
  obtain ⟨dx, hi, hc, hna⟩ := r1.hp p _ e2
  refine ⟨p, _, dx, L.fs fs, rfl, hi, hc, hn c e3, by rw [show (L.fs fs).length = fs.length from List.length_map ..]; exact e4, ?_⟩
  rw [← putF_rel]
  refine h1 _ _ (r1.heap (r1.hp.set ⟨dx, upd_same, hc, fun g hg => ?_⟩) (Gr.chg e2)) (g1.trans (Gr.chg e2)) (But.refl _ _)
  rcases putF_mem hg with z | z
  · rw [z]; exact hn c e3
  · exact hna g z

/-! ### o[l:h] as a target -/
def gSlcM (to tl th : TE) : TG := fun v σ H Q => to σ H fun x H1 => tl σ H1 fun lo H2 => th σ H2 fun hi H3 => ∃ l b xs ys i j, x = .ref l ∧ v = .ref b ∧ lo = .int i ∧ hi = .int j ∧ H3 l = some (.lst xs) ∧ H3 b = some (.lst ys) ∧ l ≠ b ∧ 0 ≤ i ∧ i ≤ j ∧ j ≤ xs.length ∧ xs.length + ys.length ≤ sizeLine ∧
  Q σ (upd H3 l (.lst (xs.take i.toNat ++ ys ++ xs.drop j.toNat)))
theorem pg_slcM {t tl th : TE} (ho : PE X o t) (hl : PE X a tl) (hh : PE X b th) (ha : ∀ v, assign (.Subscript o (.Slice (some a) (some b) none p2) pos) X.env v = (do
      let ov ← holding [v] (eval o X.env)
      let iv ← holding [v, ov] (eval (.Slice (some a) (some b) none p2) X.env)
      standAt pos
      holding [v, ov, iv] (setItem ov iv v)
      release [iv, v, ov] []) := by intro _; rfl) : PG X (.Subscript o (.Slice (some a) (some b) none p2) pos) (gSlcM t tl th) := by
  refine ⟨fun pins s σ H v u Q I r h => ?_⟩
  rw [ha]
  refine wpAny_bind (wpAny_holding (thn (ho.run pins s σ H _ I h) fun ov s1 ⟨x, H1, I1, r1, q1⟩ => ?_))
  refine wpAny_bind (wpAny_holding (wpAny_Slice (thn (hl.run pins s1 σ H1 _ I1 q1) fun vl s2 ⟨l, H2, I2, pl, q2⟩ => thn (hh.run pins s2 σ H2 _ I2 q2) fun vu s3 ⟨u2, H3, I3, pu, q3⟩ => ?_)))
  rw [evalPart_none]
  refine wpAny_pure ?_
  have I4 : Inv X pins σ H3 { s3 with heap := s3.heap.push { cls := .type "slice", data := .fields #[vl, vu, .none] } } := I3.kept (t' := s3.toks) fun b ob q => Heap.get?_push_of_some _ q
  obtain ⟨l2, b2, xs, ys, i, j, rfl, rfl, rfl, rfl, e1, e2, ne, h0, h1, h2, h3, q⟩ := q3
  obtain rfl : ov = Value.ref l2 := r1
  obtain rfl : u = Value.ref b2 := r
  refine wpAny_bind (wpAny_standAt (wpAny_bind (wpAny_holding (set_slice I4 e1 e2 ne (Heap.IsSliceOf.new ..) pl pu h0 h1 h2 h3 fun s5 I5 => ?_))))
  exact wpAny_release ⟨σ, _, I5, q⟩
theorem s_gslc (ho : SE L X o to) (hl : SE L X a ta) (hh : SE L X b tb) (hs : ∀ v, assign (.Subscript o (.Slice (some a) (some b) none p2) pos) X.env v = (do
      let ov ← holding [v] (eval o X.env)
      let iv ← holding [v, ov] (eval (.Slice (some a) (some b) none p2) X.env)
      standAt pos
      holding [v, ov, iv] (setItem ov iv v)
      release [iv, v, ov] []) := by intro _; rfl) : SG L X (.Subscript o (.Slice (some a) (some b) none p2) pos) (Z.gslc to ta tb) [] := by
  refine ⟨fun C m v σ H Q Q' q h => ho.mono C m _ _ _ _ (fun x H1 h1 => hl.mono C m _ _ _ _ (fun y H2 h2 => hh.mono C m _ _ _ _ (fun z H3 ⟨l, b, xs, ys, i, j, e1, e2, e3, e4, e5, e6, n, z1, z2, z3, z4, h3⟩ => ⟨l, b, xs, ys, i, j, e1, e2, e3, e4, e5, e6, n, z1, z2, z3, z4, q _ _ h3⟩) h2) h1) h, fun C g => ?_⟩
  refine impG (pg_slcM (ho.run C g) (hl.run C g) (hh.run C g) hs) fun v σ H Q ⟨vo, σo, Ho, ev, r, h⟩ => ?_
  subst ev
  refine ⟨σo, Ho, r, ho.mono C g.mono _ _ _ _ (fun x Ho1 h1 H1 r1 g1 => ?_) h⟩
  refine ⟨σo, Ho1, r1, hl.mono C g.mono _ _ _ _ (fun y Ho2 h2 H2 r2 g2 => ?_) h1⟩
  refine ⟨σo, Ho2, r2, hh.mono C g.mono _ _ _ _ (fun z Ho3 h3 H3 r3 g3 => ?_) h2⟩
  obtain ⟨l, b, xs, ys, i, j, rfl, rfl, rfl, rfl, e5, e6, n, z1, z2, z3, z4, h3⟩ := h3
  refine ⟨l, b, L.vs xs, L.vs ys, i, j, rfl, rfl, rfl, rfl, r3.hp l _ e5, r3.hp b _ e6, n, z1, z2, by rw [vs_len]; exact z3, by rw [vs_len, vs_len, ← line_eq]; exact z4, ?_⟩
  have e : (L.vs xs).take i.toNat ++ L.vs ys ++ (L.vs xs).drop j.toNat = L.vs (xs.take i.toNat ++ ys ++ xs.drop j.toNat) := by
    rw [vs_app, vs_app]
    show (List.map L.v xs).take i.toNat ++ _ ++ (List.map L.v xs).drop j.toNat = _
    rw [← List.map_take, ← List.map_drop]
  rw [e]
  exact h3 _ _ (r3.heap (r3.hp.set upd_same) (Gr.chg e5)) (g1.trans (g2.trans (g3.trans (Gr.chg e5)))) (But.refl _ _)

/-! ### starred items -/
theorem s_astar {tr : Z.TA} (ha : SE L X a ta) (hr : SA L X es tr) (hs : starEach (.Starred a p :: es) X.env = (true, eval a X.env) :: starEach es X.env := by rfl) : SA L X (.Starred a p :: es) (Z.astar ta tr) := by
  refine ⟨fun C m σ H Q Q' q h => ha.mono C m _ _ _ _ (fun x H1 ⟨ys, e, h1⟩ => ⟨ys, e, hr.mono C m _ _ _ _ (fun xs H2 h2 => q _ _ h2) h1⟩) h, fun C g => ?_⟩
  refine impA (StX.pa_star (ha.run C g) (hr.run C g) hs) fun σ H Q ⟨σo, Ho, r, h⟩ => ?_
  refine ⟨σo, Ho, r, ha.mono C g.mono _ _ _ _ (fun x Ho1 h1 H1 r1 g1 => ?_) h⟩
  obtain ⟨ys, e, h1⟩ := h1
  obtain ⟨q, rfl, sq⟩ := items_rel r1.hp e
  refine ⟨q, L.vs ys, rfl, sq.symm, σo, Ho1, r1, hr.mono C g.mono _ _ _ _ (fun xs Ho2 h2 H2 r2 g2 => ?_) h1⟩
  show Q (L.vs ys ++ L.vs xs) H2
  rw [← vs_app]
  exact h2 H2 r2 (g1.trans g2)

/-! ### more methods -/
theorem mm_clear : MonoM Z.mClear := fun x vs H Q Q' q ⟨a, xs, e1, e2, e3, h⟩ => ⟨a, xs, e1, e2, e3, q _ _ h⟩
theorem mc_clear : MtR X "list.clear" (liftM L X.K Z.mClear) := mtr mt_clear fun xo vo Ho H Q rh h => by
  obtain ⟨a, xs, rfl, rfl, e3, h⟩ := h
  exact ⟨a, L.vs xs, rfl, rfl, rh a _ e3, h _ (rh.set upd_same) (Gr.chg e3)⟩
theorem mm_insert : MonoM Z.mInsert := fun x vs H Q Q' q ⟨a, xs, i, y, e1, e2, e3, z1, z2, z3, h⟩ => ⟨a, xs, i, y, e1, e2, e3, z1, z2, z3, q _ _ h⟩
theorem mc_insert : MtR X "list.insert" (liftM L X.K Z.mInsert) := mtr mt_insert fun xo vo Ho H Q rh h => by
  obtain ⟨a, xs, i, y, rfl, rfl, e3, z1, z2, z3, h⟩ := h
  refine ⟨a, L.vs xs, i, L.v y, rfl, rfl, rh a _ e3, by rw [vs_len, ← line_eq]; exact z1, z2, z3, ?_⟩
  have e : (L.vs xs).take i.toNat ++ [L.v y] ++ (L.vs xs).drop i.toNat = L.vs (xs.take i.toNat ++ [y] ++ xs.drop i.toNat) := by
    rw [vs_app, vs_app]
    show (List.map L.v xs).take i.toNat ++ _ ++ (List.map L.v xs).drop i.toNat = _
    rw [← List.map_take, ← List.map_drop]
    rfl
  rw [e]
  exact h _ (rh.set upd_same) (Gr.chg e3)
theorem bm_clear (ho : SE L X o to) (hbase : attributeBase o "clear" X.env (eval o X.env) = eval o X.env := by rfl) (hline : (apos.endLine == pos.line) = true := by rfl) : SE L X (.Call (.Attribute o "clear" apos) [] [] pos) (Z.bmt Z.isL Z.mClear to Z.anil) :=
  s_bm0 (fun x Ho H rh h => ty_list rh h) mm_clear F.plainAttrs_list F.slot_list_clear rfl mc_clear ho hbase hline
theorem bm_insert (ho : SE L X o to) (ha : SA L X (e :: es) t)
    (hbase : attributeBase o "insert" X.env (eval o X.env) = eval o X.env := by rfl)
    (hfew : ((backTo pos (starEach (e :: es) X.env)).all (fun x => !x.1) && (backToKw pos (keywordEach [] X.env)).all (fun x => x.1.isSome)
      && decide ((e :: es).length + ([] : List Keyword).length + (if ([] : List Keyword).isEmpty then 0 else 1) < 30)) = true := by rfl)
    (hline : (apos.endLine == pos.line) = true := by rfl) (hs : starEach (e :: es) X.env = (false, eval e X.env) :: starEach es X.env := by rfl) (hplain : (backTo pos (starEach es X.env)).any (·.1) = false := by rfl) :
    SE L X (.Call (.Attribute o "insert" apos) (e :: es) [] pos) (Z.bmt Z.isL Z.mInsert to t) :=
  s_bm (fun x Ho H rh h => ty_list rh h) mm_insert F.plainAttrs_list F.slot_list_insert rfl mc_insert ho ha hbase hfew hline hs hplain
end
end ZS

/-! ZB: own errors are raised. -/
namespace ZS
open PySem PySem.Spec PyProof.Rows L2
/-- what the written part says of the errors' base class, which has no __init__ of its own -/
structure BaseE (K : PySem.W.Frag) (mg : Str → Option Value) (x : Str) (S : Addr) : Prop where
  ga : PySem.W.specialIn K (.ref S) "__getattribute__" = some (some (.builtin "type.__getattribute__"))
  rd : PySem.W.readsIn K S (.type "type") = true
  fc : PySem.W.findCls K (.ref S) (.type "type") "__init__" = some (.val (.builtin "ValueError.__init__"))
  mg : mg x = some (.ref S)
section
variable {X : Cx} {e : Expr} {es : List Expr} {ta : TA} {x : Str} {S : Addr} {p1 p2 pos : Pos}
/-- Base.__init__(self, ..) -/
theorem pe_binit {pl : Sem Bool} (B : BaseE X.K X.mg x S) (hg : Gl X x) (ha : PA X (e :: es) ta) (hdb : (x == ("__debug__" : Str)) = false := by decide)
    (hc : eval (.Call (.Attribute (.Name x p1) "__init__" p2) (e :: es) [] pos) X.env = (do
      let ov ← eval (.Name x p1) X.env
      standAt p2.atName
      let (f, first) ← holding [ov] (getMethod ov "__init__" pl)
      callWith pos f first (backTo pos (starEach (e :: es) X.env)) (backToKw pos (keywordEach [] X.env))) := by rfl)
    (he : starEach (e :: es) X.env = (false, eval e X.env) :: starEach es X.env := by rfl) (hpl : (backTo pos (starEach es X.env)).any (·.1) = false := by rfl) :
    PE X (.Call (.Attribute (.Name x p1) "__init__" p2) (e :: es) [] pos) (tVeI X.K ta) := by
  refine ⟨fun pins s σ H Q I h => ?_⟩
  refine PySem.W.methodCall_KW (ld_glob I hg B.mg ?_ hdb) hc
  refine PySem.W.method_cls I.kIn B.ga (PySem.W.cls_value I.kIn B.rd B.fc rfl ?_)
  show wpAny _ _ (callWith pos (Value.builtin "ValueError.__init__") [] (backTo pos (starEach (e :: es) X.env)) []) _ _ _
  refine PyProof.Rows.callWith_method1 (thn (ha.run pos pins _ σ H _ (I.tok _) h) fun us s1 ⟨vs, H1, I1, r1, a, C, ws, ev, hl, T, ea, q⟩ => ?_) he hpl
  subst ev
  cases r1 with
  | @cons _ u0 _ ur ra rw' =>
    obtain rfl : u0 = Value.ref a := ra
    have hlen : ur.length ≤ sizeLine := by
      rw [← Paired.length rw', sizeLine_eq]
      omega
    exact oinit_ok T I1 ea hlen fun s' J => ⟨.non, H1, J, rfl, q⟩
end
/-- the promise of an error's own __init__: one field is kept -/
def spErr (C : Addr) (f : Str) : Sp := fun vs H Q _ => ∃ (a : Addr) (v : V), vs = [.ref a, v] ∧ H a = some (exo a C none) ∧ ∀ dx, H dx = none → dx ≠ a → Q .non (upd (upd H dx (exd dx [(f, v)])) a (exo a C (some dx)))
section
variable {P : Program} {w : World} {K : PySem.W.Frag} {mg : Str → Option Value} {base : Heap}
/-- the reading of its body -/
def errT (K : PySem.W.Frag) (m f : Str) : TS := tSeq (tDrop (tVeI K (tCons (tVar 0) (tCons (tC (.str m)) tNil)))) (tOst K f (tVar 0) (tVar 1))
theorem err_ok {fI C : Addr} {fd : FuncData} {name qual : Str} {st : Stmt} {f y m : Str} {dV kV doc pm cdv ct oc : Value} {an od : Option Addr} {osl : Array (Option Value)}
    (hfd : fd = PySem.W.fnOf name qual (defArgs st) (defBody st) (defScope st) dV kV doc pm an cdv ct) (lk : K.lookup fI = some ⟨oc, od, .func fd, osl⟩) (hcd : PySem.W.codeIn K cdv qual = true) (Sc : FnScope ["self", y] ["self", y] (defScope st))
    (hb : ∀ A outer s H E, PSs (cxOf (CX P w) P w K mg base ["self", y] qual (defScope st) fI cdv A outer s H E) (defBody st) (errT K m f)) (T : OexC K C) (hno : PySem.W.findIn K (.ref C) f = some none) :
    FnOk P w K mg base (CX P w) 1 fI fd ["self", y] (spErr C f) := by
  subst hfd
  refine fn_of (k := 0) lk hcd Sc (fun vs H Q E ⟨a, v, e, _⟩ => by rw [e]; rfl) fun A outer s H vs Q E hr hsp => ?_
  obtain ⟨a, v, rfl, ea, hq⟩ := hsp
  refine ⟨_, hb A outer s H E, ?_⟩
  refine ⟨.ref a, rfl, a, C, [.str m], rfl, (by show 1 ≤ 1000; decide), T, ea, ?_⟩
  exact ⟨v, rfl, .ref a, rfl, a, C, rfl, T, hno, .inl ⟨ea, fun dx n ne => hq dx n ne⟩⟩
end
/-- an own error class: C(v) keeps v as f -/
structure ErrOk (L : Lw) (P : Program) (w : World) (K : PySem.W.Frag) (mg : Str → Option Value) (base : Heap) (c f : String) : Prop where
  ex : ∃ (fI : Addr) (fd : FuncData) (ps : List Str), OexC K (L.ca c) ∧ PySem.W.findIn K (.ref (L.ca c)) "__init__" = some (some (.ref fI)) ∧ PySem.W.typeIn K (.ref fI) = some (.type "function") ∧
    FnOk P w K mg base (CX P w) 1 fI fd ps (spErr (L.ca c) (Str.ofString f)) ∧ Binds K fd ps [] ∧ mg (Str.ofString c) = some (.ref (L.ca c))
section
variable {L : Lw} {X : Cx} {e : Expr} {te : Z.TE} {p p2 pos : Pos} {K : PySem.W.Frag} {Ho : Z.Heap} {H H' : Hp}
theorem RO.at_ {a : Addr} {o : Z.O} (h : RO L K H a o) (e : H' a = H a) : RO L K H' a o := by
  cases o with
  | lst xs => exact e.trans h
  | tup xs => exact e.trans h
  | scr xs =>
    rcases h with h | ⟨x, h⟩
    · exact .inl (e.trans h)
    · exact .inr ⟨x, e.trans h⟩
  | dct kvs => exact e.trans h
  | dctT kvs => exact e.trans h
  | ins c fs => obtain ⟨dx, h, r⟩ := h; exact ⟨dx, e.trans h, r⟩
  | xd fs => exact e.trans h
theorem s_rais (c f : String) {x : Str} (er : ErrOk L X.prog X.w X.K X.mg X.base c f) (hc : X.calm = true) (he : SE L X e te) (hx : x = Str.ofString c := by rfl) (hg : Gl X x := by rfl) (hdb : (x == ("__debug__" : Str)) = false := by decide)
    (hs : starEach [e] X.env = (false, eval e X.env) :: starEach [] X.env := by rfl) : SS L X (.Raise (some (.Call (.Name x p) [e] [] p2)) none pos) (Z.rais c f te) := by
  subst hx
  refine ⟨fun C m σ H D D' l h => h, fun C gd => ?_⟩
  obtain ⟨fI, fd, ps, T, iC, tI, F1, hb, hm⟩ := er.ex
  obtain ⟨k, hk, hr, _⟩ := gd.call hc
  refine impS (ps_raise hc gd.takes (pmk_oex T iC tI F1 (hr.mono (by omega)) hb .nil passL hg hm (pa_cons (he.run C gd) pa_nil hs) hdb hs)) fun D σ H ⟨σo, Ho, r, h⟩ => ?_
  refine ⟨σo, Ho, r, he.mono C gd.mono _ _ _ _ (fun v Ho1 h1 H1 r1 g1 => ?_) h⟩
  refine ⟨by show 1 ≤ 1000; decide, fun a na => ⟨a, L.v v, rfl, upd_same, fun dx nd ne => ⟨rfl, dx, [(Str.ofString f, L.v v)], upd_same, ?_, ?_, ?_⟩⟩⟩
  · rw [upd_ne ne, upd_same]
  · rw [upd_ne ne] at nd
    exact nd
  · have nd1 : H1 dx = none := by
      rw [upd_ne ne] at nd
      exact nd
    have fin : ∀ b, b ≠ a → b ≠ dx → upd (del (upd (upd (upd H1 a (exo a (L.ca c) none)) dx (exd dx [(Str.ofString f, L.v v)])) a (exo a (L.ca c) (some dx))) a) dx (.xd [(Str.ofString f, L.v v)]) b = H1 b := fun b n1 n2 => by
      rw [upd_ne n2, del_ne n1, upd_ne n1, upd_ne n2, upd_ne n1]
    refine ⟨c, [(f, v)], σo, Ho1, r1.heap (fun b o e => ?_) ⟨fun b hb => ?_, fun b o e1 e2 => ⟨e2, fun _ => ?_⟩⟩, ⟨rfl, dx, rfl, upd_same⟩, NewD.back (fun _ z => by cases z; exact nd1) r1.gr, h1⟩
    rotate_left
    · rw [fin b (fun z => hb (by rw [z]; exact na)) (fun z => hb (by rw [z]; exact nd1))]
      exact hb
    · rw [fin b (fun z => by rw [z, na] at e1; cases e1) (fun z => by rw [z, nd1] at e1; cases e1)]
      exact e1
    have hb1 := r1.hp b o e
    have n1 : b ≠ a := fun z => hb1.ne (by rw [z]; exact na)
    have n2 : b ≠ dx := fun z => hb1.ne (by rw [z]; exact nd1)
    exact hb1.at_ (fin b n1 n2)
end
/-! ### facts of classes -/
theorem all_nil {P : String → Prop} : ∀ c ∈ ([] : List String), P c := fun c h => nomatch h
theorem all_cons {P : String → Prop} {c : String} {cs : List String} (h : P c) (r : ∀ d ∈ cs, P d) : ∀ d ∈ c :: cs, P d := fun d hd => by
  rcases List.mem_cons.mp hd with z | z
  · rw [z]; exact h
  · exact r d z
section
variable {L : Lw} {K : PySem.W.Frag} {mg : Str → Option Value} {c m qual : String} {st : Stmt} {ps ks : List Str} {n : Nat} {dvs : List Z.V} {f : Addr} {pm : List (Sum Nat Z.V)}
theorem DF.meth (F : DF L K c m qual st ps dvs f) (hi : PySem.W.findIn K (.ref (L.ca c)) (Str.ofString m) = some (some (.ref f))) (hf : PySem.W.isFn K (.ref f) = true) (S : ∃ fd, L.fn c m = some (f, fd, ps) ∧ Shp L K fd ps (n + 1) ks pm) : MethOk L K c m n ks pm := by
  obtain ⟨fd, h1, h2⟩ := S
  exact ⟨f, fd, ps, h1, ⟨hi, hf, F.kp⟩, h2⟩
theorem DF.make (F : DF L K c "__init__" qual st ps dvs f) (cl : Cls K (L.ca c)) (mk : PySem.W.makesIn K (L.ca c) = true) (hi : PySem.W.findIn K (.ref (L.ca c)) "__init__" = some (some (.ref f))) (hf : PySem.W.isFn K (.ref f) = true) (kc : PySem.W.keepIn K (.ref (L.ca c)) = true)
    (S : ∃ fd, L.fn c "__init__" = some (f, fd, ps) ∧ Shp L K fd ps (n + 1) ks pm) : MakeOk L K c n ks pm := by
  obtain ⟨fd, h1, h2⟩ := S
  exact ⟨⟨f, fd, ps, h1, ⟨mk, hi, hf, kc⟩, h2⟩, cl⟩
end
section
variable {L : Lw} {X : Cx} {o : Expr} {es : List Expr} {kws : List Keyword} {to : Z.TE} {t : Z.TA} {n : Nat} {ks : List Str} {pm : List (Sum Nat Z.V)} {p pos apos : Pos} {x mm : Str}
theorem s_methO {pl : Sem Bool} (cs : List String) (m : String) (hms : ∀ c ∈ cs, MethOk L X.K c m n ks pm) (ho : SE L X o to) (ha : SC L X es kws n ks t) (hmm : mm = Str.ofString m := by rfl)
    (ht : eval (.Call (.Attribute o mm apos) es kws pos) X.env = (do
      let ov ← eval o X.env
      standAt apos.atName
      let (f, first) ← holding [ov] (getMethod ov mm pl)
      callWith pos f first (backTo pos (starEach es X.env)) (backToKw pos (keywordEach kws X.env))) := by rfl) {k : Nat} (hk : k = n + ks.length := by rfl) (hcm : X.calm = true := by rfl) :
    SE L X (.Call (.Attribute o mm apos) es kws pos) (Z.meth cs to m k pm t) := by
  subst hk
  exact s_meth cs m hms ho ha hmm ht hcm
theorem s_makeO (c : String) (hc : MakeOk L X.K c n ks pm) (hm : X.mg (Str.ofString c) = some (.ref (L.ca c))) (ha : SC L X es kws n ks t) (hx : x = Str.ofString c := by rfl) (hg : Gl X x := by rfl) (hdb : (x == ("__debug__" : Str)) = false := by decide) {k : Nat} (hk : k = n + ks.length := by rfl) (hcm : X.calm = true := by rfl) :
    SE L X (.Call (.Name x p) es kws pos) (Z.make c k pm t) := by
  subst hk hx
  exact s_make c hc hm ha hg hdb hcm
end
end ZS

/-! ZC: try with one except clause, and the fields of the caught error. -/
namespace ZS
open PySem PySem.Spec PyProof.Rows L2
section
variable {L : Lw} {X : Cx} {e : Expr} {te : Z.TE} {p p2 pos np pos' : Pos} {body st : List Stmt} {b₀ : Stmt} {n x : Str} {u : Z.TS} {h : String → Nat → Nat → Z.TS} {acc rej : List String} {cl : Value}
/-- nothing leaves a suite -/
theorem takes_false {X : Cx} {L : Lw} {K : PySem.W.Frag} {C : Z.Cx} : Takes X (liftW L K { C with exc := fun _ _ _ _ => False }) := fun u s' ⟨_, _, _, _, _, _, _, _, _, _, _, _, _, _, _, _, _, _, _, _, _, _, _, z⟩ => z.elim
theorem Good.toSuite {C : Z.Cx} (gd : Good L X C) (a : Addr) (pn : List (Addr × Obj)) : Good L (X.suite a pn) { C with exc := fun _ _ _ _ => False } :=
  ⟨gd.mono, takes_false, gd.units, fun z => absurd (show false = true from z) Bool.false_ne_true⟩
theorem Good.toTr {C : Z.Cx} (gd : Good L X C) {pn : List (Addr × Obj)} {xe : Value → Shared → Prop} {W : WX} {X0 : String → List (String × Z.V) → Z.St → Z.Heap → Prop} (tk : Takes (X.tr pn xe) W) (hW : ∀ c d σ H, liftW L X.K { C with exc := X0 } c d σ H → W c d σ H) : Good L (X.tr pn xe) { C with exc := X0 } :=
  ⟨gd.mono, tk.imp hW, gd.units, gd.call⟩
theorem R.set_none {K : PySem.W.Frag} {σo : Z.St} {Ho : Z.Heap} {σ : St} {H : Hp} (r : R L K σo Ho σ H) (i : Nat) : R L K (σo.set i none) Ho (σ.set i none) H := r.wipe [i]
theorem xd_told {K : PySem.W.Frag} {σo : Z.St} {Ho : Z.Heap} {σ : St} {H : Hp} (r : R L K σo Ho σ H) {fs : List (String × Z.V)} {dd : Addr} (e : H dd = some (.xd (L.fs fs))) (nd : L.H0 dd = none) : R L K σo (Z.upd Ho dd (.xd fs)) σ H := by
  refine ⟨r.len, r.sl, fun b o eb => ?_, r.gr.on, fun b o e1 e2 => ?_⟩
  · by_cases hb : b = dd
    · subst hb
      rw [Z.upd_same] at eb
      cases eb
      exact e
    · rw [Z.upd_ne hb] at eb
      exact r.hp b o eb
  · rw [Z.upd_ne fun z => by rw [z, nd] at e1; cases e1]
    exact r.gr.un b o e1 e2
theorem Le.wipe {D D' : Z.Ends} (l : Le D D') (i : Option Nat) : Le (D.wipe i) (D'.wipe i) := ⟨fun σ H h => l.nx _ _ h, l.rt, fun σ H h => l.bk _ _ h, fun σ H h => l.ct _ _ h⟩
theorem xfree_of {K : PySem.W.Frag} {Ho : Z.Heap} {H : Hp} {dd : Addr} {fs : List (Str × V)} (r : RH L K Ho H) (e : H dd = some (.xd fs)) : Z.xfree Ho dd := by
  cases q : Ho dd with
  | none => exact .inl q
  | some o =>
    have z := r dd o q
    cases o with
    | lst xs => rw [show H dd = _ from z] at e; cases e
    | tup xs => rw [show H dd = _ from z] at e; cases e
    | scr xs => rcases z with z | ⟨x, z⟩ <;> rw [z] at e <;> cases e
    | dct kvs => rw [show H dd = _ from z] at e; cases e
    | dctT kvs => rw [show H dd = _ from z] at e; cases e
    | ins c fs => obtain ⟨dx, z, _⟩ := z; rw [z] at e; cases e
    | xd fs => exact .inr ⟨fs, q⟩
theorem s_tryA (i : Nat) (hp : PassesOwn (model X.prog X.w) X.A X.env X.xe) (hN : X.N.Nodup) (hc : Names X x cl) (hacc : ∀ c ∈ acc, PySem.W.exmOne X.K (.ref (L.ca c)) cl = some true) (hrej : ∀ c ∈ rej, PySem.W.exmOne X.K (.ref (L.ca c)) cl = some false)
    (hb : ∀ pn xe, PassesOwn (model X.prog X.w) X.A X.env xe → SB L (X.tr pn xe) body u)
    (hsu : ∀ c ∈ acc, ∀ (a : Addr) (oe : Obj) (dd : Addr) (pn : List (Addr × Obj)), Zc (.ref (L.ca c)) (some dd) oe → (∃ vs, oe.data = .fields vs) → SB L (X.suite a ((a, oe) :: pn)) (b₀ :: st) (h c a dd))
    (hi : X.N[i]? = some n := by rfl) (hln : X.env.kindOf n = some .local := by rfl) (hs : X.stack = X.env :: X.outer := by rfl) (hf : X.env.frame = some X.env.locals := by rfl) :
    SS L X (.Try body [.ExceptHandler (some (.Name x np)) (some n) (b₀ :: st) pos'] [] [] pos) (Z.tryx acc rej (some i) u h) := by
  refine ⟨fun C m σ H D D' l ⟨X0, hX, hb0⟩ => ⟨X0, fun c fs σ' H' x => (hX c fs σ' H' x).imp (fun ⟨hc, k⟩ => ⟨hc, fun a dd n1 n2 ne => ?_⟩) id, (hb X.pn X.xe hp).mono { C with exc := X0 } m _ _ _ _ l hb0⟩, fun C gd => ?_⟩
  · exact (hsu c hc a { cls := .ref (L.ca c), dict := some dd, data := .fields #[] } dd [] ⟨rfl, rfl⟩ ⟨_, rfl⟩).mono { C with exc := fun _ _ _ _ => False } m _ _ _ _ (l.wipe _) (k a dd n1 n2 ne)
  · refine impS (ps_try_as hs hf hN hi hln hc gd.takes (tb := fun W D σ H => ∃ X0, (∀ c d σ H, liftW L X.K { C with exc := X0 } c d σ H → W c d σ H) ∧ liftS L X.K { C with exc := X0 } u D σ H)
      (ts := fun a cls d D σ H => ∃ c dd, cls = .ref (L.ca c) ∧ d = some dd ∧ c ∈ acc ∧ liftS L X.K { C with exc := fun _ _ _ _ => False } (h c a dd) D σ H)
      (fun W pn xe tk hpx => ⟨fun pins s σ H D I ⟨X0, hW, q⟩ => ((hb pn xe hpx).run { C with exc := X0 } (gd.toTr tk hW)).run pins s σ H D I q⟩)
      (fun a oe cls d pn hz hfl => ⟨fun pins s σ H D I ⟨c, dd, ec, ed, hcc, q⟩ => by
        subst ec ed
        exact ((hsu c hcc a oe dd pn hz hfl).run _ (gd.toSuite a ((a, oe) :: pn))).run pins s σ H D I q⟩)) fun D σ H ⟨σo, Ho, r, X0, hX, hb0⟩ => ?_
    refine ⟨X0, fun cls d σ' H' ⟨c, fs, σo', Ho', r', re, nd, x⟩ => ?_, σo, Ho, r, hb0⟩
    obtain ⟨rfl, dd, rfl, ex⟩ := re
    rcases hX c fs σo' Ho' x with ⟨hcA, k⟩ | ⟨hcR, kx⟩
    · refine ⟨true, hacc c hcA, fun _ a na => ⟨c, dd, rfl, rfl, hcA, Z.put σo' i (.ref a), Z.upd Ho' dd (.xd fs), xd_told (r'.put i (.ref a)) ex (nd dd rfl), ?_⟩, fun z => (nomatch z)⟩
      have nad : a ≠ dd := fun z => by rw [z, ex] at na; cases na
      exact (hsu c hcA a { cls := .ref (L.ca c), dict := some dd, data := .fields #[] } dd [] ⟨rfl, rfl⟩ ⟨_, rfl⟩).mono { C with exc := fun _ _ _ _ => False } gd.mono _ _ ((ends L X.K Ho H D).wipe (some i)) _
        ⟨fun σ1 H1 h1 σ2 H2 r2 g2 => h1 _ H2 (r2.set_none i) g2, fun v H1 h1 H2 r2 g2 => h1 H2 r2 g2, fun σ1 H1 h1 σ2 H2 r2 g2 => h1 _ H2 (r2.set_none i) g2, fun σ1 H1 h1 σ2 H2 r2 g2 => h1 _ H2 (r2.set_none i) g2⟩ (k a dd (r'.hp.free na) (xfree_of r'.hp ex) nad)
    · exact ⟨false, hrej c hcR, fun z => (nomatch z), fun _ => ⟨c, fs, σo', Ho', r', ⟨rfl, dd, rfl, ex⟩, nd, kx⟩⟩
theorem s_tryO (hp : PassesOwn (model X.prog X.w) X.A X.env X.xe) (hc : Names X x cl) (hacc : ∀ c ∈ acc, PySem.W.exmOne X.K (.ref (L.ca c)) cl = some true) (hrej : ∀ c ∈ rej, PySem.W.exmOne X.K (.ref (L.ca c)) cl = some false)
    (hb : ∀ pn xe, PassesOwn (model X.prog X.w) X.A X.env xe → SB L (X.tr pn xe) body u)
    (hsu : ∀ c ∈ acc, ∀ (a : Addr) (oe : Obj) (dd : Addr) (pn : List (Addr × Obj)), Zc (.ref (L.ca c)) (some dd) oe → (∃ vs, oe.data = .fields vs) → SB L (X.suite a ((a, oe) :: pn)) (b₀ :: st) (h c a dd))
    (hs : X.stack = X.env :: X.outer := by rfl) (hf : X.env.frame = some X.env.locals := by rfl) :
    SS L X (.Try body [.ExceptHandler (some (.Name x np)) none (b₀ :: st) pos'] [] [] pos) (Z.tryx acc rej none u h) := by
  refine ⟨fun C m σ H D D' l ⟨X0, hX, hb0⟩ => ⟨X0, fun c fs σ' H' x => (hX c fs σ' H' x).imp (fun ⟨hc, k⟩ => ⟨hc, fun a dd n1 n2 ne => ?_⟩) id, (hb X.pn X.xe hp).mono { C with exc := X0 } m _ _ _ _ l hb0⟩, fun C gd => ?_⟩
  · exact (hsu c hc a { cls := .ref (L.ca c), dict := some dd, data := .fields #[] } dd [] ⟨rfl, rfl⟩ ⟨_, rfl⟩).mono { C with exc := fun _ _ _ _ => False } m _ _ _ _ (l.wipe _) (k a dd n1 n2 ne)
  · refine impS (ps_try_only hs hf hc gd.takes (tb := fun W D σ H => ∃ X0, (∀ c d σ H, liftW L X.K { C with exc := X0 } c d σ H → W c d σ H) ∧ liftS L X.K { C with exc := X0 } u D σ H)
      (ts := fun a cls d D σ H => ∃ c dd, cls = .ref (L.ca c) ∧ d = some dd ∧ c ∈ acc ∧ liftS L X.K { C with exc := fun _ _ _ _ => False } (h c a dd) D σ H)
      (fun W pn xe tk hpx => ⟨fun pins s σ H D I ⟨X0, hW, q⟩ => ((hb pn xe hpx).run { C with exc := X0 } (gd.toTr tk hW)).run pins s σ H D I q⟩)
      (fun a oe cls d pn hz hfl => ⟨fun pins s σ H D I ⟨c, dd, ec, ed, hcc, q⟩ => by
        subst ec ed
        exact ((hsu c hcc a oe dd pn hz hfl).run _ (gd.toSuite a ((a, oe) :: pn))).run pins s σ H D I q⟩)) fun D σ H ⟨σo, Ho, r, X0, hX, hb0⟩ => ?_
    refine ⟨X0, fun cls d σ' H' ⟨c, fs, σo', Ho', r', re, nd, x⟩ => ?_, σo, Ho, r, hb0⟩
    obtain ⟨rfl, dd, rfl, ex⟩ := re
    rcases hX c fs σo' Ho' x with ⟨hcA, k⟩ | ⟨hcR, kx⟩
    · refine ⟨true, hacc c hcA, fun _ a na => ⟨c, dd, rfl, rfl, hcA, σo', Z.upd Ho' dd (.xd fs), xd_told r' ex (nd dd rfl), ?_⟩, fun z => (nomatch z)⟩
      have nad : a ≠ dd := fun z => by rw [z, ex] at na; cases na
      exact k a dd (r'.hp.free na) (xfree_of r'.hp ex) nad
    · exact ⟨false, hrej c hcR, fun z => (nomatch z), fun _ => ⟨c, fs, σo', Ho', r', ⟨rfl, dd, rfl, ex⟩, nd, kx⟩⟩
/-- what an except clause names -/
structure HdOk (L : Lw) (K : PySem.W.Frag) (mg : Str → Option Value) (hn : String) (acc rej : List String) : Prop where
  ex : ∃ C : Addr, mg (Str.ofString hn) = some (.ref C) ∧ (∀ c ∈ acc, PySem.W.exmOne K (.ref (L.ca c)) (.ref C) = some true) ∧ ∀ c ∈ rej, PySem.W.exmOne K (.ref (L.ca c)) (.ref C) = some false
theorem exm_of {K : PySem.W.Frag} {C S : Addr} {b : Bool} (h1 : PySem.W.subIn K (.ref S) (.type "BaseException") = some true) (h2 : PySem.W.isClsIn K S = true) (h3 : PySem.W.typeIn K (.ref S) = some (.type "type")) (h4 : PySem.W.subIn K (.ref C) (.ref S) = some b) : PySem.W.exmOne K (.ref C) (.ref S) = some b := by
  have e1 : (PySem.W.subIn K (.ref S) (.type "BaseException") == some true) = true := by rw [h1]; rfl
  have e2 : ((PySem.W.clsIn K S).isSome && PySem.W.typeIn K (.ref S) == some (.type "type")) = true := by
    have z : (PySem.W.clsIn K S).isSome = true := h2
    rw [z, h3]
    rfl
  show (if (PySem.W.subIn K (.ref S) (.type "BaseException") == some true) = true then (if ((PySem.W.clsIn K S).isSome && PySem.W.typeIn K (.ref S) == some (.type "type")) = true then PySem.W.subIn K (.ref C) (.ref S) else none) else none) = some b
  rw [if_pos e1, if_pos e2]
  exact h4
theorem s_tryAH (i : Nat) (hn : String) (hd : HdOk L X.K X.mg hn acc rej) (hp : PassesOwn (model X.prog X.w) X.A X.env X.xe) (hN : X.N.Nodup)
    (hb : ∀ pn xe, PassesOwn (model X.prog X.w) X.A X.env xe → SB L (X.tr pn xe) body u)
    (hsu : ∀ c ∈ acc, ∀ (a : Addr) (oe : Obj) (dd : Addr) (pn : List (Addr × Obj)), Zc (.ref (L.ca c)) (some dd) oe → (∃ vs, oe.data = .fields vs) → SB L (X.suite a ((a, oe) :: pn)) (b₀ :: st) (h c a dd))
    (hx : x = Str.ofString hn := by rfl) (hg : Gl X x := by rfl) (hdb : (x == ("__debug__" : Str)) = false := by decide) (hi : X.N[i]? = some n := by rfl) (hln : X.env.kindOf n = some .local := by rfl) (hs : X.stack = X.env :: X.outer := by rfl) (hf : X.env.frame = some X.env.locals := by rfl) :
    SS L X (.Try body [.ExceptHandler (some (.Name x np)) (some n) (b₀ :: st) pos'] [] [] pos) (Z.tryx acc rej (some i) u h) := by
  obtain ⟨C, h1, h2, h3⟩ := hd.ex
  subst hx
  exact s_tryA i hp hN ⟨hg, hdb, .inl h1⟩ h2 h3 hb hsu hi hln hs hf
theorem s_tryOH (hn : String) (hd : HdOk L X.K X.mg hn acc rej) (hp : PassesOwn (model X.prog X.w) X.A X.env X.xe)
    (hb : ∀ pn xe, PassesOwn (model X.prog X.w) X.A X.env xe → SB L (X.tr pn xe) body u)
    (hsu : ∀ c ∈ acc, ∀ (a : Addr) (oe : Obj) (dd : Addr) (pn : List (Addr × Obj)), Zc (.ref (L.ca c)) (some dd) oe → (∃ vs, oe.data = .fields vs) → SB L (X.suite a ((a, oe) :: pn)) (b₀ :: st) (h c a dd))
    (hx : x = Str.ofString hn := by rfl) (hg : Gl X x := by rfl) (hdb : (x == ("__debug__" : Str)) = false := by decide) (hs : X.stack = X.env :: X.outer := by rfl) (hf : X.env.frame = some X.env.locals := by rfl) :
    SS L X (.Try body [.ExceptHandler (some (.Name x np)) none (b₀ :: st) pos'] [] [] pos) (Z.tryx acc rej none u h) := by
  obtain ⟨C, h1, h2, h3⟩ := hd.ex
  subst hx
  exact s_tryO hp ⟨hg, hdb, .inl h1⟩ h2 h3 hb hsu hs hf
/-- a field of the caught error -/
theorem s_efld {a : Addr} {oe : Obj} {dd : Addr} {pn : List (Addr × Obj)} {c : String} (f : String) (hz : Zc (.ref (L.ca c)) (some dd) oe) (hfl : ∃ vs, oe.data = .fields vs) (T : XfC X.K (L.ca c)) (hno : PySem.W.findIn X.K (.ref (L.ca c)) (Str.ofString f) = some none)
    (he : SE L (X.suite a ((a, oe) :: pn)) e te) (hx : x = Str.ofString f := by rfl) (hbs : attributeBase e x X.env (eval e X.env) = eval e X.env := by rfl) : SE L (X.suite a ((a, oe) :: pn)) (.Attribute e x pos) (Z.efld a dd te f) := by
  subst hx
  refine ⟨fun C m σ H Q Q' q h => he.mono C m _ _ _ _ (fun x H1 ⟨e1, fs, v, e2, e3, h1⟩ => ⟨e1, fs, v, e2, e3, q _ _ h1⟩) h, fun C gd => ?_⟩
  refine impE (pe_xf T hno hz hfl (he.run C gd) hbs) fun σ H Q ⟨σo, Ho, r, h⟩ => ?_
  refine ⟨σo, Ho, r, he.mono C gd.mono _ _ _ _ (fun y Ho1 h1 H1 r1 g1 => ?_) h⟩
  obtain ⟨rfl, fs, v, e2, e3, h1⟩ := h1
  exact ⟨rfl, rfl, dd, L.fs fs, L.v v, rfl, r1.hp dd _ e2, by rw [fs_look, e3]; rfl, h1 H1 r1 g1⟩
end
end ZS

/-! ZG: zip of a list and a tuple. -/
namespace ZS
open PySem PySem.Spec PyProof.Rows L2
/-- the list at a and the tuple at b, as they stand at each turn -/
def ItzM (K : PySem.W.Frag) (a b : Addr) : It where
  go := fun i H => ∃ (xs ys : List V) (x y : V), SqL K H a xs ∧ SqT K H b ys ∧ xs[i]? = some x ∧ ys[i]? = some y
  yld := fun i H v H' => ∃ T x y, v = .ref T ∧ H T = none ∧ H' = upd H T (.tup [x, y]) ∧ (∀ xs, SqL K H a xs → xs[i]? = some x) ∧ ∀ ys, SqT K H b ys → ys[i]? = some y
  stop := fun i H => ∃ xs ys : List V, SqL K H a xs ∧ SqT K H b ys ∧ i = min xs.length ys.length
theorem sep_of {z TI TO i1 i2 a b : Addr} (D : ZipApart z TI TO i1 i2 a b) : ZipSep2 z TI TO i1 i2 [i1, a] [i2, b] where
  TIz := D.TIz
  TOz := D.TOz
  TITO := D.TITO
  TIi1 := D.TIi1
  mem1 := by simp
  zf1 := by simp [D.i1z.symm, D.l1z.symm]
  Tf1 := by simp [D.TOi1, D.l1TO.symm]
  TIi2 := D.TIi2
  mem2 := by simp
  zf2 := by simp [D.i2z.symm, D.l2z.symm]
  Tf2 := by simp [D.TOi2, D.l2TO.symm]
  sep1_2 := by simp [D.i12, D.l2i1.symm]
  sep2_1 := by simp [D.i12.symm, D.l1i2.symm]
/-- where the pieces of such a zip lie -/
def MixSt (z TI TO i1 i2 a b : Addr) (i : Nat) (h : Heap) : Prop := IsZip h z TI TO .none ∧ IsPair h TI (.ref i1) (.ref i2) ∧ (∃ x y, IsPair h TO x y) ∧ h.IsListIter i1 a i ∧ h.IsTupleIter i2 b i
theorem turn_mix {P : Program} {w : World} {K : PySem.W.Frag} {elts : List Expr} {kk : Nat} {tpos : Pos} {a b z TI TO i1 i2 : Addr} (D : ZipApart z TI TO i1 i2 a b) : Turn P w K (.Tuple elts kk tpos) (ItzM K a b) [z, TI, TO, i1, i2] z (MixSt z TI TO i1 i2 a b) where
  mem := by simp
  obj := fun i h st c hc => by
    obtain ⟨hz, hTI, ⟨x, y, hTO⟩, ⟨o1, e1, _, d1⟩, ⟨o2, e2, _, d2⟩⟩ := st
    simp only [List.mem_cons, List.not_mem_nil, or_false] at hc
    rcases hc with rfl | rfl | rfl | rfl | rfl
    · exact ⟨_, hz, fun v q => nomatch q⟩
    · exact ⟨_, hTI, fun v q => nomatch q⟩
    · exact ⟨_, hTO, fun v q => nomatch q⟩
    · exact ⟨o1, e1, fun v q => by rw [d1] at q; cases q⟩
    · exact ⟨o2, e2, fun v q => by rw [d2] at q; cases q⟩
  keep := fun i h h' st k => by
    obtain ⟨hz, hTI, ⟨x, y, hTO⟩, h1, h2⟩ := st
    exact ⟨k z (by simp) _ hz, k TI (by simp) _ hTI, ⟨x, y, k TO (by simp) _ hTO⟩, h1.at fun o q => k i1 (by simp) o q, h2.at fun o q => k i2 (by simp) o q⟩
  item := by
    intro X hP hw hK hc i pins s σ H E I hf st hg
    subst hP hw hK
    obtain ⟨hz, hTI, ⟨x0, y0, hTO⟩, h1, h2⟩ := st
    obtain ⟨xs, ys, x, y, hqx, hqy, hx, hy⟩ := hg
    obtain ⟨its, rv, p, _⟩ := I.list hqx
    obtain ⟨its2, rv2, p2, _⟩ := I.tuple hqy
    obtain ⟨u, hu, ru⟩ := rv.get hx
    obtain ⟨u2, hu2, ru2⟩ := rv2.get hy
    have hzl : z < s.heap.objs.size := Heap.lt_size hz
    have hh : X.A.in1.handled = none := I.ok.hd hc
    have D1 := Draws.list (prog := X.prog) (w := X.w) hh i1 a D.l1i1 its.toArray
    have D2 := Draws.tuple (prog := X.prog) (w := X.w) hh i2 b D.l2i2 its2.toArray
    have n1 : i < its.toArray.size := by simpa using (List.getElem?_eq_some_iff.mp hu).1
    have n2 : i < its2.toArray.size := by simpa using (List.getElem?_eq_some_iff.mp hu2).1
    refine wpAny_pyNext_zipD2_item (sep_of D) D1 D2 hz hTI hTO ⟨h1, p.isList⟩ ⟨h2, p2⟩ n1 n2 fun v1 v2 h' tk y1 y2 z' TO' a1 a2 hT hsz hk => ?_
    have e1 : v1 = u := by
      have q1 : its.toArray[i]? = some v1 := y1
      have q2 : its.toArray[i]? = some u := by simpa using hu
      rw [q1] at q2
      exact Option.some.inj q2
    have e2 : v2 = u2 := by
      have q1 : its2.toArray[i]? = some v2 := y2
      have q2 : its2.toArray[i]? = some u2 := by simpa using hu2
      rw [q1] at q2
      exact Option.some.inj q2
    subst e1 e2
    refine ⟨_, rfl, wpAny_letOwnedTupleGo_zip (s := { s with heap := h', toks := tk }) z' fun h'' z'' sb => ?_⟩
    have hT2 : h''.get? s.heap.objs.size = some { cls := .type "tuple", data := .seq #[v1, v2] } := (sb.2 _ (Nat.ne_of_gt hzl)).trans hT
    have new : ObjOk X.prog X.w (upd H s.heap.objs.size (.tup [x, y])) h'' s.heap.objs.size (.tup [x, y]) :=
      ⟨by show 2 ≤ sizeLine; decide, [v1, v2], .cons ru (.cons ru2 .nil), ⟨_, hT2, rfl, _, rfl⟩⟩
    have out : ∀ {c : Addr}, c ∉ [z, TI, TO, i1, i2] → c ≠ z ∧ c ≠ TO ∧ c ≠ i1 ∧ c ≠ i2 := fun hb => by
      simp only [List.mem_cons, List.not_mem_nil, or_false, not_or] at hb
      exact ⟨hb.1, hb.2.2.1, hb.2.2.2.1, hb.2.2.2.2⟩
    have I1 : Inv X pins σ (upd H s.heap.objs.size (.tup [x, y])) { s with heap := h'', toks := tk } :=
      I.turnedNew (t' := tk) (ch := [z, TI, TO, i1, i2]) (fun c o hb q => (sb.2 c (out hb).1).trans (hk c o (out hb).1 (out hb).2.1 (out hb).2.2.1 (out hb).2.2.2 q)) hf (Nat.le_refl _) new
    refine ⟨.ref s.heap.objs.size, _, I1, rfl, ⟨_, x, y, rfl, I.hok.fresh (Nat.le_refl _), rfl, fun l hl => by rw [I.list_inj hl hqx]; exact hx, fun l hl => by rw [I.tuple_inj hl hqy]; exact hy⟩, ⟨z'', ?_, ⟨v1, v2, ?_⟩, ?_, ?_⟩, fun c hcm => ?_⟩
    · exact (sb.2 _ D.TIz).trans (hk _ _ D.TIz D.TITO D.TIi1 D.TIi2 hTI)
    · exact (sb.2 _ D.TOz).trans TO'
    · exact a1.1.at fun o q => (sb.2 _ D.i1z).trans q
    · exact a2.1.at fun o q => (sb.2 _ D.i2z).trans q
    · have hlt : c < s.heap.objs.size := by
        simp only [List.mem_cons, List.not_mem_nil, or_false] at hcm
        rcases hcm with rfl | rfl | rfl | rfl | rfl
        · exact hzl
        · exact Heap.lt_size hTI
        · exact Heap.lt_size hTO
        · obtain ⟨_, e1, _⟩ := h1; exact Heap.lt_size e1
        · obtain ⟨_, e2, _⟩ := h2; exact Heap.lt_size e2
      rw [upd_ne (Nat.ne_of_lt hlt)]
      exact (hf c hcm).1
  done := by
    intro X hP hw hK hc i pins s σ H E I hf st hg
    subst hP hw hK
    obtain ⟨hz, hTI, ⟨x0, y0, hTO⟩, h1, h2⟩ := st
    obtain ⟨xs, ys, hqx, hqy, hend⟩ := hg
    obtain ⟨its, rv, p, _⟩ := I.list hqx
    obtain ⟨its2, rv2, p2, _⟩ := I.tuple hqy
    have l1 : xs.length = its.toArray.size := by simpa using rv.length
    have l2 : ys.length = its2.toArray.size := by simpa using rv2.length
    have hh : X.A.in1.handled = none := I.ok.hd hc
    have D1 := Draws.list (prog := X.prog) (w := X.w) hh i1 a D.l1i1 its.toArray
    have D2 := Draws.tuple (prog := X.prog) (w := X.w) hh i2 b D.l2i2 its2.toArray
    refine wpAny_pyNext_zipD2_end (sep_of D) D1 D2 hz hTI hTO ⟨h1, p.isList⟩ ⟨h2, p2⟩ (by omega) (by omega) (by omega) fun h' tk hk => ⟨rfl, ?_⟩
    exact I.turnedL (t' := tk) (ch := [z, TI, TO, i1, i2]) (fun c o hb q => by
      simp only [List.mem_cons, List.not_mem_nil, or_false, not_or] at hb
      exact hk c o hb.1 hb.2.2.1 hb.2.2.2.1 hb.2.2.2.2 q) hf
  self := fun A i s Q E st h => wpAny_pyIter_zip st.1 h
/-- two lists, two tuples, a list and a tuple -/
def iZipM (K : PySem.W.Frag) (ta : TA) : TI := fun σ H R => ta σ H fun vs H1 => ∃ a b xs ys, vs = [.ref a, .ref b] ∧
  ((SqL K H1 a xs ∧ SqL K H1 b ys ∧ R (Itz K a b) H1) ∨ (SqT K H1 a xs ∧ SqT K H1 b ys ∧ R (RZ.ItzT K a b) H1) ∨ (SqL K H1 a xs ∧ SqT K H1 b ys ∧ R (ItzM K a b) H1))
section
variable {X : Cx} {e e2 : Expr} {ta : TA} {p pos tpos : Pos} {elts : List Expr} {kk : Nat}
theorem new_five {pins : List (Addr × Obj)} {σ : St} {H : Hp} {s : Shared} (I : Inv X pins σ H s) : ∀ c, c ∈ [s.heap.objs.size + 4, s.heap.objs.size + 2, s.heap.objs.size + 3, s.heap.objs.size, s.heap.objs.size + 1] → FpOk X pins H c := fun c hc => by
  have hle : s.heap.objs.size ≤ c := by
    simp only [List.mem_cons, List.not_mem_nil, or_false] at hc
    omega
  exact I.fpOk hle (I.hok.fresh hle)
theorem pi_zipM (hg : Gl X "zip") (hm : X.mg "zip" = none) (ha : PA X [e, e2] ta) (hs : starEach [e, e2] X.env = (false, eval e X.env) :: starEach [e2] X.env := by rfl) (hpl : (backTo pos (starEach [e2] X.env)).any (·.1) = false := by rfl) :
    PI X (.Tuple elts kk tpos) (.Call (.Name "zip" p) [e, e2] [] pos) (iZipM X.K ta) := by
  refine ⟨fun pins s σ H R I h => ?_⟩
  refine Call_ (ld_blt I hg hm PyProof.Rows.boot_zip (PyProof.Rows.callWith_type1 (thn (ha.run pos pins s σ H _ I h) fun us s1 ⟨vs, H1, I1, r1, q1⟩ => ?_) hs hpl))
  obtain ⟨a, b, xs, ys, rfl, q1⟩ := q1
  cases r1 with
  | cons ra r2 =>
    cases r2 with
    | cons rb r3 =>
    cases r3
    cases ra
    cases rb
    have five := new_five I1
    rcases q1 with ⟨qx, qy, q⟩ | ⟨qx, qy, q⟩ | ⟨qx, qy, q⟩
    · obtain ⟨its, _, p1, _⟩ := I1.list qx
      obtain ⟨its2, _, p2, _⟩ := I1.list qy
      exact call_zip_2 p1.isList p2.isList fun h' hz hTI hTO h1 h2 _ hk => wpAny_pyIter_zip hz
        ⟨s1.heap.objs.size + 4, [s1.heap.objs.size + 4, s1.heap.objs.size + 2, s1.heap.objs.size + 3, s1.heap.objs.size, s1.heap.objs.size + 1], _, _, H1, rfl, I1.kept (t' := s1.toks) hk, turn_zip (PySem.W.ktu_apart s1.heap.objs.size a b p1.lt p2.lt), ⟨hz, hTI, ⟨_, _, hTO⟩, h1, h2⟩, five, q⟩
    · obtain ⟨its, _, p1, _⟩ := I1.tuple qx
      obtain ⟨its2, _, p2, _⟩ := I1.tuple qy
      obtain ⟨o1, ho1, _⟩ := id p1
      obtain ⟨o2, ho2, _⟩ := id p2
      exact RZ.call_zipT (show s1.heap.IsTuple a its.toArray from p1) (show s1.heap.IsTuple b its2.toArray from p2) fun h' hz hTI hTO h1 h2 _ hk => wpAny_pyIter_zip hz
        ⟨s1.heap.objs.size + 4, [s1.heap.objs.size + 4, s1.heap.objs.size + 2, s1.heap.objs.size + 3, s1.heap.objs.size, s1.heap.objs.size + 1], _, _, H1, rfl, I1.kept (t' := s1.toks) hk, RZ.turn_zipT (PySem.W.ktu_apart s1.heap.objs.size a b (Heap.lt_size ho1) (Heap.lt_size ho2)), ⟨hz, hTI, ⟨_, _, hTO⟩, h1, h2⟩, five, q⟩
    · obtain ⟨its, _, p1, _⟩ := I1.list qx
      obtain ⟨its2, _, p2, _⟩ := I1.tuple qy
      obtain ⟨o2, ho2, _⟩ := id p2
      exact zip_begins2 (begins_list a its.toArray) (begins_tuple b its2.toArray) p1.isList (show s1.heap.IsTuple b its2.toArray from p2) fun h' hz hTI hTO g1 g2 _ hk => wpAny_pyIter_zip hz
        ⟨s1.heap.objs.size + 4, [s1.heap.objs.size + 4, s1.heap.objs.size + 2, s1.heap.objs.size + 3, s1.heap.objs.size, s1.heap.objs.size + 1], _, _, H1, rfl, I1.kept (t' := s1.toks) hk, turn_mix (PySem.W.ktu_apart s1.heap.objs.size a b p1.lt (Heap.lt_size ho2)), ⟨hz, hTI, ⟨_, _, hTO⟩, ⟨_, g1, rfl, rfl⟩, ⟨_, g2, rfl, rfl⟩⟩, five, q⟩
end
end ZS

/-! ZE: zip. -/
namespace ZS
open PySem PySem.Spec PyProof.Rows L2 RZ
section
variable {L : Lw} {X : Cx} {tg a b e : Expr} {t : Z.TA} {pos p : Pos} {K : PySem.W.Frag} {Ho : Z.Heap} {H : Hp}
theorem zip_at {xs ys : List Z.V} {i : Nat} {x y : Z.V} (h1 : xs[i]? = some x) (h2 : ys[i]? = some y) : (xs.zip ys)[i]? = some (x, y) := by
  rw [List.getElem?_zip_eq_some]
  exact ⟨h1, h2⟩
theorem ok_zl {q r : Nat} {xs ys : List Z.V} : ItOk2 L K (Itz K q r) (xs.zip ys) (fun H2 => Z.litems H2 (.ref q) = some xs ∧ Z.litems H2 (.ref r) = some ys) := by
  have sq : ∀ {Ho H q xs}, RH L K Ho H → Z.litems Ho (.ref q) = some xs → SqL K H q (L.vs xs) := fun r s => by
    obtain ⟨_, z, h⟩ := litems_rel r s
    cases z
    exact h
  refine ⟨fun i Ho H hi rh s => ?_, fun Ho H rh s => ?_, fun i Ho H x H' hi rh s y => ?_⟩
  · rw [List.length_zip] at hi
    obtain ⟨v, _, e⟩ := vs_at (L := L) (xs := xs) (i := i) (by omega)
    obtain ⟨w, _, e2⟩ := vs_at (L := L) (xs := ys) (i := i) (by omega)
    exact ⟨_, _, _, _, sq rh s.1, sq rh s.2, e, e2⟩
  · refine ⟨_, _, sq rh s.1, sq rh s.2, ?_⟩
    rw [vs_len, vs_len, List.length_zip]
    omega
  · obtain ⟨T, z, w, rfl, hT, rfl, y1, y2⟩ := y
    obtain ⟨v, e1, rfl⟩ := vs_get (y1 _ (sq rh s.1))
    obtain ⟨u, e2, rfl⟩ := vs_get (y2 _ (sq rh s.2))
    exact ⟨T, _, rfl, zip_at e1 e2, hT, rfl⟩
theorem ok_zt {q r : Nat} {xs ys : List Z.V} : ItOk2 L K (ItzT K q r) (xs.zip ys) (fun H2 => Z.titems H2 (.ref q) = some xs ∧ Z.titems H2 (.ref r) = some ys) := by
  have sq : ∀ {Ho H q xs}, RH L K Ho H → Z.titems Ho (.ref q) = some xs → SqT K H q (L.vs xs) := fun r s => by
    obtain ⟨_, z, h⟩ := titems_rel r s
    cases z
    exact h
  refine ⟨fun i Ho H hi rh s => ?_, fun Ho H rh s => ?_, fun i Ho H x H' hi rh s y => ?_⟩
  · rw [List.length_zip] at hi
    obtain ⟨v, _, e⟩ := vs_at (L := L) (xs := xs) (i := i) (by omega)
    obtain ⟨w, _, e2⟩ := vs_at (L := L) (xs := ys) (i := i) (by omega)
    exact ⟨_, _, _, _, sq rh s.1, sq rh s.2, e, e2⟩
  · refine ⟨_, _, sq rh s.1, sq rh s.2, ?_⟩
    rw [vs_len, vs_len, List.length_zip]
    omega
  · obtain ⟨T, z, w, rfl, hT, rfl, y1, y2⟩ := y
    obtain ⟨v, e1, rfl⟩ := vs_get (y1 _ (sq rh s.1))
    obtain ⟨u, e2, rfl⟩ := vs_get (y2 _ (sq rh s.2))
    exact ⟨T, _, rfl, zip_at e1 e2, hT, rfl⟩
theorem ok_zm {q r : Nat} {xs ys : List Z.V} : ItOk2 L K (ItzM K q r) (xs.zip ys) (fun H2 => Z.litems H2 (.ref q) = some xs ∧ Z.titems H2 (.ref r) = some ys) := by
  have sl : ∀ {Ho H q xs}, RH L K Ho H → Z.litems Ho (.ref q) = some xs → SqL K H q (L.vs xs) := fun r s => by
    obtain ⟨_, z, h⟩ := litems_rel r s
    cases z
    exact h
  have st : ∀ {Ho H q xs}, RH L K Ho H → Z.titems Ho (.ref q) = some xs → SqT K H q (L.vs xs) := fun r s => by
    obtain ⟨_, z, h⟩ := titems_rel r s
    cases z
    exact h
  refine ⟨fun i Ho H hi rh s => ?_, fun Ho H rh s => ?_, fun i Ho H x H' hi rh s y => ?_⟩
  · rw [List.length_zip] at hi
    obtain ⟨v, _, e⟩ := vs_at (L := L) (xs := xs) (i := i) (by omega)
    obtain ⟨w, _, e2⟩ := vs_at (L := L) (xs := ys) (i := i) (by omega)
    exact ⟨_, _, _, _, sl rh s.1, st rh s.2, e, e2⟩
  · refine ⟨_, _, sl rh s.1, st rh s.2, ?_⟩
    rw [vs_len, vs_len, List.length_zip]
  · obtain ⟨T, z, w, rfl, hT, rfl, y1, y2⟩ := y
    obtain ⟨v, e1, rfl⟩ := vs_get (y1 _ (sl rh s.1))
    obtain ⟨u, e2, rfl⟩ := vs_get (y2 _ (st rh s.2))
    exact ⟨T, _, rfl, zip_at e1 e2, hT, rfl⟩
theorem s_izip {elts : List Expr} {kk : Nat} {tpos p2 : Pos} (hg : Gl X "zip") (hm : X.mg "zip" = none) (ha : SA L X [a, b] t) (hs : starEach [a, b] X.env = (false, eval a X.env) :: starEach [b] X.env := by rfl) (hpl : (backTo pos (starEach [b] X.env)).any (·.1) = false := by rfl) :
    SI2 L X (.Tuple elts kk tpos) (.Call (.Name "zip" p2) [a, b] [] pos) (Z.izip t) := by
  refine ⟨fun C m σ H Q Q' q h => ha.mono C m _ _ _ _ (fun vs H1 h1 => ?_) h, fun C gd => ?_⟩
  · obtain ⟨x, y, e, h1⟩ := h1
    refine ⟨x, y, e, ?_⟩
    rcases h1 with ⟨xs, ys, e1, e2, h1⟩ | ⟨xs, ys, e1, e2, h1⟩ | ⟨xs, ys, e1, e2, h1⟩
    · exact .inl ⟨xs, ys, e1, e2, q _ _ _ h1⟩
    · exact .inr (.inl ⟨xs, ys, e1, e2, q _ _ _ h1⟩)
    · exact .inr (.inr ⟨xs, ys, e1, e2, q _ _ _ h1⟩)
  · refine impI (pi_zipM hg hm (ha.run C gd) hs hpl) fun σ H W ⟨σo, Ho, r, h⟩ => ?_
    refine ⟨σo, Ho, r, ha.mono C gd.mono _ _ _ _ (fun vs Ho1 h1 H1 r1 g1 => ?_) h⟩
    obtain ⟨x, y, rfl, h1⟩ := h1
    rcases h1 with ⟨xs, ys, e1, e2, h1⟩ | ⟨xs, ys, e1, e2, h1⟩ | ⟨xs, ys, e1, e2, h1⟩
    · obtain ⟨q, rfl, sq⟩ := litems_rel r1.hp e1
      obtain ⟨q2, rfl, sq2⟩ := litems_rel r1.hp e2
      exact ⟨q, q2, _, _, rfl, .inl ⟨sq, sq2, h1 _ H1 r1 g1 ok_zl⟩⟩
    · obtain ⟨q, rfl, sq⟩ := titems_rel r1.hp e1
      obtain ⟨q2, rfl, sq2⟩ := titems_rel r1.hp e2
      exact ⟨q, q2, _, _, rfl, .inr (.inl ⟨sq, sq2, h1 _ H1 r1 g1 ok_zt⟩)⟩
    · obtain ⟨q, rfl, sq⟩ := litems_rel r1.hp e1
      obtain ⟨q2, rfl, sq2⟩ := titems_rel r1.hp e2
      exact ⟨q, q2, _, _, rfl, .inr (.inr ⟨sq, sq2, h1 _ H1 r1 g1 ok_zm⟩)⟩
theorem nu_max3 (i j k : Int) : nuMax3 (.int i) (.int j) (.int k) = some (.int (max (max i j) k)) := by
  have two : ∀ a b : Int, nuMax2 (.int a) (.int b) = some (.int (max a b)) := fun a b => by
    show some (if decide (a < b) = true then V.int b else V.int a) = _
    by_cases h : a < b
    · rw [if_pos (by simpa using h), Int.max_eq_right (by omega)]
    · rw [if_neg (by simpa using h), Int.max_eq_left (by omega)]
  unfold nuMax3
  rw [two]
  exact two _ _
theorem m_max3 : Mono1 Z.bMax3 := fun vs H Q Q' q ⟨i, j, k, e, h⟩ => ⟨i, j, k, e, q _ _ h⟩
theorem c_max3 (hc : X.calm = true) : CallR X (.builtin "max") (lift1 L X.K Z.bMax3) := callr (call_max3Nu hc) fun vo Ho H Q rh h => by
  obtain ⟨i, j, k, rfl, h⟩ := h
  exact ⟨_, _, _, _, rfl, nu_max3 i j k, h H rh (Gr.refl _ _)⟩
theorem nu_min3 (i j k : Int) : nuMin3 (.int i) (.int j) (.int k) = some (.int (min (min i j) k)) := by
  have two : ∀ a b : Int, nuMin2 (.int a) (.int b) = some (.int (min a b)) := fun a b => by
    show some (if decide (b < a) = true then V.int b else V.int a) = _
    by_cases h : b < a
    · rw [if_pos (by simpa using h), Int.min_eq_right (by omega)]
    · rw [if_neg (by simpa using h), Int.min_eq_left (by omega)]
  unfold nuMin3
  rw [two]
  exact two _ _
theorem m_min3 : Mono1 Z.bMin3 := fun vs H Q Q' q ⟨i, j, k, e, h⟩ => ⟨i, j, k, e, q _ _ h⟩
theorem c_min3 (hc : X.calm = true) : CallR X (.builtin "min") (lift1 L X.K Z.bMin3) := callr (call_min3Nu hc) fun vo Ho H Q rh h => by
  obtain ⟨i, j, k, rfl, h⟩ := h
  exact ⟨_, _, _, _, rfl, nu_min3 i j k, h H rh (Gr.refl _ _)⟩
section
variable {es : List Expr}
theorem b_max3 (hc : X.calm = true) (hm : X.mg "max" = none) (ha : SA L X (e :: es) t) (hg : Gl X "max" := by rfl) (he : starEach (e :: es) X.env = (false, eval e X.env) :: starEach es X.env := by rfl) (hpl : (backTo pos (starEach es X.env)).any (·.1) = false := by rfl) : SE L X (.Call (.Name "max" p) (e :: es) [] pos) (Z.blt Z.bMax3 t) :=
  s_blt m_max3 (fun C g => c_max3 hc) hg hm boot_max ha (by decide) (by decide) he hpl
theorem b_min3 (hc : X.calm = true) (hm : X.mg "min" = none) (ha : SA L X (e :: es) t) (hg : Gl X "min" := by rfl) (he : starEach (e :: es) X.env = (false, eval e X.env) :: starEach es X.env := by rfl) (hpl : (backTo pos (starEach es X.env)).any (·.1) = false := by rfl) : SE L X (.Call (.Name "min" p) (e :: es) [] pos) (Z.blt Z.bMin3 t) :=
  s_blt m_min3 (fun C g => c_min3 hc) hg hm boot_min ha (by decide) (by decide) he hpl
end
end
end ZS

/-! ZF: try with several except clauses, each with a name or without. -/
namespace ZS
open PySem PySem.Spec PyProof.Rows L2
/-- a clause: its class, the slot of its name, what its suite does -/
abbrev Clause := Value × Option Nat × (Addr → Value → Option Addr → TS)
def dropSlot (i : Option Nat) (σ : St) : St := match i with | none => σ | some j => σ.set j none
def holdSlot (i : Option Nat) (a : Addr) (σ : St) : St := match i with | none => σ | some j => σ.set j (some (.ref a))
def endsBy (i : Option Nat) (D : Ends) : Ends := ⟨fun σ H => D.nx (dropSlot i σ) H, D.rt, fun σ H => D.bk (dropSlot i σ) H, fun σ H => D.ct (dropSlot i σ) H⟩
/-- what the clauses, one behind the other, ask of an error -/
def wishes (K : PySem.W.Frag) (W : WX) (D : Ends) : List Clause → WX
  | [] => W
  | (cl, i, ts) :: more => fun cls d σ H => ∃ yes, PySem.W.exmOne K cls cl = some yes ∧
      (yes = true → ∀ a, H a = none → ts a cls d (endsBy i D) (holdSlot i a σ) H) ∧ (yes = false → wishes K W D more cls d σ H)
section
variable {X : Cx}
def SuiteOk (X : Cx) (suite : List Stmt) (ts : Addr → Value → Option Addr → TS) : Prop :=
  ∀ (a : Addr) (o : Obj) (cls : Value) (d : Option Addr) (pn : List (Addr × Obj)), Zc cls d o → (∃ vs, o.data = .fields vs) → PSs (X.suite a ((a, o) :: pn)) suite (ts a cls d)
inductive Clauses (X : Cx) : List ExceptHandler → List Clause → Prop
  | nil : Clauses X [] []
  | plain {x : Str} {cl : Value} {ts : Addr → Value → Option Addr → TS} {b₀ : Stmt} {st : List Stmt} {p q : Pos} {hds : List ExceptHandler} {l : List Clause} (hc : Names X x cl) (ok : SuiteOk X (b₀ :: st) ts) (r : Clauses X hds l) :
      Clauses X (.ExceptHandler (some (.Name x p)) none (b₀ :: st) q :: hds) ((cl, none, ts) :: l)
  | named {x n : Str} {i : Nat} {cl : Value} {ts : Addr → Value → Option Addr → TS} {b₀ : Stmt} {st : List Stmt} {p q : Pos} {hds : List ExceptHandler} {l : List Clause} (hc : Names X x cl) (hi : X.N[i]? = some n) (hl : X.env.kindOf n = some .local)
      (ok : SuiteOk X (b₀ :: st) ts) (r : Clauses X hds l) : Clauses X (.ExceptHandler (some (.Name x p)) (some n) (b₀ :: st) q :: hds) ((cl, some i, ts) :: l)
variable {body : List Stmt} {h₀ : ExceptHandler} {hds : List ExceptHandler} {l : List Clause} {pos : Pos} {tb : WX → TS} {W : WX}
theorem ps_clauses (hs : X.stack = X.env :: X.outer) (hf : X.env.frame = some X.env.locals) (hN : X.N.Nodup) (tk : Takes X W)
    (hb : ∀ (V : WX) (pn : List (Addr × Obj)) (xe : Value → Shared → Prop), Takes (X.tr pn xe) V → PassesOwn (model X.prog X.w) X.A X.env xe → PSs (X.tr pn xe) body (tb V))
    (hk : Clauses X (h₀ :: hds) l) : PS X (.Try body (h₀ :: hds) [] [] pos) fun D σ H => tb (wishes X.K W D l) D σ H := by
  constructor
  intro pins s σ H D I h
  have ok := I.ok
  have frames : X.A.frames = some (X.env :: X.outer) := ok.frames.trans (congrArg some hs)
  apply wpAny_Try_except
  have run := (hb (wishes X.K W D l) (X.pn ++ pins) (fun e t => wpAny (model X.prog X.w) X.A (noteFrame e X.env)
    (fun _ t2 => wpAny (model X.prog X.w) X.A (setFlight e none) (fun _ t3 => wpAny (model X.prog X.w) X.A (handleBy e X.env (h₀ :: hds)) (SP X pins D) X.xe t3) X.xe t2) X.xe t)
    (fun u s' caught => ?_) PassesOwn.looking).run [] s σ H D (I.toTry _) h
  · refine wpAny_mono run (fun fl s1 hsp => ?_) (fun _ _ z => z)
    cases fl with
    | next => exact hsp.elim fun σ1 z => z.elim fun H1 z => wpAny_execs_nil ⟨σ1, H1, z.1.ofTry ok, z.2⟩
    | brk => exact hsp.elim fun σ1 z => z.elim fun H1 z => ⟨σ1, H1, z.1.ofTry ok, z.2⟩
    | cont => exact hsp.elim fun σ1 z => z.elim fun H1 z => ⟨σ1, H1, z.1.ofTry ok, z.2⟩
    | ret u =>
      obtain ⟨v, σ1, H1, J1, rv, q⟩ := hsp
      exact ⟨v, σ1, H1, J1.ofTry ok, rv, q⟩
  · obtain ⟨a, B, t0, pins', σ1, H1, cls, d, rfl, Jt, nb, up, sky, na, os, ag, wish⟩ := caught
    have J := Jt.ofTry ok
    have sky2 : Sky B (X.env :: X.outer) a (Zc cls d) X.env.locals s'.heap := hs ▸ sky
    show wpAny (model X.prog X.w) X.A (noteFrame (.ref a) X.env) _ _ _
    refine Sky.land Zc.steady frames hf sky2 fun hp fl up2 => ?_
    have J2 : Inv X pins σ1 H1 { s' with heap := hp } := J.landed nb fl.1 (up.trans up2) os ag
    obtain ⟨o, vs, eo, zo, dat⟩ := fl.there
    have away : a ∉ frs (X.env :: X.outer) := fun hm => by
      obtain ⟨w1, o2, e2, no⟩ := fl.2.2.1.mem hm
      have z := eo.symm.trans e2
      cases z
      exact no _ dat
    have nl : a ≠ X.env.locals := fun z => away (List.mem_filterMap.mpr ⟨X.env, List.mem_cons_self, hf.trans (by rw [z])⟩)
    have nf : a ∉ X.fs := fun hm => (List.mem_filterMap.mp hm).elim fun e z => away (List.mem_filterMap.mpr ⟨e, List.mem_cons_of_mem _ z.1, z.2⟩)
    have S2 := J2.suite eo dat na nl nf
    suffices walk : ∀ {hs2 : List ExceptHandler} {l2 : List Clause}, Clauses X hs2 l2 → wishes X.K W D l2 cls d σ1 H1 → wpAny (model X.prog X.w) X.A (handleBy (.ref a) X.env hs2) (SP X pins D) X.xe { s' with heap := hp } from walk hk wish
    have ask : ∀ {x : Str} {cl : Value} {p : Pos} {Q E : Value → Shared → Prop}, Names X x cl → Q cl { s' with heap := hp } → wpAny (model X.prog X.w) (X.A.mark (some (.ref a))) (eval (.Name x p) X.env) Q E { s' with heap := hp } := fun hc q => by
      obtain ⟨g, nd, m | ⟨m, v, nn⟩⟩ := hc
      · exact ld_glob (X := X.suite a ((a, o) :: (X.pn ++ pins))) S2 g m q nd
      · exact ld_blt (X := X.suite a ((a, o) :: (X.pn ++ pins))) S2 g m v q nn nd
    have look : PySem.W.Looks (model X.prog X.w) hp (typeOf (.ref a)) cls := fun _ _ _ _ k q => wpAny_typeOf_ref (k _ _ eo) (zo.1.symm ▸ q)
    intro hs2 l2 hk2
    induction hk2 with
    | nil =>
      intro out
      apply wpAny_handleBy_nil
      obtain ⟨_, _, _, o3, vs3, T, oT, ts3, e3, _, d3, f3, _⟩ := id fl
      unfold PySem.passOn
      apply wpAny_bind
      refine wpAny_field e3 d3 f3 ?_
      rw [if_neg (show ¬ ((Value.ref T == Value.none) = true) by simp)]
      have leave : wpAny (model X.prog X.w) X.A (setFlight (.ref a) X.env.frame) (fun _ t4 => wpAny (model X.prog X.w) X.A (throw (.ref a) : Sem Flow) (SP X pins D) X.xe t4) X.xe { s' with heap := hp } := by
        rw [hf]
        refine HandSPX.setFlight_upZ fl fun hq hz up3 => wpAny_throw (tk _ _ ⟨a, B, t0, pins, σ1, H1, cls, d, rfl, J, nb, (up.trans up2).trans up3, .inr (.inr (hs.symm ▸ hz)), na, os, ag, out⟩)
      first
        | exact wpAny_bind (wpAny_pure (wpAny_bind leave))
        | exact wpAny_bind leave
    | @plain x cl ts b₀ st p q hds l hc sok r ih =>
      rintro ⟨yes, is, hy, hn⟩
      refine wpAny_handleBy_cons (codeAny_handlers_test (ask hc ((PySem.W.exm_one (M := model X.prog X.w) J2.kIn look is).here ?_))) (fun z => nomatch z)
      cases yes with
      | false => exact ih (hn rfl)
      | true =>
        apply codeAny_handlers_suite
        refine HandSPX.lands_againZ fl fun hq fl4 up4 => ?_
        obtain ⟨o4, vs4, e4, z4, d4⟩ := fl4.there
        have J4 : Inv X pins σ1 H1 { s' with heap := hq } := J.landed nb fl4.1 ((up.trans up2).trans up4) os ag
        have S4 := J4.suite e4 d4 na nl nf
        refine wpAny_mono ((sok a o4 cls d (X.pn ++ pins) z4 ⟨_, d4⟩).run [] _ _ H1 _ S4 (hy rfl a na)) (fun fw s6 hsp => ?_) (fun _ _ z => z.elim)
        cases fw with
        | ret u =>
          obtain ⟨v6, σ6, H6, S6, r6, q6⟩ := hsp
          exact ⟨v6, σ6, H6, S6.unsuite ok, r6, q6⟩
        | next => exact hsp.elim fun σ6 z => z.elim fun H6 z => ⟨σ6, H6, z.1.unsuite ok, z.2⟩
        | brk => exact hsp.elim fun σ6 z => z.elim fun H6 z => ⟨σ6, H6, z.1.unsuite ok, z.2⟩
        | cont => exact hsp.elim fun σ6 z => z.elim fun H6 z => ⟨σ6, H6, z.1.unsuite ok, z.2⟩
    | @named x n i cl ts b₀ st p q hds l hc hi hl sok r ih =>
      rintro ⟨yes, is, hy, hn⟩
      refine wpAny_handleBy_cons (codeAny_handlers_test (ask hc ((PySem.W.exm_one (M := model X.prog X.w) J2.kIn look is).here ?_))) (fun z => nomatch z)
      cases yes with
      | false => exact ih (hn rfl)
      | true =>
        apply codeAny_handlers_suite_as
        refine HandSPX.lands_againZ fl fun hq fl4 up4 => ?_
        obtain ⟨o4, vs4, e4, z4, d4⟩ := fl4.there
        have J4 : Inv X pins σ1 H1 { s' with heap := hq } := J.landed nb fl4.1 ((up.trans up2).trans up4) os ag
        have S4 := J4.suite e4 d4 na nl nf
        refine store_ok (X := X.suite a ((a, o4) :: (X.pn ++ pins))) (v := .ref a) S4 hN hi (.inl hl) rfl (fun s5 S5 => ?_) (.inr hl)
        refine wpAny_mono ((sok a o4 cls d (X.pn ++ pins) z4 ⟨_, d4⟩).run [] s5 _ H1 _ S5 (hy rfl a na)) (fun fw s6 hsp => ?_) (fun _ _ z => z.elim)
        cases fw with
        | ret u =>
          obtain ⟨v6, σ6, H6, S6, r6, q6⟩ := hsp
          exact gone_ok (S6.unsuite ok) hN hi hl fun s7 J7 => ⟨v6, _, H6, J7, r6, q6⟩
        | next => exact hsp.elim fun σ6 z => z.elim fun H6 z => gone_ok (z.1.unsuite ok) hN hi hl fun s7 J7 => ⟨_, H6, J7, z.2⟩
        | brk => exact hsp.elim fun σ6 z => z.elim fun H6 z => gone_ok (z.1.unsuite ok) hN hi hl fun s7 J7 => ⟨_, H6, J7, z.2⟩
        | cont => exact hsp.elim fun σ6 z => z.elim fun H6 z => gone_ok (z.1.unsuite ok) hN hi hl fun s7 J7 => ⟨_, H6, J7, z.2⟩
end
section
variable {L : Lw} {X : Cx}
/-- a suite, class by class -/
def SuitesOk (L : Lw) (X : Cx) (acc : List String) (st : List Stmt) (h : String → Nat → Nat → Z.TS) : Prop :=
  ∀ c ∈ acc, ∀ (a : Addr) (oe : Obj) (dd : Addr) (pn : List (Addr × Obj)), Zc (.ref (L.ca c)) (some dd) oe → (∃ vs, oe.data = .fields vs) → SB L (X.suite a ((a, oe) :: pn)) st (h c a dd)
inductive ZCl (L : Lw) (X : Cx) : List ExceptHandler → List Z.Cl → Prop
  | nil : ZCl L X [] []
  | plain {x : Str} {acc rej : List String} {h : String → Nat → Nat → Z.TS} {b₀ : Stmt} {st : List Stmt} {p q : Pos} {hds : List ExceptHandler} {l : List Z.Cl} (hn : String) (hd : HdOk L X.K X.mg hn acc rej) (ok : SuitesOk L X acc (b₀ :: st) h) (r : ZCl L X hds l)
      (hx : x = Str.ofString hn := by rfl) (hg : Gl X x := by rfl) (hdb : (x == ("__debug__" : Str)) = false := by decide) : ZCl L X (.ExceptHandler (some (.Name x p)) none (b₀ :: st) q :: hds) (⟨acc, rej, none, h⟩ :: l)
  | named {x n : Str} {acc rej : List String} {h : String → Nat → Nat → Z.TS} {b₀ : Stmt} {st : List Stmt} {p q : Pos} {hds : List ExceptHandler} {l : List Z.Cl} (i : Nat) (hn : String) (hd : HdOk L X.K X.mg hn acc rej) (ok : SuitesOk L X acc (b₀ :: st) h) (r : ZCl L X hds l)
      (hx : x = Str.ofString hn := by rfl) (hg : Gl X x := by rfl) (hdb : (x == ("__debug__" : Str)) = false := by decide) (hi : X.N[i]? = some n := by rfl) (hl : X.env.kindOf n = some .local := by rfl) : ZCl L X (.ExceptHandler (some (.Name x p)) (some n) (b₀ :: st) q :: hds) (⟨acc, rej, some i, h⟩ :: l)
theorem Le.wipe2 {D D' : Z.Ends} (l : Le D D') (i : Option Nat) : Le (D.wipe i) (D'.wipe i) := ⟨fun σ H h => l.nx _ _ h, l.rt, fun σ H h => l.bk _ _ h, fun σ H h => l.ct _ _ h⟩
theorem disp_mono {hds : List ExceptHandler} {ks : List Z.Cl} (hk : ZCl L X hds ks) {C : Z.Cx} (m : Cmono C) {D D' : Z.Ends} (l : Le D D') : ∀ {c fs σ H}, Z.disp C D ks c fs σ H → Z.disp C D' ks c fs σ H := by
  induction hk with
  | nil => exact fun h => h
  | plain hn hd ok r hx hg hdb ih =>
    rintro c fs σ H (⟨hc, k⟩ | ⟨hc, k⟩)
    · exact .inl ⟨hc, fun a dd n1 n2 ne => (ok c hc a { cls := .ref (L.ca c), dict := some dd, data := .fields #[] } dd [] ⟨rfl, rfl⟩ ⟨_, rfl⟩).mono { C with exc := fun _ _ _ _ => False } m _ _ _ _ (l.wipe2 _) (k a dd n1 n2 ne)⟩
    · exact .inr ⟨hc, ih k⟩
  | named i hn hd ok r hx hg hdb hi hl ih =>
    rintro c fs σ H (⟨hc, k⟩ | ⟨hc, k⟩)
    · exact .inl ⟨hc, fun a dd n1 n2 ne => (ok c hc a { cls := .ref (L.ca c), dict := some dd, data := .fields #[] } dd [] ⟨rfl, rfl⟩ ⟨_, rfl⟩).mono { C with exc := fun _ _ _ _ => False } m _ _ _ _ (l.wipe2 _) (k a dd n1 n2 ne)⟩
    · exact .inr ⟨hc, ih k⟩
/-- a suite's wish -/
def suiteT (L : Lw) (K : PySem.W.Frag) (C : Z.Cx) (k : Z.Cl) : Addr → Value → Option Addr → TS := fun a cls d D σ H => ∃ c dd, cls = .ref (L.ca c) ∧ d = some dd ∧ c ∈ k.acc ∧ liftS L K { C with exc := fun _ _ _ _ => False } (k.h c a dd) D σ H
theorem suite_ok {C : Z.Cx} (gd : Good L X C) {k : Z.Cl} {st : List Stmt} (ok : SuitesOk L X k.acc st k.h) : SuiteOk X st (suiteT L X.K C k) := fun a oe cls d pn hz hfl => ⟨fun pins s σ H D I ⟨c, dd, ec, ed, hcc, q⟩ => by
  subst ec ed
  exact ((ok c hcc a oe dd pn hz hfl).run _ (gd.toSuite a ((a, oe) :: pn))).run pins s σ H D I q⟩
theorem disp_wish {hds : List ExceptHandler} {ks : List Z.Cl} (hk : ZCl L X hds ks) {C : Z.Cx} (gd : Good L X C) :
    ∃ l : List Clause, Clauses X hds l ∧ ∀ {Ho0 : Z.Heap} {H0 : Hp} {D : Ends} {c : String} {fs : List (String × Z.V)} {σo : Z.St} {Ho : Z.Heap} {σ : St} {H : Hp} {dd : Addr}, R L X.K σo Ho σ H → H dd = some (.xd (L.fs fs)) → L.H0 dd = none →
      Z.disp C (ends L X.K Ho0 H0 D) ks c fs σo Ho → wishes X.K (liftW L X.K C) D l (.ref (L.ca c)) (some dd) σ H := by
  induction hk with
  | nil => exact ⟨[], .nil, fun {_ _ _ _ _ _ _ _ _ _} r ex nd h => ⟨_, _, _, _, r, ⟨rfl, _, rfl, ex⟩, fun x e => by injection e with e; exact e ▸ nd, h⟩⟩
  | @plain x acc rej h b₀ st p q hds l hn hd ok r hx hg hdb ih =>
    obtain ⟨l2, k2, f⟩ := ih
    obtain ⟨S, h1, h2, h3⟩ := hd.ex
    subst hx
    refine ⟨(.ref S, none, suiteT L X.K C ⟨acc, rej, none, h⟩) :: l2, .plain ⟨hg, hdb, .inl h1⟩ (suite_ok gd ok) k2, fun {Ho0 H0 D c fs σo Ho σ H dd} r ex nd w => ?_⟩
    rcases w with ⟨hc, k⟩ | ⟨hc, k⟩
    · refine ⟨true, h2 c hc, fun _ a na => ⟨c, dd, rfl, rfl, hc, σo, Z.upd Ho dd (.xd fs), xd_told r ex nd, ?_⟩, fun z => (nomatch z)⟩
      have nad : a ≠ dd := fun z => by rw [z, ex] at na; cases na
      exact (ok c hc a { cls := .ref (L.ca c), dict := some dd, data := .fields #[] } dd [] ⟨rfl, rfl⟩ ⟨_, rfl⟩).mono { C with exc := fun _ _ _ _ => False } gd.mono _ _ ((ends L X.K Ho0 H0 D).wipe none) _
        ⟨fun σ1 H1 h1 => h1, fun v H1 h1 => h1, fun σ1 H1 h1 => h1, fun σ1 H1 h1 => h1⟩ (k a dd (r.hp.free na) (xfree_of r.hp ex) nad)
    · exact ⟨false, h3 c hc, fun z => (nomatch z), fun _ => f r ex nd k⟩
  | @named x n acc rej h b₀ st p q hds l i hn hd ok r hx hg hdb hi hl ih =>
    obtain ⟨l2, k2, f⟩ := ih
    obtain ⟨S, h1, h2, h3⟩ := hd.ex
    subst hx
    refine ⟨(.ref S, some i, suiteT L X.K C ⟨acc, rej, some i, h⟩) :: l2, .named ⟨hg, hdb, .inl h1⟩ hi hl (suite_ok gd ok) k2, fun {Ho0 H0 D c fs σo Ho σ H dd} r ex nd w => ?_⟩
    rcases w with ⟨hc, k⟩ | ⟨hc, k⟩
    · refine ⟨true, h2 c hc, fun _ a na => ⟨c, dd, rfl, rfl, hc, Z.put σo i (.ref a), Z.upd Ho dd (.xd fs), xd_told (r.put i (.ref a)) ex nd, ?_⟩, fun z => (nomatch z)⟩
      have nad : a ≠ dd := fun z => by rw [z, ex] at na; cases na
      exact (ok c hc a { cls := .ref (L.ca c), dict := some dd, data := .fields #[] } dd [] ⟨rfl, rfl⟩ ⟨_, rfl⟩).mono { C with exc := fun _ _ _ _ => False } gd.mono _ _ ((ends L X.K Ho0 H0 D).wipe (some i)) _
        ⟨fun σ1 H1 h1 σ2 H2 r2 g2 => h1 _ H2 (r2.set_none i) g2, fun v H1 h1 => h1, fun σ1 H1 h1 σ2 H2 r2 g2 => h1 _ H2 (r2.set_none i) g2, fun σ1 H1 h1 σ2 H2 r2 g2 => h1 _ H2 (r2.set_none i) g2⟩ (k a dd (r.hp.free na) (xfree_of r.hp ex) nad)
    · exact ⟨false, h3 c hc, fun z => (nomatch z), fun _ => f r ex nd k⟩
variable {body : List Stmt} {h₀ : ExceptHandler} {hds : List ExceptHandler} {ks : List Z.Cl} {pos : Pos} {u : Z.TS}
theorem s_trym (hp : PassesOwn (model X.prog X.w) X.A X.env X.xe) (hN : X.N.Nodup) (hb : ∀ pn xe, PassesOwn (model X.prog X.w) X.A X.env xe → SB L (X.tr pn xe) body u) (hk : ZCl L X (h₀ :: hds) ks)
    (hs : X.stack = X.env :: X.outer := by rfl) (hf : X.env.frame = some X.env.locals := by rfl) : SS L X (.Try body (h₀ :: hds) [] [] pos) (Z.trym ks u) := by
  refine ⟨fun C m σ H D D' l ⟨X0, hX, hb0⟩ => ⟨X0, fun c fs σ' H' x => disp_mono hk m l (hX c fs σ' H' x), (hb X.pn X.xe hp).mono { C with exc := X0 } m _ _ _ _ l hb0⟩, fun C gd => ?_⟩
  obtain ⟨l, k2, f⟩ := disp_wish hk gd
  refine impS (ps_clauses hs hf hN gd.takes (tb := fun W D σ H => ∃ X0, (∀ c d σ H, liftW L X.K { C with exc := X0 } c d σ H → W c d σ H) ∧ liftS L X.K { C with exc := X0 } u D σ H)
    (fun W pn xe tk hpx => ⟨fun pins s σ H D I ⟨X0, hW, q⟩ => ((hb pn xe hpx).run { C with exc := X0 } (gd.toTr tk hW)).run pins s σ H D I q⟩) k2) fun D σ H ⟨σo, Ho, r, X0, hX, hb0⟩ => ?_
  refine ⟨X0, fun cls d σ' H' ⟨c, fs, σo', Ho', r', re, nd, x⟩ => ?_, σo, Ho, r, hb0⟩
  obtain ⟨rfl, dd, rfl, ex⟩ := re
  exact f r' ex (nd dd rfl) (hX c fs σo' Ho' x)
end
end ZS

local macro_rules | `(tactic| walk_at "z") => `(tactic| simp [Z.seq, Z.skip, Z.asg, Z.asg2, Z.par, Z.gname, Z.gcons, Z.gnil, Z.gtup, Z.gsub, Z.put, Z.get, Z.var, Z.cst, Z.bin, Z.neg, Z.cmp, Z.chain, Z.ife, Z.orv, Z.andv, Z.notv, Z.tt, Z.tand, Z.tor, Z.tnot, Z.acons, Z.anil, Z.akw, Z.lstl, Z.tupl, Z.blt, Z.bLen, Z.bAbs, Z.bMax2, Z.bMin2, Z.bMax3, Z.bMin3, Z.bList, Z.bTuple, Z.callf, Z.perm, Z.ret, Z.retN, Z.ifs, Z.drop, Z.ix, Z.pno, Z.pso, Z.slc, Z.isi, Z.isTy, Z.subT, Z.brk, Z.cnt, Z.aug, Z.tyes, Z.Cx.calm, Z.wipe, Z.start, Z.opr_add_ii, Z.opr_add_rr, Z.opr_sub_ii, Z.opr_mul_ii, Z.opr_mul_ri, Z.opr_fdiv, Z.opr_mod, Z.opr_pow, Z.opr_shl, Z.opr_shr, Z.opr_band, Z.bitl, Z.dnew, Z.cmpr_eq, Z.cmpr_ne, Z.cmpr_lt, Z.cmpr_ltT, Z.cmpr_le, Z.cmpr_gt, Z.cmpr_ge, Z.cmpr_is, Z.cmpr_isB, Z.cmpr_isnot, Z.cmpr_isnotB, Z.cmpr_in, Z.cmpr_notin, Z.items_r, Z.litems_r, Z.titems_r, Z.truth_r, Z.tyOf_r, Z.itemsO_l, Z.itemsO_t, Z.itemsO_s, Z.litemsO_l, Z.litemsO_t, Z.litemsO_s, Z.titemsO_l, Z.titemsO_t, Z.titemsO_s, Z.truthO_l, Z.truthO_t, Z.truthO_s, Z.truth_b, Z.truth_n, Z.truth_i, Z.tyO_l, Z.tyO_t, Z.tyO_s, Z.tyO_d, Z.tyOf_b, Z.tyOf_n, Z.tyOf_i, Z.tyOf_st, Z.bInt_i, Z.bInt_b, Z.bRepr_b, Z.bRepr_i, Z.augo_t, Z.augo_f, Z.upd_same, Z.eqD_int, Z.eqD_bl, Z.eqD_str, and_assoc, Z.atI_lt, Z.atI_neg, Z.ixN_lt, Z.ixN_neg, Z.upd_ne, *])
local macro_rules | `(tactic| walk_at "z0") => `(tactic| simp [Z.seq, Z.skip, Z.asg, Z.asg2, Z.par, Z.gname, Z.gcons, Z.gnil, Z.gtup, Z.gsub, Z.put, Z.get, Z.var, Z.cst, Z.bin, Z.neg, Z.cmp, Z.chain, Z.ife, Z.orv, Z.andv, Z.notv, Z.tt, Z.tand, Z.tor, Z.tnot, Z.acons, Z.anil, Z.akw, Z.lstl, Z.tupl, Z.blt, Z.bLen, Z.bAbs, Z.bMax2, Z.bMin2, Z.bMax3, Z.bMin3, Z.bList, Z.bTuple, Z.callf, Z.perm, Z.ret, Z.retN, Z.ifs, Z.drop, Z.ix, Z.pno, Z.pso, Z.slc, Z.isi, Z.isTy, Z.subT, Z.brk, Z.cnt, Z.aug, Z.tyes, Z.Cx.calm, Z.wipe, Z.start, Z.opr_add_ii, Z.opr_add_rr, Z.opr_sub_ii, Z.opr_mul_ii, Z.opr_mul_ri, Z.opr_fdiv, Z.opr_mod, Z.opr_pow, Z.opr_shl, Z.opr_shr, Z.opr_band, Z.bitl, Z.dnew, Z.cmpr_eq, Z.cmpr_ne, Z.cmpr_lt, Z.cmpr_ltT, Z.cmpr_le, Z.cmpr_gt, Z.cmpr_ge, Z.cmpr_is, Z.cmpr_isB, Z.cmpr_isnot, Z.cmpr_isnotB, Z.cmpr_in, Z.cmpr_notin, Z.items_r, Z.litems_r, Z.titems_r, Z.truth_r, Z.tyOf_r, Z.itemsO_l, Z.itemsO_t, Z.itemsO_s, Z.litemsO_l, Z.litemsO_t, Z.litemsO_s, Z.titemsO_l, Z.titemsO_t, Z.titemsO_s, Z.truthO_l, Z.truthO_t, Z.truthO_s, Z.truth_b, Z.truth_n, Z.truth_i, Z.tyO_l, Z.tyO_t, Z.tyO_s, Z.tyO_d, Z.tyOf_b, Z.tyOf_n, Z.tyOf_i, Z.tyOf_st, Z.bInt_i, Z.bInt_b, Z.bRepr_b, Z.bRepr_i, Z.augo_t, Z.augo_f, Z.upd_same, Z.eqD_int, Z.eqD_bl, Z.eqD_str, and_assoc])

/-! ZD: the laws' own draws. -/
namespace Z
/-! ### family one: a list of three -/
def d_mixed : TS :=
  (Z.seq (Z.asg (Z.gname 2) (Z.bin .mod (Z.blt Z.bInt (Z.acons (Z.bin .mul (Z.bin .add (Z.bin .mod (Z.blt Z.bInt (Z.acons (Z.var 0) Z.anil)) (Z.cst (.int 2147483646))) (Z.cst (.int 1))) (Z.bin .add (Z.bin .mul (Z.var 1) (Z.cst (.int 7919))) (Z.cst (.int 104729)))) Z.anil)) (Z.cst (.int 2147483647))))
  (Z.seq (Z.asg (Z.gname 2) (Z.bin .mod (Z.blt Z.bInt (Z.acons (Z.bin .mul (Z.bin .add (Z.var 2) (Z.bin .mul (Z.bin .mod (Z.blt Z.bInt (Z.acons (Z.bin .fdiv (Z.var 0) (Z.cst (.int 2147483646))) Z.anil)) (Z.cst (.int 1000003))) (Z.bin .add (Z.var 1) (Z.cst (.int 31))))) (Z.cst (.int 48271))) Z.anil)) (Z.cst (.int 2147483629))))
  (Z.seq (Z.asg (Z.gname 2) (Z.bin .mod (Z.blt Z.bInt (Z.acons (Z.bin .mul (Z.var 2) (Z.bin .add (Z.bin .add (Z.bin .fdiv (Z.var 2) (Z.cst (.int 1013))) (Z.cst (.int 69621))) (Z.var 1))) Z.anil)) (Z.cst (.int 2147483587))))
  (Z.ret (Z.bin .mod (Z.blt Z.bInt (Z.acons (Z.bin .mul (Z.var 2) (Z.bin .add (Z.bin .fdiv (Z.var 2) (Z.cst (.int 2003))) (Z.cst (.int 40692)))) Z.anil)) (Z.cst (.int 2147483563)))))))
def d_source : TS :=
  (Z.seq (Z.ifs (Z.tt (Z.cmp .ge (Z.blt Z.bAbs (Z.acons (Z.var 0) Z.anil)) (Z.bin .pow (Z.cst (.int 10)) (Z.cst (.int 18))))) (Z.ret (Z.lstl (Z.acons (Z.blt Z.bAbs (Z.acons (Z.var 0) Z.anil)) (Z.acons (Z.blt Z.bAbs (Z.acons (Z.var 0) Z.anil)) (Z.acons (Z.cst (.int 0)) Z.anil)))))
  Z.skip)
  (Z.ret (Z.lstl (Z.acons (Z.cst (.int 0)) (Z.acons (Z.blt Z.bAbs (Z.acons (Z.var 0) Z.anil)) (Z.acons (Z.cst (.int 0)) Z.anil))))))
def d_take : TS :=
  (Z.seq (Z.ifs (Z.tt (Z.cmp .gt (Z.ix (Z.var 0) (Z.cst (.int 0))) (Z.cst (.int 0)))) (Z.seq (Z.asg (Z.gname 2) (Z.bin .mod (Z.blt Z.bInt (Z.acons (Z.ix (Z.var 0) (Z.cst (.int 0))) Z.anil)) (Z.var 1)))
  (Z.seq (Z.asg (Z.gsub (Z.var 0) (Z.cst (.int 0))) (Z.bin .fdiv (Z.ix (Z.var 0) (Z.cst (.int 0))) (Z.var 1)))
  (Z.ret (Z.var 2))))
  Z.skip)
  (Z.seq (Z.asg (Z.gsub (Z.var 0) (Z.cst (.int 2))) (Z.bin .add (Z.ix (Z.var 0) (Z.cst (.int 2))) (Z.cst (.int 1))))
  (Z.ret (Z.bin .mod (Z.blt Z.bInt (Z.acons (Z.callf "_law_mixed" 2 [.inl 0, .inl 1] (Z.acons (Z.ix (Z.var 0) (Z.cst (.int 1))) (Z.acons (Z.ix (Z.var 0) (Z.cst (.int 2))) Z.anil))) Z.anil)) (Z.var 1)))))
def d_pick : TS :=
  (Z.ret (Z.ix (Z.var 1) (Z.callf "_law_take" 2 [.inl 0, .inl 1] (Z.acons (Z.var 0) (Z.acons (Z.blt Z.bLen (Z.acons (Z.var 1) Z.anil)) Z.anil)))))
def d_part : TS :=
  (Z.seq (Z.par 3 (Z.gcons (Z.gname 2) (Z.gcons (Z.gname 3) (Z.gcons (Z.gname 4) Z.gnil))) (Z.acons (Z.callf "_law_take" 2 [.inl 0, .inl 1] (Z.acons (Z.var 0) (Z.acons (Z.cst (.int 7)) Z.anil))) (Z.acons (Z.bin .sub (Z.callf "_law_take" 2 [.inl 0, .inl 1] (Z.acons (Z.var 0) (Z.acons (Z.cst (.int 60)) Z.anil))) (Z.cst (.int 30))) (Z.acons (Z.bin .add (Z.cst (.int 1)) (Z.callf "_law_take" 2 [.inl 0, .inl 1] (Z.acons (Z.var 0) (Z.acons (Z.cst (.int 3)) Z.anil)))) Z.anil))))
  (Z.seq (Z.ifs (Z.tt (Z.cmp .eq (Z.var 2) (Z.cst (.int 0)))) (Z.ret (Z.lcomp (Z.irng1 (Z.acons (Z.var 1) Z.anil)) [5] (Z.gname 5) Z.tyes (Z.bin .add (Z.var 3) (Z.bin .mul (Z.var 4) (Z.var 5)))))
  Z.skip)
  (Z.seq (Z.ifs (Z.tt (Z.cmp .eq (Z.var 2) (Z.cst (.int 1)))) (Z.ret (Z.lcomp (Z.irng1 (Z.acons (Z.var 1) Z.anil)) [5] (Z.gname 5) Z.tyes (Z.bin .sub (Z.var 3) (Z.bin .mul (Z.var 4) (Z.var 5)))))
  Z.skip)
  (Z.seq (Z.ifs (Z.tt (Z.cmp .eq (Z.var 2) (Z.cst (.int 2)))) (Z.ret (Z.bin .mul (Z.lstl (Z.acons (Z.var 3) Z.anil)) (Z.var 1)))
  Z.skip)
  (Z.seq (Z.ifs (Z.tt (Z.cmp .eq (Z.var 2) (Z.cst (.int 3)))) (Z.ret (Z.lcomp (Z.irng1 (Z.acons (Z.var 1) Z.anil)) [5] (Z.gname 5) Z.tyes (Z.bin .add (Z.var 3) (Z.bin .fdiv (Z.var 5) (Z.bin .add (Z.cst (.int 1)) (Z.var 4))))))
  Z.skip)
  (Z.seq (Z.ifs (Z.tt (Z.cmp .eq (Z.var 2) (Z.cst (.int 4)))) (Z.ret (Z.lcomp (Z.irng1 (Z.acons (Z.var 1) Z.anil)) [5] (Z.gname 5) Z.tyes (Z.bin .sub (Z.var 3) (Z.bin .fdiv (Z.var 5) (Z.bin .add (Z.cst (.int 1)) (Z.var 4))))))
  Z.skip)
  (Z.seq (Z.ifs (Z.tt (Z.cmp .eq (Z.var 2) (Z.cst (.int 5)))) (Z.ret (Z.lcomp (Z.irng1 (Z.acons (Z.var 1) Z.anil)) [5] (Z.gname 5) Z.tyes (Z.bin .add (Z.var 3) (Z.callf "_law_take" 2 [.inl 0, .inl 1] (Z.acons (Z.var 0) (Z.acons (Z.bin .add (Z.cst (.int 1)) (Z.var 4)) Z.anil))))))
  Z.skip)
  (Z.ret (Z.lcomp (Z.irng1 (Z.acons (Z.var 1) Z.anil)) [5] (Z.gname 5) Z.tyes (Z.bin .sub (Z.callf "_law_take" 2 [.inl 0, .inl 1] (Z.acons (Z.var 0) (Z.acons (Z.cst (.int 200)) Z.anil))) (Z.cst (.int 100))))))))))))
def d_keys : TS :=
  (Z.seq (Z.par 2 (Z.gcons (Z.gname 2) (Z.gcons (Z.gname 3) Z.gnil)) (Z.acons (Z.callf "_law_take" 2 [.inl 0, .inl 1] (Z.acons (Z.var 0) (Z.acons (Z.bin .add (Z.var 1) (Z.cst (.int 1))) Z.anil))) (Z.acons (Z.lstl Z.anil) Z.anil)))
  (Z.seq (Z.whl (Z.tt (Z.cmp .lt (Z.blt Z.bLen (Z.acons (Z.var 3) Z.anil)) (Z.var 2))) (Z.seq (Z.asg (Z.gname 4) (Z.bin .sub (Z.var 2) (Z.blt Z.bLen (Z.acons (Z.var 3) Z.anil))))
  (Z.seq (Z.asg (Z.gname 5) (Z.bin .add (Z.cst (.int 1)) (Z.callf "_law_take" 2 [.inl 0, .inl 1] (Z.acons (Z.var 0) (Z.acons (Z.ix (Z.lstl (Z.acons (Z.cst (.int 3)) (Z.acons (Z.cst (.int 9)) (Z.acons (Z.cst (.int 40)) (Z.acons (Z.cst (.int 130)) Z.anil))))) (Z.callf "_law_take" 2 [.inl 0, .inl 1] (Z.acons (Z.var 0) (Z.acons (Z.cst (.int 4)) Z.anil)))) Z.anil)))))
  (Z.asg (Z.gname 3) (Z.bin .add (Z.var 3) (Z.callf "_law_part" 2 [.inl 0, .inl 1] (Z.acons (Z.var 0) (Z.acons (Z.ife (Z.tt (Z.cmp .lt (Z.var 5) (Z.var 4))) (Z.var 5) (Z.var 4)) Z.anil))))))))
  (Z.ret (Z.var 3))))
section
variable {T : String → String → Option Def} {k : Nat} {H : Heap} {Q : VK} {E : EK}
theorem mixed_k (h : T "" "_law_mixed" = some ⟨2, 3, d_mixed⟩) {a c : Int} (hc : 0 ≤ c) (hc2 : c < 2 ^ 100) (q : ∀ d : Int, 0 ≤ d → Q (.int d) H) : callK T (k + 1) "" "_law_mixed" [.int a, .int c] H Q E := by
  refine call_k h rfl ?_
  unfold d_mixed
  refine asg_k (fun v H1 => H = H1 ∧ ∃ d : Int, v = .int d ∧ 0 ≤ d ∧ d < 2147483647) (fun K hK => ?_) ?_
  · walk_at "z0"
    exact ⟨mul_k (small_b (by omega) (by omega) (by decide)) (small_b (by omega) (by omega) (by decide)), mul_k (small_b (by omega) (by omega) (by decide)) (small_b (by omega) (by omega) (by decide)), hK _ _ ⟨rfl, _, rfl, mod_rng (by decide)⟩⟩
  rintro _ _ ⟨rfl, d, rfl, d1, d2⟩
  refine asg_k (fun v H1 => H = H1 ∧ ∃ d : Int, v = .int d ∧ 0 ≤ d ∧ d < 2147483647) (fun K hK => ?_) ?_
  · have m2 := mod_rng (i := a / 2147483646) (j := 1000003) (by decide)
    have s1 : small 200 (a / 2147483646 % 1000003) := small_b (by omega) (by omega) (by decide)
    have s2 : small 200 (c + 31) := small_b (by omega) (by omega) (by decide)
    have s3 : small 401 (d + a / 2147483646 % 1000003 * (c + 31)) := small_add (n := 400) (small_b (by omega) (by omega) (by decide)) (small_mul s1 s2)
    walk_at "z0"
    refine ⟨small_b (by omega) (by omega) (by decide), mul_k (small_mono s1 (by decide)) (small_mono s2 (by decide)), mul_k (small_mono s3 (by decide)) (small_b (by omega) (by omega) (by decide)), hK _ _ ⟨rfl, _, rfl, ?_⟩⟩
    have m3 := mod_rng (i := (d + a / 2147483646 % 1000003 * (c + 31)) * 48271) (j := 2147483629) (by decide)
    omega
  rintro _ _ ⟨rfl, e, rfl, e1, e2⟩
  refine asg_k (fun v H1 => H = H1 ∧ ∃ d : Int, v = .int d ∧ 0 ≤ d ∧ d < 2147483647) (fun K hK => ?_) ?_
  · walk_at "z0"
    refine ⟨small_b (by omega) (by omega) (by decide), mul_k (small_b (by omega) (by omega) (by decide)) (small_b (by omega) (by omega) (by decide)), hK _ _ ⟨rfl, _, rfl, ?_⟩⟩
    have m3 := mod_rng (i := e * (e / 1013 + 69621 + c)) (j := 2147483587) (by decide)
    omega
  rintro _ _ ⟨rfl, f, rfl, f1, f2⟩
  walk_at "z0"
  exact ⟨small_b (by omega) (by omega) (by decide), mul_k (small_b (by omega) (by omega) (by decide)) (small_b (by omega) (by omega) (by decide)), q _ (mod_rng (j := 2147483563) (by decide)).1⟩
/-- a source stands at s, from which at most n values were drawn -/
def Src (H : Heap) (s n : Nat) : Prop := ∃ a b c : Int, H s = some (.lst [.int a, .int b, .int c]) ∧ 0 ≤ c ∧ c ≤ n
theorem source_k (h : T "" "_law_source" = some ⟨1, 1, d_source⟩) {a : Int} (q : ∀ s, H s = none → ∀ o, Src (upd H s o) s 0 → Q (.ref s) (upd H s o)) : callK T (k + 1) "" "_law_source" [.int a] H Q E := by
  refine call_k h rfl ?_
  unfold d_source
  walk_at "z0"
  refine ⟨⟨4, by unfold small; decide, by decide⟩, ?_⟩
  split
  · exact ⟨by decide, fun p hp => q p hp _ ⟨_, _, 0, upd_same, by decide, by decide⟩⟩
  · exact ⟨by decide, fun p hp => q p hp _ ⟨_, _, 0, upd_same, by decide, by decide⟩⟩
theorem take_k (h : T "" "_law_take" = some ⟨2, 3, d_take⟩) (hm : T "" "_law_mixed" = some ⟨2, 3, d_mixed⟩) {s n : Nat} {b : Int} (hs : Src H s n) (hn : n < 2 ^ 90) (hb : 0 < b) (hb2 : b < 2 ^ 100) (q : ∀ (d : Int) o, 0 ≤ d → d < b → Src (upd H s o) s (n + 1) → Q (.int d) (upd H s o)) : callK T (k + 2) "" "_law_take" [.ref s, .int b] H Q E := by
  refine call_k h rfl ?_
  unfold d_take
  obtain ⟨a, x, c, hs, hc, hc2⟩ := hs
  walk_at "z"
  split
  · exact ⟨small_b (by omega) (by omega) (by decide), q _ _ (mod_rng hb).1 (mod_rng hb).2 ⟨_, _, c, upd_same, hc, by omega⟩⟩
  · refine mixed_k hm (by omega) (by omega) fun d hd => ?_
    walk_at "z0"
    refine ⟨hb, ?_⟩
    exact q _ _ (mod_rng hb).1 (mod_rng hb).2 ⟨_, _, c + 1, upd_same, by omega, by omega⟩
theorem Src.mono {s n m : Nat} (h : Src H s n) (l : n ≤ m) : Src H s m := by
  obtain ⟨a, b, c, h1, h2, h3⟩ := h
  exact ⟨a, b, c, h1, h2, by omega⟩
theorem pick_k (h : T "" "_law_pick" = some ⟨2, 2, d_pick⟩) (ht : T "" "_law_take" = some ⟨2, 3, d_take⟩) (hm : T "" "_law_mixed" = some ⟨2, 3, d_mixed⟩) {s n p : Nat} {xs : List V} (hs : Src H s n) (hn : n < 2 ^ 90) (hp : H p = some (.lst xs)) (ne : p ≠ s) (h0 : 0 < xs.length) (h1 : xs.length < 2 ^ 90)
    (q : ∀ v o, v ∈ xs → Src (upd H s o) s (n + 1) → Q v (upd H s o)) : callK T (k + 3) "" "_law_pick" [.ref s, .ref p] H Q E := by
  refine call_k h rfl ?_
  unfold d_pick
  walk_at "z"
  refine take_k ht hm hs hn (by omega) (by omega) fun d o d0 d1 hs2 => ?_
  have hd : d.toNat < xs.length := by omega
  walk_at "z"
theorem take_in {C : Cx} (hC : C.call = callK T (k + 2)) (ht : T "" "_law_take" = some ⟨2, 3, d_take⟩) (hm : T "" "_law_mixed" = some ⟨2, 3, d_mixed⟩) {s n : Nat} {b : Int} (hs : Src H s n) (hn : n < 2 ^ 90) (hb : 0 < b) (hb2 : b < 2 ^ 100) (q : ∀ (d : Int) o, 0 ≤ d → d < b → Src (upd H s o) s (n + 1) → Q (.int d) (upd H s o)) : C.call "" "_law_take" [.ref s, .int b] H Q E := by
  rw [hC]
  exact take_k ht hm hs hn hb hb2 q
/-- a list of whole numbers is made, and a source drawn from -/
def Made (H : Heap) (s n : Nat) (m : Nat) (b : Nat) (size : Nat) (Q : VK) : Prop := ∀ (H' : Heap) (p : Nat) (ns : List Int), Fr [s] H H' → Src H' s (n + m) → H p = none → p ≠ s → H' p = some (.lst (ns.map .int)) → ns.length = size → (∀ x ∈ ns, x.natAbs ≤ b) → Q (.ref p) H'
theorem Src.new {s n p : Nat} {o : O} (h : Src H s n) (hp : H p = none) : Src (upd H p o) s n := by
  obtain ⟨a, b, c, h1, h2, h3⟩ := h
  exact ⟨a, b, c, upd_old h1 hp, h2, h3⟩
theorem Src.fr {s n : Nat} {H' : Heap} {S : List Nat} (h : Src H s n) (f : Fr S H H') (hn : s ∉ S) : Src H' s n := by
  obtain ⟨a, b, c, h1, h2, h3⟩ := h
  exact ⟨a, b, c, f s _ h1 hn, h2, h3⟩
theorem Src.ne {s n p : Nat} (h : Src H s n) (hp : H p = none) : p ≠ s := fun z => by
  obtain ⟨a, b, c, h1, h2, h3⟩ := h
  rw [z, h1] at hp
  cases hp
theorem Src.some {s n : Nat} (h : Src H s n) : ∃ o, H s = some o := by
  obtain ⟨a, b, c, e, _⟩ := h
  exact ⟨_, e⟩
theorem rng_get {lo : Int} {n i : Nat} {v : V} (h : (rng lo n)[i]? = some v) : i < n ∧ v = .int (lo + i) := by
  unfold rng at h
  rw [List.getElem?_map] at h
  cases e : (List.range n)[i]? with
  | none => rw [e] at h; cases h
  | some j =>
    rw [e] at h
    obtain ⟨hl, hj⟩ := List.getElem?_eq_some_iff.mp e
    rw [List.length_range] at hl
    rw [List.getElem_range] at hj
    subst hj
    exact ⟨hl, (Option.some.inj h).symm⟩
theorem rng_mem {lo : Int} {n : Nat} {v : V} (h : v ∈ rng lo n) : ∃ i : Nat, i < n ∧ v = .int (lo + i) := by
  obtain ⟨i, e⟩ := List.mem_iff_getElem?.mp h
  obtain ⟨a, b⟩ := rng_get e
  exact ⟨i, a, b⟩
theorem rng_len {lo : Int} {n : Nat} : (rng lo n).length = n := by unfold rng; simp
/-- numbers made by a function of the turn -/
theorem made_f {s n m b size : Nat} {H1 : Heap} (f : Nat → Int) (hQ : Made H s n m b size Q) (fr : Fr [s] H H1) (hs : Src H1 s (n + m)) (hf : ∀ i < size, (f i).natAbs ≤ b) {p : Nat} (hp : H1 p = none) (hSn : ∀ q ∈ [s], ∃ o, H1 q = some o) :
    Q (.ref p) (upd H1 p (.lst ((List.range size).map fun i => .int (f i)))) := by
  have e : ((List.range size).map fun i => V.int (f i)) = ((List.range size).map f).map V.int := by rw [List.map_map]; rfl
  have ne : p ≠ s := fun z => by
    obtain ⟨o, e⟩ := hSn s (by simp)
    rw [z, e] at hp
    cases hp
  rw [e]
  refine hQ _ p ((List.range size).map f) (fr.trans (Fr.new hp)) ?_ (fr.fresh hSn hp) ne upd_same (by simp) fun x hx => ?_
  · obtain ⟨a, b, c, h1, h2, h3⟩ := hs
    exact ⟨a, b, c, upd_old h1 hp, h2, h3⟩
  · obtain ⟨i, hi, rfl⟩ := List.mem_map.mp hx
    exact hf i (List.mem_range.mp hi)
theorem rng_map {n : Nat} (g : V → V) (f : Nat → Int) (h : ∀ i : Nat, g (.int i) = .int (f i)) : (rng 0 n).map g = (List.range n).map fun i => .int (f i) := by
  unfold rng
  rw [List.map_map]
  refine List.map_congr_left fun i _ => ?_
  show g (.int (0 + i)) = _
  rw [Int.zero_add, h]
theorem part_k (h : T "" "_law_part" = some ⟨2, 6, d_part⟩) (ht : T "" "_law_take" = some ⟨2, 3, d_take⟩) (hm : T "" "_law_mixed" = some ⟨2, 3, d_mixed⟩) {s n size : Nat} (hs : Src H s n) (hn : n < 2 ^ 80) (hz : size < 2 ^ 20) (hQ : Made H s n (size + 3) (300 + 4 * size) size Q) :
    callK T (k + 3) "" "_law_part" [.ref s, .int size] H Q E := by
  refine call_k h rfl ?_
  unfold d_part
  refine seq_k (fun σ1 H1 => ∃ sort base step : Int, Fr [s] H H1 ∧ Src H1 s (n + 3) ∧ 0 ≤ sort ∧ sort < 7 ∧ -30 ≤ base ∧ base < 30 ∧ 1 ≤ step ∧ step < 4 ∧ σ1 = [some (.ref s), some (.int size), some (.int sort), some (.int base), some (.int step), none]) (fun K hK => ?_) ?_
  · walk_at "z0"
    refine take_k ht hm hs (by omega) (by omega) (by omega) fun d1 o1 a1 b1 hs1 => ?_
    refine take_k ht hm hs1 (by omega) (by omega) (by omega) fun d2 o2 a2 b2 hs2 => ?_
    refine take_k ht hm hs2 (by omega) (by omega) (by omega) fun d3 o3 a3 b3 hs3 => ?_
    walk_at "z0"
    exact hK _ _ ⟨d1, d2 - 30, 1 + d3, ((Fr.chg (by simp)).trans (Fr.chg (by simp))).trans (Fr.chg (by simp)), hs3, a1, b1, by omega, by omega, by omega, by omega, rfl⟩
  rintro σ1 H1 ⟨sort, base, step, fr, hs1, s1, s2, b1, b2, t1, t2, rfl⟩
  have hS : ∀ q ∈ [s], ∃ o, H1 q = some o := fun q hq => by
    rw [show q = s by simpa using hq]
    exact hs1.some
  have hl : size ≤ line := by unfold line; omega
  have big_ : big size := by unfold big; omega
  have nd : ∀ p, H1 p = none → p ≠ s := fun p hp z => by
    obtain ⟨o, e⟩ := hs1.some
    rw [z, e] at hp
    cases hp
  have hs3 : Src H1 s (n + (size + 3)) := hs1.mono (by omega)
  have pr := fun (f : Nat → Int) (hf : ∀ i < size, (f i).natAbs ≤ 300 + 4 * size) (p : Nat) (hp : H1 p = none) => made_f f hQ fr hs3 hf hp hS
  walk_at "z0"
  have comp : ∀ (e : TE) (C : Cx) (f : Nat → Int), (∀ i < size, (f i).natAbs ≤ 300 + 4 * size) → (∀ (i : Nat), i < size → ∀ K : VK, K (.int (f i)) H1 → e C.calm [some (V.ref s), some (V.int ↑size), some (V.int sort), some (V.int base), some (V.int step), some (V.int i)] H1 K) →
      lcomp (irng1 (acons (var 1) anil)) [5] (gname 5) tyes e C [some (V.ref s), some (V.int ↑size), some (V.int sort), some (V.int base), some (V.int step), none] H1 Q := by
    intro e C f hf he
    refine ⟨size, rfl, big_, lci_pure (fun v => match v with | .int i => .int (f i.toNat) | v => v) trivial (by rw [rng_len]; simp; exact hl) (fun v hv K hK => ?_) fun p hp => ?_⟩
    · obtain ⟨i, hi, rfl⟩ := rng_mem hv
      rw [Int.toNat_natCast] at hi
      rw [Int.zero_add] at hK ⊢
      exact he i hi K (by simpa using hK)
    · rw [List.nil_append, Int.toNat_natCast, rng_map _ f fun i => by simp]
      exact pr f hf p hp
  split
  · refine comp _ _ (fun i => base + step * i) (fun i hi => ?_) fun i hi K hK => ?_
    · have : step * (i : Int) ≤ 3 * i := Int.mul_le_mul_of_nonneg_right (by omega) (by omega)
      have : 0 ≤ step * (i : Int) := Int.mul_nonneg (by omega) (by omega)
      omega
    · walk_at "z0"
      exact ⟨mul_k (small_b (by omega) (by omega) (by decide)) (small_b (by omega) (by omega) (by decide)), hK⟩
  split
  · refine comp _ _ (fun i => base - step * i) (fun i hi => ?_) fun i hi K hK => ?_
    · have : step * (i : Int) ≤ 3 * i := Int.mul_le_mul_of_nonneg_right (by omega) (by omega)
      have : 0 ≤ step * (i : Int) := Int.mul_nonneg (by omega) (by omega)
      omega
    · walk_at "z0"
      exact ⟨mul_k (small_b (by omega) (by omega) (by decide)) (small_b (by omega) (by omega) (by decide)), hK⟩
  split
  · refine ⟨by decide, fun p hp => ⟨by omega, hl, fun p1 hp1 => ?_⟩⟩
    have e : List.replicate size (V.int base) = (List.range size).map fun i => V.int base := by
      rw [List.map_const', List.length_range]
    have f0 : H1 p1 = none := by
      have z := (Fr.new hp : Fr [] H1 (upd H1 p (O.lst [V.int base])))
      exact z.fresh (by simp) hp1
    rw [e]
    obtain ⟨x1, x2, x3, x4, x5, x6⟩ := hs3
    refine made_f (fun _ => base) hQ (fr.trans (Fr.new hp)) ⟨x1, x2, x3, upd_old x4 hp, x5, x6⟩ (fun i hi => by omega) hp1 fun q hq => ?_
    obtain ⟨o, e⟩ := hS q hq
    exact ⟨o, upd_old e hp⟩
  split
  · refine comp _ _ (fun i => base + i / (1 + step)) (fun i hi => ?_) fun i hi K hK => ?_
    · have : (i : Int) / (1 + step) ≤ i := Int.ediv_le_self _ (by omega)
      have : 0 ≤ (i : Int) / (1 + step) := Int.ediv_nonneg (by omega) (by omega)
      omega
    · walk_at "z0"
      exact ⟨by omega, small_b (by omega) (by omega) (by decide), hK⟩
  split
  · refine comp _ _ (fun i => base - i / (1 + step)) (fun i hi => ?_) fun i hi K hK => ?_
    · have : (i : Int) / (1 + step) ≤ i := Int.ediv_le_self _ (by omega)
      have : 0 ≤ (i : Int) / (1 + step) := Int.ediv_nonneg (by omega) (by omega)
      omega
    · walk_at "z0"
      exact ⟨by omega, small_b (by omega) (by omega) (by decide), hK⟩
  -- drawn ones
  have draws : ∀ (e : TE) (C : Cx), (∀ (i : Nat) (H2 : Heap) (K : VK) (m : Nat), i < size → Src H2 s m → m < 2 ^ 81 → (∀ (d : Int) o, d.natAbs ≤ 300 → Src (upd H2 s o) s (m + 1) → K (.int d) (upd H2 s o)) → e C.calm [some (V.ref s), some (V.int ↑size), some (V.int sort), some (V.int base), some (V.int step), some (V.int i)] H2 K) →
      lcomp (irng1 (acons (var 1) anil)) [5] (gname 5) tyes e C [some (V.ref s), some (V.int ↑size), some (V.int sort), some (V.int base), some (V.int step), none] H1 Q := by
    intro e C he
    refine ⟨size, rfl, big_, lci_k (fun i acc H2 => acc.length = i ∧ i ≤ size ∧ Fr [s] H H2 ∧ Src H2 s (n + 3 + i) ∧ ∃ ns : List Int, acc = ns.map .int ∧ ∀ x ∈ ns, x.natAbs ≤ 300) ⟨rfl, Nat.zero_le _, fr, hs1, [], rfl, fun x hx => nomatch hx⟩ (fun i v acc H2 hv h2 => ⟨trivial, fun K hK => ?_⟩) fun acc H2 h2 => ⟨trivial, fun p hp => ?_⟩⟩
    · obtain ⟨hi, rfl⟩ := rng_get hv
      obtain ⟨l2, _, f2, s2, ns, rfl, b2⟩ := h2
      rw [Int.toNat_natCast] at hi
      rw [Int.zero_add]
      show (if true = true then e C.calm [some (V.ref s), some (V.int ↑size), some (V.int sort), some (V.int base), some (V.int step), some (V.int i)] H2 (fun y H3 => (ns.map V.int).length < line ∧ K (ns.map V.int ++ [y]) H3) else K (ns.map V.int) H2)
      rw [if_pos rfl]
      refine he i H2 _ _ hi s2 (by omega) fun d o hd hs4 => ⟨by rw [l2]; omega, hK _ _ ⟨?_, by omega, f2.trans (Fr.chg (by simp)), hs4, ns ++ [d], by simp, fun x hx => ?_⟩⟩
      · rw [List.length_append, l2]; rfl
      · rcases List.mem_append.mp hx with z | z
        · exact b2 x z
        · rw [show x = d by simpa using z]; exact hd
    · obtain ⟨l2, _, f2, s2, ns, rfl, b2⟩ := h2
      rw [rng_len, Int.toNat_natCast, List.length_map] at l2
      have hS2 : ∀ q ∈ [s], ∃ o, H2 q = some o := fun q hq => by
        rw [show q = s by simpa using hq]
        exact s2.some
      refine hQ _ p ns (f2.trans (Fr.new hp)) ?_ (f2.fresh hS2 hp) (fun z => ?_) upd_same l2 fun x hx => Nat.le_trans (b2 x hx) (by omega)
      · rw [rng_len, Int.toNat_natCast] at s2
        obtain ⟨x1, x2, x3, x4, x5, x6⟩ := s2
        exact ⟨x1, x2, x3, upd_old x4 hp, x5, by omega⟩
      · obtain ⟨o, e⟩ := s2.some
        rw [z, e] at hp
        cases hp
  split
  · refine draws _ _ fun i H2 K m hi s2 hm2 hK => ?_
    walk_at "z0"
    refine take_k ht hm s2 (by omega) (by omega) (by omega) fun d o d0 d1 hs4 => ?_
    walk_at "z0"
    exact hK _ _ (by omega) hs4
  · refine draws _ _ fun i H2 K m hi s2 hm2 hK => ?_
    walk_at "z0"
    refine take_k ht hm s2 (by omega) (by omega) (by omega) fun d o d0 d1 hs4 => ?_
    walk_at "z0"
    exact hK _ _ (by omega) hs4
theorem keys_k (h : T "" "_law_keys" = some ⟨2, 6, d_keys⟩) (hp : T "" "_law_part" = some ⟨2, 6, d_part⟩) (ht : T "" "_law_take" = some ⟨2, 3, d_take⟩) (hm : T "" "_law_mixed" = some ⟨2, 3, d_mixed⟩) {s n bound : Nat} (hs : Src H s n) (hn : n < 2 ^ 60) (hz : bound < 2 ^ 18)
    (hQ : ∀ many : Nat, many ≤ bound → Made H s n (6 * bound + 1) (300 + 4 * bound) many Q) :
    callK T (k + 4) "" "_law_keys" [.ref s, .int bound] H Q E := by
  refine call_k h rfl ?_
  unfold d_keys
  refine seq_k (fun σ1 H1 => ∃ (many p : Nat), many ≤ bound ∧ Fr [s] H H1 ∧ Src H1 s (n + 1) ∧ H p = none ∧ H1 p = some (.lst []) ∧ σ1 = [some (.ref s), some (.int bound), some (.int many), some (.ref p), none, none]) (fun K hK => ?_) ?_
  · walk_at "z0"
    refine take_k ht hm hs (by omega) (by omega) (by omega) fun d o d0 d1 hs1 => ?_
    intro p hp
    have e : ((d.toNat : Nat) : Int) = d := Int.toNat_of_nonneg d0
    have f1 : Fr [s] H (upd H s o) := Fr.chg (by simp)
    refine hK _ _ ⟨d.toNat, p, by omega, f1.trans (Fr.new hp), ?_, f1.fresh (fun q hq => ?_) hp, upd_same, by rw [e]⟩
    · obtain ⟨x1, x2, x3, x4, x5, x6⟩ := hs1
      exact ⟨x1, x2, x3, upd_old x4 hp, x5, x6⟩
    · rw [show q = s by simpa using hq]
      exact ⟨o, upd_same⟩
  rintro σ1 H1 ⟨many, p, hmb, f1, hs1, hp0, hp1, rfl⟩
  refine seq_k (fun σ2 H2 => ∃ (p : Nat) (ns : List Int) (x y : Option V), Fr [s] H H2 ∧ Src H2 s (n + 1 + 6 * ns.length) ∧ H p = none ∧ p ≠ s ∧ H2 p = some (.lst (ns.map .int)) ∧ ns.length = many ∧ (∀ z ∈ ns, z.natAbs ≤ 300 + 4 * bound) ∧ σ2 = [some (.ref s), some (.int bound), some (.int many), some (.ref p), x, y]) (fun K hK => ?_) ?_
  · have nes : p ≠ s := fun z => by
      obtain ⟨a, b, c, e, _⟩ := hs1
      rw [← z, hp1] at e
      cases e
    refine whl_k (n := many) (fun m σ2 H2 => ∃ (p : Nat) (ns : List Int) (x y : Option V), Fr [s] H H2 ∧ Src H2 s (n + 1 + 6 * ns.length) ∧ H p = none ∧ p ≠ s ∧ H2 p = some (.lst (ns.map .int)) ∧ ns.length + m = many ∧ (∀ z ∈ ns, z.natAbs ≤ 300 + 4 * bound) ∧ σ2 = [some (.ref s), some (.int bound), some (.int many), some (.ref p), x, y])
      ⟨p, [], none, none, f1, hs1, hp0, nes, hp1, by simp, fun z hz => (nomatch hz), rfl⟩ ?_
    rintro m σ2 H2 ⟨p, ns, x, y, f2, hs2, q0, qs, q1, hl, hb, rfl⟩ L hL
    walk_at "z"
    split
    · rename_i hlt
      refine ⟨by decide, fun p1 n1 => ?_⟩
      have ne1 : p1 ≠ s := hs2.ne n1
      refine take_k ht hm (hs2.new n1) (by omega) (by omega) (by omega) fun d o d0 d1 hs3 => ?_
      have f3 : Fr [s] H (upd (upd H2 p1 (O.lst [V.int 3, V.int 9, V.int 40, V.int 130])) s o) := (f2.trans (Fr.new n1)).trans (Fr.chg (by simp))
      have q3 : upd (upd H2 p1 (O.lst [V.int 3, V.int 9, V.int 40, V.int 130])) s o p = Option.some (.lst (ns.map .int)) := by
        rw [upd_ne qs]
        exact upd_old q1 n1
      have q4 : upd (upd H2 p1 (O.lst [V.int 3, V.int 9, V.int 40, V.int 130])) s o p1 = Option.some (O.lst [V.int 3, V.int 9, V.int 40, V.int 130]) := by
        rw [upd_ne ne1, upd_same]
      generalize upd (upd H2 p1 (O.lst [V.int 3, V.int 9, V.int 40, V.int 130])) s o = H3 at *
      refine ⟨[V.int 3, V.int 9, V.int 40, V.int 130], by rw [q4]; rfl, d, rfl, ?_⟩
      obtain ⟨b, eb, b0, b1⟩ : ∃ b : Int, atI [V.int 3, V.int 9, V.int 40, V.int 130] d = Option.some (.int b) ∧ 0 < b ∧ b ≤ 130 := by
        rcases (by omega : d = 0 ∨ d = 1 ∨ d = 2 ∨ d = 3) with rfl | rfl | rfl | rfl
        · exact ⟨3, rfl, by decide, by decide⟩
        · exact ⟨9, rfl, by decide, by decide⟩
        · exact ⟨40, rfl, by decide, by decide⟩
        · exact ⟨130, rfl, by decide, by decide⟩
      refine ⟨.int b, eb, ?_⟩
      refine take_k ht hm hs3 (by omega) b0 (by omega) fun e o2 e0 e1 hs4 => ?_
      have tail : ∀ z : Nat, 0 < z → z ≤ m → z ≤ 200 + m → callK T (k + 3) "" "_law_part" [V.ref s, .int z] (upd H3 s o2) (fun y H2 => opr Op.add (V.ref p) y H2 fun v_1 H1 => L [some (V.ref s), some (V.int ↑bound), some (V.int ↑many), some v_1, some (V.int (↑many - ↑ns.length)), some (V.int (1 + e))] H1) fun c fs H' => E c fs H' := by
        intro z z0 zm _
        refine part_k hp ht hm hs4 (by omega) (by omega) fun H5 p5 ns5 fr5 s5 n5 ne5 l5 len5 bd5 => ?_
        have q6 : H5 p = Option.some (.lst (ns.map .int)) := fr5 p _ (by rw [upd_ne qs]; exact q3) (by simpa using qs)
        have f5 : Fr [s] H H5 := (f3.trans (Fr.chg (by simp))).trans fr5
        walk_at "z"
        refine ⟨by unfold line; omega, fun p6 hp6 => ?_⟩
        have hS5 : ∀ q ∈ [s], ∃ o, H5 q = Option.some o := fun q hq => by
          rw [show q = s by simpa using hq]
          exact s5.some
        refine hL (m - z) _ _ (by omega) ⟨p6, ns ++ ns5, _, _, f5.trans (Fr.new hp6), (s5.new hp6).mono ?_, f5.fresh hS5 hp6, s5.ne hp6, by rw [upd_same, List.map_append], ?_, fun w hw => ?_, rfl⟩
        · rw [List.length_append]
          omega
        · rw [List.length_append]
          omega
        · rcases List.mem_append.mp hw with hw | hw
          · exact hb w hw
          · have := bd5 w hw
            omega
      walk_at "z0"
      split
      · have t := tail (1 + e.toNat) (by omega) (by omega) (by omega)
        rw [show ((1 + e.toNat : Nat) : Int) = 1 + e by omega] at t
        exact t
      · have t := tail m (by omega) (by omega) (by omega)
        rw [show ((m : Nat) : Int) = (many : Int) - ns.length by omega] at t
        exact t
    · rename_i hge
      have e0 : m = 0 := by omega
      exact hK _ _ ⟨p, ns, x, y, f2, hs2, q0, qs, q1, by omega, hb, rfl⟩
  rintro σ2 H2 ⟨p, ns, x, y, f2, hs2, q0, qs, q1, hl, hb, rfl⟩
  walk_at "z0"
  exact hQ many hmb H2 p ns f2 (hs2.mono (by omega)) q0 qs q1 hl hb
/-! ### family two: the cell itself, drawn from while it is great -/
def d_source2 : TS :=
  (Z.ret (Z.lstl (Z.acons (Z.var 0) (Z.acons (Z.var 0) (Z.acons (Z.cst (.int 0)) Z.anil)))))
def d_take2 : TS :=
  (Z.seq (Z.ifs (Z.tt (Z.cmp .ge (Z.ix (Z.var 0) (Z.cst (.int 0))) (Z.bin .pow (Z.cst (.int 10)) (Z.cst (.int 18))))) (Z.seq (Z.asg (Z.gname 2) (Z.bin .mod (Z.blt Z.bInt (Z.acons (Z.ix (Z.var 0) (Z.cst (.int 0))) Z.anil)) (Z.var 1)))
  (Z.seq (Z.asg (Z.gsub (Z.var 0) (Z.cst (.int 0))) (Z.bin .fdiv (Z.ix (Z.var 0) (Z.cst (.int 0))) (Z.var 1)))
  (Z.ret (Z.var 2))))
  Z.skip)
  (Z.seq (Z.asg (Z.gsub (Z.var 0) (Z.cst (.int 2))) (Z.bin .add (Z.ix (Z.var 0) (Z.cst (.int 2))) (Z.cst (.int 1))))
  (Z.ret (Z.bin .mod (Z.blt Z.bInt (Z.acons (Z.callf "_law_mixed" 2 [.inl 0, .inl 1] (Z.acons (Z.ix (Z.var 0) (Z.cst (.int 1))) (Z.acons (Z.ix (Z.var 0) (Z.cst (.int 2))) Z.anil))) Z.anil)) (Z.var 1)))))
theorem source2_k (h : T "" "_law_source" = Option.some ⟨1, 1, d_source2⟩) {a : Int} (q : ∀ s, H s = none → ∀ o, Src (upd H s o) s 0 → Q (.ref s) (upd H s o)) : callK T (k + 1) "" "_law_source" [.int a] H Q E := by
  refine call_k h rfl ?_
  unfold d_source2
  walk_at "z0"
  exact ⟨by decide, fun p hp => q p hp _ ⟨_, _, 0, upd_same, by decide, by decide⟩⟩
theorem take2_k (h : T "" "_law_take" = Option.some ⟨2, 3, d_take2⟩) (hm : T "" "_law_mixed" = Option.some ⟨2, 3, d_mixed⟩) {s n : Nat} {b : Int} (hs : Src H s n) (hn : n < 2 ^ 90) (hb : 0 < b) (hb2 : b < 2 ^ 100) (q : ∀ (d : Int) o, 0 ≤ d → d < b → Src (upd H s o) s (n + 1) → Q (.int d) (upd H s o)) : callK T (k + 2) "" "_law_take" [.ref s, .int b] H Q E := by
  refine call_k h rfl ?_
  unfold d_take2
  obtain ⟨a, x, c, hs, hc, hc2⟩ := hs
  walk_at "z"
  refine ⟨⟨4, by unfold small; decide, by decide⟩, ?_⟩
  split
  · exact ⟨small_b (by omega) (by omega) (by decide), q _ _ (mod_rng hb).1 (mod_rng hb).2 ⟨_, _, c, upd_same, hc, by omega⟩⟩
  · refine mixed_k hm (by omega) (by omega) fun d hd => ?_
    walk_at "z0"
    refine ⟨hb, ?_⟩
    exact q _ _ (mod_rng hb).1 (mod_rng hb).2 ⟨_, _, c + 1, upd_same, by omega, by omega⟩
/-! ### family three: a great cell's figures, then mixed numbers -/
def d_source3 : TS :=
  (Z.ret (Z.lstl (Z.acons (Z.bin .mul (Z.blt Z.bAbs (Z.acons (Z.var 0) Z.anil)) (Z.blt Z.bInt (Z.acons (Z.cmp .ge (Z.blt Z.bAbs (Z.acons (Z.var 0) Z.anil)) (Z.bin .pow (Z.cst (.int 10)) (Z.cst (.int 18)))) Z.anil))) (Z.acons (Z.bin .mod (Z.blt Z.bInt (Z.acons (Z.var 0) Z.anil)) (Z.cst (.int 2147483587))) (Z.acons (Z.cst (.int 0)) Z.anil)))))
def d_draw3 : TS :=
  (Z.seq (Z.ifs (Z.tt (Z.cmp .gt (Z.ix (Z.var 0) (Z.cst (.int 0))) (Z.cst (.int 0)))) (Z.seq (Z.asg (Z.gname 2) (Z.bin .mod (Z.blt Z.bInt (Z.acons (Z.ix (Z.var 0) (Z.cst (.int 0))) Z.anil)) (Z.var 1)))
  (Z.seq (Z.asg (Z.gsub (Z.var 0) (Z.cst (.int 0))) (Z.bin .fdiv (Z.ix (Z.var 0) (Z.cst (.int 0))) (Z.var 1)))
  (Z.ret (Z.var 2))))
  Z.skip)
  (Z.seq (Z.asg (Z.gsub (Z.var 0) (Z.cst (.int 2))) (Z.bin .add (Z.ix (Z.var 0) (Z.cst (.int 2))) (Z.cst (.int 1))))
  (Z.seq (Z.asg (Z.gname 3) (Z.bin .mod (Z.blt Z.bInt (Z.acons (Z.bin .mul (Z.bin .add (Z.bin .add (Z.ix (Z.var 0) (Z.cst (.int 1))) (Z.bin .mul (Z.cst (.int 52711)) (Z.ix (Z.var 0) (Z.cst (.int 2))))) (Z.cst (.int 13))) (Z.cst (.int 48271))) Z.anil)) (Z.cst (.int 2147483629))))
  (Z.seq (Z.asg (Z.gname 3) (Z.bin .mod (Z.blt Z.bInt (Z.acons (Z.bin .mul (Z.var 3) (Z.bin .add (Z.bin .add (Z.bin .fdiv (Z.var 3) (Z.cst (.int 1021))) (Z.cst (.int 69621))) (Z.ix (Z.var 0) (Z.cst (.int 2))))) Z.anil)) (Z.cst (.int 2147483579))))
  (Z.ret (Z.bin .mod (Z.blt Z.bInt (Z.acons (Z.bin .fdiv (Z.bin .mod (Z.blt Z.bInt (Z.acons (Z.bin .mul (Z.var 3) (Z.bin .add (Z.bin .fdiv (Z.var 3) (Z.cst (.int 2011))) (Z.cst (.int 40692)))) Z.anil)) (Z.cst (.int 2147483549))) (Z.cst (.int 3))) Z.anil)) (Z.var 1)))))))
def d_pick3 : TS :=
  (Z.ret (Z.ix (Z.var 1) (Z.callf "_law_draw" 2 [.inl 0, .inl 1] (Z.acons (Z.var 0) (Z.acons (Z.blt Z.bLen (Z.acons (Z.var 1) Z.anil)) Z.anil)))))
/-- a source of family three -/
def Srd (H : Heap) (s n : Nat) : Prop := ∃ a b c : Int, H s = Option.some (.lst [.int a, .int b, .int c]) ∧ (0 ≤ b ∧ b < 2147483587) ∧ 0 ≤ c ∧ c ≤ n
theorem Srd.mono {s n m : Nat} (h : Srd H s n) (l : n ≤ m) : Srd H s m := by
  obtain ⟨a, b, c, h1, h2, h3, h4⟩ := h
  exact ⟨a, b, c, h1, h2, h3, by omega⟩
theorem Srd.new {s n p : Nat} {o : O} (h : Srd H s n) (hp : H p = none) : Srd (upd H p o) s n := by
  obtain ⟨a, b, c, h1, h2⟩ := h
  exact ⟨a, b, c, upd_old h1 hp, h2⟩
theorem Srd.other {s n p : Nat} {o : O} (h : Srd H s n) (hp : p ≠ s) : Srd (upd H p o) s n := by
  obtain ⟨a, b, c, h1, h2⟩ := h
  exact ⟨a, b, c, by rw [upd_ne (Ne.symm hp)]; exact h1, h2⟩
theorem Srd.fr {s n : Nat} {H' : Heap} {S : List Nat} (h : Srd H s n) (f : Fr S H H') (hn : s ∉ S) : Srd H' s n := by
  obtain ⟨a, b, c, h1, h2⟩ := h
  exact ⟨a, b, c, f s _ h1 hn, h2⟩
theorem Srd.ne {s n p : Nat} (h : Srd H s n) (hp : H p = none) : p ≠ s := fun z => by
  obtain ⟨a, b, c, h1, h2⟩ := h
  rw [z, h1] at hp
  cases hp
theorem Srd.some {s n : Nat} (h : Srd H s n) : ∃ o, H s = Option.some o := by
  obtain ⟨a, b, c, e, _⟩ := h
  exact ⟨_, e⟩
theorem source3_k (h : T "" "_law_source" = Option.some ⟨1, 1, d_source3⟩) {a : Int} (ha : Fit a) (q : ∀ s, H s = none → ∀ o, Srd (upd H s o) s 0 → Q (.ref s) (upd H s o)) : callK T (k + 1) "" "_law_source" [.int a] H Q E := by
  refine call_k h rfl ?_
  unfold d_source3
  walk_at "z0"
  have hb : small 1048576 ((a.natAbs : Nat) : Int) := by unfold Fit small at *; rw [Int.natAbs_natCast]; exact ha
  have m := mod_rng (i := a) (j := 2147483587) (by decide)
  refine ⟨⟨4, by unfold small; decide, by decide⟩, ⟨1048576, 2, by decide, hb, ?_⟩, by decide, fun p hp => q p hp _ ⟨_, _, 0, upd_same, m, by decide, by decide⟩⟩
  split <;> (unfold small; decide)
theorem draw3_k (h : T "" "_law_draw" = Option.some ⟨2, 4, d_draw3⟩) {s n : Nat} {b : Int} (hs : Srd H s n) (hn : n < 2 ^ 90) (hb : 0 < b) (hb2 : b < 2 ^ 100) (q : ∀ (d : Int) o, 0 ≤ d → d < b → Srd (upd H s o) s (n + 1) → Q (.int d) (upd H s o)) : callK T (k + 1) "" "_law_draw" [.ref s, .int b] H Q E := by
  refine call_k h rfl ?_
  unfold d_draw3
  obtain ⟨a, x, c, hs, ⟨hx, hx2⟩, hc, hc2⟩ := hs
  refine seq_k (fun σ1 H1 => H = H1 ∧ σ1 = [Option.some (.ref s), Option.some (.int b), none, none]) (fun K hK => ?_) ?_
  · walk_at "z"
    exact fun _ => ⟨small_b (by omega) (by omega) (by decide), q _ _ (mod_rng hb).1 (mod_rng hb).2 ⟨_, _, c, upd_same, ⟨hx, hx2⟩, hc, by omega⟩⟩
  rintro _ _ ⟨rfl, rfl⟩
  refine seq_k (fun σ1 H1 => H1 = upd H s (.lst [.int a, .int x, .int (c + 1)]) ∧ σ1 = [Option.some (.ref s), Option.some (.int b), none, none]) (fun K hK => ?_) ?_
  · walk_at "z"
  rintro _ _ ⟨rfl, rfl⟩
  have q2 : ∀ d : Int, 0 ≤ d → d < b → Q (.int d) (upd H s (.lst [.int a, .int x, .int (c + 1)])) := fun d h1 h2 => q d _ h1 h2 ⟨_, _, c + 1, upd_same, ⟨hx, hx2⟩, by omega, by omega⟩
  have e2 : upd H s (.lst [.int a, .int x, .int (c + 1)]) s = Option.some (.lst [.int a, .int x, .int (c + 1)]) := upd_same
  generalize upd H s (.lst [.int a, .int x, .int (c + 1)]) = H2 at *
  refine asg_k (fun v H1 => H2 = H1 ∧ ∃ d : Int, v = .int d ∧ 0 ≤ d ∧ d < 2147483647) (fun K hK => ?_) ?_
  · walk_at "z"
    have m := mod_rng (i := (x + 52711 * (c + 1) + 13) * 48271) (j := 2147483629) (by decide)
    exact ⟨mul_k (small_b (by omega) (by omega) (by decide)) (small_b (by omega) (by omega) (by decide)), mul_k (small_b (by omega) (by omega) (by decide)) (small_b (by omega) (by omega) (by decide)), hK _ _ ⟨rfl, _, rfl, m.1, by omega⟩⟩
  rintro _ _ ⟨rfl, d, rfl, d1, d2⟩
  refine asg_k (fun v H1 => H2 = H1 ∧ ∃ d : Int, v = .int d ∧ 0 ≤ d ∧ d < 2147483647) (fun K hK => ?_) ?_
  · walk_at "z"
    have m := mod_rng (i := d * (d / 1021 + 69621 + (c + 1))) (j := 2147483579) (by decide)
    exact ⟨small_b (by omega) (by omega) (by decide), mul_k (small_b (by omega) (by omega) (by decide)) (small_b (by omega) (by omega) (by decide)), hK _ _ ⟨rfl, _, rfl, m.1, by omega⟩⟩
  rintro _ _ ⟨rfl, e, rfl, e1, e2⟩
  walk_at "z0"
  exact ⟨small_b (by omega) (by omega) (by decide), mul_k (small_b (by omega) (by omega) (by decide)) (small_b (by omega) (by omega) (by decide)), small_b (by omega) (by omega) (by decide), hb, q2 _ (mod_rng hb).1 (mod_rng hb).2⟩
theorem pick3_k (h : T "" "_law_pick" = Option.some ⟨2, 2, d_pick3⟩) (ht : T "" "_law_draw" = Option.some ⟨2, 4, d_draw3⟩) {s n p : Nat} {xs : List V} (hs : Srd H s n) (hn : n < 2 ^ 90) (hp : items H (.ref p) = Option.some xs) (ne : p ≠ s) (h0 : 0 < xs.length) (h1 : xs.length < 2 ^ 90)
    (q : ∀ v o, v ∈ xs → Srd (upd H s o) s (n + 1) → Q v (upd H s o)) : callK T (k + 2) "" "_law_pick" [.ref s, .ref p] H Q E := by
  refine call_k h rfl ?_
  unfold d_pick3
  walk_at "z0"
  refine ⟨_, by rw [← items_r]; exact hp, ?_⟩
  refine draw3_k ht hs hn (by omega) (by omega) fun d o d0 d1 hs2 => ?_
  have hd : d.toNat < xs.length := by omega
  rw [items_r] at hp
  have : itemsO (upd H s o p) = Option.some xs := by rw [upd_ne ne]; exact hp
  rw [this]
  walk_at "z"
end
end Z

/-! ZR: contracts of the program's own checks (text with raises). -/
namespace Z
def r_is_integer : TS :=
  (Z.ret (Z.andv (Z.isi (Z.var 0) ["int"]) (Z.notv (Z.isi (Z.var 0) ["bool"]))))
def r_is_between : TS :=
  (Z.ret (Z.andv (Z.callf "is_integer" 1 [.inl 0] (Z.acons (Z.var 0) Z.anil)) (Z.chain .le .le (Z.var 1) (Z.var 0) (Z.var 2))))
def r_require_keys : TS :=
  (Z.seq (Z.ifs (Z.tor (Z.tnot (Z.tt (Z.isi (Z.var 0) ["list", "tuple"]))) (Z.tt (Z.cmp .gt (Z.blt Z.bLen (Z.acons (Z.var 0) Z.anil)) (Z.var 1)))) (Z.rais "InvalidKeys" "index" (Z.neg (Z.cst (.int 1))))
  Z.skip)
  (Z.fore2 (Z.ienum (Z.var 0)) (Z.gcons (Z.gname 2) (Z.gcons (Z.gname 3) Z.gnil)) (Z.ifs (Z.tnot (Z.tt (Z.callf "is_integer" 1 [.inl 0] (Z.acons (Z.var 3) Z.anil)))) (Z.rais "InvalidKeys" "index" (Z.var 2))
  Z.skip)))
def r_require_number : TS :=
  (Z.ifs (Z.tnot (Z.tt (Z.callf "is_between" 3 [.inl 0, .inl 1, .inl 2] (Z.acons (Z.var 1) (Z.acons (Z.var 2) (Z.acons (Z.var 3) Z.anil)))))) (Z.rais "InvalidNumber" "name" (Z.var 0))
  Z.skip)
section
variable {T : String → String → Option Def} {k : Nat} {H : Heap} {Q : VK} {E : EK}
/-- all stands, but for errors' fields -/
def FrX (H H' : Heap) : Prop := ∀ q o, H q = some o → (∀ fs, o ≠ .xd fs) → H' q = some o
theorem FrX.refl (H : Heap) : FrX H H := fun _ _ h _ => h
theorem FrX.trans {H H1 H2 : Heap} (a : FrX H H1) (b : FrX H1 H2) : FrX H H2 := fun q o h n => b q o (a q o h n) n
theorem FrX.xd {H : Heap} {dd : Nat} {fs : List (String × V)} (h : xfree H dd) : FrX H (upd H dd (.xd fs)) := fun q o e n => by
  rw [upd_ne fun z => ?_]
  · exact e
  · subst z
    rcases h with h | ⟨gs, h⟩
    · rw [h] at e; cases e
    · rw [h] at e
      cases e
      exact n _ rfl
theorem FrX.of {H H' : Heap} (f : Fr [] H H') : FrX H H' := fun q o e _ => f q o e (by simp)
/-- is the value a whole number -/
def isI : V → Bool
  | .int _ => true
  | _ => false
theorem isInt_k (h : T "" "is_integer" = some ⟨1, 1, r_is_integer⟩) {v : V} (hv : (tyOf H v).isSome = true) (q : Q (.bl (isI v)) H) : callK T (k + 1) "" "is_integer" [v] H Q E := by
  refine call_k h rfl ?_
  unfold r_is_integer
  cases v with
  | int i => walk_at "z"; exact q
  | bl b => walk_at "z"; exact q
  | non => walk_at "z"; exact q
  | str s => walk_at "z"; exact q
  | fn x => cases hv
  | cls x => cases hv
  | ty x => cases hv
  | ref a =>
    have e : isI (.ref a) = false := rfl
    rw [e] at q
    obtain ⟨t, ht⟩ := Option.isSome_iff_exists.mp hv
    have hn : subT t "int" = false := by
      rw [tyOf_r] at ht
      unfold tyO at ht
      split at ht <;> cases ht <;> decide
    have hi : isTy H ["int"] (.ref a) = some false := by
      unfold isTy
      rw [ht]
      show some (subT t "int" || false) = _
      rw [hn]
      rfl
    exact ⟨false, hi, false, rfl, q⟩
def inR (lo hi : Int) : V → Bool
  | .int i => decide (lo ≤ i) && decide (i ≤ hi)
  | _ => false
theorem between_k (h : T "" "is_between" = some ⟨3, 3, r_is_between⟩) (hi : T "" "is_integer" = some ⟨1, 1, r_is_integer⟩) {v : V} {lo hi : Int} (hv : (tyOf H v).isSome = true) (q : Q (.bl (inR lo hi v)) H) : callK T (k + 2) "" "is_between" [v, .int lo, .int hi] H Q E := by
  refine call_k h rfl ?_
  unfold r_is_between
  walk_at "z0"
  refine isInt_k (by assumption) hv ?_
  cases v with
  | int i =>
    have e : isI (.int i) = true := rfl
    rw [e]
    walk_at "z0"
    have q : Q (.bl (decide (lo ≤ i) && decide (i ≤ hi))) H := q
    by_cases h1 : lo ≤ i
    · simpa [h1] using q
    · simpa [h1] using q
  | bl b => exact .inl ⟨rfl, q⟩
  | non => exact .inl ⟨rfl, q⟩
  | str s => exact .inl ⟨rfl, q⟩
  | fn x => exact .inl ⟨rfl, q⟩
  | cls x => exact .inl ⟨rfl, q⟩
  | ty x => exact .inl ⟨rfl, q⟩
  | ref a => exact .inl ⟨rfl, q⟩
/-- in its bounds it is let by, else it is told of by its name -/
theorem number_k (h : T "" "require_number" = some ⟨4, 4, r_require_number⟩) (hb : T "" "is_between" = some ⟨3, 3, r_is_between⟩) (hi : T "" "is_integer" = some ⟨1, 1, r_is_integer⟩) {nm v : V} {lo hi : Int} (hv : (tyOf H v).isSome = true)
    (q : inR lo hi v = true → Q .non H) (e : inR lo hi v = false → E "InvalidNumber" [("name", nm)] H) : callK T (k + 3) "" "require_number" [nm, v, .int lo, .int hi] H Q E := by
  refine call_k h rfl ?_
  unfold r_require_number
  walk_at "z0"
  refine between_k hb (by assumption) hv ?_
  cases z : inR lo hi v with
  | true =>
    walk_at "z0"
    exact q z
  | false =>
    walk_at "z0"
    exact e z
end
end Z

/-! ZH: the honest asker, and items put into their places. -/
namespace Z
def h_init (cs : List String) : TS :=
  (Z.par 2 (Z.gcons (Z.gfld cs (Z.var 0) "marks") (Z.gcons (Z.gfld cs (Z.var 0) "log") Z.gnil)) (Z.acons (Z.blt Z.bList (Z.acons (Z.var 1) Z.anil)) (Z.acons (Z.lstl Z.anil) Z.anil)))
def h_less : TS :=
  (Z.seq (Z.asg (Z.gname 3) (Z.cmp .lt (Z.ix (Z.fld (Z.var 0) "marks") (Z.var 1)) (Z.ix (Z.fld (Z.var 0) "marks") (Z.var 2))))
  (Z.seq (Z.drop (Z.bmt Z.isL Z.mAppend (Z.fld (Z.var 0) "log") (Z.acons (Z.tupl (Z.acons (Z.tupl (Z.acons (Z.var 1) (Z.acons (Z.var 2) Z.anil))) (Z.acons (Z.var 3) Z.anil))) Z.anil)))
  (Z.ret (Z.var 3))))
def h_place_one (cs : List String) : TS :=
  (Z.seq (Z.par 3 (Z.gcons (Z.gname 4) (Z.gcons (Z.gname 5) (Z.gcons (Z.gname 6) Z.gnil))) (Z.acons (Z.ix (Z.var 0) (Z.bin .add (Z.var 1) (Z.var 2))) (Z.acons (Z.cst (.int 0)) (Z.acons (Z.var 2) Z.anil))))
  (Z.seq (Z.whl (Z.tt (Z.cmp .lt (Z.var 5) (Z.var 6))) (Z.seq (Z.asg (Z.gname 7) (Z.bin .fdiv (Z.bin .add (Z.var 5) (Z.var 6)) (Z.cst (.int 2))))
  (Z.ifs (Z.tt (Z.meth cs (Z.var 3) "less" 2 [.inl 0, .inl 1, .inl 2] (Z.acons (Z.var 4) (Z.acons (Z.ix (Z.var 0) (Z.bin .add (Z.var 1) (Z.var 7))) Z.anil)))) (Z.asg (Z.gname 6) (Z.var 7))
  (Z.asg (Z.gname 5) (Z.bin .add (Z.var 7) (Z.cst (.int 1)))))))
  (Z.asg (Z.gslc (Z.var 0) (Z.bin .add (Z.var 1) (Z.var 5)) (Z.bin .add (Z.bin .add (Z.var 1) (Z.var 2)) (Z.cst (.int 1)))) (Z.lstl (Z.acons (Z.var 4) (Z.astar (Z.slc (Z.var 0) (Z.pso (Z.bin .add (Z.var 1) (Z.var 5))) (Z.pso (Z.bin .add (Z.var 1) (Z.var 2)))) Z.anil))))))
def h_place_all : TS :=
  (Z.fore (Z.irng2 (Z.acons (Z.blt Z.bMax2 (Z.acons (Z.cst (.int 1)) (Z.acons (Z.var 3) Z.anil))) (Z.acons (Z.bin .sub (Z.var 2) (Z.var 1)) Z.anil))) (Z.gname 5) (Z.drop (Z.callf "place_one" 4 [.inl 0, .inl 1, .inl 2, .inl 3] (Z.acons (Z.var 0) (Z.acons (Z.var 1) (Z.acons (Z.var 5) (Z.acons (Z.var 4) Z.anil)))))))
def h_placed : TS :=
  (Z.seq (Z.drop (Z.callf "require_keys" 2 [.inl 0, .inl 1] (Z.acons (Z.var 0) (Z.acons (Z.cst (.int 64)) Z.anil))))
  (Z.seq (Z.drop (Z.callf "require_number" 4 [.inl 0, .inl 1, .inl 2, .inl 3] (Z.acons (Z.cst (.str [114, 101, 97, 100, 121])) (Z.acons (Z.var 1) (Z.acons (Z.cst (.int 0)) (Z.acons (Z.blt Z.bLen (Z.acons (Z.var 0) Z.anil)) Z.anil))))))
  (Z.seq (Z.par 2 (Z.gcons (Z.gname 2) (Z.gcons (Z.gname 3) Z.gnil)) (Z.acons (Z.lrng1 (Z.blt Z.bLen (Z.acons (Z.var 0) Z.anil))) (Z.acons (Z.make "Honest" 1 [.inl 0, .inl 1] (Z.acons (Z.var 0) Z.anil)) Z.anil)))
  (Z.seq (Z.drop (Z.callf "place_all" 5 [.inl 0, .inl 1, .inl 2, .inl 3, .inl 4] (Z.acons (Z.var 2) (Z.acons (Z.cst (.int 0)) (Z.acons (Z.blt Z.bLen (Z.acons (Z.var 2) Z.anil)) (Z.acons (Z.var 1) (Z.acons (Z.var 3) Z.anil)))))))
  (Z.ret (Z.tupl (Z.acons (Z.var 2) (Z.acons (Z.lcomp (Z.iseq (Z.fld (Z.var 3) "log")) [4, 5] (Z.gtup 2 (Z.gcons (Z.gname 4) (Z.gcons (Z.gname 5) Z.gnil))) Z.tyes (Z.var 4)) Z.anil))))))))
/-! ### what is put where, in plain terms -/
/-- a search by halves: the place that is found, the places that were looked at -/
def probe (ls : Nat → Bool) : Nat → Nat → Nat → Nat × List Nat
  | 0, lo, _ => (lo, [])
  | f + 1, lo, hi => if lo < hi then (if ls ((lo + hi) / 2) = true then ((probe ls f lo ((lo + hi) / 2)).1, (lo + hi) / 2 :: (probe ls f lo ((lo + hi) / 2)).2) else ((probe ls f ((lo + hi) / 2 + 1) hi).1, (lo + hi) / 2 :: (probe ls f ((lo + hi) / 2 + 1) hi).2)) else (lo, [])
/-- one item put into a row -/
def put1 (ls : Nat → Nat → Bool) (A : List Nat) (x : Nat) : List Nat × List (Nat × Nat) :=
  (A.take (probe (fun m => ls x (A.getD m 0)) A.length 0 A.length).1 ++ x :: A.drop (probe (fun m => ls x (A.getD m 0)) A.length 0 A.length).1, (probe (fun m => ls x (A.getD m 0)) A.length 0 A.length).2.map fun m => (x, A.getD m 0))
def putL (ls : Nat → Nat → Bool) : List Nat → List Nat → List Nat × List (Nat × Nat)
  | A, [] => (A, [])
  | A, x :: B => ((putL ls (put1 ls A x).1 B).1, (put1 ls A x).2 ++ (putL ls (put1 ls A x).1 B).2)
theorem probe_rng (ls : Nat → Bool) : ∀ (f lo hi : Nat), lo ≤ hi → lo ≤ (probe ls f lo hi).1 ∧ (probe ls f lo hi).1 ≤ hi ∧ ∀ m ∈ (probe ls f lo hi).2, lo ≤ m ∧ m < hi := by
  intro f
  induction f with
  | zero => intro lo hi h; exact ⟨Nat.le_refl _, h, fun m hm => nomatch hm⟩
  | succ f ih =>
    intro lo hi h
    unfold probe
    by_cases l : lo < hi
    · rw [if_pos l]
      by_cases t : ls ((lo + hi) / 2) = true
      · rw [if_pos t]
        obtain ⟨a, b, c⟩ := ih lo ((lo + hi) / 2) (by omega)
        refine ⟨a, by simp only; omega, fun m hm => ?_⟩
        rcases List.mem_cons.mp hm with rfl | hm
        · omega
        · have := c m hm; omega
      · rw [if_neg t]
        obtain ⟨a, b, c⟩ := ih ((lo + hi) / 2 + 1) hi (by omega)
        refine ⟨by simp only; omega, b, fun m hm => ?_⟩
        rcases List.mem_cons.mp hm with rfl | hm
        · omega
        · have := c m hm; omega
    · rw [if_neg l]
      exact ⟨Nat.le_refl _, h, fun m hm => nomatch hm⟩
theorem probe_succ {ls : Nat → Bool} {f lo hi : Nat} (l : lo < hi) : probe ls (f + 1) lo hi = (if ls ((lo + hi) / 2) = true then ((probe ls f lo ((lo + hi) / 2)).1, (lo + hi) / 2 :: (probe ls f lo ((lo + hi) / 2)).2) else ((probe ls f ((lo + hi) / 2 + 1) hi).1, (lo + hi) / 2 :: (probe ls f ((lo + hi) / 2 + 1) hi).2)) := by
  show (if lo < hi then _ else _) = _
  rw [if_pos l]
theorem probe_end {ls : Nat → Bool} {f lo hi : Nat} (l : ¬ lo < hi) : probe ls f lo hi = (lo, []) := by
  cases f with
  | zero => rfl
  | succ f =>
    show (if lo < hi then _ else _) = _
    rw [if_neg l]
theorem put1_len (ls : Nat → Nat → Bool) (A : List Nat) (x : Nat) : (put1 ls A x).1.length = A.length + 1 := by
  have := probe_rng (fun m => ls x (A.getD m 0)) A.length 0 A.length (Nat.zero_le _)
  unfold put1
  simp only [List.length_append, List.length_take, List.length_cons, List.length_drop]
  omega
theorem put1_mem {ls : Nat → Nat → Bool} {A : List Nat} {x y : Nat} (h : y ∈ (put1 ls A x).1) : y = x ∨ y ∈ A := by
  unfold put1 at h
  rcases List.mem_append.mp h with h | h
  · exact .inr (List.mem_of_mem_take h)
  · rcases List.mem_cons.mp h with h | h
    · exact .inl h
    · exact .inr (List.mem_of_mem_drop h)
/-! ### slices within a list -/
theorem sIx_in {n d v : Nat} (h : v ≤ n) : sIx n d (some (v : Int)) = v := by
  show (if (v : Int) < 0 then ((v : Int) + (n : Int)).toNat else min (v : Int).toNat n) = v
  rw [if_neg (by omega)]
  omega
theorem cut_in {xs : List V} {l h : Nat} (a : l ≤ h) (b : h ≤ xs.length) : cutV xs (some (l : Int)) (some (h : Int)) = (xs.drop l).take (h - l) := by
  unfold cutV
  rw [sIx_in (Nat.le_trans a b), sIx_in b]
/-! ### the log -/
/-- questions with their answers, as they stand in a log -/
def LogE (H : Heap) : List Nat → List ((Nat × Nat) × Bool) → Prop
  | [], [] => True
  | e :: es, q :: qs => (∃ t, H e = some (.tup [.ref t, .bl q.2]) ∧ H t = some (.tup [.int q.1.1, .int q.1.2])) ∧ LogE H es qs
  | _, _ => False
/-- all tuples stay -/
def FrT (H H' : Heap) : Prop := ∀ p ys, H p = some (.tup ys) → H' p = some (.tup ys)
theorem FrT.refl (H : Heap) : FrT H H := fun _ _ h => h
theorem FrT.trans {H H1 H2 : Heap} (a : FrT H H1) (b : FrT H1 H2) : FrT H H2 := fun p ys h => b p ys (a p ys h)
theorem FrT.new {H : Heap} {p : Nat} {o : O} (h : H p = none) : FrT H (upd H p o) := fun _ _ e => upd_old e h
theorem FrT.chg {H : Heap} {p : Nat} {o : O} {xs : List V} (h : H p = some (.lst xs)) : FrT H (upd H p o) := fun q ys e => by
  rw [upd_ne fun z => by rw [z, h] at e; cases e]
  exact e
theorem FrT.of {H H' : Heap} (f : Fr [] H H') : FrT H H' := fun p ys h => f p _ h (by simp)
theorem LogE.fr {H H' : Heap} (f : FrT H H') : ∀ {es : List Nat} {qs : List ((Nat × Nat) × Bool)}, LogE H es qs → LogE H' es qs
  | [], [], _ => trivial
  | e :: es, q :: qs, ⟨⟨t, a, b⟩, r⟩ => ⟨⟨t, f _ _ a, f _ _ b⟩, LogE.fr f r⟩
  | [], _ :: _, h => nomatch h
  | _ :: _, [], h => nomatch h
theorem LogE.app {H : Heap} {e t : Nat} {q : (Nat × Nat) × Bool} (a : H e = some (.tup [.ref t, .bl q.2])) (b : H t = some (.tup [.int q.1.1, .int q.1.2])) : ∀ {es : List Nat} {qs : List ((Nat × Nat) × Bool)}, LogE H es qs → LogE H (es ++ [e]) (qs ++ [q])
  | [], [], _ => ⟨⟨t, a, b⟩, trivial⟩
  | x :: es, y :: qs, ⟨h, r⟩ => ⟨h, LogE.app a b r⟩
  | [], _ :: _, h => nomatch h
  | _ :: _, [], h => nomatch h
theorem LogE.len {H : Heap} : ∀ {es : List Nat} {qs : List ((Nat × Nat) × Bool)}, LogE H es qs → es.length = qs.length
  | [], [], _ => rfl
  | _ :: _, _ :: _, ⟨_, r⟩ => congrArg Nat.succ r.len
  | [], _ :: _, h => nomatch h
  | _ :: _, [], h => nomatch h
/-- an honest asker stands at a: its keys at mk, its log at lg -/
structure Hon (H : Heap) (a mk lg : Nat) (ns : List Int) (qs : List ((Nat × Nat) × Bool)) : Prop where
  at_ : H a = some (.ins "Honest" [("marks", .ref mk), ("log", .ref lg)])
  marks : H mk = some (.lst (ns.map .int))
  ne : mk ≠ lg
  log : ∃ es : List Nat, H lg = some (.lst (es.map V.ref)) ∧ LogE H es qs
theorem Hon.new {H : Heap} {a mk lg p : Nat} {ns : List Int} {qs : List ((Nat × Nat) × Bool)} {o : O} (h : Hon H a mk lg ns qs) (hp : H p = none) : Hon (upd H p o) a mk lg ns qs := by
  obtain ⟨h1, h2, h3, es, h4, h5⟩ := h
  exact ⟨upd_old h1 hp, upd_old h2 hp, h3, es, upd_old h4 hp, h5.fr (.new hp)⟩
/-- another list changes -/
theorem Hon.chg {H : Heap} {a mk lg p : Nat} {ns : List Int} {qs : List ((Nat × Nat) × Bool)} {o : O} {xs : List V} (h : Hon H a mk lg ns qs) (hp : H p = some (.lst xs)) (n1 : mk ≠ p) (n2 : lg ≠ p) : Hon (upd H p o) a mk lg ns qs := by
  obtain ⟨h1, h2, h3, es, h4, h5⟩ := h
  refine ⟨?_, ?_, h3, es, ?_, h5.fr (.chg hp)⟩
  · rw [upd_ne fun z => by rw [z, hp] at h1; cases h1]
    exact h1
  · rw [upd_ne n1]
    exact h2
  · rw [upd_ne n2]
    exact h4
/-- which key is less -/
def lsN (ns : List Int) (i j : Nat) : Bool := decide (ns.getD i 0 < ns.getD j 0)
section
variable {T : String → String → Option Def} {k : Nat} {H : Heap} {Q : VK} {E : EK}
theorem hon_less {a mk lg : Nat} {ns : List Int} {qs : List ((Nat × Nat) × Bool)} (h : T "Honest" "less" = some ⟨3, 4, h_less⟩) (hh : Hon H a mk lg ns qs) {i j : Nat} (hi : i < ns.length) (hj : j < ns.length) (hq : qs.length < line)
    (q : ∀ H', Hon H' a mk lg ns (qs ++ [((i, j), lsN ns i j)]) → Fr [lg] H H' → FrT H H' → Q (.bl (lsN ns i j)) H') : callK T (k + 1) "Honest" "less" [.ref a, .int i, .int j] H Q E := by
  refine call_k h rfl ?_
  unfold h_less
  obtain ⟨h1, h2, h3, es, h4, h5⟩ := hh
  have ei : (ns.map V.int)[i]? = some (.int (ns.getD i 0)) := by
    rw [List.getElem?_map, List.getElem?_eq_getElem hi]
    simp [List.getD, List.getElem?_eq_getElem hi]
  have ej : (ns.map V.int)[j]? = some (.int (ns.getD j 0)) := by
    rw [List.getElem?_map, List.getElem?_eq_getElem hj]
    simp [List.getD, List.getElem?_eq_getElem hj]
  refine asg_k (fun v H1 => H = H1 ∧ v = .bl (lsN ns i j)) (fun K hK => ?_) ?_
  · simp only [cmp, ix, fld, var, start, Z.get]
    refine ⟨a, _, _, _, rfl, h1, rfl, _, i, .int (ns.getD i 0), items_l h2, rfl, ?_, a, _, _, _, rfl, h1, rfl, _, j, .int (ns.getD j 0), items_l h2, rfl, ?_, ?_⟩
    · rw [atI_lt (by omega) (by simp; omega)]
      exact ei
    · rw [atI_lt (by omega) (by simp; omega)]
      exact ej
    · exact hK _ _ ⟨rfl, rfl⟩
  rintro _ _ ⟨rfl, rfl⟩
  generalize hb : lsN ns i j = b at *
  refine seq_k (fun σ1 H' => σ1 = [some (.ref a), some (.int i), some (.int j), some (.bl b)] ∧ Hon H' a mk lg ns (qs ++ [((i, j), b)]) ∧ Fr [lg] H H' ∧ FrT H H') (fun K hK => ?_) ?_
  · simp only [drop, bmt, fld, acons, anil, tupl, var, start, put, Z.get]
    refine ⟨a, _, _, .ref lg, rfl, h1, rfl, ⟨_, litems_l h4⟩, (by show 2 ≤ line; decide), fun p np => ⟨(by show 2 ≤ line; decide), fun e ne => ?_⟩⟩
    have g1 := upd_old (o' := .tup [.ref p, .bl b]) (upd_old (o' := .tup [.int i, .int j]) h4 np) ne
    refine ⟨lg, es.map V.ref, .ref e, rfl, rfl, g1, by rw [List.length_map, h5.len]; exact hq, hK _ _ ⟨rfl, ?_, ?_, ?_⟩⟩
    · have f : FrT H (upd (upd H p (.tup [.int i, .int j])) e (.tup [.ref p, .bl b])) := (FrT.new np).trans (FrT.new ne)
      refine ⟨?_, ?_, h3, es ++ [e], ?_, ?_⟩
      · rw [upd_ne fun z => by rw [z, h4] at h1; cases h1]
        exact upd_old (upd_old h1 np) ne
      · rw [upd_ne h3]
        exact upd_old (upd_old h2 np) ne
      · rw [upd_same]
        simp
      · refine LogE.app (t := p) ?_ ?_ ((h5.fr f).fr (.chg g1))
        · rw [upd_ne fun z => by rw [← z] at g1; rw [upd_same] at g1; cases g1]
          exact upd_same
        · have gp : upd (upd H p (.tup [.int i, .int j])) e (.tup [.ref p, .bl b]) p = some (.tup [.int i, .int j]) := upd_old upd_same ne
          rw [upd_ne fun z => by rw [← z, gp] at g1; cases g1]
          exact gp
    · exact ((Fr.new np).trans (Fr.new ne)).trans (Fr.chg (by simp))
    · exact ((FrT.new np).trans (FrT.new ne)).trans (FrT.chg g1)
  rintro _ H' ⟨rfl, a1, a2, a3⟩
  walk_at "z0"
  exact q H' a1 a2 a3
/-- a list of places -/
abbrev nats (xs : List Nat) : List V := xs.map fun n : Nat => V.int n
theorem nats_get {xs : List Nat} {i : Nat} (h : i < xs.length) : (nats xs)[i]? = some (.int (xs.getD i 0)) := by
  show (xs.map _)[i]? = _
  rw [List.getElem?_map, List.getElem?_eq_getElem h]
  simp [List.getD, List.getElem?_eq_getElem h]
theorem getD_app {A B : List Nat} {m : Nat} (h : m < A.length) : (A ++ B).getD m 0 = A.getD m 0 := by
  simp [List.getD, List.getElem?_append_left h]
theorem getD_mem {A : List Nat} {m : Nat} (h : m < A.length) : A.getD m 0 ∈ A := by
  rw [List.getD, List.getElem?_eq_getElem h]
  exact List.getElem_mem h
/-- questions with their honest answers -/
abbrev ans (ns : List Int) (ps : List (Nat × Nat)) : List ((Nat × Nat) × Bool) := ps.map fun p => (p, lsN ns p.1 p.2)
theorem place_one_k {cs : List String} (hc : "Honest" ∈ cs) (h : T "" "place_one" = some ⟨4, 8, h_place_one cs⟩) (hl : T "Honest" "less" = some ⟨3, 4, h_less⟩) {a mk lg r : Nat} {ns : List Int} {qs : List ((Nat × Nat) × Bool)} {A B : List Nat} {x : Nat} (hh : Hon H a mk lg ns qs)
    (hr : H r = some (.lst (nats (A ++ x :: B)))) (n1 : mk ≠ r) (n2 : lg ≠ r) (bd : ∀ y ∈ A ++ x :: B, y < ns.length) (hq : qs.length + A.length < line) (hll : (A ++ x :: B).length + A.length + 1 ≤ line)
    (q : ∀ H', Hon H' a mk lg ns (qs ++ ans ns (put1 (lsN ns) A x).2) → H' r = some (.lst (nats ((put1 (lsN ns) A x).1 ++ B))) → Fr [r, lg] H H' → FrT H H' → Q .non H') : callK T (k + 2) "" "place_one" [.ref r, .int 0, .int A.length, .ref a] H Q E := by
  refine call_k h rfl ?_
  unfold h_place_one
  have lr : A.length < (A ++ x :: B).length := by simp
  have gx : (A ++ x :: B).getD A.length 0 = x := by simp [List.getD]
  refine seq_k (fun σ1 H1 => H = H1 ∧ σ1 = [some (.ref r), some (.int 0), some (.int A.length), some (.ref a), some (.int x), some (.int 0), some (.int A.length), none]) (fun K hK => ?_) ?_
  · simp only [par, acons, anil, ix, bin, var, cst, start, Z.get, gcons, gnil, gname]
    simp [Z.get, opr_add_ii]
    refine ⟨_, items_l hr, .int x, ?_, _, _, ⟨rfl, rfl⟩, _, _, rfl, _, _, rfl, rfl, hK _ _ ⟨rfl, rfl⟩⟩
    rw [atI_lt (by omega) (by simp; omega), Int.toNat_natCast, nats_get lr, gx]
  rintro _ _ ⟨rfl, rfl⟩
  generalize eL : (fun m => lsN ns x (A.getD m 0)) = L
  have eP : ∀ P2, put1 (lsN ns) A x = P2 → P2 = (A.take (probe L A.length 0 A.length).1 ++ x :: A.drop (probe L A.length 0 A.length).1, (probe L A.length 0 A.length).2.map fun m => (x, A.getD m 0)) := by
    intro P2 e
    rw [← e, ← eL]
    rfl
  refine seq_k (fun σ1 H1 => ∃ y6 y7 : Option V, σ1 = [some (.ref r), some (.int 0), some (.int A.length), some (.ref a), some (.int x), some (.int (probe L A.length 0 A.length).1), y6, y7] ∧ Hon H1 a mk lg ns (qs ++ ans ns ((probe L A.length 0 A.length).2.map fun m => (x, A.getD m 0))) ∧ H1 r = some (.lst (nats (A ++ x :: B))) ∧ Fr [lg] H H1 ∧ FrT H H1) (fun K hK => ?_) ?_
  · refine whl_k (n := A.length) (fun f σ2 H2 => ∃ (lo hi : Nat) (done : List Nat) (y7 : Option V), hi - lo ≤ f ∧ lo ≤ hi ∧ hi ≤ A.length ∧ done.length + f ≤ A.length ∧ probe L A.length 0 A.length = ((probe L f lo hi).1, done ++ (probe L f lo hi).2) ∧ σ2 = [some (.ref r), some (.int 0), some (.int A.length), some (.ref a), some (.int x), some (.int (lo : Nat)), some (.int (hi : Nat)), y7] ∧
      Hon H2 a mk lg ns (qs ++ ans ns (done.map fun m => (x, A.getD m 0))) ∧ H2 r = some (.lst (nats (A ++ x :: B))) ∧ Fr [lg] H H2 ∧ FrT H H2)
      ⟨0, A.length, [], none, by omega, by omega, by omega, by simp, rfl, rfl, by simpa using hh, hr, .refl _ _, .refl _⟩ ?_
    rintro f σ2 H2 ⟨lo, hi, done, y7, h1, h2, h3, h4, h5, rfl, hh2, hr2, f2, t2⟩ M hM
    simp only [tt, cmp, var, Z.get, cmpr_lt, truth_b]
    refine ⟨_, rfl, ?_⟩
    by_cases l : lo < hi
    · rw [if_pos (by simpa using l)]
      obtain ⟨f', rfl⟩ : ∃ f', f = f' + 1 := ⟨f - 1, by omega⟩
      obtain ⟨mid, em⟩ : ∃ mid, (lo + hi) / 2 = mid := ⟨_, rfl⟩
      have m1 : lo ≤ mid := by omega
      have m2 : mid < hi := by omega
      have em2 : ((lo : Int) + hi) / 2 = (mid : Int) := by omega
      refine asg_k (fun v H3 => H2 = H3 ∧ v = .int mid) (fun K hK => ?_) ?_
      · simp only [bin, var, cst, Z.get, opr_add_ii, opr_fdiv]
        exact ⟨by decide, small_b (by decide) (by decide) (by decide), by rw [em2]; exact hK _ _ ⟨rfl, rfl⟩⟩
      rintro _ _ ⟨rfl, rfl⟩
      simp only [put, ifs, tt, meth, var, Z.get, acons, anil, ix, bin, opr_add_ii]
      refine ⟨a, "Honest", _, rfl, hh2.at_, hc, rfl, _, (mid : Int), .int (A.getD mid 0 : Nat), items_l hr2, by simp, ?_, rfl, ?_⟩
      · rw [atI_lt (by omega) (by simp; omega), Int.toNat_natCast, nats_get (by omega), getD_app (by omega)]
      · have mx : x < ns.length := bd x (by simp)
        have my : A.getD mid 0 < ns.length := bd _ (List.mem_append_left _ (getD_mem (by omega)))
        refine hon_less hl hh2 mx my (by simp; omega) fun H3 hh3 f3 t3 => ?_
        have hr3 := f3 r _ hr2 (by simpa using Ne.symm n2)
        have eb : L mid = lsN ns x (A.getD mid 0) := by rw [← eL]
        have hh4 : Hon H3 a mk lg ns (qs ++ ans ns ((done ++ [mid]).map fun m => (x, A.getD m 0))) := by
          simpa using hh3
        rw [probe_succ l, em] at h5
        refine ⟨_, rfl, ?_⟩
        rw [← eb]
        by_cases lb : L mid = true
        · rw [if_pos lb]
          rw [if_pos lb] at h5
          simp only [asg, var, Z.get, gname, put]
          exact hM f' _ _ (by omega) ⟨lo, mid, done ++ [mid], _, by omega, by omega, by omega, by simp; omega, by rw [h5]; simp, rfl, hh4, hr3, f2.trans f3, t2.trans t3⟩
        · rw [if_neg lb]
          rw [if_neg lb] at h5
          simp only [asg, bin, cst, var, Z.get, gname, put, opr_add_ii]
          exact hM f' _ _ (by omega) ⟨mid + 1, hi, done ++ [mid], _, by omega, by omega, by omega, by simp; omega, by rw [h5]; simp, rfl, hh4, hr3, f2.trans f3, t2.trans t3⟩
    · rw [if_neg (by simpa using l)]
      rw [probe_end l] at h5
      have e1 : (probe L A.length 0 A.length).1 = lo := by rw [h5]
      have e2 : (probe L A.length 0 A.length).2 = done := by rw [h5]; simp
      exact hK _ _ ⟨some (.int hi), y7, by rw [e1], by rw [e2]; exact hh2, hr2, f2, t2⟩
  rintro _ H1 ⟨y6, y7, rfl, hh1, hr1, f1, t1⟩
  have pr := probe_rng L A.length 0 A.length (Nat.zero_le _)
  have eP2 := eP _ rfl
  have pr2 := pr.2.1
  generalize hp : (probe L A.length 0 A.length).1 = p at *
  generalize (probe L A.length 0 A.length).2 = ms at *
  simp only [asg, lstl, acons, anil, astar, slc, pso, bin, var, cst, Z.get, opr_add_ii]
  refine ⟨(p : Int), by simp, (A.length : Int), by simp, .inl ⟨_, litems_l hr1, fun u nu => ?_⟩⟩
  have ec : cutV (nats (A ++ x :: B)) (some (p : Int)) (some (A.length : Int)) = nats (A.drop p) := by
    rw [cut_in pr.2.1 (by simp)]
    show ((List.map _ (A ++ x :: B)).drop p).take _ = _
    rw [← List.map_drop, ← List.map_take, List.drop_append_of_le_length pr.2.1, List.take_append_of_le_length (by simp), List.take_of_length_le (by simp)]
  rw [ec]
  refine ⟨_, items_l upd_same, ?_, fun w nw => ?_⟩
  · simp only [List.length_cons, List.length_append, List.length_map, List.length_drop, List.length_nil] at hll ⊢
    omega
  · have hr2 := upd_old (o' := .lst (V.int x :: (nats (A.drop p) ++ []))) (upd_old (o' := .lst (nats (A.drop p))) hr1 nu) nw
    have hw : upd (upd H1 u (.lst (nats (A.drop p)))) w (.lst (V.int x :: (nats (A.drop p) ++ []))) w = some (.lst (V.int x :: (nats (A.drop p) ++ []))) := upd_same
    have hh2 := (hh1.new (o := .lst (nats (A.drop p))) nu).new (o := .lst (V.int x :: (nats (A.drop p) ++ []))) nw
    have f2 : Fr [r, lg] H (upd (upd H1 u (.lst (nats (A.drop p)))) w (.lst (V.int x :: (nats (A.drop p) ++ [])))) := ((f1.mono (by simp)).trans (Fr.new nu)).trans (Fr.new nw)
    have t2 : FrT H (upd (upd H1 u (.lst (nats (A.drop p)))) w (.lst (V.int x :: (nats (A.drop p) ++ [])))) := (t1.trans (FrT.new nu)).trans (FrT.new nw)
    have rw' : r ≠ w := fun z => by
      have e := upd_old (o' := .lst (nats (A.drop p))) hr1 nu
      rw [z, nw] at e
      cases e
    generalize upd (upd H1 u (.lst (nats (A.drop p)))) w (.lst (V.int x :: (nats (A.drop p) ++ []))) = H3 at *
    simp only [gslc, bin, var, cst, Z.get, opr_add_ii]
    refine ⟨r, w, _, _, (p : Int), (A.length : Int) + 1, rfl, rfl, by simp, by simp, hr2, hw, rw', by omega, by omega, by simp; omega, ?_, ?_⟩
    · simp only [List.length_cons, List.length_append, List.length_map, List.length_drop, List.length_nil] at hll ⊢
      omega
    · have e1 : (nats (A ++ x :: B)).take (p : Int).toNat ++ (V.int x :: (nats (A.drop p) ++ [])) ++ (nats (A ++ x :: B)).drop ((A.length : Int) + 1).toNat = nats (A.take p ++ x :: A.drop p ++ B) := by
        rw [show ((A.length : Int) + 1).toNat = A.length + 1 by omega, Int.toNat_natCast]
        simp only [nats, List.append_nil, ← List.map_drop, ← List.map_take]
        have e2 : (A ++ x :: B).drop (A.length + 1) = B := by simp [List.drop_append]
        rw [List.take_append_of_le_length pr.2.1, e2]
        simp
      rw [e1]
      rw [eP2] at q
      refine q _ (hh2.chg hr2 n1 n2) (by rw [upd_same]) (f2.trans (Fr.chg (by simp))) (t2.trans (FrT.chg hr2))
theorem put_len (ls : Nat → Nat → Bool) : ∀ (B A : List Nat), (putL ls A B).1.length = A.length + B.length
  | [], A => rfl
  | x :: B, A => by
    show (putL ls (put1 ls A x).1 B).1.length = _
    rw [put_len ls B, put1_len]
    simp only [List.length_cons]
    omega
theorem probe_cnt (ls : Nat → Bool) : ∀ (f lo hi : Nat), (probe ls f lo hi).2.length ≤ f
  | 0, lo, hi => Nat.le_refl _
  | f + 1, lo, hi => by
    by_cases l : lo < hi
    · rw [probe_succ l]
      split
      · exact Nat.succ_le_succ (probe_cnt ls f _ _)
      · exact Nat.succ_le_succ (probe_cnt ls f _ _)
    · rw [probe_end l]
      exact Nat.zero_le _
theorem put1_cnt (ls : Nat → Nat → Bool) (A : List Nat) (x : Nat) : (put1 ls A x).2.length ≤ A.length := by
  unfold put1
  rw [List.length_map]
  exact probe_cnt _ _ _ _
theorem place_all_k {cs : List String} (hc : "Honest" ∈ cs) (h : T "" "place_all" = some ⟨5, 6, h_place_all⟩) (ho : T "" "place_one" = some ⟨4, 8, h_place_one cs⟩) (hl : T "Honest" "less" = some ⟨3, 4, h_less⟩) {a mk lg r rd : Nat} {ns : List Int} {qs : List ((Nat × Nat) × Bool)} {A B : List Nat} (hh : Hon H a mk lg ns qs)
    (hr : H r = some (.lst (nats (A ++ B)))) (n1 : mk ≠ r) (n2 : lg ≠ r) (bd : ∀ y ∈ A ++ B, y < ns.length) (hq : qs.length ≤ 10000) (hll : (A ++ B).length ≤ 2000) (hA : A.length = max 1 rd ∨ (B = [] ∧ (A ++ B).length ≤ max 1 rd)) (hrd : rd ≤ 2000)
    (q : ∀ H', Hon H' a mk lg ns (qs ++ ans ns (putL (lsN ns) A B).2) → H' r = some (.lst (nats (putL (lsN ns) A B).1)) → Fr [r, lg] H H' → FrT H H' → Q .non H') : callK T (k + 3) "" "place_all" [.ref r, .int 0, .int ((A ++ B).length : Nat), .int rd, .ref a] H Q E := by
  refine call_k h rfl ?_
  unfold h_place_all
  simp only [fore, irng2, acons, anil, blt, bMax2, bin, cst, var, start, Z.get, opr_sub_ii]
  refine ⟨1, rd, rfl, _, _, rfl, ?_, ?_, ?_⟩
  · unfold big
    omega
  · unfold big
    simp only [List.length_append] at hll ⊢
    omega
  have eB : (((A ++ B).length : Nat) - 0 - max (1 : Int) rd).toNat = B.length := by
    rcases hA with hA | ⟨rfl, hA⟩
    · simp only [List.length_append]
      omega
    · simp only [List.length_append, List.length_nil] at hA ⊢
      omega
  rw [eB]
  refine fori_k (fun j σ H2 => ∃ (A' : List Nat) (done : List (Nat × Nat)) (x : Option V), A'.length = A.length + j ∧ (∀ y ∈ A' ++ B.drop j, y < ns.length) ∧ putL (lsN ns) A B = ((putL (lsN ns) A' (B.drop j)).1, done ++ (putL (lsN ns) A' (B.drop j)).2) ∧ done.length ≤ j * 2000 ∧
    σ = [some (.ref r), some (.int 0), some (.int ((A ++ B).length : Nat)), some (.int rd), some (.ref a), x] ∧ Hon H2 a mk lg ns (qs ++ ans ns done) ∧ H2 r = some (.lst (nats (A' ++ B.drop j))) ∧ Fr [r, lg] H H2 ∧ FrT H H2)
    ⟨A, [], none, rfl, by simpa using bd, by simp, by simp, rfl, by simpa using hh, by simpa using hr, .refl _ _, .refl _⟩ (fun j v σ H2 hv g => ⟨trivial, fun K hK => ?_⟩) fun σ H2 g => ⟨trivial, ?_⟩
  · obtain ⟨A', done, y, e1, bd2, e2, e3, rfl, hh2, hr2, f2, t2⟩ := g
    obtain ⟨hk, rfl⟩ := rng_get hv
    have hA2 : A.length = max 1 rd := by
      rcases hA with hA | ⟨rfl, _⟩
      · exact hA
      · simp at hk
    obtain ⟨x, ex⟩ : ∃ x, B[j]? = some x := ⟨_, List.getElem?_eq_getElem hk⟩
    have ed : B.drop j = x :: B.drop (j + 1) := by
      rw [List.drop_eq_getElem_cons hk]
      rw [List.getElem?_eq_getElem hk] at ex
      injection ex with ex
      rw [ex]
    rw [ed] at e2 hr2 bd2
    simp only [gname, put, drop, callf, acons, anil, var, Z.get, perm]
    refine ⟨rfl, ?_⟩
    have ei : ((max (1 : Int) rd + j) : Int) = (A'.length : Nat) := by omega
    have lA : (A ++ B).length = A.length + B.length := by simp
    have lB : (B.drop (j + 1)).length = B.length - (j + 1) := by simp
    have ll : A'.length ≤ 2000 := by omega
    rw [ei]
    refine place_one_k hc ho hl hh2 hr2 n1 n2 bd2 ?_ ?_ fun H3 hh3 hr3 f3 t3 => hK _ _ ⟨(put1 (lsN ns) A' x).1, done ++ (put1 (lsN ns) A' x).2, _, ?_, ?_, ?_, ?_, rfl, ?_, hr3, f2.trans f3, t2.trans t3⟩
    · rw [List.length_append, List.length_map]
      have : j ≤ 2000 := by omega
      have : done.length ≤ 4000000 := Nat.le_trans e3 (Nat.mul_le_mul_right 2000 this)
      unfold line
      omega
    · rw [List.length_append, List.length_cons, lB]
      unfold line
      omega
    · rw [put1_len]
      omega
    · intro y hy
      rcases List.mem_append.mp hy with hy | hy
      · rcases put1_mem hy with rfl | hy
        · exact bd2 _ (by simp)
        · exact bd2 _ (List.mem_append_left _ hy)
      · exact bd2 _ (List.mem_append_right _ (List.mem_cons_of_mem _ hy))
    · rw [e2]
      show _ = ((putL (lsN ns) (put1 (lsN ns) A' x).1 _).1, _)
      simp [putL]
    · have := put1_cnt (lsN ns) A' x
      rw [List.length_append]
      omega
    · simpa using hh3
  · obtain ⟨A', done, y, e1, bd2, e2, e3, rfl, hh2, hr2, f2, t2⟩ := g
    rw [rng_len, List.drop_length] at e2 hr2
    have z : putL (lsN ns) A' [] = (A', []) := rfl
    rw [z] at e2
    refine q _ ?_ ?_ f2 t2
    · rw [e2, List.append_nil]
      exact hh2
    · rw [e2]
      simpa using hr2
theorem Fr.shut {S : List Nat} {H H1 H2 : Heap} (a : Fr [] H H1) (b : Fr S H1 H2) (n : ∀ q ∈ S, H q = none) : Fr [] H H2 := fun q o h _ => b q o (a q o h (by simp)) fun hq => by
  rw [n q hq] at h
  cases h
theorem init_k {cs : List String} (hc : "Honest" ∈ cs) (h : T "Honest" "__init__" = some ⟨2, 2, h_init cs⟩) {a kp : Nat} {ns : List Int} (ha : H a = some (.ins "Honest" [])) (hk : items H (.ref kp) = some (ns.map .int))
    (q : ∀ H' mk lg, Hon H' a mk lg ns [] → Fr [a] H H' → FrT H H' → H mk = none → H lg = none → Q .non H') : callK T (k + 1) "Honest" "__init__" [.ref a, .ref kp] H Q E := by
  refine call_k h rfl ?_
  unfold h_init
  simp only [par, acons, anil, blt, bList, lstl, var, start, Z.get]
  refine ⟨_, _, rfl, hk, fun mk nm => ⟨by decide, fun lg nl => ⟨rfl, ?_⟩⟩⟩
  have em := upd_old (o' := .lst []) (upd_same (H := H) (a := mk) (o := .lst (ns.map V.int))) nl
  have el : upd (upd H mk (.lst (ns.map V.int))) lg (.lst []) lg = some (.lst []) := upd_same
  have ea := upd_old (o' := .lst []) (upd_old (o' := .lst (ns.map V.int)) ha nm) nl
  have ne : mk ≠ lg := fun z => by rw [← z, upd_same] at nl; cases nl
  have nl2 : H lg = none := by
    rw [upd_ne (Ne.symm ne)] at nl
    exact nl
  have f : Fr [a] H (upd (upd H mk (.lst (ns.map V.int))) lg (.lst [])) := (Fr.new nm).trans (Fr.new nl)
  have t : FrT H (upd (upd H mk (.lst (ns.map V.int))) lg (.lst [])) := (FrT.new nm).trans (FrT.new nl)
  generalize upd (upd H mk (.lst (ns.map V.int))) lg (.lst []) = H2 at *
  simp only [gcons, gnil, gfld, var, Z.get]
  refine ⟨_, _, rfl, a, _, _, rfl, ea, hc, by simp, _, _, rfl, a, _, _, rfl, upd_same, hc, by simp [putF], rfl, ?_⟩
  have am : mk ≠ a := fun z => by rw [z, ha] at nm; cases nm
  have al : lg ≠ a := fun z => by rw [z, ha] at nl2; cases nl2
  have ft : ∀ (H3 : Heap) (fs fs' : List (String × V)), H3 a = some (.ins "Honest" fs) → FrT H3 (upd H3 a (.ins "Honest" fs')) := fun H3 fs fs' e q ys e2 => by
    rw [upd_ne fun z => by rw [z, e] at e2; cases e2]
    exact e2
  refine q _ mk lg ⟨upd_same, ?_, ne, [], ?_, trivial⟩ ((f.trans (Fr.chg (by simp))).trans (Fr.chg (by simp))) ((t.trans (ft _ _ _ ea)).trans (ft _ _ _ upd_same)) nm nl2
  · rw [upd_ne am, upd_ne am]
    exact em
  · rw [upd_ne al, upd_ne al]
    exact el
/-- questions, as tuples -/
def PairE (H : Heap) : List Nat → List (Nat × Nat) → Prop
  | [], [] => True
  | t :: ts, q :: qs => H t = some (.tup [.int q.1, .int q.2]) ∧ PairE H ts qs
  | _, _ => False
theorem PairE.fr {H H' : Heap} (f : FrT H H') : ∀ {es : List Nat} {qs : List (Nat × Nat)}, PairE H es qs → PairE H' es qs
  | [], [], _ => trivial
  | e :: es, q :: qs, ⟨a, r⟩ => ⟨f _ _ a, PairE.fr f r⟩
  | [], _ :: _, h => nomatch h
  | _ :: _, [], h => nomatch h
theorem PairE.len {H : Heap} : ∀ {es : List Nat} {qs : List (Nat × Nat)}, PairE H es qs → es.length = qs.length
  | [], [], _ => rfl
  | _ :: _, _ :: _, ⟨_, r⟩ => congrArg Nat.succ r.len
  | [], _ :: _, h => nomatch h
  | _ :: _, [], h => nomatch h
/-- [question for question, answer in log] -/
theorem questions_k {C : Cx} {σ : St} {R : List V → Heap → Prop} {st : Heap → Prop} {i j : Nat} (hst : st H) (hg : ∀ q b, Z.get (put (put (wipe σ [i, j]) i q) j b) i = some q) : ∀ {es : List Nat} {qs : List ((Nat × Nat) × Bool)} {acc : List V}, LogE H es qs → acc.length + es.length ≤ line →
    (∀ ts : List Nat, PairE H ts (qs.map (·.1)) → R (acc ++ ts.map V.ref) H) → lci st [i, j] (gtup 2 (gcons (gname i) (gcons (gname j) gnil))) tyes (var i) C σ R (es.map V.ref) acc H := by
  intro es
  induction es with
  | nil =>
    intro qs acc h _ r
    cases qs with
    | nil => exact ⟨hst, by simpa using r [] trivial⟩
    | cons => exact nomatch h
  | cons e es ih =>
    intro qs acc h hl r
    cases qs with
    | nil => exact nomatch h
    | cons q qs =>
      obtain ⟨⟨t, h1, h2⟩, h3⟩ := h
      have hl : acc.length + (es.length + 1) ≤ line := hl
      refine ⟨hst, _, titems_t h1, rfl, _, _, rfl, _, _, rfl, rfl, ?_⟩
      show (match Z.get (put (put (wipe σ [i, j]) i (V.ref t)) j (.bl q.2)) i with | some v => _ | none => False)
      rw [hg]
      refine ⟨by omega, ih h3 (by rw [List.length_append]; show acc.length + 1 + es.length ≤ line; omega) fun ts hp => ?_⟩
      have := r (t :: ts) ⟨h2, hp⟩
      simpa using this
/-- keys that are handed in -/
def KeysAt (H : Heap) (p : Nat) (ns : List Int) : Prop := H p = some (.lst (ns.map .int)) ∨ H p = some (.tup (ns.map .int))
theorem KeysAt.items {H : Heap} {p : Nat} {ns : List Int} (h : KeysAt H p ns) : items H (.ref p) = some (ns.map .int) := h.elim items_l items_t
theorem KeysAt.fr {H H' : Heap} {p : Nat} {ns : List Int} (h : KeysAt H p ns) {S : List Nat} (f : Fr S H H') (n : p ∉ S) : KeysAt H' p ns := h.elim (fun h => .inl (f p _ h n)) fun h => .inr (f p _ h n)
theorem enumV_get : ∀ (xs : List V) (j : Int) (i : Nat) (v : V × V), (enumV j xs)[i]? = some v → v.1 = .int (j + i) ∧ xs[i]? = some v.2
  | [], _, _, _, h => by cases h
  | x :: r, j, 0, v, h => by
    cases h
    exact ⟨by simp, rfl⟩
  | x :: r, j, i + 1, v, h => by
    obtain ⟨a, b⟩ := enumV_get r (j + 1) i v h
    refine ⟨?_, b⟩
    rw [a]
    congr 1
    omega
theorem upd_old' {H : Heap} {p a b : Nat} {o o' : O} {ns : List Int} (h : KeysAt H p ns) (ha : H a = none) (hb : upd H a o b = none) : KeysAt (upd (upd H a o) b o') p ns := h.elim (fun h => .inl (upd_old (upd_old h ha) hb)) fun h => .inr (upd_old (upd_old h ha) hb)
theorem keysOk_k (h : T "" "require_keys" = some ⟨2, 4, r_require_keys⟩) (hi : T "" "is_integer" = some ⟨1, 1, r_is_integer⟩) {p : Nat} {ns : List Int} {most : Int} (hp : KeysAt H p ns) (hl : ns.length ≤ most) (q : Q .non H) : callK T (k + 2) "" "require_keys" [.ref p, .int most] H Q E := by
  refine call_k h rfl ?_
  unfold r_require_keys
  have body : ∀ (C : Cx) (D : Ends) (st : Heap → Prop), C.call = callK T (k + 1) → st H → D.nx = (fun _ H' => Q .non H') → fori2 st (gcons (gname 2) (gcons (gname 3) gnil)) (ifs (tnot (tt (callf "is_integer" 1 [Sum.inl 0] (acons (var 3) anil)))) (rais "InvalidKeys" "index" (var 2)) skip) C D (enumV 0 (ns.map V.int)) [some (V.ref p), some (V.int most), none, none] H := by
    intro C D st hC hst hD
    refine fori2_k (fun i σ H2 => H = H2 ∧ ∃ x y, σ = [some (V.ref p), some (V.int most), x, y]) ⟨rfl, _, _, rfl⟩ (fun i v σ H2 hv h2 => ?_) fun σ H2 h2 => ?_
    · obtain ⟨rfl, x, y, rfl⟩ := h2
      refine ⟨hst, fun K hK => ?_⟩
      obtain ⟨e1, e2⟩ := enumV_get _ _ _ _ hv
      rw [List.getElem?_map] at e2
      obtain ⟨w, ew, e3⟩ := Option.map_eq_some_iff.mp e2
      obtain ⟨v1, v2⟩ := v
      simp only at e1 e2 e3
      subst e1 e3
      walk_at "z0"
      rw [hC]
      refine isInt_k hi rfl ?_
      exact .inr ⟨rfl, hK _ _ ⟨rfl, _, _, rfl⟩⟩
    · obtain ⟨rfl, _⟩ := h2
      rw [hD]
      exact ⟨hst, q⟩
  rcases hp with hp | hp
  · walk_at "z"
    rw [if_neg (by omega)]
    refine .inl ⟨ns.map .int, by rw [litems_l hp], body _ _ _ rfl (litems_l hp) rfl⟩
  · walk_at "z"
    rw [if_neg (by omega)]
    refine .inr ⟨ns.map .int, by rw [titems_t hp], body _ _ _ rfl (titems_t hp) rfl⟩
/-- what placed tells: the row, and the questions -/
def placedN (ns : List Int) (rd : Nat) : List Nat × List (Nat × Nat) := putL (lsN ns) ((List.range ns.length).take (max 1 rd)) ((List.range ns.length).drop (max 1 rd))
theorem put_cnt (ls : Nat → Nat → Bool) : ∀ (B A : List Nat), (putL ls A B).2.length ≤ B.length * (A.length + B.length)
  | [], A => Nat.zero_le _
  | x :: B, A => by
    have h1 := put1_cnt ls A x
    have h2 := put_cnt ls B (put1 ls A x).1
    rw [put1_len] at h2
    show ((put1 ls A x).2 ++ (putL ls (put1 ls A x).1 B).2).length ≤ _
    rw [List.length_append, List.length_cons, Nat.succ_mul]
    have e : A.length + 1 + B.length = A.length + (B.length + 1) := by omega
    rw [e] at h2
    omega
theorem placed_k {cs : List String} (hc : "Honest" ∈ cs) (h : T "" "placed" = some ⟨2, 6, h_placed⟩) (hrk : T "" "require_keys" = some ⟨2, 4, r_require_keys⟩) (hrn : T "" "require_number" = some ⟨4, 4, r_require_number⟩) (hib : T "" "is_between" = some ⟨3, 3, r_is_between⟩) (hii : T "" "is_integer" = some ⟨1, 1, r_is_integer⟩)
    (hin : T "Honest" "__init__" = some ⟨2, 2, h_init ["Honest"]⟩) (hpa : T "" "place_all" = some ⟨5, 6, h_place_all⟩) (ho : T "" "place_one" = some ⟨4, 8, h_place_one cs⟩) (hl : T "Honest" "less" = some ⟨3, 4, h_less⟩) {p rd : Nat} {ns : List Int} (hp : KeysAt H p ns) (h64 : ns.length ≤ 64) (hrd : rd ≤ ns.length)
    (q : ∀ H' t r ql ts, Fr [] H H' → H' t = some (.tup [.ref r, .ref ql]) → H' r = some (.lst (nats (placedN ns rd).1)) → H' ql = some (.lst (ts.map V.ref)) → PairE H' ts (placedN ns rd).2 → H t = none → H r = none → H ql = none → Q (.ref t) H') : callK T (k + 4) "" "placed" [.ref p, .int rd] H Q E := by
  refine call_k h rfl ?_
  unfold h_placed
  have it := hp.items
  refine seq_k (fun σ1 H1 => H = H1 ∧ σ1 = start 6 [.ref p, .int rd]) (fun K hK => ?_) ?_
  · simp only [drop, callf, acons, anil, var, cst, start, Z.get, perm]
    exact ⟨rfl, keysOk_k hrk hii hp (by omega) (hK _ _ ⟨rfl, rfl⟩)⟩
  rintro _ _ ⟨rfl, rfl⟩
  refine seq_k (fun σ1 H1 => H = H1 ∧ σ1 = start 6 [.ref p, .int rd]) (fun K hK => ?_) ?_
  · simp only [drop, callf, acons, anil, var, cst, start, Z.get, perm, blt, bLen]
    refine ⟨_, _, rfl, it, rfl, number_k hrn hib hii rfl (fun _ => hK _ _ ⟨rfl, rfl⟩) fun z => ?_⟩
    have z : (decide ((0 : Int) ≤ rd) && decide ((rd : Int) ≤ ((ns.map V.int).length : Nat))) = false := z
    simp at z
    omega
  rintro _ _ ⟨rfl, rfl⟩
  refine seq_k (fun σ1 H1 => ∃ r a mk lg, σ1 = [some (.ref p), some (.int rd), some (.ref r), some (.ref a), none, none] ∧ Hon H1 a mk lg ns [] ∧ H1 r = some (.lst (nats (List.range ns.length))) ∧ Fr [] H H1 ∧ H r = none ∧ H lg = none ∧ mk ≠ r ∧ lg ≠ r) (fun K hK => ?_) ?_
  · simp only [par, acons, anil, lrng1, blt, bLen, make, var, start, Z.get, perm]
    refine ⟨_, _, rfl, it, _, rfl, ?_, ?_, fun r nr => ⟨rfl, fun a na => ?_⟩⟩
    · simp only [List.length_map]
      unfold line
      omega
    · simp only [List.length_map]
      omega
    have er : ((List.range ((ns.map V.int).length : Int).toNat).map fun (k : Nat) => V.int k) = nats (List.range ns.length) := by simp
    rw [er] at na ⊢
    refine init_k (by simp) hin upd_same ((upd_old' hp nr na).items) fun H' mk lg hh f t nm nl => ⟨rfl, rfl, ?_⟩
    have h1 := upd_old (o' := .ins "Honest" []) (upd_same (H := H) (a := r) (o := .lst (nats (List.range ns.length)))) na
    have ra : r ≠ a := fun z => by rw [← z, upd_same] at na; cases na
    have na2 : H a = none := by rw [upd_ne (Ne.symm ra)] at na; exact na
    have rm : mk ≠ r := fun z => by rw [z, h1] at nm; cases nm
    have rl : lg ≠ r := fun z => by rw [z, h1] at nl; cases nl
    have nl2 : H lg = none := by
      have la : lg ≠ a := fun z => by rw [z, upd_same] at nl; cases nl
      rw [upd_ne la, upd_ne rl] at nl
      exact nl
    simp only [gcons, gnil, gname]
    refine ⟨_, _, rfl, _, _, rfl, rfl, hK _ _ ⟨r, a, mk, lg, rfl, hh, f r _ h1 (by simpa using ra), Fr.shut ((Fr.new nr).trans (Fr.new na)) f (by simpa using na2), nr, nl2, rm, rl⟩⟩
  rintro _ H1 ⟨r, a, mk, lg, rfl, hh, hr, f1, nr, nl, rm, rl⟩
  refine seq_k (fun σ1 H2 => σ1 = [some (.ref p), some (.int rd), some (.ref r), some (.ref a), none, none] ∧ Hon H2 a mk lg ns (ans ns (placedN ns rd).2) ∧ H2 r = some (.lst (nats (placedN ns rd).1)) ∧ Fr [] H H2) (fun K hK => ?_) ?_
  · simp only [drop, callf, acons, anil, var, cst, Z.get, perm, blt, bLen]
    refine ⟨_, _, rfl, items_l hr, rfl, ?_⟩
    have eAB : List.range ns.length = (List.range ns.length).take (max 1 rd) ++ (List.range ns.length).drop (max 1 rd) := (List.take_append_drop _ _).symm
    have hr2 := hr
    rw [eAB] at hr2
    have pa := place_all_k (E := E) (Q := fun _ H2 => K [some (.ref p), some (.int rd), some (.ref r), some (.ref a), none, none] H2) (k := k) hc hpa ho hl hh hr2 rm rl (rd := rd) (by rw [← eAB]; intro y hy; exact List.mem_range.mp hy) (by simp) (by rw [← eAB]; simp; omega)
      (by
        by_cases z : max 1 rd ≤ ns.length
        · left
          simp
          omega
        · right
          refine ⟨List.drop_of_length_le (by simp; omega), ?_⟩
          rw [← eAB]
          simp
          omega) (by omega)
      fun H2 hh2 hr2 f2 t2 => hK _ _ ⟨rfl, by rw [List.nil_append] at hh2; exact hh2, hr2, Fr.shut f1 f2 (by simp [nr, nl])⟩
    rw [← eAB] at pa
    have e : (nats (List.range ns.length)).length = (List.range ns.length).length := by simp
    rw [e]
    exact pa
  rintro _ H2 ⟨rfl, hh2, hr2, f2⟩
  obtain ⟨h1, h2, h3, es, h4, h5⟩ := hh2
  simp only [ret, tupl, acons, anil, lcomp, iseq, fld, var, Z.get]
  refine ⟨a, _, _, .ref lg, rfl, h1, rfl, .inl ⟨_, litems_l h4, questions_k (litems_l h4) (fun _ _ => rfl) h5 ?_ fun ts hts ql nql => ⟨(by show 2 ≤ line; decide), fun t nt => ?_⟩⟩⟩
  · have e := put_cnt (lsN ns) ((List.range ns.length).drop (max 1 rd)) ((List.range ns.length).take (max 1 rd))
    have l1 := h5.len
    rw [List.length_map] at l1
    rw [l1]
    have l2 : (placedN ns rd).2.length ≤ 64 * 64 := by
      refine Nat.le_trans e (Nat.mul_le_mul ?_ ?_)
      · simp; omega
      · simp; omega
    unfold line
    simp
    omega
  · have ee : ([] : List V) ++ ts.map V.ref = ts.map V.ref := rfl
    rw [ee] at nt ⊢
    have em : (ans ns (placedN ns rd).2).map (·.1) = (placedN ns rd).2 := by
      unfold ans
      rw [List.map_map]
      exact List.map_id _
    rw [em] at hts
    have tq : t ≠ ql := fun z => by rw [z, upd_same] at nt; cases nt
    have nt2 : H2 t = none := by rw [upd_ne tq] at nt; exact nt
    exact q _ t r ql ts ((f2.trans (Fr.new nql)).trans (Fr.new nt)) upd_same (upd_old (upd_old hr2 nql) nt) (upd_old upd_same nt) ((hts.fr (.new nql)).fr (.new nt)) (f2.fresh (by simp) nt2) nr (f2.fresh (by simp) nql)
/-! ### how many questions -/
theorem probe_lo (ls : Nat → Bool) : ∀ (f lo hi : Nat), hi - lo ≤ f → hi - lo + 1 < 2 ^ ((probe ls f lo hi).2.length + 1) := by
  intro f
  induction f with
  | zero =>
    intro lo hi h
    have : hi - lo = 0 := by omega
    rw [this]
    exact (by decide : 0 + 1 < 2 ^ (0 + 1))
  | succ f ih =>
    intro lo hi h
    by_cases l : lo < hi
    · rw [probe_succ l]
      split
      · have := ih lo ((lo + hi) / 2) (by omega)
        rw [List.length_cons, Nat.pow_succ]
        omega
      · have := ih ((lo + hi) / 2 + 1) hi (by omega)
        rw [List.length_cons, Nat.pow_succ]
        omega
    · rw [probe_end l]
      have : hi - lo = 0 := by omega
      rw [this]
      exact (by decide : 0 + 1 < 2 ^ (0 + 1))
theorem probe_hi (ls : Nat → Bool) : ∀ (f lo hi : Nat), (probe ls f lo hi).2.length = 0 ∨ 2 ^ ((probe ls f lo hi).2.length - 1) ≤ hi - lo := by
  intro f
  induction f with
  | zero => intro lo hi; exact .inl rfl
  | succ f ih =>
    intro lo hi
    have key : ∀ (n n' m : Nat), n' ≤ n / 2 → 0 < n → (m = 0 ∨ 2 ^ (m - 1) ≤ n') → 2 ^ (m + 1 - 1) ≤ n := by
      intro n n' m h1 h0 h2
      rcases h2 with h2 | h2
      · rw [h2]
        show 1 ≤ n
        omega
      · rcases Nat.eq_zero_or_pos m with z | z
        · rw [z]
          show 1 ≤ n
          omega
        · obtain ⟨m', rfl⟩ : ∃ m', m = m' + 1 := ⟨m - 1, by omega⟩
          rw [Nat.add_sub_cancel] at h2 ⊢
          rw [Nat.pow_succ]
          omega
    by_cases l : lo < hi
    · right
      rw [probe_succ l]
      split
      · exact key _ _ _ (by omega) (by omega) (ih lo ((lo + hi) / 2))
      · exact key _ _ _ (by omega) (by omega) (ih ((lo + hi) / 2 + 1) hi)
    · rw [probe_end l]
      exact .inl rfl
theorem probe_ff (ls : Nat → Bool) : ∀ (f lo hi : Nat), (∀ m, lo ≤ m → m < hi → ls m = false) → 2 ^ (probe ls f lo hi).2.length ≤ hi - lo + 1 := by
  intro f
  induction f with
  | zero => intro lo hi h; show 1 ≤ _; omega
  | succ f ih =>
    intro lo hi h
    by_cases l : lo < hi
    · rw [probe_succ l, if_neg (by rw [h _ (by omega) (by omega)]; decide)]
      have := ih ((lo + hi) / 2 + 1) hi (fun m h1 h2 => h m (by omega) h2)
      rw [List.length_cons, Nat.pow_succ]
      omega
    · rw [probe_end l]
      show 1 ≤ _
      omega
theorem probe_tt (ls : Nat → Bool) : ∀ (f lo hi : Nat), hi - lo ≤ f → (∀ m, lo ≤ m → m < hi → ls m = true) → hi - lo < 2 ^ (probe ls f lo hi).2.length := by
  intro f
  induction f with
  | zero =>
    intro lo hi hf h
    show _ < 1
    omega
  | succ f ih =>
    intro lo hi hf h
    by_cases l : lo < hi
    · rw [probe_succ l, if_pos (h _ (by omega) (by omega))]
      have := ih lo ((lo + hi) / 2) (by omega) (fun m h1 h2 => h m h1 (by omega))
      rw [List.length_cons, Nat.pow_succ]
      omega
    · rw [probe_end l]
      show _ < 1
      omega
/-- the fewest, and the most, questions for one of i + 1 places -/
def few (i : Nat) : Nat := (i + 1).log2
def top (i : Nat) : Nat := if i = 0 then 0 else i.log2 + 1
theorem len_few (ls : Nat → Bool) (i : Nat) : few i ≤ (probe ls i 0 i).2.length := by
  have h := probe_lo ls i 0 i (by omega)
  have := (Nat.log2_lt (show i + 1 ≠ 0 by omega)).mpr h
  unfold few
  omega
theorem len_top (ls : Nat → Bool) (i : Nat) : (probe ls i 0 i).2.length ≤ top i := by
  unfold top
  rcases probe_hi ls i 0 i with h | h
  · omega
  · have h0 : i ≠ 0 := by
      have := Nat.two_pow_pos ((probe ls i 0 i).2.length - 1)
      omega
    have := (Nat.le_log2 h0).mpr h
    rw [if_neg h0]
    omega
theorem len_ff {ls : Nat → Bool} {i : Nat} (h : ∀ m, m < i → ls m = false) : (probe ls i 0 i).2.length = few i := by
  have a := len_few ls i
  have b := probe_ff ls i 0 i fun m _ l => h m l
  have := (Nat.le_log2 (show i + 1 ≠ 0 by omega)).mpr b
  unfold few at *
  omega
theorem len_tt {ls : Nat → Bool} {i : Nat} (h : ∀ m, m < i → ls m = true) : (probe ls i 0 i).2.length = top i := by
  have a := len_top ls i
  have b := probe_tt ls i 0 i (by omega) fun m _ l => h m l
  unfold top at *
  by_cases z : i = 0
  · rw [if_pos z] at a ⊢
    omega
  · rw [if_neg z] at a ⊢
    have := (Nat.log2_lt z).mpr b
    omega
def sumFrom (g : Nat → Nat) : Nat → Nat → Nat
  | _, 0 => 0
  | a, n + 1 => g a + sumFrom g (a + 1) n
theorem put1_len2 (ls : Nat → Nat → Bool) (A : List Nat) (x : Nat) : (put1 ls A x).2.length = (probe (fun m => ls x (A.getD m 0)) A.length 0 A.length).2.length := by
  unfold put1
  rw [List.length_map]
theorem put_bounds (ls : Nat → Nat → Bool) : ∀ (B A : List Nat), sumFrom few A.length B.length ≤ (putL ls A B).2.length ∧ (putL ls A B).2.length ≤ sumFrom top A.length B.length
  | [], A => ⟨Nat.le_refl _, Nat.le_refl _⟩
  | x :: B, A => by
    have h := put_bounds ls B (put1 ls A x).1
    rw [put1_len] at h
    have h1 := len_few (fun m => ls x (A.getD m 0)) A.length
    have h2 := len_top (fun m => ls x (A.getD m 0)) A.length
    rw [← put1_len2] at h1 h2
    have e : (putL ls A (x :: B)).2.length = (put1 ls A x).2.length + (putL ls (put1 ls A x).1 B).2.length := List.length_append
    have e1 : sumFrom few A.length (x :: B).length = few A.length + sumFrom few (A.length + 1) B.length := rfl
    have e2 : sumFrom top A.length (x :: B).length = top A.length + sumFrom top (A.length + 1) B.length := rfl
    omega
/-- all questions answered alike -/
theorem put_alike {ls : Nat → Nat → Bool} {b : Bool} {g : Nat → Nat} (hg : ∀ (L : Nat → Bool) (i : Nat), (∀ m, m < i → L m = b) → (probe L i 0 i).2.length = g i) : ∀ (B A : List Nat), (∀ x ∈ B, ∀ y ∈ A, ls x y = b) → B.Pairwise (fun y x => ls x y = b) → (putL ls A B).2.length = sumFrom g A.length B.length
  | [], A, _, _ => rfl
  | x :: B, A, h1, h2 => by
    obtain ⟨h3, h4⟩ := List.pairwise_cons.mp h2
    have e1 : (put1 ls A x).2.length = g A.length := by
      rw [put1_len2]
      refine hg _ _ fun m hm => h1 x (List.mem_cons_self ..) _ (getD_mem hm)
    have e2 := put_alike hg B (put1 ls A x).1 (fun z hz y hy => by
      rcases put1_mem hy with rfl | hy
      · exact h3 z hz
      · exact h1 z (List.mem_cons_of_mem _ hz) y hy) h4
    rw [put1_len] at e2
    have e : (putL ls A (x :: B)).2.length = (put1 ls A x).2.length + (putL ls (put1 ls A x).1 B).2.length := List.length_append
    have e3 : sumFrom g A.length (x :: B).length = g A.length + sumFrom g (A.length + 1) B.length := rfl
    omega
theorem sumFrom_eq (g : Nat → Nat) : ∀ (n a : Nat), ((List.range n).map fun i => ((g (a + i) : Nat) : Int)).sum = ((sumFrom g a n : Nat) : Int)
  | 0, a => rfl
  | n + 1, a => by
    rw [List.range_succ_eq_map, List.map_cons, List.sum_cons, List.map_map]
    have e := sumFrom_eq g n (a + 1)
    have e2 : ((fun i => ((g (a + i) : Nat) : Int)) ∘ Nat.succ) = fun i => ((g (a + 1 + i) : Nat) : Int) := by
      funext i
      show ((g (a + (i + 1)) : Nat) : Int) = _
      rw [show a + (i + 1) = a + 1 + i by omega]
    rw [e2, e]
    show ((g (a + 0) : Nat) : Int) + _ = ((g a + sumFrom g (a + 1) n : Nat) : Int)
    rw [Nat.add_zero]
    omega
/-- a comprehension over a range: numbers -/
theorem lci_rng {st : Heap → Prop} {own : List Nat} {g : TG} {e : TE} {C : Cx} {σ : St} {R : List V → Heap → Prop} (F : Nat → Int) {lo : Int} {n : Nat} (hst : st H) (hn : n ≤ line) (he : ∀ i, i < n → ∀ K : VK, K (.int (F i)) H → g C (.int (lo + i)) (wipe σ own) H fun σ1 H1 => e C σ1 H1 K)
    (q : R ((List.range n).map fun i => V.int (F i)) H) : lci st own g tyes e C σ R (rng lo n) [] H := by
  refine lci_k (fun i acc H2 => H = H2 ∧ acc = (List.range i).map fun i => V.int (F i)) ⟨rfl, rfl⟩ (fun i v acc H2 hv h => ?_) fun acc H2 h => ?_
  · obtain ⟨rfl, rfl⟩ := h
    obtain ⟨hi, rfl⟩ := rng_get hv
    refine ⟨hst, fun K hK => ?_⟩
    refine he i hi (fun y H3 => ((List.range i).map fun i => V.int (F i)).length < line ∧ K (((List.range i).map fun i => V.int (F i)) ++ [y]) H3) ⟨by rw [List.length_map, List.length_range]; omega, hK _ _ ⟨rfl, ?_⟩⟩
    rw [List.range_succ, List.map_append]
    rfl
  · obtain ⟨rfl, rfl⟩ := h
    rw [rng_len]
    exact ⟨hst, q⟩
/-- (script + [0])[:m] -/
theorem cells_k {C : Cx} {σ : St} {a m : Nat} {ns : List Int} {R : List V → (Heap → Prop) → Heap → Prop} (hs : H a = some (.scr (ns.map V.int))) (hl : ns.length ≤ 63) (hb : ∀ z ∈ ns, Fit z) (h0 : Z.get σ 0 = some (.ref a))
    (q : ∀ (H' : Heap) (p : Nat) (zs : List Int), Fr [] H H' → H' p = some (.lst (zs.map V.int)) → (∀ z ∈ zs, Fit z) → H p = none → R (zs.map V.int) (fun H2 => litems H2 (.ref p) = some (zs.map V.int)) H') :
    iseq (slc (bin .add (var 0) (lstl (acons (cst (.int 0)) anil))) pno (pso (cst (.int m)))) C σ H R := by
  simp only [iseq, slc, bin, var, h0, lstl, acons, anil, cst, pno, pso]
  refine ⟨by decide, fun p1 n1 => ?_⟩
  rw [opr_add_rr]
  have h1 := upd_old (o' := .lst [V.int 0]) hs n1
  refine .inl ⟨_, _, litems_s h1, litems_l upd_same, ?_, fun p2 n2 => ⟨_, rfl, .inl ⟨_, litems_l upd_same, fun p3 n3 => ?_⟩⟩⟩
  · rw [List.length_map]
    unfold line
    simp
    omega
  · obtain ⟨zs, ez, hz⟩ : ∃ zs : List Int, cutV (ns.map V.int ++ [V.int 0]) none (some (m : Int)) = zs.map .int ∧ ∀ z ∈ zs, Fit z := by
      refine ⟨((ns ++ [0]).drop 0).take (sIx (ns.map V.int ++ [V.int 0]).length (ns.map V.int ++ [V.int 0]).length (some (m : Int)) - 0), ?_, fun z hz => ?_⟩
      · rw [List.map_take, List.map_drop, List.map_append]
        rfl
      · rcases List.mem_append.mp (List.mem_of_mem_take hz) with h | h
        · exact hb z h
        · rw [List.mem_singleton.mp h]
          exact fit_zero
    rw [ez]
    have f : Fr [] H (upd (upd H p1 (.lst [V.int 0])) p2 (.lst (ns.map V.int ++ [V.int 0]))) := (Fr.new n1).trans (Fr.new n2)
    exact .inl ⟨_, litems_l upd_same, q _ p3 zs (f.trans (Fr.new n3)) upd_same hz (f.fresh (by simp) n3)⟩
end
end Z

namespace Q_k36
/-- 0 value -/
def z_is_integer : Z.TS :=
  (Z.ret (Z.andv (Z.isi (Z.var 0) ["int"]) (Z.notv (Z.isi (Z.var 0) ["bool"]))))
/-- 0 start, 1 first, 2 second, 3 whole, 4 low, 5 count, 6 high, 7 taken -/
def z_level_between : Z.TS :=
  (Z.seq (Z.par 2 (Z.gcons (Z.gname 4) (Z.gcons (Z.gname 5) Z.gnil)) (Z.acons (Z.bin .add (Z.bin .mul (Z.cst (.int 2)) (Z.var 0)) (Z.var 1)) (Z.acons (Z.cst (.int 1)) Z.anil)))
  (Z.seq (Z.asg (Z.gname 6) (Z.bin .add (Z.bin .add (Z.var 4) (Z.var 1)) (Z.var 2)))
  (Z.seq (Z.whl (Z.tor (Z.tt (Z.cmp .ge (Z.var 4) (Z.var 3))) (Z.tt (Z.cmp .lt (Z.var 6) (Z.var 3)))) (Z.seq (Z.asg (Z.gname 7) (Z.ife (Z.tt (Z.cmp .ge (Z.var 4) (Z.var 3))) (Z.var 3) (Z.cst (.int 0))))
  (Z.par 3 (Z.gcons (Z.gname 4) (Z.gcons (Z.gname 6) (Z.gcons (Z.gname 5) Z.gnil))) (Z.acons (Z.bin .mul (Z.cst (.int 2)) (Z.bin .sub (Z.var 4) (Z.var 7))) (Z.acons (Z.bin .mul (Z.cst (.int 2)) (Z.bin .sub (Z.var 6) (Z.var 7))) (Z.acons (Z.bin .add (Z.var 5) (Z.cst (.int 1))) Z.anil))))))
  (Z.ret (Z.var 5)))))
/-- 0 lengths, 1 index, 2 length -/
def z_require_lengths : Z.TS :=
  (Z.seq (Z.ifs (Z.tor (Z.tnot (Z.tt (Z.isi (Z.var 0) ["list", "tuple"]))) (Z.tnot (Z.tt (Z.chain .le .le (Z.cst (.int 1)) (Z.blt Z.bLen (Z.acons (Z.var 0) Z.anil)) (Z.cst (.int 200)))))) (Z.rais "InvalidLengths" "index" (Z.neg (Z.cst (.int 1))))
  Z.skip)
  (Z.fore2 (Z.ienum (Z.var 0)) (Z.gcons (Z.gname 1) (Z.gcons (Z.gname 2) Z.gnil)) (Z.ifs (Z.tor (Z.tnot (Z.tt (Z.callf "is_integer" 1 [.inl 0] (Z.acons (Z.var 2) Z.anil)))) (Z.tt (Z.cmp .lt (Z.var 2) (Z.cst (.int 1))))) (Z.rais "InvalidLengths" "index" (Z.var 1))
  Z.skip)))
/-- 0 lengths, 1 found, 2 length -/
def z_starts_of : Z.TS :=
  (Z.seq (Z.asg (Z.gname 1) (Z.lstl (Z.acons (Z.cst (.int 0)) Z.anil)))
  (Z.seq (Z.fore (Z.iseq (Z.var 0)) (Z.gname 2) (Z.drop (Z.bmt Z.isL Z.mAppend (Z.var 1) (Z.acons (Z.bin .add (Z.ix (Z.var 1) (Z.neg (Z.cst (.int 1)))) (Z.var 2)) Z.anil))))
  (Z.ret (Z.var 1))))
/-- 0 self, 1 whole -/
def z_Stack_init : Z.TS :=
  (Z.par 3 (Z.gcons (Z.gfld ["Stack"] (Z.var 0) "whole") (Z.gcons (Z.gfld ["Stack"] (Z.var 0) "stack") (Z.gcons (Z.gfld ["Stack"] (Z.var 0) "joins") Z.gnil))) (Z.acons (Z.var 1) (Z.acons (Z.lstl Z.anil) (Z.acons (Z.lstl Z.anil) Z.anil))))
/-- 0 self, 1 place, 2 start, 3 first, 4 gone, 5 second, 6 mark -/
def z_Stack_join_at : Z.TS :=
  (Z.seq (Z.asg (Z.gtup 3 (Z.gcons (Z.gname 2) (Z.gcons (Z.gname 3) (Z.gcons (Z.gname 4) Z.gnil)))) (Z.ix (Z.fld (Z.var 0) "stack") (Z.var 1)))
  (Z.seq (Z.asg (Z.gtup 2 (Z.gcons (Z.gname 5) (Z.gcons (Z.gname 6) Z.gnil))) (Z.slc (Z.ix (Z.fld (Z.var 0) "stack") (Z.bin .add (Z.var 1) (Z.cst (.int 1)))) (Z.pso (Z.cst (.int 1))) Z.pno))
  (Z.seq (Z.asg (Z.gslc (Z.fld (Z.var 0) "stack") (Z.var 1) (Z.bin .add (Z.var 1) (Z.cst (.int 2)))) (Z.lstl (Z.acons (Z.tupl (Z.acons (Z.var 2) (Z.acons (Z.bin .add (Z.var 3) (Z.var 5)) (Z.acons (Z.var 6) Z.anil)))) Z.anil)))
  (Z.drop (Z.bmt Z.isL Z.mAppend (Z.fld (Z.var 0) "joins") (Z.acons (Z.tupl (Z.acons (Z.var 2) (Z.acons (Z.var 3) (Z.acons (Z.var 5) Z.anil)))) Z.anil))))))
/-- 0 self, 1 start, 2 length, 3 last, 4 first, 5 gone, 6 mark -/
def z_Stack_come : Z.TS :=
  (Z.seq (Z.ifs (Z.tt (Z.cmp .ne (Z.fld (Z.var 0) "stack") (Z.lstl Z.anil))) (Z.seq (Z.asg (Z.gtup 3 (Z.gcons (Z.gname 3) (Z.gcons (Z.gname 4) (Z.gcons (Z.gname 5) Z.gnil)))) (Z.ix (Z.fld (Z.var 0) "stack") (Z.neg (Z.cst (.int 1)))))
  (Z.seq (Z.asg (Z.gname 6) (Z.callf "level_between" 4 [.inl 0, .inl 1, .inl 2, .inl 3] (Z.acons (Z.var 3) (Z.acons (Z.var 4) (Z.acons (Z.var 2) (Z.acons (Z.fld (Z.var 0) "whole") Z.anil))))))
  (Z.seq (Z.whl (Z.tand (Z.tt (Z.cmp .gt (Z.blt Z.bLen (Z.acons (Z.fld (Z.var 0) "stack") Z.anil)) (Z.cst (.int 1)))) (Z.tt (Z.cmp .gt (Z.ix (Z.ix (Z.fld (Z.var 0) "stack") (Z.neg (Z.cst (.int 2)))) (Z.cst (.int 2))) (Z.var 6)))) (Z.drop (Z.meth ["Stack"] (Z.var 0) "join_at" 1 [.inl 0, .inl 1] (Z.acons (Z.bin .sub (Z.blt Z.bLen (Z.acons (Z.fld (Z.var 0) "stack") Z.anil)) (Z.cst (.int 2))) Z.anil))))
  (Z.asg (Z.gsub (Z.fld (Z.var 0) "stack") (Z.neg (Z.cst (.int 1)))) (Z.bin .add (Z.slc (Z.ix (Z.fld (Z.var 0) "stack") (Z.neg (Z.cst (.int 1)))) Z.pno (Z.pso (Z.cst (.int 2)))) (Z.tupl (Z.acons (Z.var 6) Z.anil)))))))
  Z.skip)
  (Z.drop (Z.bmt Z.isL Z.mAppend (Z.fld (Z.var 0) "stack") (Z.acons (Z.tupl (Z.acons (Z.var 1) (Z.acons (Z.var 2) (Z.acons (Z.cst .non) Z.anil)))) Z.anil))))
/-- 0 self, 1 place -/
def z_Stack_end : Z.TS :=
  (Z.whl (Z.tt (Z.cmp .gt (Z.blt Z.bLen (Z.acons (Z.fld (Z.var 0) "stack") Z.anil)) (Z.cst (.int 1)))) (Z.seq (Z.asg (Z.gname 1) (Z.bin .sub (Z.blt Z.bLen (Z.acons (Z.fld (Z.var 0) "stack") Z.anil)) (Z.cst (.int 2))))
  (Z.seq (Z.ifs (Z.tand (Z.tt (Z.cmp .gt (Z.var 1) (Z.cst (.int 0)))) (Z.tt (Z.cmp .lt (Z.ix (Z.ix (Z.fld (Z.var 0) "stack") (Z.bin .sub (Z.var 1) (Z.cst (.int 1)))) (Z.cst (.int 1))) (Z.ix (Z.ix (Z.fld (Z.var 0) "stack") (Z.bin .add (Z.var 1) (Z.cst (.int 1)))) (Z.cst (.int 1)))))) (Z.aug 1 false (Z.cst (.int 1)))
  Z.skip)
  (Z.drop (Z.meth ["Stack"] (Z.var 0) "join_at" 1 [.inl 0, .inl 1] (Z.acons (Z.var 1) Z.anil))))))
/-- 0 lengths, 1 pile, 2 start, 3 length, 4 many -/
def z_merges : Z.TS :=
  (Z.seq (Z.drop (Z.callf "require_lengths" 1 [.inl 0] (Z.acons (Z.var 0) Z.anil)))
  (Z.seq (Z.asg (Z.gname 1) (Z.make "Stack" 1 [.inl 0, .inl 1] (Z.acons (Z.blt Z.bSum (Z.acons (Z.var 0) Z.anil)) Z.anil)))
  (Z.seq (Z.fore2 (Z.izip (Z.acons (Z.callf "starts_of" 1 [.inl 0] (Z.acons (Z.var 0) Z.anil)) (Z.acons (Z.var 0) Z.anil))) (Z.gcons (Z.gname 2) (Z.gcons (Z.gname 3) Z.gnil)) (Z.drop (Z.meth ["Stack"] (Z.var 1) "come" 2 [.inl 0, .inl 1, .inl 2] (Z.acons (Z.var 2) (Z.acons (Z.var 3) Z.anil)))))
  (Z.seq (Z.asg (Z.gname 4) (Z.blt Z.bLen (Z.acons (Z.fld (Z.var 1) "joins") Z.anil)))
  (Z.seq (Z.drop (Z.meth ["Stack"] (Z.var 1) "end" 0 [.inl 0] Z.anil))
  (Z.ret (Z.tupl (Z.acons (Z.slc (Z.fld (Z.var 1) "joins") Z.pno (Z.pso (Z.var 4))) (Z.acons (Z.slc (Z.fld (Z.var 1) "joins") (Z.pso (Z.var 4)) Z.pno) Z.anil)))))))))
/-- 0 lengths, 1 early, 2 late -/
def z_all_merges : Z.TS :=
  (Z.seq (Z.asg (Z.gtup 2 (Z.gcons (Z.gname 1) (Z.gcons (Z.gname 2) Z.gnil))) (Z.callf "merges" 1 [.inl 0] (Z.acons (Z.var 0) Z.anil)))
  (Z.ret (Z.bin .add (Z.var 1) (Z.var 2))))
/-- 0 lengths, 1 start, 2 first, 3 second -/
def z_cost : Z.TS :=
  (Z.ret (Z.blt Z.bSum (Z.acons (Z.lcomp (Z.iseq (Z.callf "all_merges" 1 [.inl 0] (Z.acons (Z.var 0) Z.anil))) [1, 2, 3] (Z.gtup 3 (Z.gcons (Z.gname 1) (Z.gcons (Z.gname 2) (Z.gcons (Z.gname 3) Z.gnil)))) Z.tyes (Z.bin .add (Z.var 2) (Z.var 3))) Z.anil)))
/-- 0 lengths, 1 joins, 2 place, 3 start, 4 first, 5 second -/
def z_rounds : Z.TS :=
  (Z.seq (Z.asg (Z.gname 1) (Z.callf "all_merges" 1 [.inl 0] (Z.acons (Z.var 0) Z.anil)))
  (Z.ret (Z.lcomp (Z.iseq (Z.slc (Z.callf "starts_of" 1 [.inl 0] (Z.acons (Z.var 0) Z.anil)) Z.pno (Z.pso (Z.neg (Z.cst (.int 1)))))) [2] (Z.gname 2) Z.tyes (Z.blt Z.bLen (Z.acons (Z.lcomp (Z.iseq (Z.var 1)) [3, 4, 5] (Z.gtup 3 (Z.gcons (Z.gname 3) (Z.gcons (Z.gname 4) (Z.gcons (Z.gname 5) Z.gnil)))) (Z.tt (Z.chain .le .lt (Z.var 3) (Z.var 2) (Z.bin .add (Z.bin .add (Z.var 3) (Z.var 4)) (Z.var 5)))) (Z.cst (.int 1))) Z.anil)))))
/-- 0 cell, 1 draw, 2 figure -/
def z__law_mixed : Z.TS :=
  (Z.seq (Z.asg (Z.gname 2) (Z.bin .mod (Z.blt Z.bInt (Z.acons (Z.bin .mul (Z.bin .add (Z.bin .mod (Z.blt Z.bInt (Z.acons (Z.var 0) Z.anil)) (Z.cst (.int 2147483646))) (Z.cst (.int 1))) (Z.bin .add (Z.bin .mul (Z.var 1) (Z.cst (.int 7919))) (Z.cst (.int 104729)))) Z.anil)) (Z.cst (.int 2147483647))))
  (Z.seq (Z.asg (Z.gname 2) (Z.bin .mod (Z.blt Z.bInt (Z.acons (Z.bin .mul (Z.bin .add (Z.var 2) (Z.bin .mul (Z.bin .mod (Z.blt Z.bInt (Z.acons (Z.bin .fdiv (Z.var 0) (Z.cst (.int 2147483646))) Z.anil)) (Z.cst (.int 1000003))) (Z.bin .add (Z.var 1) (Z.cst (.int 31))))) (Z.cst (.int 48271))) Z.anil)) (Z.cst (.int 2147483629))))
  (Z.seq (Z.asg (Z.gname 2) (Z.bin .mod (Z.blt Z.bInt (Z.acons (Z.bin .mul (Z.var 2) (Z.bin .add (Z.bin .add (Z.bin .fdiv (Z.var 2) (Z.cst (.int 1013))) (Z.cst (.int 69621))) (Z.var 1))) Z.anil)) (Z.cst (.int 2147483587))))
  (Z.ret (Z.bin .mod (Z.blt Z.bInt (Z.acons (Z.bin .mul (Z.var 2) (Z.bin .add (Z.bin .fdiv (Z.var 2) (Z.cst (.int 2003))) (Z.cst (.int 40692)))) Z.anil)) (Z.cst (.int 2147483563)))))))
/-- 0 cell -/
def z__law_source : Z.TS :=
  (Z.ret (Z.lstl (Z.acons (Z.var 0) (Z.acons (Z.var 0) (Z.acons (Z.cst (.int 0)) Z.anil)))))
/-- 0 source, 1 bound, 2 drawn -/
def z__law_take : Z.TS :=
  (Z.seq (Z.ifs (Z.tt (Z.cmp .ge (Z.ix (Z.var 0) (Z.cst (.int 0))) (Z.bin .pow (Z.cst (.int 10)) (Z.cst (.int 18))))) (Z.seq (Z.asg (Z.gname 2) (Z.bin .mod (Z.blt Z.bInt (Z.acons (Z.ix (Z.var 0) (Z.cst (.int 0))) Z.anil)) (Z.var 1)))
  (Z.seq (Z.asg (Z.gsub (Z.var 0) (Z.cst (.int 0))) (Z.bin .fdiv (Z.ix (Z.var 0) (Z.cst (.int 0))) (Z.var 1)))
  (Z.ret (Z.var 2))))
  Z.skip)
  (Z.seq (Z.asg (Z.gsub (Z.var 0) (Z.cst (.int 2))) (Z.bin .add (Z.ix (Z.var 0) (Z.cst (.int 2))) (Z.cst (.int 1))))
  (Z.ret (Z.bin .mod (Z.blt Z.bInt (Z.acons (Z.callf "_law_mixed" 2 [.inl 0, .inl 1] (Z.acons (Z.ix (Z.var 0) (Z.cst (.int 1))) (Z.acons (Z.ix (Z.var 0) (Z.cst (.int 2))) Z.anil))) Z.anil)) (Z.var 1)))))
/-- 0 source, 1 options -/
def z__law_pick : Z.TS :=
  (Z.ret (Z.ix (Z.var 1) (Z.callf "_law_take" 2 [.inl 0, .inl 1] (Z.acons (Z.var 0) (Z.acons (Z.blt Z.bLen (Z.acons (Z.var 1) Z.anil)) Z.anil)))))
/-- 0 begin, 1 one, 2 two, 3 size, 4 low, 5 high, 6 count -/
def z__law_level : Z.TS :=
  (Z.seq (Z.asg (Z.gname 4) (Z.bin .add (Z.bin .mul (Z.cst (.int 2)) (Z.var 0)) (Z.var 1)))
  (Z.seq (Z.par 2 (Z.gcons (Z.gname 5) (Z.gcons (Z.gname 6) Z.gnil)) (Z.acons (Z.bin .add (Z.bin .add (Z.var 4) (Z.var 1)) (Z.var 2)) (Z.acons (Z.cst (.int 1)) Z.anil)))
  (Z.seq (Z.whl (Z.tt (Z.cmp .eq (Z.bin .fdiv (Z.bin .shl (Z.var 4) (Z.var 6)) (Z.bin .mul (Z.cst (.int 2)) (Z.var 3))) (Z.bin .fdiv (Z.bin .shl (Z.var 5) (Z.var 6)) (Z.bin .mul (Z.cst (.int 2)) (Z.var 3))))) (Z.asg (Z.gname 6) (Z.bin .add (Z.var 6) (Z.cst (.int 1)))))
  (Z.ret (Z.var 6)))))
/-- 0 source, 1 upper, 2 great, 3 size, 4 way, 5 found, 6 k, 7 one -/
def z__law_lengths : Z.TS :=
  (Z.seq (Z.par 2 (Z.gcons (Z.gname 3) (Z.gcons (Z.gname 4) Z.gnil)) (Z.acons (Z.bin .add (Z.cst (.int 1)) (Z.callf "_law_take" 2 [.inl 0, .inl 1] (Z.acons (Z.var 0) (Z.acons (Z.var 1) Z.anil)))) (Z.acons (Z.callf "_law_take" 2 [.inl 0, .inl 1] (Z.acons (Z.var 0) (Z.acons (Z.cst (.int 7)) Z.anil))) Z.anil)))
  (Z.seq (Z.asg (Z.gname 5) (Z.lcomp (Z.irng1 (Z.acons (Z.var 3) Z.anil)) [6] (Z.gname 6) Z.tyes (Z.bin .add (Z.cst (.int 1)) (Z.callf "_law_take" 2 [.inl 0, .inl 1] (Z.acons (Z.var 0) (Z.acons (Z.ix (Z.lstl (Z.acons (Z.cst (.int 3)) (Z.acons (Z.cst (.int 40)) (Z.acons (Z.cst (.int 1000)) Z.anil)))) (Z.bin .mod (Z.var 4) (Z.cst (.int 3)))) Z.anil))))))
  (Z.seq (Z.ifs (Z.tt (Z.cmp .eq (Z.var 4) (Z.cst (.int 3)))) (Z.asg (Z.gname 5) (Z.bin .mul (Z.lstl (Z.acons (Z.bin .add (Z.cst (.int 1)) (Z.callf "_law_take" 2 [.inl 0, .inl 1] (Z.acons (Z.var 0) (Z.acons (Z.cst (.int 9)) Z.anil)))) Z.anil)) (Z.var 3)))
  Z.skip)
  (Z.seq (Z.ifs (Z.tt (Z.cmp .eq (Z.var 4) (Z.cst (.int 4)))) (Z.asg (Z.gname 5) (Z.lcomp (Z.irng1 (Z.acons (Z.var 3) Z.anil)) [6] (Z.gname 6) Z.tyes (Z.bin .shl (Z.cst (.int 1)) (Z.callf "_law_take" 2 [.inl 0, .inl 1] (Z.acons (Z.var 0) (Z.acons (Z.cst (.int 9)) Z.anil))))))
  Z.skip)
  (Z.seq (Z.ifs (Z.tt (Z.cmp .eq (Z.var 4) (Z.cst (.int 5)))) (Z.asg (Z.gname 5) (Z.blt Z.bSortedI (Z.acons (Z.var 5) Z.anil)))
  Z.skip)
  (Z.seq (Z.ifs (Z.tt (Z.cmp .eq (Z.var 4) (Z.cst (.int 6)))) (Z.asg (Z.gname 5) (Z.revs (Z.blt Z.bSortedI (Z.acons (Z.var 5) Z.anil))))
  Z.skip)
  (Z.seq (Z.ifs (Z.tand (Z.tt (Z.var 2)) (Z.tt (Z.cmp .eq (Z.callf "_law_take" 2 [.inl 0, .inl 1] (Z.acons (Z.var 0) (Z.acons (Z.cst (.int 5)) Z.anil))) (Z.cst (.int 0))))) (Z.asg (Z.gname 5) (Z.lcomp (Z.iseq (Z.var 5)) [7] (Z.gname 7) Z.tyes (Z.bin .mul (Z.var 7) (Z.callf "_law_pick" 2 [.inl 0, .inl 1] (Z.acons (Z.var 0) (Z.acons (Z.lstl (Z.acons (Z.cst (.int 1)) (Z.acons (Z.cst (.int 7)) (Z.acons (Z.bin .pow (Z.cst (.int 10)) (Z.cst (.int 9))) (Z.acons (Z.bin .pow (Z.cst (.int 10)) (Z.cst (.int 29))) Z.anil))))) Z.anil))))))
  Z.skip)
  (Z.ret (Z.var 5)))))))))
/-- 0 parts, 1 found, 2 length -/
def z__law_starts : Z.TS :=
  (Z.seq (Z.asg (Z.gname 1) (Z.lstl (Z.acons (Z.cst (.int 0)) Z.anil)))
  (Z.seq (Z.fore (Z.iseq (Z.var 0)) (Z.gname 2) (Z.drop (Z.bmt Z.isL Z.mAppend (Z.var 1) (Z.acons (Z.bin .add (Z.ix (Z.var 1) (Z.neg (Z.cst (.int 1)))) (Z.var 2)) Z.anil))))
  (Z.ret (Z.var 1))))
/-- 0 pile, 1 done, 2 place, 3 begin, 4 first, 5 gone, 6 second, 7 mark -/
def z__law_note : Z.TS :=
  (Z.seq (Z.asg (Z.gtup 3 (Z.gcons (Z.gname 3) (Z.gcons (Z.gname 4) (Z.gcons (Z.gname 5) Z.gnil)))) (Z.ix (Z.var 0) (Z.var 2)))
  (Z.seq (Z.asg (Z.gtup 2 (Z.gcons (Z.gname 6) (Z.gcons (Z.gname 7) Z.gnil))) (Z.slc (Z.ix (Z.var 0) (Z.bin .add (Z.var 2) (Z.cst (.int 1)))) (Z.pso (Z.cst (.int 1))) Z.pno))
  (Z.seq (Z.asg (Z.gslc (Z.var 0) (Z.var 2) (Z.bin .add (Z.var 2) (Z.cst (.int 2)))) (Z.lstl (Z.acons (Z.tupl (Z.acons (Z.var 3) (Z.acons (Z.bin .add (Z.var 4) (Z.var 6)) (Z.acons (Z.var 7) Z.anil)))) Z.anil)))
  (Z.drop (Z.bmt Z.isL Z.mAppend (Z.var 1) (Z.acons (Z.tupl (Z.acons (Z.var 3) (Z.acons (Z.var 4) (Z.acons (Z.var 6) Z.anil)))) Z.anil))))))
/-- 0 parts, 1 starts, 2 pile, 3 done, 4 stacks, 5 at, 6 length, 7 mark, 8 many, 9 place -/
def z__law_piled : Z.TS :=
  (Z.seq (Z.par 4 (Z.gcons (Z.gname 1) (Z.gcons (Z.gname 2) (Z.gcons (Z.gname 3) (Z.gcons (Z.gname 4) Z.gnil)))) (Z.acons (Z.callf "_law_starts" 1 [.inl 0] (Z.acons (Z.var 0) Z.anil)) (Z.acons (Z.lstl Z.anil) (Z.acons (Z.lstl Z.anil) (Z.acons (Z.lstl Z.anil) Z.anil)))))
  (Z.seq (Z.fore2 (Z.ienum (Z.var 0)) (Z.gcons (Z.gname 5) (Z.gcons (Z.gname 6) Z.gnil)) (Z.seq (Z.ifs (Z.tt (Z.cmp .gt (Z.var 5) (Z.cst (.int 0)))) (Z.seq (Z.asg (Z.gname 7) (Z.callf "_law_level" 4 [.inl 0, .inl 1, .inl 2, .inl 3] (Z.acons (Z.ix (Z.var 1) (Z.bin .sub (Z.var 5) (Z.cst (.int 1)))) (Z.acons (Z.ix (Z.var 0) (Z.bin .sub (Z.var 5) (Z.cst (.int 1)))) (Z.acons (Z.var 6) (Z.acons (Z.ix (Z.var 1) (Z.neg (Z.cst (.int 1)))) Z.anil))))))
  (Z.seq (Z.whl (Z.tand (Z.tt (Z.cmp .gt (Z.blt Z.bLen (Z.acons (Z.var 2) Z.anil)) (Z.cst (.int 1)))) (Z.tt (Z.cmp .gt (Z.ix (Z.ix (Z.var 2) (Z.neg (Z.cst (.int 2)))) (Z.cst (.int 2))) (Z.var 7)))) (Z.drop (Z.callf "_law_note" 3 [.inl 0, .inl 1, .inl 2] (Z.acons (Z.var 2) (Z.acons (Z.var 3) (Z.acons (Z.bin .sub (Z.blt Z.bLen (Z.acons (Z.var 2) Z.anil)) (Z.cst (.int 2))) Z.anil))))))
  (Z.asg (Z.gsub (Z.var 2) (Z.neg (Z.cst (.int 1)))) (Z.bin .add (Z.slc (Z.ix (Z.var 2) (Z.neg (Z.cst (.int 1)))) Z.pno (Z.pso (Z.cst (.int 2)))) (Z.tupl (Z.acons (Z.var 7) Z.anil))))))
  Z.skip)
  (Z.seq (Z.drop (Z.bmt Z.isL Z.mAppend (Z.var 2) (Z.acons (Z.tupl (Z.acons (Z.ix (Z.var 1) (Z.var 5)) (Z.acons (Z.var 6) (Z.acons (Z.cst .non) Z.anil)))) Z.anil)))
  (Z.drop (Z.bmt Z.isL Z.mAppend (Z.var 4) (Z.acons (Z.blt Z.bList (Z.acons (Z.var 2) Z.anil)) Z.anil))))))
  (Z.seq (Z.asg (Z.gname 8) (Z.blt Z.bLen (Z.acons (Z.var 3) Z.anil)))
  (Z.seq (Z.whl (Z.tt (Z.cmp .gt (Z.blt Z.bLen (Z.acons (Z.var 2) Z.anil)) (Z.cst (.int 1)))) (Z.seq (Z.asg (Z.gname 9) (Z.bin .sub (Z.blt Z.bLen (Z.acons (Z.var 2) Z.anil)) (Z.cst (.int 2))))
  (Z.seq (Z.ifs (Z.tand (Z.tt (Z.cmp .gt (Z.var 9) (Z.cst (.int 0)))) (Z.tt (Z.cmp .lt (Z.ix (Z.ix (Z.var 2) (Z.bin .sub (Z.var 9) (Z.cst (.int 1)))) (Z.cst (.int 1))) (Z.ix (Z.ix (Z.var 2) (Z.bin .add (Z.var 9) (Z.cst (.int 1)))) (Z.cst (.int 1)))))) (Z.asg (Z.gname 9) (Z.bin .sub (Z.var 9) (Z.cst (.int 1))))
  Z.skip)
  (Z.drop (Z.callf "_law_note" 3 [.inl 0, .inl 1, .inl 2] (Z.acons (Z.var 2) (Z.acons (Z.var 3) (Z.acons (Z.var 9) Z.anil))))))))
  (Z.ret (Z.tupl (Z.acons (Z.var 4) (Z.acons (Z.slc (Z.var 3) Z.pno (Z.pso (Z.var 8))) (Z.acons (Z.slc (Z.var 3) (Z.pso (Z.var 8)) Z.pno) Z.anil)))))))))
/-- 0 parts, 1 stacks, 2 early, 3 late, 4 found, 5 starts, 6 begin, 7 first, 8 second, 9 at -/
def z__law_rounds : Z.TS :=
  (Z.seq (Z.asg (Z.gtup 3 (Z.gcons (Z.gname 1) (Z.gcons (Z.gname 2) (Z.gcons (Z.gname 3) Z.gnil)))) (Z.callf "_law_piled" 1 [.inl 0] (Z.acons (Z.var 0) Z.anil)))
  (Z.seq (Z.par 2 (Z.gcons (Z.gname 4) (Z.gcons (Z.gname 5) Z.gnil)) (Z.acons (Z.bin .mul (Z.lstl (Z.acons (Z.cst (.int 0)) Z.anil)) (Z.blt Z.bLen (Z.acons (Z.var 0) Z.anil))) (Z.acons (Z.callf "_law_starts" 1 [.inl 0] (Z.acons (Z.var 0) Z.anil)) Z.anil)))
  (Z.seq (Z.fore (Z.iseq (Z.bin .add (Z.var 2) (Z.var 3))) (Z.gtup 3 (Z.gcons (Z.gname 6) (Z.gcons (Z.gname 7) (Z.gcons (Z.gname 8) Z.gnil)))) (Z.fore (Z.irng1 (Z.acons (Z.blt Z.bLen (Z.acons (Z.var 0) Z.anil)) Z.anil)) (Z.gname 9) (Z.asg (Z.gsub (Z.var 4) (Z.var 9)) (Z.bin .add (Z.ix (Z.var 4) (Z.var 9)) (Z.blt Z.bInt (Z.acons (Z.andv (Z.cmp .le (Z.var 6) (Z.ix (Z.var 5) (Z.var 9))) (Z.cmp .le (Z.ix (Z.var 5) (Z.bin .add (Z.var 9) (Z.cst (.int 1)))) (Z.bin .add (Z.bin .add (Z.var 6) (Z.var 7)) (Z.var 8)))) Z.anil))))))
  (Z.ret (Z.var 4)))))
/-- 0 script, 1 at, 2 cell, 3 source, 4 parts, 5 times, 6 due, 7 price, 8 heard, 9 wide, 10 one, 11 turns -/
def z_law : Z.TS :=
  (Z.seq (Z.fore2 (Z.ienum (Z.slc (Z.bin .add (Z.var 0) (Z.lstl (Z.acons (Z.cst (.int 0)) Z.anil))) Z.pno (Z.pso (Z.cst (.int 8))))) (Z.gcons (Z.gname 1) (Z.gcons (Z.gname 2) Z.gnil)) (Z.seq (Z.asg (Z.gname 3) (Z.callf "_law_source" 1 [.inl 0] (Z.acons (Z.var 2) Z.anil)))
  (Z.seq (Z.par 2 (Z.gcons (Z.gname 4) (Z.gcons (Z.gname 5) Z.gnil)) (Z.acons (Z.callf "_law_lengths" 3 [.inl 0, .inl 1, .inl 2] (Z.acons (Z.var 3) (Z.acons (Z.ife (Z.tt (Z.cmp .gt (Z.var 1) (Z.cst (.int 0)))) (Z.cst (.int 40)) (Z.cst (.int 200))) (Z.acons (Z.cst (.bl true)) Z.anil)))) (Z.acons (Z.bin .add (Z.cst (.int 1)) (Z.callf "_law_take" 2 [.inl 0, .inl 1] (Z.acons (Z.var 3) (Z.acons (Z.bin .pow (Z.cst (.int 10)) (Z.cst (.int 12))) Z.anil)))) Z.anil)))
  (Z.seq (Z.asg (Z.gname 6) (Z.callf "_law_rounds" 1 [.inl 0] (Z.acons (Z.var 4) Z.anil)))
  (Z.seq (Z.asg (Z.gname 7) (Z.blt Z.bSum (Z.acons (Z.lcomp2 (Z.izip (Z.acons (Z.var 4) (Z.acons (Z.var 6) Z.anil))) [10, 11] (Z.gcons (Z.gname 10) (Z.gcons (Z.gname 11) Z.gnil)) Z.tyes (Z.bin .mul (Z.var 10) (Z.var 11))) Z.anil)))
  (Z.seq (Z.asg (Z.gname 8) (Z.callf "rounds" 1 [.inl 0] (Z.acons (Z.var 4) Z.anil)))
  (Z.seq (Z.ifs (Z.tor (Z.tt (Z.cmp .ne (Z.var 8) (Z.var 6))) (Z.tor (Z.tt (Z.cmp .ne (Z.callf "cost" 1 [.inl 0] (Z.acons (Z.var 4) Z.anil)) (Z.var 7))) (Z.tt (Z.cmp .ne (Z.callf "cost" 1 [.inl 0] (Z.acons (Z.blt Z.bTuple (Z.acons (Z.var 4) Z.anil)) Z.anil)) (Z.var 7))))) (Z.ret (Z.cst (.bl false)))
  Z.skip)
  (Z.seq (Z.drop (Z.bmt Z.isL Z.mAppend (Z.var 8) (Z.acons (Z.cst .non) Z.anil)))
  (Z.seq (Z.ifs (Z.tt (Z.cmp .ne (Z.callf "rounds" 1 [.inl 0] (Z.acons (Z.blt Z.bTuple (Z.acons (Z.var 4) Z.anil)) Z.anil)) (Z.var 6))) (Z.ret (Z.cst (.bl false)))
  Z.skip)
  (Z.seq (Z.asg (Z.gname 9) (Z.lcomp (Z.iseq (Z.var 4)) [10] (Z.gname 10) Z.tyes (Z.bin .mul (Z.var 10) (Z.var 5))))
  (Z.ifs (Z.tor (Z.tt (Z.cmp .ne (Z.callf "rounds" 1 [.inl 0] (Z.acons (Z.var 9) Z.anil)) (Z.var 6))) (Z.tt (Z.cmp .ne (Z.callf "cost" 1 [.inl 0] (Z.acons (Z.var 9) Z.anil)) (Z.bin .mul (Z.var 7) (Z.var 5))))) (Z.ret (Z.cst (.bl false)))
  Z.skip)))))))))))
  (Z.ret (Z.andv (Z.cmp .eq (Z.callf "cost" 1 [.inl 0] (Z.acons (Z.lstl (Z.acons (Z.cst (.int 5)) Z.anil)) Z.anil)) (Z.cst (.int 0))) (Z.andv (Z.cmp .eq (Z.callf "rounds" 1 [.inl 0] (Z.acons (Z.lstl (Z.acons (Z.cst (.int 5)) Z.anil)) Z.anil)) (Z.lstl (Z.acons (Z.cst (.int 0)) Z.anil))) (Z.cmp .eq (Z.lstl (Z.acons (Z.callf "cost" 1 [.inl 0] (Z.acons (Z.lstl (Z.acons (Z.cst (.int 5)) (Z.acons (Z.cst (.int 3)) (Z.acons (Z.cst (.int 2)) Z.anil)))) Z.anil)) (Z.acons (Z.callf "rounds" 1 [.inl 0] (Z.acons (Z.lstl (Z.acons (Z.cst (.int 5)) (Z.acons (Z.cst (.int 3)) (Z.acons (Z.cst (.int 2)) Z.anil)))) Z.anil)) Z.anil))) (Z.lstl (Z.acons (Z.cst (.int 15)) (Z.acons (Z.lstl (Z.acons (Z.cst (.int 1)) (Z.acons (Z.cst (.int 2)) (Z.acons (Z.cst (.int 2)) Z.anil)))) Z.anil))))))))
def ztab : List ((String × String) × Z.Def) := [(("", "is_integer"), ⟨1, 1, z_is_integer⟩), (("", "level_between"), ⟨4, 8, z_level_between⟩), (("", "require_lengths"), ⟨1, 3, z_require_lengths⟩), (("", "starts_of"), ⟨1, 3, z_starts_of⟩), (("Stack", "__init__"), ⟨2, 2, z_Stack_init⟩), (("Stack", "join_at"), ⟨2, 7, z_Stack_join_at⟩), (("Stack", "come"), ⟨3, 7, z_Stack_come⟩), (("Stack", "end"), ⟨1, 2, z_Stack_end⟩), (("", "merges"), ⟨1, 5, z_merges⟩), (("", "all_merges"), ⟨1, 3, z_all_merges⟩), (("", "cost"), ⟨1, 4, z_cost⟩), (("", "rounds"), ⟨1, 6, z_rounds⟩), (("", "_law_mixed"), ⟨2, 3, z__law_mixed⟩), (("", "_law_source"), ⟨1, 1, z__law_source⟩), (("", "_law_take"), ⟨2, 3, z__law_take⟩), (("", "_law_pick"), ⟨2, 2, z__law_pick⟩), (("", "_law_level"), ⟨4, 7, z__law_level⟩), (("", "_law_lengths"), ⟨3, 8, z__law_lengths⟩), (("", "_law_starts"), ⟨1, 3, z__law_starts⟩), (("", "_law_note"), ⟨3, 8, z__law_note⟩), (("", "_law_piled"), ⟨1, 10, z__law_piled⟩), (("", "_law_rounds"), ⟨1, 10, z__law_rounds⟩), (("", "law"), ⟨1, 12, z_law⟩)]
end Q_k36


namespace Q_k36
open Z
def depth : Nat := 12
/-! ### the plain algorithm, over the numbers of the pieces -/
abbrev Pc := Nat × Nat × Option Nat
abbrev Jn := Nat × Nat × Nat
/-- pieces are joined while the mark behind is greater; the last one comes first -/
def squeeze (m : Nat) : Nat → List Pc → List Jn → List Pc × List Jn
  | f + 1, x :: y :: r, js => if m < y.2.2.getD 0 then squeeze m f ((y.1, x.2.1, x.2.2) :: r) (js ++ [(y.1, y.2.1, x.2.1)]) else (x :: y :: r, js)
  | _, rs, js => (rs, js)
def marked (m k : Nat) : List Pc → List Pc
  | z :: r => (k, k + 1, none) :: (z.1, z.2.1, some m) :: r
  | [] => [(k, k + 1, none)]
def come (lev : Nat → Nat → Nat → Nat) (k : Nat) (s : List Pc × List Jn) : List Pc × List Jn :=
  match s.1 with
  | [] => ([(k, k + 1, none)], s.2)
  | x :: r => (marked (lev x.1 x.2.1 (k + 1)) k (squeeze (lev x.1 x.2.1 (k + 1)) (x :: r).length (x :: r) s.2).1, (squeeze (lev x.1 x.2.1 (k + 1)) (x :: r).length (x :: r) s.2).2)
def stN (lev : Nat → Nat → Nat → Nat) : Nat → List Pc × List Jn
  | 0 => ([], [])
  | k + 1 => come lev k (stN lev k)
def endN (lt : Pc → Pc → Bool) : Nat → List Pc → List Jn → List Jn
  | f + 1, x :: y :: z :: r, js => if lt z x = true then endN lt f (x :: (z.1, y.2.1, y.2.2) :: r) (js ++ [(z.1, z.2.1, y.2.1)]) else endN lt f ((y.1, x.2.1, x.2.2) :: z :: r) (js ++ [(y.1, y.2.1, x.2.1)])
  | f + 1, [x, y], js => js ++ [(y.1, y.2.1, x.2.1)]
  | _, _, js => js
/-- the pieces lie one behind the other, from 0 to n -/
def Cont : Nat → List Pc → Prop
  | n, [] => n = 0
  | n, x :: r => x.2.1 = n ∧ x.1 < n ∧ Cont x.1 r
/-- all but the last one have a mark -/
def Mk : List Pc → Prop
  | [] => True
  | _ :: r => ∀ y ∈ r, ∃ c, y.2.2 = some c
/-- joins of pieces up to n -/
def JnOk (n : Nat) (js : List Jn) : Prop := ∀ j ∈ js, j.1 < j.2.1 ∧ j.2.1 < j.2.2 ∧ j.2.2 ≤ n
theorem JnOk.app {n : Nat} {js : List Jn} {j : Jn} (h : JnOk n js) (h2 : j.1 < j.2.1 ∧ j.2.1 < j.2.2 ∧ j.2.2 ≤ n) : JnOk n (js ++ [j]) := fun i hi => by
  rcases List.mem_append.mp hi with hi | hi
  · exact h i hi
  · rw [List.mem_singleton.mp hi]
    exact h2
theorem JnOk.mono {n m : Nat} {js : List Jn} (h : JnOk n js) (l : n ≤ m) : JnOk m js := fun i hi => by
  have := h i hi
  omega
theorem squeeze_ok {m n : Nat} : ∀ {f : Nat} {rs : List Pc} {js : List Jn}, rs ≠ [] → Cont n rs → Mk rs → JnOk n js → (squeeze m f rs js).1 ≠ [] ∧ Cont n (squeeze m f rs js).1 ∧ Mk (squeeze m f rs js).1 ∧ JnOk n (squeeze m f rs js).2
  | 0, rs, js, h0, h1, h2, h3 => ⟨h0, h1, h2, h3⟩
  | f + 1, [], js, h0, h1, h2, h3 => absurd rfl h0
  | f + 1, [x], js, h0, h1, h2, h3 => ⟨h0, h1, h2, h3⟩
  | f + 1, x :: y :: r, js, h0, h1, h2, h3 => by
    unfold squeeze
    split
    · obtain ⟨a1, a2, a3, a4, a5⟩ := h1
      refine squeeze_ok (by simp) ⟨a1, by show y.1 < n; omega, a5⟩ (fun z hz => h2 z (by simp [hz])) (h3.app ⟨by show y.1 < y.2.1; omega, by show y.2.1 < x.2.1; omega, by show x.2.1 ≤ n; omega⟩)
    · exact ⟨h0, h1, h2, h3⟩
theorem come_ok {lev : Nat → Nat → Nat → Nat} {k : Nat} {s : List Pc × List Jn} (h1 : Cont k s.1) (h2 : Mk s.1) (h3 : JnOk k s.2) : Cont (k + 1) (come lev k s).1 ∧ Mk (come lev k s).1 ∧ JnOk (k + 1) (come lev k s).2 ∧ ∃ r, (come lev k s).1 = (k, k + 1, none) :: r := by
  obtain ⟨rs, js⟩ := s
  cases rs with
  | nil =>
    have : k = 0 := h1
    subst this
    exact ⟨⟨rfl, by show 0 < 1; omega, rfl⟩, fun y hy => (nomatch hy), h3.mono (by omega), _, rfl⟩
  | cons x r =>
    obtain ⟨a, b, c, d⟩ := squeeze_ok (m := lev x.1 x.2.1 (k + 1)) (n := k) (f := (x :: r).length) (by simp) h1 h2 h3
    show Cont (k + 1) (marked _ k (squeeze (lev x.1 x.2.1 (k + 1)) (x :: r).length (x :: r) js).1) ∧ Mk (marked _ k (squeeze (lev x.1 x.2.1 (k + 1)) (x :: r).length (x :: r) js).1) ∧ JnOk (k + 1) (squeeze (lev x.1 x.2.1 (k + 1)) (x :: r).length (x :: r) js).2 ∧ ∃ r', marked _ k (squeeze (lev x.1 x.2.1 (k + 1)) (x :: r).length (x :: r) js).1 = _
    generalize squeeze (lev x.1 x.2.1 (k + 1)) (x :: r).length (x :: r) js = t at *
    obtain ⟨ts, js2⟩ := t
    cases ts with
    | nil => exact absurd rfl a
    | cons z r' =>
      obtain ⟨b1, b2, b3⟩ := b
      refine ⟨⟨rfl, Nat.lt_succ_self k, b1, b2, b3⟩, fun y hy => ?_, JnOk.mono d (Nat.le_succ k), _, rfl⟩
      rcases List.mem_cons.mp hy with rfl | hy
      · exact ⟨_, rfl⟩
      · exact c y hy
theorem stN_ok (lev : Nat → Nat → Nat → Nat) : ∀ k, Cont k (stN lev k).1 ∧ Mk (stN lev k).1 ∧ JnOk k (stN lev k).2
  | 0 => ⟨rfl, trivial, fun j hj => (nomatch hj)⟩
  | k + 1 => by
    obtain ⟨a, b, c⟩ := stN_ok lev k
    obtain ⟨d, e, f, _⟩ := come_ok (lev := lev) a b c
    exact ⟨d, e, f⟩
theorem stN_top (lev : Nat → Nat → Nat → Nat) (k : Nat) : ∃ r, (stN lev (k + 1)).1 = (k, k + 1, none) :: r := by
  obtain ⟨a, b, c⟩ := stN_ok lev k
  exact (come_ok (lev := lev) a b c).2.2.2
theorem endN_ok {lt : Pc → Pc → Bool} {n : Nat} : ∀ {f : Nat} {rs : List Pc} {js : List Jn}, Cont n rs → JnOk n js → JnOk n (endN lt f rs js)
  | 0, rs, js, h1, h3 => by
    unfold endN
    exact h3
  | f + 1, [], js, h1, h3 => h3
  | f + 1, [x], js, h1, h3 => h3
  | f + 1, [x, y], js, h1, h3 => by
    obtain ⟨a1, a2, a3, a4, a5⟩ := h1
    exact h3.app ⟨by show y.1 < y.2.1; omega, by show y.2.1 < x.2.1; omega, by show x.2.1 ≤ n; omega⟩
  | f + 1, x :: y :: z :: r, js, h1, h3 => by
    obtain ⟨a1, a2, a3, a4, a5, a6, a7⟩ := h1
    unfold endN
    split
    · exact endN_ok ⟨a1, a2, a3, by show z.1 < x.1; omega, a7⟩ (h3.app ⟨by show z.1 < z.2.1; omega, by show z.2.1 < y.2.1; omega, by show y.2.1 ≤ n; omega⟩)
    · exact endN_ok ⟨a1, by show y.1 < n; omega, a5, a6, a7⟩ (h3.app ⟨by show y.1 < y.2.1; omega, by show y.2.1 < x.2.1; omega, by show x.2.1 ≤ n; omega⟩)
/-- all joins -/
def allJ (lev : Nat → Nat → Nat → Nat) (lt : Pc → Pc → Bool) (n : Nat) : List Jn := endN lt (stN lev n).1.length (stN lev n).1 (stN lev n).2
theorem allJ_ok (lev : Nat → Nat → Nat → Nat) (lt : Pc → Pc → Bool) (n : Nat) : JnOk n (allJ lev lt n) := by
  obtain ⟨a, b, c⟩ := stN_ok lev n
  exact endN_ok a c
/-! ### levels -/
/-- the figures alike -/
def alike (size lo hi c : Nat) : Bool := decide (lo * 2 ^ c / (2 * size) = hi * 2 ^ c / (2 * size))
def levF (size lo hi : Nat) : Nat → Nat → Nat
  | 0, c => c
  | f + 1, c => if alike size lo hi c = true then levF size lo hi f (c + 1) else c
def lev0 (size lo hi : Nat) : Nat := levF size lo hi (2 * size) 1
theorem alike_lt {size lo hi c : Nat} (h : lo < hi) (hs : 0 < size) (ha : alike size lo hi c = true) : 2 ^ c < 2 * size := by
  have e := of_decide_eq_true ha
  have hp := Nat.two_pow_pos c
  have h1 : lo * 2 ^ c + 2 ^ c ≤ hi * 2 ^ c := by
    rw [← Nat.succ_mul]
    exact Nat.mul_le_mul_right _ h
  by_cases z : 2 * size ≤ 2 ^ c
  · have h2 : (lo * 2 ^ c + 2 * size) / (2 * size) ≤ hi * 2 ^ c / (2 * size) := Nat.div_le_div_right (by omega)
    rw [Nat.add_div_right _ (by omega)] at h2
    omega
  · omega
theorem levF_is {size lo hi : Nat} : ∀ {f c : Nat}, alike size lo hi (levF size lo hi f c) = false ∨ levF size lo hi f c = c + f
  | 0, c => .inr rfl
  | f + 1, c => by
    unfold levF
    cases h : alike size lo hi c with
    | true =>
      rw [if_pos rfl]
      rcases levF_is (f := f) (c := c + 1) with a | a
      · exact .inl a
      · exact .inr (by omega)
    | false =>
      rw [if_neg (by decide)]
      exact .inl h
theorem levF_below {size lo hi : Nat} : ∀ {f c j : Nat}, c ≤ j → j < levF size lo hi f c → alike size lo hi j = true
  | 0, c, j, h1, h2 => by
    have : j < c := h2
    omega
  | f + 1, c, j, h1, h2 => by
    unfold levF at h2
    cases h : alike size lo hi c with
    | true =>
      rw [h, if_pos rfl] at h2
      by_cases z : c = j
      · rw [← z]
        exact h
      · exact levF_below (by omega) h2
    | false =>
      rw [h, if_neg (by decide)] at h2
      omega
theorem levF_ge {size lo hi : Nat} : ∀ {f c : Nat}, c ≤ levF size lo hi f c
  | 0, c => Nat.le_refl _
  | f + 1, c => by
    unfold levF
    split
    · have := levF_ge (size := size) (lo := lo) (hi := hi) (f := f) (c := c + 1)
      omega
    · exact Nat.le_refl _
theorem lev0_is {size lo hi : Nat} (h : lo < hi) (hs : 0 < size) : alike size lo hi (lev0 size lo hi) = false := by
  rcases levF_is (size := size) (lo := lo) (hi := hi) (f := 2 * size) (c := 1) with a | a
  · exact a
  · unfold lev0
    rw [a]
    cases e : alike size lo hi (1 + 2 * size) with
    | false => rfl
    | true =>
      have := alike_lt h hs e
      have : 1 + 2 * size < 2 ^ (1 + 2 * size) := Nat.lt_two_pow_self
      omega
/-- the first figures that differ -/
theorem lev0_of {size lo hi c : Nat} (h : lo < hi) (hs : 0 < size) (h1 : 1 ≤ c) (h2 : ∀ j, 1 ≤ j → j < c → alike size lo hi j = true) (h3 : alike size lo hi c = false) : c = lev0 size lo hi := by
  have a := lev0_is h hs
  by_cases z : c < lev0 size lo hi
  · have := levF_below (size := size) (lo := lo) (hi := hi) (f := 2 * size) h1 z
    rw [this] at h3
    cases h3
  · by_cases w : lev0 size lo hi < c
    · have this : alike size lo hi (lev0 size lo hi) = true := h2 _ levF_ge w
      rw [this] at a
      cases a
    · omega
theorem alike_mul {t size lo hi c : Nat} (ht : 0 < t) : alike (t * size) (t * lo) (t * hi) c = alike size lo hi c := by
  unfold alike
  have e : ∀ x, t * x * 2 ^ c / (2 * (t * size)) = x * 2 ^ c / (2 * size) := fun x => by
    rw [show 2 * (t * size) = t * (2 * size) by rw [Nat.mul_left_comm], Nat.mul_assoc, Nat.mul_div_mul_left _ _ ht]
  rw [e, e]
theorem levF_ext {size lo hi size' lo' hi' : Nat} (h : ∀ c, alike size lo hi c = alike size' lo' hi' c) : ∀ f c, levF size lo hi f c = levF size' lo' hi' f c
  | 0, _ => rfl
  | f + 1, c => by
    unfold levF
    rw [h c, levF_ext h f (c + 1)]
theorem lev0_mul {t size lo hi : Nat} (ht : 0 < t) (h : lo < hi) (hs : 0 < size) : lev0 (t * size) (t * lo) (t * hi) = lev0 size lo hi := by
  refine lev0_of h hs levF_ge (fun j h1 h2 => ?_) ?_
  · rw [← alike_mul ht]
    exact levF_below h1 h2
  · rw [← alike_mul ht]
    exact lev0_is (Nat.mul_lt_mul_of_pos_left h ht) (Nat.mul_pos ht hs)
/-! ### lengths -/
def S (ps : List Nat) (i : Nat) : Nat := (ps.take i).sum
theorem S_succ {ps : List Nat} {i : Nat} (h : i < ps.length) : S ps (i + 1) = S ps i + ps.getD i 0 := by
  unfold S
  rw [List.take_succ, List.getElem?_eq_getElem h, List.sum_append]
  simp [List.getD, List.getElem?_eq_getElem h]
theorem S_mono {ps : List Nat} : ∀ {i j : Nat}, i ≤ j → S ps i ≤ S ps j := by
  intro i j h
  obtain ⟨d, rfl⟩ := Nat.exists_eq_add_of_le h
  clear h
  induction d with
  | zero => exact Nat.le_refl _
  | succ d ih =>
    refine Nat.le_trans ih ?_
    by_cases z : i + d < ps.length
    · rw [← Nat.add_assoc, S_succ z]
      omega
    · unfold S
      rw [List.take_of_length_le (by omega), List.take_of_length_le (by omega)]
      exact Nat.le_refl _
theorem S_lt {ps : List Nat} (hp : ∀ x ∈ ps, 1 ≤ x) {i j : Nat} (h : i < j) (hj : j ≤ ps.length) : S ps i < S ps j := by
  have h1 : i < ps.length := by omega
  have := S_succ h1
  have h2 : 1 ≤ ps.getD i 0 := by
    rw [List.getD, List.getElem?_eq_getElem h1]
    exact hp _ (List.getElem_mem h1)
  have := S_mono (ps := ps) (show i + 1 ≤ j from h)
  omega
def levS (T : Nat → Nat) (size i j k : Nat) : Nat := lev0 size (2 * T i + (T j - T i)) (2 * T i + (T j - T i) + (T j - T i) + (T k - T j))
def ltS (T : Nat → Nat) (z x : Pc) : Bool := decide (T z.2.1 - T z.1 < T x.2.1 - T x.1)
def joinsN (ps : List Nat) : List Jn := allJ (levS (S ps) (S ps ps.length)) (ltS (S ps)) ps.length
theorem S_mul (t : Nat) (ps : List Nat) (i : Nat) : S (ps.map (t * ·)) i = t * S ps i := by
  unfold S
  rw [← List.map_take]
  induction ps.take i with
  | nil => rfl
  | cons x r ih => rw [List.map_cons, List.sum_cons, List.sum_cons, ih, Nat.mul_add]
/-- how many joins a piece is in -/
def rnd : List Jn → Nat → Nat
  | [], _ => 0
  | j :: r, p => (if j.1 ≤ p ∧ p < j.2.2 then 1 else 0) + rnd r p
def costJ (T : Nat → Nat) : List Jn → Nat
  | [] => 0
  | j :: r => (T j.2.2 - T j.1) + costJ T r
theorem sum_span (ps : List Nat) {i k : Nat} (h : i ≤ k) : ∀ {n : Nat}, k ≤ n → n ≤ ps.length → ((List.range n).map fun p => ps.getD p 0 * (if i ≤ p ∧ p < k then 1 else 0)).sum = S ps k - S ps i := by
  intro n
  induction n generalizing k with
  | zero =>
    intro h1 _
    have : k = i := by omega
    subst this
    simp
  | succ n ih =>
    intro h1 h2
    rw [List.range_succ, List.map_append, List.sum_append]
    by_cases z : k = n + 1
    · subst z
      by_cases w : i = n + 1
      · subst w
        have e : ((List.range n).map fun p => ps.getD p 0 * (if n + 1 ≤ p ∧ p < n + 1 then 1 else 0)).sum = 0 := by
          have : ((List.range n).map fun p => ps.getD p 0 * (if n + 1 ≤ p ∧ p < n + 1 then 1 else 0)) = (List.range n).map fun _ => 0 := List.map_congr_left fun p hp => by
            have := List.mem_range.mp hp
            rw [if_neg (by omega)]
            rfl
          rw [this]
          clear this ih h1 h2 h
          induction n with
          | zero => rfl
          | succ n ih => rw [List.range_succ, List.map_append, List.sum_append, ih]; rfl
        rw [e]
        simp only [List.map_cons, List.map_nil, List.sum_cons, List.sum_nil]
        rw [if_neg (by omega)]
        omega
      · have e : ((List.range n).map fun p => ps.getD p 0 * (if i ≤ p ∧ p < n + 1 then 1 else 0)) = (List.range n).map fun p => ps.getD p 0 * (if i ≤ p ∧ p < n then 1 else 0) := List.map_congr_left fun p hp => by
          have := List.mem_range.mp hp
          by_cases y : i ≤ p
          · rw [if_pos ⟨y, by omega⟩, if_pos ⟨y, this⟩]
          · rw [if_neg (by omega), if_neg (by omega)]
        rw [e, ih (show i ≤ n by omega) (Nat.le_refl _) (by omega)]
        have e2 : ([n].map fun p => ps.getD p 0 * (if i ≤ p ∧ p < n + 1 then 1 else 0)).sum = ps.getD n 0 := by
          simp only [List.map_cons, List.map_nil, List.sum_cons, List.sum_nil]
          rw [if_pos ⟨by omega, by omega⟩]
          omega
        rw [e2, S_succ (by omega)]
        have := S_mono (ps := ps) (show i ≤ n by omega)
        omega
    · rw [ih h (by omega) (by omega)]
      have e2 : ([n].map fun p => ps.getD p 0 * (if i ≤ p ∧ p < k then 1 else 0)).sum = 0 := by
        simp only [List.map_cons, List.map_nil, List.sum_cons, List.sum_nil]
        rw [if_neg (by omega)]
        rfl
      rw [e2]
      rfl
theorem sum_add (f g : Nat → Nat) : ∀ n, ((List.range n).map fun p => f p + g p).sum = ((List.range n).map f).sum + ((List.range n).map g).sum
  | 0 => rfl
  | n + 1 => by
    rw [List.range_succ, List.map_append, List.map_append, List.map_append, List.sum_append, List.sum_append, List.sum_append, sum_add f g n]
    simp only [List.map_cons, List.map_nil, List.sum_cons, List.sum_nil]
    omega
/-- what the joins cost is what the pieces' rounds cost -/
theorem cost_rnd (ps : List Nat) : ∀ {js : List Jn}, JnOk ps.length js → costJ (S ps) js = ((List.range ps.length).map fun p => ps.getD p 0 * rnd js p).sum
  | [], _ => by
    show 0 = ((List.range ps.length).map fun p => ps.getD p 0 * 0).sum
    generalize ps.length = n
    induction n with
    | zero => rfl
    | succ n ih =>
      rw [List.range_succ, List.map_append, List.sum_append, ← ih]
      rfl
  | j :: r, h => by
    have hj := h j (List.mem_cons_self ..)
    have ih := cost_rnd ps (js := r) (fun i hi => h i (List.mem_cons_of_mem _ hi))
    have e : ((List.range ps.length).map fun p => ps.getD p 0 * rnd (j :: r) p) = (List.range ps.length).map fun p => ps.getD p 0 * (if j.1 ≤ p ∧ p < j.2.2 then 1 else 0) + ps.getD p 0 * rnd r p := List.map_congr_left fun p _ => by
      show ps.getD p 0 * (_ + rnd r p) = _
      rw [Nat.mul_add]
    rw [e, sum_add, sum_span ps (show j.1 ≤ j.2.2 by omega) hj.2.2 (Nat.le_refl _), ← ih]
    rfl
theorem joins_ok (ps : List Nat) : JnOk ps.length (joinsN ps) := allJ_ok _ _ _
/-! ### in the heap -/
/-- tuples in a list, of what val says -/
def Tups {α : Type} (val : α → List V) (H : Heap) (a : Nat) (xs : List α) : Prop := ∃ es : List Nat, H a = some (.lst (es.map V.ref)) ∧ es.length = xs.length ∧ ∀ (i e : Nat) (x : α), es[i]? = some e → xs[i]? = some x → H e = some (.tup (val x))
def mkV : Option Nat → V
  | none => .non
  | some c => .int c
def pcV (T : Nat → Nat) (p : Pc) : List V := [.int (T p.1 : Nat), .int (T p.2.1 - T p.1 : Nat), mkV p.2.2]
def jnV (T : Nat → Nat) (j : Jn) : List V := [.int (T j.1 : Nat), .int (T j.2.1 - T j.1 : Nat), .int (T j.2.2 - T j.2.1 : Nat)]
/-- nothing changed, but that there is more -/
def FrN (H H' : Heap) : Prop := ∀ q o, H q = some o → H' q = some o
theorem FrN.new {H : Heap} {p : Nat} {o : O} (h : H p = none) : FrN H (upd H p o) := fun _ _ e => upd_old e h
theorem FrN.trans {H H1 H2 : Heap} (a : FrN H H1) (b : FrN H1 H2) : FrN H H2 := fun q o h => b q o (a q o h)
theorem FrN.fr {H H' : Heap} (a : FrN H H') (S : List Nat) : Fr S H H' := fun q o h _ => a q o h
theorem FrN.tup {H H' : Heap} (a : FrN H H') : FrT H H' := fun p ys h => a p _ h
theorem split2 {es : List Nat} {A B : List Pc} {y x : Pc} (h : es.length = (A ++ y :: x :: B).length) : ∃ eA e1 e2 eB, es = eA ++ e1 :: e2 :: eB ∧ eA.length = A.length := by
  have l : es.length = A.length + (B.length + 1 + 1) := by simpa using h
  refine ⟨es.take A.length, es[A.length], es[A.length + 1], es.drop (A.length + 2), ?_, by simp; omega⟩
  have e1 : es.drop A.length = es[A.length] :: es.drop (A.length + 1) := List.drop_eq_getElem_cons (by omega)
  have e2 : es.drop (A.length + 1) = es[A.length + 1] :: es.drop (A.length + 2) := List.drop_eq_getElem_cons (by omega)
  rw [← e2, ← e1, List.take_append_drop]
section
variable {k : Nat} {H : Heap} {Q : VK} {E : EK} {T0 : Nat → Nat} {st jn : Nat} {A B : List Pc} {y x : Pc} {js : List Jn}
abbrev T := defOf ztab
def stkF (w st jn : Nat) : List (String × V) := [("whole", .int w), ("stack", .ref st), ("joins", .ref jn)]
theorem note_k (hlen : (A ++ y :: x :: B).length ≤ 1000) (hjl : js.length < 10000) (hr : x.1 = y.2.1) (hm1 : T0 y.1 ≤ T0 y.2.1) (hm2 : T0 y.2.1 ≤ T0 x.2.1) (hp : Tups (pcV T0) H st (A ++ y :: x :: B)) (hj : Tups (jnV T0) H jn js) (hne : st ≠ jn)
    (q : ∀ H', Tups (pcV T0) H' st (A ++ (y.1, x.2.1, x.2.2) :: B) → Tups (jnV T0) H' jn (js ++ [(y.1, y.2.1, x.2.1)]) → Fr [st, jn] H H' → FrT H H' → Q .non H') : callK T (k + 1) "" "_law_note" [.ref st, .ref jn, .int A.length] H Q E := by
  refine call_k (np := 3) (n := 8) rfl rfl ?_
  unfold z__law_note
  obtain ⟨es, h1, h2, h3⟩ := hp
  obtain ⟨eA, e1, e2, eB, rfl, lA⟩ := split2 h2
  have t1 : H e1 = some (.tup (pcV T0 y)) := h3 A.length e1 y (by rw [← lA]; simp) (by simp)
  have t2 : H e2 = some (.tup (pcV T0 x)) := h3 (A.length + 1) e2 x (by rw [← lA]; simp [List.getElem?_append_right]) (by simp [List.getElem?_append_right])
  have at1 : atI ((eA ++ e1 :: e2 :: eB).map V.ref) (A.length : Nat) = some (.ref e1) := by
    rw [atI_lt (by omega) (by simp; omega), Int.toNat_natCast, List.getElem?_map, ← lA]
    simp
  have at2 : atI ((eA ++ e1 :: e2 :: eB).map V.ref) ((A.length : Nat) + 1) = some (.ref e2) := by
    rw [atI_lt (by omega) (by simp; omega), show ((A.length : Int) + 1).toNat = A.length + 1 by omega, List.getElem?_map, ← lA]
    simp [List.getElem?_append_right]
  refine seq_k (fun σ1 H1 => H = H1 ∧ σ1 = [some (.ref st), some (.ref jn), some (.int A.length), some (.int (T0 y.1)), some (.int (T0 y.2.1 - T0 y.1 : Nat)), some (mkV y.2.2), none, none]) (fun K hK => ?_) ?_
  · simp only [asg, ix,  var, start, put, Z.get]
    refine ⟨_, _, .ref e1, items_l h1, rfl, at1, ?_⟩
    simp only [gtup, gcons, gnil, gname]
    exact ⟨_, titems_t t1, rfl, _, _, rfl, _, _, rfl, _, _, rfl, rfl, hK _ _ ⟨rfl, rfl⟩⟩
  rintro _ _ ⟨rfl, rfl⟩
  refine seq_k (fun σ1 H1 => FrN H H1 ∧ σ1 = [some (.ref st), some (.ref jn), some (.int A.length), some (.int (T0 y.1)), some (.int (T0 y.2.1 - T0 y.1 : Nat)), some (mkV y.2.2), some (.int (T0 x.2.1 - T0 x.1 : Nat)), some (mkV x.2.2)]) (fun K hK => ?_) ?_
  · simp only [asg, slc, ix, bin, cst, pso, pno,  var, Z.get, opr_add_ii]
    refine ⟨_, _, .ref e2, items_l h1, rfl, at2, 1, rfl, .inr ⟨_, titems_t t2, ?_, fun p np => ?_⟩⟩
    · show ¬ (min 1 3 = 0 ∧ _)
      omega
    · simp only [gtup, gcons, gnil, gname]
      exact ⟨_, titems_t upd_same, rfl, _, _, rfl, _, _, rfl, rfl, hK _ _ ⟨.new np, rfl⟩⟩
  rintro _ H2 ⟨f2, rfl⟩
  have h1' := f2 _ _ h1
  obtain ⟨es2, j1, j2, j3⟩ := hj
  have j1' := f2 _ _ j1
  refine seq_k (fun σ1 H3 => Tups (pcV T0) H3 st (A ++ (y.1, x.2.1, x.2.2) :: B) ∧ H3 jn = some (.lst (es2.map V.ref)) ∧ Fr [st, jn] H H3 ∧ FrT H H3 ∧ σ1 = [some (.ref st), some (.ref jn), some (.int A.length), some (.int (T0 y.1)), some (.int (T0 y.2.1 - T0 y.1 : Nat)), some (mkV y.2.2), some (.int (T0 x.2.1 - T0 x.1 : Nat)), some (mkV x.2.2)] ) (fun K hK => ?_) ?_
  · simp only [asg, lstl, tupl, acons, anil, bin, cst,  var, Z.get, opr_add_ii]
    refine ⟨(by show 3 ≤ line; decide), fun p np => ⟨(by show 1 ≤ line; decide), fun l nl => ?_⟩⟩
    have ep : upd (upd H2 p (.tup [.int (T0 y.1), .int ((T0 y.2.1 - T0 y.1 : Nat) + (T0 x.2.1 - T0 x.1 : Nat)), mkV x.2.2])) l (.lst [.ref p]) p = some (.tup (pcV T0 (y.1, x.2.1, x.2.2))) := by
      refine (upd_old upd_same nl).trans ?_
      unfold pcV
      rw [show (((T0 y.2.1 - T0 y.1 : Nat) : Int) + ((T0 x.2.1 - T0 x.1 : Nat) : Int)) = ((T0 x.2.1 - T0 y.1 : Nat) : Int) by rw [hr]; omega]
    have el : upd (upd H2 p (.tup [.int (T0 y.1), .int ((T0 y.2.1 - T0 y.1 : Nat) + (T0 x.2.1 - T0 x.1 : Nat)), mkV x.2.2])) l (.lst [.ref p]) l = some (.lst [.ref p]) := upd_same
    have f3 : FrN H (upd (upd H2 p (.tup [.int (T0 y.1), .int ((T0 y.2.1 - T0 y.1 : Nat) + (T0 x.2.1 - T0 x.1 : Nat)), mkV x.2.2])) l (.lst [.ref p])) := (f2.trans (.new np)).trans (.new nl)
    have nls : st ≠ l := fun z => by
      have := upd_old (o' := .tup [.int (T0 y.1), .int ((T0 y.2.1 - T0 y.1 : Nat) + (T0 x.2.1 - T0 x.1 : Nat)), mkV x.2.2]) h1' np
      rw [z, nl] at this
      cases this
    generalize upd (upd H2 p (.tup [.int (T0 y.1), .int ((T0 y.2.1 - T0 y.1 : Nat) + (T0 x.2.1 - T0 x.1 : Nat)), mkV x.2.2])) l (.lst [.ref p]) = H3 at *
    have h1'' := f3 _ _ h1
    simp only [gslc, bin, cst,  var, Z.get, opr_add_ii]
    refine ⟨st, l, _, _, _, _, rfl, rfl, rfl, rfl, h1'', el, nls, by omega, by omega, by simp; omega, ?_, hK _ _ ⟨⟨eA ++ p :: eB, ?_, ?_, ?_⟩, ?_, ?_, ?_, rfl ⟩⟩
    · simp only [List.length_map, List.length_append, List.length_cons, List.length_nil] at hlen h2 ⊢
      unfold line
      omega
    · rw [upd_same]
      congr 2
      rw [Int.toNat_natCast, show ((A.length : Int) + 2).toNat = A.length + 2 by omega, ← List.map_take, ← List.map_drop, ← lA]
      simp [List.drop_append]
    · simp only [List.length_append, List.length_cons] at h2 ⊢
      omega
    · intro i e x' g1 g2
      have pe : upd H3 st (.lst (((eA ++ e1 :: e2 :: eB).map V.ref).take (A.length : Int).toNat ++ [V.ref p] ++ ((eA ++ e1 :: e2 :: eB).map V.ref).drop ((A.length : Int) + 2).toNat)) = upd H3 st _ := rfl
      have tt : ∀ (e : Nat) (ys : List V), H3 e = some (.tup ys) → upd H3 st (.lst (((eA ++ e1 :: e2 :: eB).map V.ref).take (A.length : Int).toNat ++ [V.ref p] ++ ((eA ++ e1 :: e2 :: eB).map V.ref).drop ((A.length : Int) + 2).toNat)) e = some (.tup ys) := fun e ys h => (FrT.chg h1'') e ys h
      by_cases c1 : i < A.length
      · rw [List.getElem?_append_left (by omega)] at g1
        rw [List.getElem?_append_left c1] at g2
        refine tt _ _ (f3 _ _ (h3 i e x' ?_ ?_))
        · rw [List.getElem?_append_left (by omega)]
          exact g1
        · rw [List.getElem?_append_left c1]
          exact g2
      · rw [List.getElem?_append_right (by omega)] at g1
        rw [List.getElem?_append_right (by omega)] at g2
        rw [lA] at g1
        by_cases c2 : i - A.length = 0
        · rw [c2] at g1 g2
          cases g1
          cases g2
          exact tt _ _ ep
        · obtain ⟨d, ed⟩ : ∃ d, i - A.length = d + 1 := ⟨i - A.length - 1, by omega⟩
          rw [ed] at g1 g2
          have g1 : eB[d]? = some e := g1
          have g2 : B[d]? = some x' := g2
          refine tt _ _ (f3 _ _ (h3 (A.length + 2 + d) e x' ?_ ?_))
          · rw [List.getElem?_append_right (by omega), show A.length + 2 + d - eA.length = d + 2 by omega]
            exact g1
          · rw [List.getElem?_append_right (by omega), show A.length + 2 + d - A.length = d + 2 by omega]
            exact g2
    · rw [upd_ne hne.symm]
      exact f3 _ _ j1
    · exact (f3.fr _).trans (Fr.chg (by simp))
    · exact f3.tup.trans (FrT.chg h1'')

  rintro _ H3 ⟨hp3, j1'', f3, t3, rfl ⟩
  simp only [drop, bmt, tupl, acons, anil,  var, Z.get]
  refine ⟨⟨_, litems_l j1''⟩, (by show 3 ≤ line; decide), fun t nt => ⟨jn, _, _, rfl, rfl, upd_old j1'' nt, ?_, ?_⟩⟩
  · rw [List.length_map, j2]
    unfold line
    omega
  · have j4 := upd_old (o' := .tup [.int (T0 y.1), .int (T0 y.2.1 - T0 y.1 : Nat), .int (T0 x.2.1 - T0 x.1 : Nat)]) j1'' nt
    have t4 : FrT H3 (upd (upd H3 t (.tup [.int (T0 y.1), .int (T0 y.2.1 - T0 y.1 : Nat), .int (T0 x.2.1 - T0 x.1 : Nat)])) jn (.lst (es2.map V.ref ++ [.ref t]))) := (FrT.new nt).trans (FrT.chg j4)
    refine q _ ?_ ?_ ((f3.trans (Fr.new nt)).trans (Fr.chg (by simp))) (t3.trans t4)
    · obtain ⟨es3, p1, p2, p3⟩ := hp3
      refine ⟨es3, ?_, p2, fun i e x' g1 g2 => t4 _ _ (p3 i e x' g1 g2)⟩
      rw [upd_ne hne]
      exact upd_old p1 nt
    · refine ⟨es2 ++ [t], ?_, by simp [j2], fun i e x' g1 g2 => ?_⟩
      · rw [upd_same]
        simp
      · by_cases c : i < js.length
        · rw [List.getElem?_append_left (by omega)] at g1
          rw [List.getElem?_append_left c] at g2
          exact t4 _ _ (t3 _ _ (j3 i e x' g1 g2))
        · rw [List.getElem?_append_right (by omega)] at g1 g2
          rw [j2] at g1
          have c0 : i - js.length = 0 := by
            by_cases w : i - js.length = 0
            · exact w
            · rw [List.getElem?_singleton, if_neg w] at g1
              cases g1
          rw [c0] at g1 g2
          cases g1
          cases g2
          refine (FrT.chg j4) _ _ (upd_same.trans ?_)
          unfold jnV
          rw [hr]
theorem join_k (hlen : (A ++ y :: x :: B).length ≤ 1000) (hjl : js.length < 10000) (hr : x.1 = y.2.1) (hm1 : T0 y.1 ≤ T0 y.2.1) (hm2 : T0 y.2.1 ≤ T0 x.2.1) {a w : Nat} (ha : H a = some (.ins "Stack" (stkF w st jn))) (hp : Tups (pcV T0) H st (A ++ y :: x :: B)) (hj : Tups (jnV T0) H jn js) (hne : st ≠ jn)
    (q : ∀ H', H' a = some (.ins "Stack" (stkF w st jn)) → Tups (pcV T0) H' st (A ++ (y.1, x.2.1, x.2.2) :: B) → Tups (jnV T0) H' jn (js ++ [(y.1, y.2.1, x.2.1)]) → Fr [st, jn] H H' → FrT H H' → Q .non H') : callK T (k + 1) "Stack" "join_at" [.ref a, .int A.length] H Q E := by
  refine call_k (np := 2) (n := 7) rfl rfl ?_
  unfold z_Stack_join_at
  obtain ⟨es, h1, h2, h3⟩ := hp
  obtain ⟨eA, e1, e2, eB, rfl, lA⟩ := split2 h2
  have t1 : H e1 = some (.tup (pcV T0 y)) := h3 A.length e1 y (by rw [← lA]; simp) (by simp)
  have t2 : H e2 = some (.tup (pcV T0 x)) := h3 (A.length + 1) e2 x (by rw [← lA]; simp [List.getElem?_append_right]) (by simp [List.getElem?_append_right])
  have at1 : atI ((eA ++ e1 :: e2 :: eB).map V.ref) (A.length : Nat) = some (.ref e1) := by
    rw [atI_lt (by omega) (by simp; omega), Int.toNat_natCast, List.getElem?_map, ← lA]
    simp
  have at2 : atI ((eA ++ e1 :: e2 :: eB).map V.ref) ((A.length : Nat) + 1) = some (.ref e2) := by
    rw [atI_lt (by omega) (by simp; omega), show ((A.length : Int) + 1).toNat = A.length + 1 by omega, List.getElem?_map, ← lA]
    simp [List.getElem?_append_right]
  refine seq_k (fun σ1 H1 => H = H1 ∧ σ1 = [some (.ref a), some (.int A.length), some (.int (T0 y.1)), some (.int (T0 y.2.1 - T0 y.1 : Nat)), some (mkV y.2.2), none, none]) (fun K hK => ?_) ?_
  · simp only [asg, ix, fld, var, start, put, Z.get]
    refine ⟨a, _, _, .ref st, rfl, ha, rfl, _, _, .ref e1, items_l h1, rfl, at1, ?_⟩
    simp only [gtup, gcons, gnil, gname]
    exact ⟨_, titems_t t1, rfl, _, _, rfl, _, _, rfl, _, _, rfl, rfl, hK _ _ ⟨rfl, rfl⟩⟩
  rintro _ _ ⟨rfl, rfl⟩
  refine seq_k (fun σ1 H1 => FrN H H1 ∧ σ1 = [some (.ref a), some (.int A.length), some (.int (T0 y.1)), some (.int (T0 y.2.1 - T0 y.1 : Nat)), some (mkV y.2.2), some (.int (T0 x.2.1 - T0 x.1 : Nat)), some (mkV x.2.2)]) (fun K hK => ?_) ?_
  · simp only [asg, slc, ix, bin, cst, pso, pno, fld, var, Z.get, opr_add_ii]
    refine ⟨a, _, _, .ref st, rfl, ha, rfl, _, _, .ref e2, items_l h1, rfl, at2, 1, rfl, .inr ⟨_, titems_t t2, ?_, fun p np => ?_⟩⟩
    · show ¬ (min 1 3 = 0 ∧ _)
      omega
    · simp only [gtup, gcons, gnil, gname]
      exact ⟨_, titems_t upd_same, rfl, _, _, rfl, _, _, rfl, rfl, hK _ _ ⟨.new np, rfl⟩⟩
  rintro _ H2 ⟨f2, rfl⟩
  have h1' := f2 _ _ h1
  obtain ⟨es2, j1, j2, j3⟩ := hj
  have j1' := f2 _ _ j1
  refine seq_k (fun σ1 H3 => Tups (pcV T0) H3 st (A ++ (y.1, x.2.1, x.2.2) :: B) ∧ H3 jn = some (.lst (es2.map V.ref)) ∧ Fr [st, jn] H H3 ∧ FrT H H3 ∧ σ1 = [some (.ref a), some (.int A.length), some (.int (T0 y.1)), some (.int (T0 y.2.1 - T0 y.1 : Nat)), some (mkV y.2.2), some (.int (T0 x.2.1 - T0 x.1 : Nat)), some (mkV x.2.2)] ∧ H3 a = some (.ins "Stack" (stkF w st jn))) (fun K hK => ?_) ?_
  · simp only [asg, lstl, tupl, acons, anil, bin, cst, fld, var, Z.get, opr_add_ii]
    refine ⟨(by show 3 ≤ line; decide), fun p np => ⟨(by show 1 ≤ line; decide), fun l nl => ?_⟩⟩
    have ep : upd (upd H2 p (.tup [.int (T0 y.1), .int ((T0 y.2.1 - T0 y.1 : Nat) + (T0 x.2.1 - T0 x.1 : Nat)), mkV x.2.2])) l (.lst [.ref p]) p = some (.tup (pcV T0 (y.1, x.2.1, x.2.2))) := by
      refine (upd_old upd_same nl).trans ?_
      unfold pcV
      rw [show (((T0 y.2.1 - T0 y.1 : Nat) : Int) + ((T0 x.2.1 - T0 x.1 : Nat) : Int)) = ((T0 x.2.1 - T0 y.1 : Nat) : Int) by rw [hr]; omega]
    have el : upd (upd H2 p (.tup [.int (T0 y.1), .int ((T0 y.2.1 - T0 y.1 : Nat) + (T0 x.2.1 - T0 x.1 : Nat)), mkV x.2.2])) l (.lst [.ref p]) l = some (.lst [.ref p]) := upd_same
    have f3 : FrN H (upd (upd H2 p (.tup [.int (T0 y.1), .int ((T0 y.2.1 - T0 y.1 : Nat) + (T0 x.2.1 - T0 x.1 : Nat)), mkV x.2.2])) l (.lst [.ref p])) := (f2.trans (.new np)).trans (.new nl)
    have nls : st ≠ l := fun z => by
      have := upd_old (o' := .tup [.int (T0 y.1), .int ((T0 y.2.1 - T0 y.1 : Nat) + (T0 x.2.1 - T0 x.1 : Nat)), mkV x.2.2]) h1' np
      rw [z, nl] at this
      cases this
    generalize upd (upd H2 p (.tup [.int (T0 y.1), .int ((T0 y.2.1 - T0 y.1 : Nat) + (T0 x.2.1 - T0 x.1 : Nat)), mkV x.2.2])) l (.lst [.ref p]) = H3 at *
    have h1'' := f3 _ _ h1
    have ha3' := f3 _ _ ha
    simp only [gslc, bin, cst, fld, var, Z.get, opr_add_ii]
    refine ⟨a, _, _, .ref st, rfl, f3 _ _ ha, rfl, st, l, _, _, _, _, rfl, rfl, rfl, rfl, h1'', el, nls, by omega, by omega, by simp; omega, ?_, hK _ _ ⟨⟨eA ++ p :: eB, ?_, ?_, ?_⟩, ?_, ?_, ?_, rfl , ?_⟩⟩
    · simp only [List.length_map, List.length_append, List.length_cons, List.length_nil] at hlen h2 ⊢
      unfold line
      omega
    · rw [upd_same]
      congr 2
      rw [Int.toNat_natCast, show ((A.length : Int) + 2).toNat = A.length + 2 by omega, ← List.map_take, ← List.map_drop, ← lA]
      simp [List.drop_append]
    · simp only [List.length_append, List.length_cons] at h2 ⊢
      omega
    · intro i e x' g1 g2
      have pe : upd H3 st (.lst (((eA ++ e1 :: e2 :: eB).map V.ref).take (A.length : Int).toNat ++ [V.ref p] ++ ((eA ++ e1 :: e2 :: eB).map V.ref).drop ((A.length : Int) + 2).toNat)) = upd H3 st _ := rfl
      have tt : ∀ (e : Nat) (ys : List V), H3 e = some (.tup ys) → upd H3 st (.lst (((eA ++ e1 :: e2 :: eB).map V.ref).take (A.length : Int).toNat ++ [V.ref p] ++ ((eA ++ e1 :: e2 :: eB).map V.ref).drop ((A.length : Int) + 2).toNat)) e = some (.tup ys) := fun e ys h => (FrT.chg h1'') e ys h
      by_cases c1 : i < A.length
      · rw [List.getElem?_append_left (by omega)] at g1
        rw [List.getElem?_append_left c1] at g2
        refine tt _ _ (f3 _ _ (h3 i e x' ?_ ?_))
        · rw [List.getElem?_append_left (by omega)]
          exact g1
        · rw [List.getElem?_append_left c1]
          exact g2
      · rw [List.getElem?_append_right (by omega)] at g1
        rw [List.getElem?_append_right (by omega)] at g2
        rw [lA] at g1
        by_cases c2 : i - A.length = 0
        · rw [c2] at g1 g2
          cases g1
          cases g2
          exact tt _ _ ep
        · obtain ⟨d, ed⟩ : ∃ d, i - A.length = d + 1 := ⟨i - A.length - 1, by omega⟩
          rw [ed] at g1 g2
          have g1 : eB[d]? = some e := g1
          have g2 : B[d]? = some x' := g2
          refine tt _ _ (f3 _ _ (h3 (A.length + 2 + d) e x' ?_ ?_))
          · rw [List.getElem?_append_right (by omega), show A.length + 2 + d - eA.length = d + 2 by omega]
            exact g1
          · rw [List.getElem?_append_right (by omega), show A.length + 2 + d - A.length = d + 2 by omega]
            exact g2
    · rw [upd_ne hne.symm]
      exact f3 _ _ j1
    · exact (f3.fr _).trans (Fr.chg (by simp))
    · exact f3.tup.trans (FrT.chg h1'')
    · rw [upd_ne fun z => by rw [z, h1''] at ha3'; cases ha3']
      exact f3 _ _ ha
  rintro _ H3 ⟨hp3, j1'', f3, t3, rfl , ha3⟩
  simp only [drop, bmt, tupl, acons, anil, fld, var, Z.get]
  refine ⟨a, _, _, .ref jn, rfl, ha3, rfl, ⟨_, litems_l j1''⟩, (by show 3 ≤ line; decide), fun t nt => ⟨jn, _, _, rfl, rfl, upd_old j1'' nt, ?_, ?_⟩⟩
  · rw [List.length_map, j2]
    unfold line
    omega
  · have j4 := upd_old (o' := .tup [.int (T0 y.1), .int (T0 y.2.1 - T0 y.1 : Nat), .int (T0 x.2.1 - T0 x.1 : Nat)]) j1'' nt
    have t4 : FrT H3 (upd (upd H3 t (.tup [.int (T0 y.1), .int (T0 y.2.1 - T0 y.1 : Nat), .int (T0 x.2.1 - T0 x.1 : Nat)])) jn (.lst (es2.map V.ref ++ [.ref t]))) := (FrT.new nt).trans (FrT.chg j4)
    refine q _ (by rw [upd_ne fun z => by rw [z, j1''] at ha3; cases ha3]; exact upd_old ha3 nt) ?_ ?_ ((f3.trans (Fr.new nt)).trans (Fr.chg (by simp))) (t3.trans t4)
    · obtain ⟨es3, p1, p2, p3⟩ := hp3
      refine ⟨es3, ?_, p2, fun i e x' g1 g2 => t4 _ _ (p3 i e x' g1 g2)⟩
      rw [upd_ne hne]
      exact upd_old p1 nt
    · refine ⟨es2 ++ [t], ?_, by simp [j2], fun i e x' g1 g2 => ?_⟩
      · rw [upd_same]
        simp
      · by_cases c : i < js.length
        · rw [List.getElem?_append_left (by omega)] at g1
          rw [List.getElem?_append_left c] at g2
          exact t4 _ _ (t3 _ _ (j3 i e x' g1 g2))
        · rw [List.getElem?_append_right (by omega)] at g1 g2
          rw [j2] at g1
          have c0 : i - js.length = 0 := by
            by_cases w : i - js.length = 0
            · exact w
            · rw [List.getElem?_singleton, if_neg w] at g1
              cases g1
          rw [c0] at g1 g2
          cases g1
          cases g2
          refine (FrT.chg j4) _ _ (upd_same.trans ?_)
          unfold jnV
          rw [hr]
theorem digit {x w c : Nat} (hw : 0 < w) : x * 2 ^ (c + 1) / (2 * w) = 2 * (x * 2 ^ c / (2 * w)) + (if w ≤ x * 2 ^ c % (2 * w) then 1 else 0) ∧ x * 2 ^ (c + 1) % (2 * w) = 2 * (x * 2 ^ c % (2 * w) - (if w ≤ x * 2 ^ c % (2 * w) then w else 0)) := by
  have e : x * 2 ^ (c + 1) = 2 * (x * 2 ^ c) := by rw [Nat.pow_succ, ← Nat.mul_assoc, Nat.mul_comm]
  rw [e]
  generalize x * 2 ^ c = Y
  have d := Nat.div_add_mod Y (2 * w)
  have m := Nat.mod_lt Y (show 0 < 2 * w by omega)
  generalize Y / (2 * w) = q at *
  generalize Y % (2 * w) = r at *
  refine (Nat.div_mod_unique (show 0 < 2 * w by omega)).mpr ?_
  by_cases z : w ≤ r
  · rw [if_pos z, if_pos z]
    refine ⟨?_, by omega⟩
    have e2 : 2 * w * (2 * q + 1) = 2 * (2 * w * q) + 2 * w := by
      rw [Nat.mul_add, Nat.mul_left_comm, Nat.mul_one]
    rw [e2]
    omega
  · rw [if_neg z, if_neg z]
    refine ⟨?_, by omega⟩
    have e2 : 2 * w * (2 * q + 0) = 2 * (2 * w * q) := by rw [Nat.add_zero, Nat.mul_left_comm]
    rw [e2]
    omega
theorem llev_k {b f s size : Nat} (hf : 1 ≤ f) (hz : 0 < size) (h1 : 2 * size < 2 ^ 190) (h2 : 2 * b + f + f + s < 2 ^ 190) (q : Q (.int (lev0 size (2 * b + f) (2 * b + f + f + s) : Nat)) H) : callK T (k + 1) "" "_law_level" [.int b, .int f, .int s, .int size] H Q E := by
  refine call_k (np := 4) (n := 7) rfl rfl ?_
  unfold z__law_level
  generalize eL : 2 * b + f = lo at *
  generalize eH : lo + f + s = hi at *
  have lt : lo < hi := by omega
  refine seq_k (fun σ1 H1 => H = H1 ∧ σ1 = [some (.int b), some (.int f), some (.int s), some (.int size), some (.int lo), none, none]) (fun K hK => ?_) ?_
  · simp only [asg, bin, cst, var, start, Z.get, opr_mul_ii, opr_add_ii, gname, put]
    refine ⟨mul_k (small_b (by omega) (by omega) (by decide)) (small_b (by omega) (by omega) (by decide)), hK _ _ ⟨rfl, ?_⟩⟩
    rw [show ((2 : Int) * b + f) = (lo : Nat) by omega]
    rfl
  rintro _ _ ⟨rfl, rfl⟩
  refine seq_k (fun σ1 H1 => H = H1 ∧ σ1 = [some (.int b), some (.int f), some (.int s), some (.int size), some (.int lo), some (.int hi), some (.int (1 : Nat))]) (fun K hK => ?_) ?_
  · simp only [par, acons, anil, bin, cst, var, Z.get, opr_add_ii, gcons, gnil, gname]
    refine ⟨rfl, _, _, rfl, _, _, rfl, rfl, hK _ _ ⟨rfl, ?_⟩⟩
    rw [show ((lo : Int) + f + s) = (hi : Nat) by omega]
    rfl
  rintro _ _ ⟨rfl, rfl⟩
  refine seq_k (fun σ1 H1 => H = H1 ∧ σ1 = [some (.int b), some (.int f), some (.int s), some (.int size), some (.int lo), some (.int hi), some (.int (lev0 size lo hi : Nat))]) (fun K hK => ?_) ?_
  · refine whl_k (n := 190) (fun m σ2 H2 => H = H2 ∧ ∃ c : Nat, 1 ≤ c ∧ (∀ j, 1 ≤ j → j < c → alike size lo hi j = true) ∧ m + c = 191 ∧ σ2 = [some (.int b), some (.int f), some (.int s), some (.int size), some (.int lo), some (.int hi), some (.int c)]) ⟨rfl, 1, by omega, fun j _ _ => by omega, rfl, rfl⟩ ?_
    rintro m σ2 H2 ⟨rfl, c, c1, c2, c3, rfl⟩ M hM
    simp only [tt, cmp, bin, cst, var, Z.get, opr_shl, opr_mul_ii, opr_fdiv, cmpr_eq]
    have hc : (c : Int).toNat = c := Int.toNat_natCast c
    have sm : ∃ n m, n + m ≤ 134217728 ∧ small n 2 ∧ small m (size : Int) := mul_k (small_b (by omega) (by omega) (by decide)) (small_b (by omega) (by omega) (by decide))
    refine ⟨by omega, ⟨200, small_b (by omega) (by omega) (by decide), by omega⟩, sm, by omega, small_b (by omega) (by omega) (by decide), by omega, ⟨200, small_b (by omega) (by omega) (by decide), by omega⟩, sm, by omega, small_b (by omega) (by omega) (by decide), ?_⟩
    have ev : ∀ x : Nat, ((x : Int) * 2 ^ (c : Int).toNat / (2 * (size : Int))) = ((x * 2 ^ c / (2 * size) : Nat) : Int) := fun x => by
      rw [hc]
      simp
    rw [ev, ev, eqD_int]
    have ea : (((lo * 2 ^ c / (2 * size) : Nat) : Int) == ((hi * 2 ^ c / (2 * size) : Nat) : Int)) = alike size lo hi c := by
      unfold alike
      by_cases z : lo * 2 ^ c / (2 * size) = hi * 2 ^ c / (2 * size)
      · rw [z]
        simp
      · rw [decide_eq_false z]
        simpa using fun w => z (by exact_mod_cast w)
    rw [ea]
    refine ⟨_, rfl, ?_⟩
    cases z : alike size lo hi c with
    | true =>
      rw [if_pos rfl]
      have hlt := alike_lt lt hz z
      have cb : c < 190 := by
        by_cases w : c < 190
        · exact w
        · have := Nat.pow_le_pow_right (show 0 < 2 by decide) (show 190 ≤ c by omega)
          omega
      simp only [asg, bin, cst, var, Z.get, opr_add_ii, gname, put]
      exact hM (m - 1) _ _ (by omega) ⟨rfl, c + 1, by omega, fun j j1 j2 => by
        by_cases w : j = c
        · rw [w]; exact z
        · exact c2 j j1 (by omega), by omega, rfl⟩
    | false =>
      rw [if_neg (by decide)]
      exact hK _ _ ⟨rfl, by rw [lev0_of lt hz c1 c2 z]⟩
  rintro _ _ ⟨rfl, rfl⟩
  simp only [ret, var, Z.get]
  exact q
theorem plev_k {b f s size : Nat} (hf : 1 ≤ f) (hs : 1 ≤ s) (hz : b + f + s ≤ size) (h1 : 2 * size < 2 ^ 190) (q : Q (.int (lev0 size (2 * b + f) (2 * b + f + f + s) : Nat)) H) : callK T (k + 1) "" "level_between" [.int b, .int f, .int s, .int size] H Q E := by
  refine call_k (np := 4) (n := 8) rfl rfl ?_
  unfold z_level_between
  generalize eL : 2 * b + f = lo at *
  generalize eH : lo + f + s = hi at *
  have lt : lo < hi := by omega
  have hw : 0 < size := by omega
  have top : hi < 2 * size := by omega
  refine seq_k (fun σ1 H1 => H = H1 ∧ σ1 = [some (.int b), some (.int f), some (.int s), some (.int size), some (.int lo), some (.int (1 : Nat)), none, none]) (fun K hK => ?_) ?_
  · simp only [par, acons, anil, bin, cst, var, start, Z.get, opr_mul_ii, opr_add_ii, gcons, gnil, gname]
    refine ⟨mul_k (small_b (by omega) (by omega) (by decide)) (small_b (by omega) (by omega) (by decide)), rfl, _, _, rfl, _, _, rfl, rfl, hK _ _ ⟨rfl, ?_⟩⟩
    rw [show ((2 : Int) * b + f) = (lo : Nat) by omega]
    rfl
  rintro _ _ ⟨rfl, rfl⟩
  refine seq_k (fun σ1 H1 => H = H1 ∧ σ1 = [some (.int b), some (.int f), some (.int s), some (.int size), some (.int lo), some (.int (1 : Nat)), some (.int hi), none]) (fun K hK => ?_) ?_
  · simp only [asg, bin, var, Z.get, opr_add_ii, gname, put]
    refine hK _ _ ⟨rfl, ?_⟩
    rw [show ((lo : Int) + f + s) = (hi : Nat) by omega]
  rintro _ _ ⟨rfl, rfl⟩
  refine seq_k (fun σ1 H1 => H = H1 ∧ ∃ x y z, σ1 = [some (.int b), some (.int f), some (.int s), some (.int size), x, some (.int (lev0 size lo hi : Nat)), y, z]) (fun K hK => ?_) ?_
  · refine whl_k (n := 190) (fun m σ2 H2 => H = H2 ∧ ∃ (c : Nat) (z : Option V), (∀ j, j ≤ c → alike size lo hi j = true) ∧ m + c = 190 ∧ σ2 = [some (.int b), some (.int f), some (.int s), some (.int size), some (.int (lo * 2 ^ c % (2 * size) : Nat)), some (.int (c + 1 : Nat)), some (.int (hi * 2 ^ c % (2 * size) : Nat)), z]) ⟨rfl, 0, none, fun j hj => ?_, rfl, ?_⟩ ?_
    · have : j = 0 := by omega
      subst this
      unfold alike
      rw [Nat.div_eq_of_lt (by omega), Nat.div_eq_of_lt (by omega)]
      rfl
    · rw [Nat.mod_eq_of_lt (by omega), Nat.mod_eq_of_lt (by omega), Nat.pow_zero, Nat.mul_one, Nat.mul_one]
    rintro m σ2 H2 ⟨rfl, c, zz, c2, c3, rfl⟩ M hM
    obtain ⟨dl1, dl2⟩ := digit (x := lo) (c := c) hw
    obtain ⟨dh1, dh2⟩ := digit (x := hi) (c := c) hw
    have ec := of_decide_eq_true (c2 c (Nat.le_refl _))
    have ml := Nat.mod_lt (lo * 2 ^ c) (show 0 < 2 * size by omega)
    have mh := Nat.mod_lt (hi * 2 ^ c) (show 0 < 2 * size by omega)
    have lth : lo * 2 ^ c % (2 * size) < hi * 2 ^ c % (2 * size) := by
      have a1 := Nat.div_add_mod (lo * 2 ^ c) (2 * size)
      have a2 := Nat.div_add_mod (hi * 2 ^ c) (2 * size)
      have a3 : lo * 2 ^ c < hi * 2 ^ c := Nat.mul_lt_mul_of_pos_right lt (Nat.two_pow_pos c)
      rw [ec] at a1
      omega
    have al : alike size lo hi (c + 1) = decide (size ≤ lo * 2 ^ c % (2 * size) ∨ hi * 2 ^ c % (2 * size) < size) := by
      unfold alike
      rw [dl1, dh1, ec]
      generalize lo * 2 ^ c % (2 * size) = L at *
      generalize hi * 2 ^ c % (2 * size) = U at *
      by_cases z1 : size ≤ L
      · rw [if_pos z1, if_pos (by omega), decide_eq_true rfl, decide_eq_true (.inl z1)]
      · rw [if_neg z1]
        by_cases z2 : size ≤ U
        · rw [if_pos z2, decide_eq_false (by omega), decide_eq_false (by omega)]
        · rw [if_neg z2, decide_eq_true rfl, decide_eq_true (.inr (by omega))]
    clear dl1 dh1 ec
    generalize eLc : lo * 2 ^ c % (2 * size) = L at *
    generalize eUc : hi * 2 ^ c % (2 * size) = U at *
    have stop : ¬ (size ≤ L ∨ U < size) → K [some (.int b), some (.int f), some (.int s), some (.int size), some (.int L), some (.int (c + 1 : Nat)), some (.int U), zz] H := fun h => by
      rw [decide_eq_false h] at al
      have e0 := lev0_of lt hw (show 1 ≤ c + 1 by omega) (fun j _ j2 => c2 j (by omega)) al
      exact hK _ _ ⟨rfl, some (.int L), some (.int U), zz, by rw [← e0]⟩
    have go : (size ≤ L ∨ U < size) → ∀ (v : V) (L2 U2 : Int), L2 = ((lo * 2 ^ (c + 1) % (2 * size) : Nat) : Int) → U2 = ((hi * 2 ^ (c + 1) % (2 * size) : Nat) : Int) → M [some (.int b), some (.int f), some (.int s), some (.int size), some (.int L2), some (.int ((c + 1 : Nat) + 1 : Int)), some (.int U2), some v] H := fun h v L2 U2 e1 e2 => by
      rw [decide_eq_true h] at al
      have hlt := alike_lt lt hw al
      have cb : c + 1 < 190 := by
        by_cases w : c + 1 < 190
        · exact w
        · have := Nat.pow_le_pow_right (show 0 < 2 by decide) (show 190 ≤ c + 1 by omega)
          omega
      refine hM (m - 1) _ _ (by omega) ⟨rfl, c + 1, some v, fun j j2 => ?_, by omega, ?_⟩
      · by_cases w : j = c + 1
        · rw [w]; exact al
        · exact c2 j (by omega)
      · rw [e1, e2]
        rfl
    simp only [tor, tt, cmp, var, Z.get, cmpr_ge, cmpr_lt, truth_b]
    refine ⟨_, rfl, ?_⟩
    have small2 : ∀ n : Nat, n < 2 ^ 191 → ∃ a m, a + m ≤ 134217728 ∧ small a 2 ∧ small m (n : Int) := fun n h => mul_k (small_b (by omega) (by omega) (by decide)) (small_b (by omega) (by omega) (by decide))
    by_cases z1 : size ≤ L
    · rw [decide_eq_true (show (size : Int) ≤ (L : Int) by omega)]
      simp only [if_true]
      refine asg_k (fun v H1 => H = H1 ∧ v = .int size) (fun K hK => ?_) ?_
      · simp only [ife, tt, cmp, var, cst, Z.get, cmpr_ge, truth_b]
        refine ⟨_, rfl, ?_⟩
        rw [if_pos (by simpa using z1)]
        exact hK _ _ ⟨rfl, rfl⟩
      rintro _ _ ⟨rfl, rfl⟩
      rw [if_pos z1] at dl2
      rw [if_pos (by omega)] at dh2
      simp only [put]
      simp only [par, acons, anil, bin, cst, var, Z.get, opr_sub_ii, opr_mul_ii, opr_add_ii]
      rw [show ((L : Int) - size) = ((L - size : Nat) : Int) by omega, show ((U : Int) - size) = ((U - size : Nat) : Int) by omega]
      refine ⟨small2 _ (by omega), small2 _ (by omega), rfl, ?_⟩
      simp only [gcons, gnil, gname]
      refine ⟨_, _, rfl, _, _, rfl, _, _, rfl, rfl, go (.inl z1) _ _ _ ?_ ?_⟩
      · rw [dl2]; omega
      · rw [dh2]; omega
    · rw [decide_eq_false (show ¬ (size : Int) ≤ (L : Int) by omega)]
      simp only [Bool.false_eq_true, if_false]
      refine ⟨_, rfl, ?_⟩
      by_cases z2 : U < size
      · rw [decide_eq_true (show (U : Int) < (size : Int) by omega)]
        simp only [if_true]
        refine asg_k (fun v H1 => H = H1 ∧ v = .int 0) (fun K hK => ?_) ?_
        · simp only [ife, tt, cmp, var, cst, Z.get, cmpr_ge, truth_b]
          refine ⟨_, rfl, ?_⟩
          rw [if_neg (by simpa using z1)]
          exact hK _ _ ⟨rfl, rfl⟩
        rintro _ _ ⟨rfl, rfl⟩
        rw [if_neg z1] at dl2
        rw [if_neg (by omega)] at dh2
        simp only [put]
        simp only [par, acons, anil, bin, cst, var, Z.get, opr_sub_ii, opr_mul_ii, opr_add_ii]
        rw [show ((L : Int) - 0) = ((L : Nat) : Int) by omega, show ((U : Int) - 0) = ((U : Nat) : Int) by omega]
        refine ⟨small2 _ (by omega), small2 _ (by omega), rfl, ?_⟩
        simp only [gcons, gnil, gname]
        refine ⟨_, _, rfl, _, _, rfl, _, _, rfl, rfl, go (.inr z2) _ _ _ ?_ ?_⟩
        · rw [dl2]; omega
        · rw [dh2]; omega
      · rw [decide_eq_false (show ¬ (U : Int) < (size : Int) by omega)]
        simp only [Bool.false_eq_true, if_false]
        exact stop (by omega)
  rintro _ _ ⟨rfl, x, y, z, rfl⟩
  simp only [ret, var, Z.get]
  exact q
end
/- part b -/
/-- the program's stack, the last piece first -/
structure StkAt (H : Heap) (T0 : Nat → Nat) (a w st jn : Nat) (rs : List Pc) (js : List Jn) : Prop where
  obj : H a = some (.ins "Stack" (stkF w st jn))
  pile : Tups (pcV T0) H st rs.reverse
  jns : Tups (jnV T0) H jn js
  ne : st ≠ jn
/-- the law's pile -/
structure PilAt (H : Heap) (T0 : Nat → Nat) (st jn : Nat) (rs : List Pc) (js : List Jn) : Prop where
  pile : Tups (pcV T0) H st rs.reverse
  jns : Tups (jnV T0) H jn js
  ne : st ≠ jn
theorem Tups.push {α : Type} {val : α → List V} {H : Heap} {a t : Nat} {xs : List α} {x : α} (h : Tups val H a xs) (nt : H t = none) : ∃ ys, H a = some (.lst ys) ∧ ys.length = xs.length ∧ Tups val (upd (upd H t (.tup (val x))) a (.lst (ys ++ [.ref t]))) a (xs ++ [x]) := by
  obtain ⟨es, h1, h2, h3⟩ := h
  have h1' := upd_old (o' := .tup (val x)) h1 nt
  refine ⟨_, h1, by rw [List.length_map]; exact h2, es ++ [t], by rw [upd_same]; simp, by simp [h2], fun i e y g1 g2 => (FrT.chg h1') _ _ ?_⟩
  by_cases c : i < xs.length
  · rw [List.getElem?_append_left (by omega)] at g1
    rw [List.getElem?_append_left c] at g2
    exact upd_old (h3 i e y g1 g2) nt
  · rw [List.getElem?_append_right (by omega)] at g1 g2
    rw [h2] at g1
    have c0 : i - xs.length = 0 := by
      by_cases w : i - xs.length = 0
      · exact w
      · rw [List.getElem?_singleton, if_neg w] at g1
        cases g1
    rw [c0] at g1 g2
    cases g1
    cases g2
    exact upd_same
theorem Tups.fr {α : Type} {val : α → List V} {H H' : Heap} {a : Nat} {xs : List α} (h : Tups val H a xs) (t : FrT H H') (e : H' a = H a) : Tups val H' a xs := by
  obtain ⟨es, h1, h2, h3⟩ := h
  exact ⟨es, e.trans h1, h2, fun i e x g1 g2 => t _ _ (h3 i e x g1 g2)⟩
theorem Tups.keep {α : Type} {val : α → List V} {H H' : Heap} {a : Nat} {xs : List α} {S' : List Nat} (h : Tups val H a xs) (t : FrT H H') (f : Fr S' H H') (n : a ∉ S') : Tups val H' a xs := by
  obtain ⟨es, h1, h2, h3⟩ := h
  exact ⟨es, f _ _ h1 n, h2, fun i e x g1 g2 => t _ _ (h3 i e x g1 g2)⟩
theorem Tups.at_ {α : Type} {val : α → List V} {H : Heap} {a : Nat} {xs : List α} (h : Tups val H a xs) : ∃ ys, H a = some (.lst ys) ∧ ys.length = xs.length ∧ ∀ (i : Nat) (x : α), xs[i]? = some x → ∃ e, atI ys (i : Int) = some (.ref e) ∧ H e = some (.tup (val x)) := by
  obtain ⟨es, h1, h2, h3⟩ := h
  refine ⟨_, h1, by rw [List.length_map, h2], fun i x hx => ?_⟩
  have hi : i < es.length := by
    have := (List.getElem?_eq_some_iff.mp hx).1
    omega
  refine ⟨es[i], ?_, h3 i _ x (List.getElem?_eq_getElem hi) hx⟩
  rw [atI_lt (by omega) (by simp; omega), Int.toNat_natCast, List.getElem?_map, List.getElem?_eq_getElem hi]
  rfl
section
variable {k : Nat} {H : Heap} {Q : VK} {E : EK} {T0 : Nat → Nat} {st jn : Nat}
theorem psq_k {C : Cx} {D : Ends} {a w : Nat} {m n : Nat} {rs : List Pc} {js : List Jn} {l1 l2 l3 l4 l5 : Option V} (hC : C.call = callK T (k + 1)) (hT : ∀ i j, i ≤ j → T0 i ≤ T0 j) (g : StkAt H T0 a w st jn rs js) (h0 : rs ≠ []) (hc : Cont n rs) (hm : Mk rs) (hl : rs.length ≤ 300) (hjl : js.length + rs.length ≤ 5000)
    (q : ∀ H', StkAt H' T0 a w st jn (squeeze m rs.length rs js).1 (squeeze m rs.length rs js).2 → Fr [st, jn] H H' → FrT H H' → D.nx [some (.ref a), l1, l2, l3, l4, l5, some (.int m)] H') :
    (Z.whl (Z.tand (Z.tt (Z.cmp .gt (Z.blt Z.bLen (Z.acons (Z.fld (Z.var 0) "stack") Z.anil)) (Z.cst (.int 1)))) (Z.tt (Z.cmp .gt (Z.ix (Z.ix (Z.fld (Z.var 0) "stack") (Z.neg (Z.cst (.int 2)))) (Z.cst (.int 2))) (Z.var 6)))) (Z.drop (Z.meth ["Stack"] (Z.var 0) "join_at" 1 [.inl 0, .inl 1] (Z.acons (Z.bin .sub (Z.blt Z.bLen (Z.acons (Z.fld (Z.var 0) "stack") Z.anil)) (Z.cst (.int 2))) Z.anil)))) C D [some (.ref a), l1, l2, l3, l4, l5, some (.int m)] H := by
  refine whl_k (n := rs.length) (fun f σ2 H2 => ∃ rs2 js2, rs2.length = f ∧ rs2 ≠ [] ∧ Cont n rs2 ∧ Mk rs2 ∧ js2.length + rs2.length ≤ 5000 ∧ rs2.length ≤ 300 ∧ squeeze m rs.length rs js = squeeze m f rs2 js2 ∧ StkAt H2 T0 a w st jn rs2 js2 ∧ Fr [st, jn] H H2 ∧ FrT H H2 ∧ σ2 = [some (.ref a), l1, l2, l3, l4, l5, some (.int m)]) ⟨rs, js, rfl, h0, hc, hm, hjl, hl, rfl, g, .refl _ _, .refl _, rfl⟩ ?_
  rintro f σ2 H2 ⟨rs2, js2, fl2, n2, c2, m2, jl2, rl2, e2, g2, f2, t2, rfl⟩ M hM
  obtain ⟨es, p1, p2, p3⟩ := g2.pile
  have le : (es.map V.ref).length = rs2.length := by rw [List.length_map, p2, List.length_reverse]
  simp only [tand, tt, cmp, blt, bLen, acons, anil, ix, neg, bin, cst, fld, var, Z.get]
  refine ⟨a, _, _, .ref st, rfl, g2.obj, rfl, _, _, rfl, items_l p1, ?_⟩
  rw [cmpr_gt, le]
  refine ⟨_, rfl, ?_⟩
  cases rs2 with
  | nil => exact absurd rfl n2
  | cons x r =>
    cases r with
    | nil =>
      rw [if_neg (by simp)]
      simp only [Bool.false_eq_true, if_false]
      have e3 : squeeze m f [x] js2 = ([x], js2) := by cases f <;> rfl
      rw [e3] at e2
      exact q H2 (by rw [e2]; exact g2) f2 t2
    | cons y r =>
      rw [if_pos (by simp; omega)]
      obtain ⟨c, hc2⟩ := m2 y (by simp)
      have er : (x :: y :: r).reverse = r.reverse ++ y :: x :: [] := by simp
      rw [er] at p2 p3
      obtain ⟨eA, e1, ex, eB, rfl, lA⟩ := split2 p2
      have lB : eB = [] := by
        have : (eA ++ e1 :: ex :: eB).length = (r.reverse ++ y :: x :: []).length := p2
        simp only [List.length_append, List.length_cons, List.length_nil] at this
        exact List.length_eq_zero_iff.mp (by omega)
      subst lB
      have ty : H2 e1 = some (.tup (pcV T0 y)) := p3 r.reverse.length e1 y (by rw [← lA]; simp) (by simp)
      have a2 : atI ((eA ++ e1 :: ex :: []).map V.ref) (-2) = some (.ref e1) := by
        rw [atI_neg (by decide) (by simp; omega), List.length_map, List.length_append, List.length_cons, List.length_cons, List.length_nil, show ((-2 : Int) + ((eA.length + (0 + 1 + 1) : Nat) : Int)).toNat = eA.length by omega, List.getElem?_map]
        simp
      refine ⟨a, _, _, .ref st, rfl, g2.obj, rfl, _, _, .ref e1, items_l p1, rfl, a2, _, 2, mkV y.2.2, items_t ty, rfl, rfl, ?_⟩
      rw [hc2]
      simp only [mkV, cmpr_gt]
      refine ⟨_, rfl, ?_⟩
      have lf : f = r.length + 1 + 1 := fl2.symm
      have e3 : squeeze m f (x :: y :: r) js2 = if m < c then squeeze m (r.length + 1) ((y.1, x.2.1, x.2.2) :: r) (js2 ++ [(y.1, y.2.1, x.2.1)]) else (x :: y :: r, js2) := by
        rw [lf]
        show (if m < y.2.2.getD 0 then _ else _) = _
        rw [hc2]
        rfl
      by_cases hcm : m < c
      · rw [decide_eq_true (show (m : Int) < (c : Int) by omega)]
        rw [if_pos rfl]
        rw [if_pos hcm] at e3
        rw [e3] at e2
        obtain ⟨b1, b2, b3, b4, b5⟩ := c2
        simp only [drop, meth, blt, bLen, acons, anil, bin, cst, fld, var, Z.get, perm]
        have go : callK T (k + 1) "Stack" "join_at" [.ref a, .int r.reverse.length] H2 (fun _ H1 => M [some (.ref a), l1, l2, l3, l4, l5, some (.int m)] H1) fun c fs H' => C.exc c fs [some (.ref a), l1, l2, l3, l4, l5, some (.int m)] H' := by
          have pile2 := g2.pile
          rw [er] at pile2
          refine join_k (a := a) (w := w) (by simp only [List.length_append, List.length_reverse, List.length_cons, List.length_nil] at rl2 ⊢; omega) (by simp only [List.length_cons] at jl2; omega) b3.symm (hT _ _ (by omega)) (hT _ _ (by omega)) g2.obj pile2 g2.jns g2.ne fun H3 q0 q1 q2 q3 q4 => ?_
          refine hM (r.length + 1) _ _ (by omega) ⟨(y.1, x.2.1, x.2.2) :: r, js2 ++ [(y.1, y.2.1, x.2.1)], rfl, by simp, ⟨b1, by show y.1 < n; omega, b5⟩, fun z hz => m2 z (by simp [hz]), ?_, ?_, e2, ⟨q0, ?_, q2, g2.ne⟩, f2.trans q3, t2.trans q4, rfl⟩
          · simp only [List.length_append, List.length_cons, List.length_nil] at jl2 ⊢
            omega
          · simp only [List.length_cons] at rl2 ⊢
            omega
          · rw [show ((y.1, x.2.1, x.2.2) :: r).reverse = r.reverse ++ (y.1, x.2.1, x.2.2) :: [] by simp]
            exact q1
        refine ⟨a, _, _, rfl, g2.obj, by simp, rfl, ⟨a, _, _, .ref st, rfl, g2.obj, rfl, _, _, rfl, items_l p1, ?_⟩⟩
        rw [le, opr_sub_ii]
        refine ⟨rfl, ?_⟩
        rw [hC, show (((x :: y :: r).length : Nat) : Int) - 2 = (r.reverse.length : Nat) by simp only [List.length_cons, List.length_reverse]; omega]
        exact go
      · rw [decide_eq_false (show ¬ (m : Int) < (c : Int) by omega)]
        simp only [Bool.false_eq_true, if_false]
        rw [if_neg hcm] at e3
        rw [e3] at e2
        exact q H2 (by rw [e2]; exact g2) f2 t2
theorem lsq_k {C : Cx} {D : Ends} {pp : Nat} {m n : Nat} {rs : List Pc} {js : List Jn} {l0 l1 l4 l5 l6 l8 l9 : Option V} (hC : C.call = callK T (k + 1)) (hT : ∀ i j, i ≤ j → T0 i ≤ T0 j) (g : PilAt H T0  st jn rs js) (h0 : rs ≠ []) (hc : Cont n rs) (hm : Mk rs) (hl : rs.length ≤ 300) (hjl : js.length + rs.length ≤ 5000)
    (q : ∀ H', PilAt H' T0  st jn (squeeze m rs.length rs js).1 (squeeze m rs.length rs js).2 → Fr [st, jn] H H' → FrT H H' → D.nx [l0, l1, some (.ref st), some (.ref jn), l4, l5, l6, some (.int m), l8, l9] H') :
    (Z.whl (Z.tand (Z.tt (Z.cmp .gt (Z.blt Z.bLen (Z.acons (Z.var 2) Z.anil)) (Z.cst (.int 1)))) (Z.tt (Z.cmp .gt (Z.ix (Z.ix (Z.var 2) (Z.neg (Z.cst (.int 2)))) (Z.cst (.int 2))) (Z.var 7)))) (Z.drop (Z.callf "_law_note" 3 [.inl 0, .inl 1, .inl 2] (Z.acons (Z.var 2) (Z.acons (Z.var 3) (Z.acons (Z.bin .sub (Z.blt Z.bLen (Z.acons (Z.var 2) Z.anil)) (Z.cst (.int 2))) Z.anil)))))) C D [l0, l1, some (.ref st), some (.ref jn), l4, l5, l6, some (.int m), l8, l9] H := by
  refine whl_k (n := rs.length) (fun f σ2 H2 => ∃ rs2 js2, rs2.length = f ∧ rs2 ≠ [] ∧ Cont n rs2 ∧ Mk rs2 ∧ js2.length + rs2.length ≤ 5000 ∧ rs2.length ≤ 300 ∧ squeeze m rs.length rs js = squeeze m f rs2 js2 ∧ PilAt H2 T0  st jn rs2 js2 ∧ Fr [st, jn] H H2 ∧ FrT H H2 ∧ σ2 = [l0, l1, some (.ref st), some (.ref jn), l4, l5, l6, some (.int m), l8, l9]) ⟨rs, js, rfl, h0, hc, hm, hjl, hl, rfl, g, .refl _ _, .refl _, rfl⟩ ?_
  rintro f σ2 H2 ⟨rs2, js2, fl2, n2, c2, m2, jl2, rl2, e2, g2, f2, t2, rfl⟩ M hM
  obtain ⟨es, p1, p2, p3⟩ := g2.pile
  have le : (es.map V.ref).length = rs2.length := by rw [List.length_map, p2, List.length_reverse]
  simp only [tand, tt, cmp, blt, bLen, acons, anil, ix, neg, bin, cst,  var, Z.get]
  refine ⟨_, _, rfl, items_l p1, ?_⟩
  rw [cmpr_gt, le]
  refine ⟨_, rfl, ?_⟩
  cases rs2 with
  | nil => exact absurd rfl n2
  | cons x r =>
    cases r with
    | nil =>
      rw [if_neg (by simp)]
      simp only [Bool.false_eq_true, if_false]
      have e3 : squeeze m f [x] js2 = ([x], js2) := by cases f <;> rfl
      rw [e3] at e2
      exact q H2 (by rw [e2]; exact g2) f2 t2
    | cons y r =>
      rw [if_pos (by simp; omega)]
      obtain ⟨c, hc2⟩ := m2 y (by simp)
      have er : (x :: y :: r).reverse = r.reverse ++ y :: x :: [] := by simp
      rw [er] at p2 p3
      obtain ⟨eA, e1, ex, eB, rfl, lA⟩ := split2 p2
      have lB : eB = [] := by
        have : (eA ++ e1 :: ex :: eB).length = (r.reverse ++ y :: x :: []).length := p2
        simp only [List.length_append, List.length_cons, List.length_nil] at this
        exact List.length_eq_zero_iff.mp (by omega)
      subst lB
      have ty : H2 e1 = some (.tup (pcV T0 y)) := p3 r.reverse.length e1 y (by rw [← lA]; simp) (by simp)
      have a2 : atI ((eA ++ e1 :: ex :: []).map V.ref) (-2) = some (.ref e1) := by
        rw [atI_neg (by decide) (by simp; omega), List.length_map, List.length_append, List.length_cons, List.length_cons, List.length_nil, show ((-2 : Int) + ((eA.length + (0 + 1 + 1) : Nat) : Int)).toNat = eA.length by omega, List.getElem?_map]
        simp
      refine ⟨_, _, .ref e1, items_l p1, rfl, a2, _, 2, mkV y.2.2, items_t ty, rfl, rfl, ?_⟩
      rw [hc2]
      simp only [mkV, cmpr_gt]
      refine ⟨_, rfl, ?_⟩
      have lf : f = r.length + 1 + 1 := fl2.symm
      have e3 : squeeze m f (x :: y :: r) js2 = if m < c then squeeze m (r.length + 1) ((y.1, x.2.1, x.2.2) :: r) (js2 ++ [(y.1, y.2.1, x.2.1)]) else (x :: y :: r, js2) := by
        rw [lf]
        show (if m < y.2.2.getD 0 then _ else _) = _
        rw [hc2]
        rfl
      by_cases hcm : m < c
      · rw [decide_eq_true (show (m : Int) < (c : Int) by omega)]
        rw [if_pos rfl]
        rw [if_pos hcm] at e3
        rw [e3] at e2
        obtain ⟨b1, b2, b3, b4, b5⟩ := c2
        simp only [drop, callf, blt, bLen, acons, anil, bin, cst,  var, Z.get, perm]
        have go : callK T (k + 1) "" "_law_note" [.ref st, .ref jn, .int r.reverse.length] H2 (fun _ H1 => M [l0, l1, some (.ref st), some (.ref jn), l4, l5, l6, some (.int m), l8, l9] H1) fun c fs H' => C.exc c fs [l0, l1, some (.ref st), some (.ref jn), l4, l5, l6, some (.int m), l8, l9] H' := by
          have pile2 := g2.pile
          rw [er] at pile2
          refine note_k (by simp only [List.length_append, List.length_reverse, List.length_cons, List.length_nil] at rl2 ⊢; omega) (by simp only [List.length_cons] at jl2; omega) b3.symm (hT _ _ (by omega)) (hT _ _ (by omega))  pile2 g2.jns g2.ne fun H3  q1 q2 q3 q4 => ?_
          refine hM (r.length + 1) _ _ (by omega) ⟨(y.1, x.2.1, x.2.2) :: r, js2 ++ [(y.1, y.2.1, x.2.1)], rfl, by simp, ⟨b1, by show y.1 < n; omega, b5⟩, fun z hz => m2 z (by simp [hz]), ?_, ?_, e2, ⟨?_, q2, g2.ne⟩, f2.trans q3, t2.trans q4, rfl⟩
          · simp only [List.length_append, List.length_cons, List.length_nil] at jl2 ⊢
            omega
          · simp only [List.length_cons] at rl2 ⊢
            omega
          · rw [show ((y.1, x.2.1, x.2.2) :: r).reverse = r.reverse ++ (y.1, x.2.1, x.2.2) :: [] by simp]
            exact q1
        refine ⟨_, _, rfl, items_l p1, ?_⟩
        rw [le, opr_sub_ii]
        refine ⟨rfl, ?_⟩
        rw [hC, show (((x :: y :: r).length : Nat) : Int) - 2 = (r.reverse.length : Nat) by simp only [List.length_cons, List.length_reverse]; omega]
        exact go
      · rw [decide_eq_false (show ¬ (m : Int) < (c : Int) by omega)]
        simp only [Bool.false_eq_true, if_false]
        rw [if_neg hcm] at e3
        rw [e3] at e2
        exact q H2 (by rw [e2]; exact g2) f2 t2
theorem pset_k {C : Cx} {D : Ends} {a w : Nat} {m : Nat} {z : Pc} {r : List Pc} {js : List Jn} {l1 l2 l3 l4 l5 : Option V} (g : StkAt H T0 a w st jn (z :: r) js)
    (q : ∀ H', StkAt H' T0 a w st jn ((z.1, z.2.1, some m) :: r) js → Fr [st] H H' → FrT H H' → D.nx [some (.ref a), l1, l2, l3, l4, l5, some (.int m)] H') :
    (Z.asg (Z.gsub (Z.fld (Z.var 0) "stack") (Z.neg (Z.cst (.int 1)))) (Z.bin .add (Z.slc (Z.ix (Z.fld (Z.var 0) "stack") (Z.neg (Z.cst (.int 1)))) Z.pno (Z.pso (Z.cst (.int 2)))) (Z.tupl (Z.acons (Z.var 6) Z.anil)))) C D [some (.ref a), l1, l2, l3, l4, l5, some (.int m)] H := by
  obtain ⟨es, p1, p2, p3⟩ := g.pile
  obtain ⟨j, eS, eJ⟩ : ∃ j, j = r.reverse.length ∧ (z :: r).reverse = r.reverse ++ [z] := ⟨_, rfl, by simp⟩
  rw [eJ] at p2 p3
  have l1 : es.length = j + 1 := by rw [p2, eS]; simp
  have tz : H es[j] = some (.tup (pcV T0 z)) := p3 j _ z (List.getElem?_eq_getElem (by omega)) (by rw [eS]; simp)
  have a2 : atI (es.map V.ref) (-1) = some (.ref es[j]) := by
    rw [atI_neg (by decide) (by simp; omega), List.length_map, show ((-1 : Int) + (es.length : Int)).toNat = j by omega, List.getElem?_map, List.getElem?_eq_getElem (by omega)]
    rfl
  simp only [asg, gsub, bin, slc, ix, neg, cst, pno, pso, tupl, acons, anil, fld, var, Z.get]
  refine ⟨a, _, _, .ref st, rfl, g.obj, rfl, _, _, .ref es[j], items_l p1, rfl, a2, 2, rfl, .inr ⟨_, titems_t tz, ?_, fun t nt => ⟨(by show 1 ≤ line; decide), fun u nu => ?_⟩⟩⟩
  · show ¬ (_ ∧ min 2 3 = 3)
    omega
  rw [opr_add_rr]
  refine .inr ⟨_, _, titems_t (upd_old upd_same nu), titems_t upd_same, by show cutV (pcV T0 z) none (some 2) ≠ []; exact List.cons_ne_nil _ _, by simp, (by show 2 + 1 ≤ line; decide), fun v nv => ?_⟩
  have f3 : FrN H (upd (upd (upd H t (.tup (cutV (pcV T0 z) none (some 2)))) u (.tup [.int m])) v (.tup (cutV (pcV T0 z) none (some 2) ++ [.int m]))) := ((FrN.new nt).trans (.new nu)).trans (.new nv)
  have ev : upd (upd (upd H t (.tup (cutV (pcV T0 z) none (some 2)))) u (.tup [.int m])) v (.tup (cutV (pcV T0 z) none (some 2) ++ [.int m])) v = some (.tup (pcV T0 (z.1, z.2.1, some m))) := upd_same
  generalize upd (upd (upd H t (.tup (cutV (pcV T0 z) none (some 2)))) u (.tup [.int m])) v (.tup (cutV (pcV T0 z) none (some 2) ++ [.int m])) = H3 at *
  have p1' := f3 _ _ p1
  refine ⟨a, _, _, .ref st, rfl, f3 _ _ g.obj, rfl, st, _, -1, j, rfl, rfl, p1', ?_, ?_⟩
  · rw [List.length_map, ixN_neg (by decide) (by omega), show ((-1 : Int) + (es.length : Int)).toNat = j by omega]
  · refine q _ ⟨(by have oa := f3 _ _ g.obj; rw [upd_ne fun z => by rw [z, p1'] at oa; cases oa]; exact oa), ⟨es.set j v, ?_, ?_, ?_⟩, ?_, g.ne⟩ ((f3.fr _).trans (Fr.chg (by simp))) (f3.tup.trans (FrT.chg p1'))
    · rw [upd_same, List.map_set]
    · rw [List.length_set, List.length_reverse, List.length_cons, l1, eS, List.length_reverse]
    · intro i e x g1 g2
      refine (FrT.chg p1') _ _ ?_
      have eR : ((z.1, z.2.1, some m) :: r).reverse = r.reverse ++ [(z.1, z.2.1, some m)] := by simp
      rw [eR] at g2
      by_cases c : i = j
      · subst c
        rw [List.getElem?_set_self (by omega)] at g1
        cases g1
        rw [eS, List.getElem?_append_right (by omega), Nat.sub_self] at g2
        cases g2
        exact ev
      · rw [List.getElem?_set_ne (by omega)] at g1
        have hi : i < es.length := (List.getElem?_eq_some_iff.mp g1).1
        rw [List.getElem?_append_left (by omega)] at g2
        exact f3 _ _ (p3 i e x g1 (by rw [List.getElem?_append_left (by omega)]; exact g2))
    · obtain ⟨es2, q1, q2, q3⟩ := g.jns
      refine ⟨es2, ?_, q2, fun i e x g1 g2 => (FrT.chg p1') _ _ (f3 _ _ (q3 i e x g1 g2))⟩
      rw [upd_ne g.ne.symm]
      exact f3 _ _ q1
theorem lset_k {C : Cx} {D : Ends} {pp : Nat} {m : Nat} {z : Pc} {r : List Pc} {js : List Jn} {l0 l1 l4 l5 l6 l8 l9 : Option V} (g : PilAt H T0  st jn (z :: r) js)
    (q : ∀ H', PilAt H' T0  st jn ((z.1, z.2.1, some m) :: r) js → Fr [st] H H' → FrT H H' → D.nx [l0, l1, some (.ref st), some (.ref jn), l4, l5, l6, some (.int m), l8, l9] H') :
    (Z.asg (Z.gsub (Z.var 2) (Z.neg (Z.cst (.int 1)))) (Z.bin .add (Z.slc (Z.ix (Z.var 2) (Z.neg (Z.cst (.int 1)))) Z.pno (Z.pso (Z.cst (.int 2)))) (Z.tupl (Z.acons (Z.var 7) Z.anil)))) C D [l0, l1, some (.ref st), some (.ref jn), l4, l5, l6, some (.int m), l8, l9] H := by
  obtain ⟨es, p1, p2, p3⟩ := g.pile
  obtain ⟨j, eS, eJ⟩ : ∃ j, j = r.reverse.length ∧ (z :: r).reverse = r.reverse ++ [z] := ⟨_, rfl, by simp⟩
  rw [eJ] at p2 p3
  have l1 : es.length = j + 1 := by rw [p2, eS]; simp
  have tz : H es[j] = some (.tup (pcV T0 z)) := p3 j _ z (List.getElem?_eq_getElem (by omega)) (by rw [eS]; simp)
  have a2 : atI (es.map V.ref) (-1) = some (.ref es[j]) := by
    rw [atI_neg (by decide) (by simp; omega), List.length_map, show ((-1 : Int) + (es.length : Int)).toNat = j by omega, List.getElem?_map, List.getElem?_eq_getElem (by omega)]
    rfl
  simp only [asg, gsub, bin, slc, ix, neg, cst, pno, pso, tupl, acons, anil,  var, Z.get]
  refine ⟨_, _, .ref es[j], items_l p1, rfl, a2, 2, rfl, .inr ⟨_, titems_t tz, ?_, fun t nt => ⟨(by show 1 ≤ line; decide), fun u nu => ?_⟩⟩⟩
  · show ¬ (_ ∧ min 2 3 = 3)
    omega
  rw [opr_add_rr]
  refine .inr ⟨_, _, titems_t (upd_old upd_same nu), titems_t upd_same, by show cutV (pcV T0 z) none (some 2) ≠ []; exact List.cons_ne_nil _ _, by simp, (by show 2 + 1 ≤ line; decide), fun v nv => ?_⟩
  have f3 : FrN H (upd (upd (upd H t (.tup (cutV (pcV T0 z) none (some 2)))) u (.tup [.int m])) v (.tup (cutV (pcV T0 z) none (some 2) ++ [.int m]))) := ((FrN.new nt).trans (.new nu)).trans (.new nv)
  have ev : upd (upd (upd H t (.tup (cutV (pcV T0 z) none (some 2)))) u (.tup [.int m])) v (.tup (cutV (pcV T0 z) none (some 2) ++ [.int m])) v = some (.tup (pcV T0 (z.1, z.2.1, some m))) := upd_same
  generalize upd (upd (upd H t (.tup (cutV (pcV T0 z) none (some 2)))) u (.tup [.int m])) v (.tup (cutV (pcV T0 z) none (some 2) ++ [.int m])) = H3 at *
  have p1' := f3 _ _ p1
  refine ⟨st, _, -1, j, rfl, rfl, p1', ?_, ?_⟩
  · rw [List.length_map, ixN_neg (by decide) (by omega), show ((-1 : Int) + (es.length : Int)).toNat = j by omega]
  · refine q _ ⟨⟨es.set j v, ?_, ?_, ?_⟩, ?_, g.ne⟩ ((f3.fr _).trans (Fr.chg (by simp))) (f3.tup.trans (FrT.chg p1'))
    · rw [upd_same, List.map_set]
    · rw [List.length_set, List.length_reverse, List.length_cons, l1, eS, List.length_reverse]
    · intro i e x g1 g2
      refine (FrT.chg p1') _ _ ?_
      have eR : ((z.1, z.2.1, some m) :: r).reverse = r.reverse ++ [(z.1, z.2.1, some m)] := by simp
      rw [eR] at g2
      by_cases c : i = j
      · subst c
        rw [List.getElem?_set_self (by omega)] at g1
        cases g1
        rw [eS, List.getElem?_append_right (by omega), Nat.sub_self] at g2
        cases g2
        exact ev
      · rw [List.getElem?_set_ne (by omega)] at g1
        have hi : i < es.length := (List.getElem?_eq_some_iff.mp g1).1
        rw [List.getElem?_append_left (by omega)] at g2
        exact f3 _ _ (p3 i e x g1 (by rw [List.getElem?_append_left (by omega)]; exact g2))
    · obtain ⟨es2, q1, q2, q3⟩ := g.jns
      refine ⟨es2, ?_, q2, fun i e x g1 g2 => (FrT.chg p1') _ _ (f3 _ _ (q3 i e x g1 g2))⟩
      rw [upd_ne g.ne.symm]
      exact f3 _ _ q1
theorem pend_k {C : Cx} {D : Ends} {a w : Nat} {n : Nat} {rs : List Pc} {js : List Jn} {x9 : Option V} (hC : C.call = callK T (k + 1)) (hT : ∀ i j, i ≤ j → T0 i ≤ T0 j) (g : StkAt H T0 a w st jn rs js) (h0 : rs ≠ []) (hc : Cont n rs) (hl : rs.length ≤ 300) (hjl : js.length + rs.length ≤ 5000)
    (q : ∀ H' rs' lp, StkAt H' T0 a w st jn rs' (endN (ltS T0) rs.length rs js) → Fr [st, jn] H H' → FrT H H' → D.nx [some (.ref a), lp] H') (lp : Option V) :
    (Z.whl (Z.tt (Z.cmp .gt (Z.blt Z.bLen (Z.acons (Z.fld (Z.var 0) "stack") Z.anil)) (Z.cst (.int 1)))) (Z.seq (Z.asg (Z.gname 1) (Z.bin .sub (Z.blt Z.bLen (Z.acons (Z.fld (Z.var 0) "stack") Z.anil)) (Z.cst (.int 2)))) (Z.seq (Z.ifs (Z.tand (Z.tt (Z.cmp .gt (Z.var 1) (Z.cst (.int 0)))) (Z.tt (Z.cmp .lt (Z.ix (Z.ix (Z.fld (Z.var 0) "stack") (Z.bin .sub (Z.var 1) (Z.cst (.int 1)))) (Z.cst (.int 1))) (Z.ix (Z.ix (Z.fld (Z.var 0) "stack") (Z.bin .add (Z.var 1) (Z.cst (.int 1)))) (Z.cst (.int 1)))))) (Z.aug 1 false (Z.cst (.int 1))) Z.skip) (Z.drop (Z.meth ["Stack"] (Z.var 0) "join_at" 1 [.inl 0, .inl 1] (Z.acons (Z.var 1) Z.anil)))))) C D [some (.ref a), lp] H := by
  refine whl_k (n := rs.length) (fun f σ2 H2 => ∃ rs2 js2 lp, rs2.length = f ∧ rs2 ≠ [] ∧ Cont n rs2 ∧ js2.length + rs2.length ≤ 5000 ∧ rs2.length ≤ 300 ∧ endN (ltS T0) rs.length rs js = endN (ltS T0) f rs2 js2 ∧ StkAt H2 T0 a w st jn rs2 js2 ∧ Fr [st, jn] H H2 ∧ FrT H H2 ∧ σ2 = [some (.ref a), lp]) ⟨rs, js, lp, rfl, h0, hc, hjl, hl, rfl, g, .refl _ _, .refl _, rfl⟩ ?_
  rintro f σ2 H2 ⟨rs2, js2, lp, fl2, n2, c2, jl2, rl2, e2, g2, f2, t2, rfl⟩ M hM
  obtain ⟨ys, p1, p2, p3⟩ := g2.pile.at_
  rw [List.length_reverse] at p2
  simp only [tt, cmp, blt, bLen, acons, anil, cst, fld, var, Z.get]
  refine ⟨a, _, _, .ref st, rfl, g2.obj, rfl, _, _, rfl, items_l p1, ?_⟩
  rw [cmpr_gt, p2]
  refine ⟨_, rfl, ?_⟩
  cases rs2 with
  | nil => exact absurd rfl n2
  | cons x r =>
    cases r with
    | nil =>
      rw [if_neg (by simp)]
      have e3 : endN (ltS T0) f [x] js2 = js2 := by cases f <;> rfl
      rw [e3] at e2
      exact q H2 _ lp (by rw [e2]; exact g2) f2 t2
    | cons y r =>
      rw [if_pos (by simp; omega)]
      have lf : f = r.length + 1 + 1 := fl2.symm
      obtain ⟨rs2v, erv⟩ : ∃ v, v = x :: y :: r := ⟨_, rfl⟩
      have go : ∀ (A B : List Pc) (y x : Pc) (rs3 : List Pc) (js3 : List Jn) (i : Int), rs2v.reverse = A ++ y :: x :: B → i = (A.length : Nat) → x.1 = y.2.1 → y.1 < y.2.1 → y.2.1 < x.2.1 → rs3.reverse = A ++ (y.1, x.2.1, x.2.2) :: B → js3 = js2 ++ [(y.1, y.2.1, x.2.1)] → rs3.length = r.length + 1 → rs3 ≠ [] → Cont n rs3 → endN (ltS T0) rs.length rs js = endN (ltS T0) (r.length + 1) rs3 js3 →
          callK T (k + 1) "Stack" "join_at" [.ref a, .int i] H2 (fun _ H1 => M [some (.ref a), some (.int i)] H1) fun c fs H' => C.exc c fs [some (.ref a), some (.int i)] H' := by
        intro A B y x rs3 js3 i er ei hr b1 b2 er3 ej l3 n3 c3 e3
        subst ei ej
        rw [erv] at er
        have pile2 := g2.pile
        rw [er] at pile2
        have ll : (A ++ y :: x :: B).length ≤ 300 := by rw [← er, List.length_reverse]; exact rl2
        refine join_k (a := a) (w := w) (by omega) (by simp only [List.length_cons] at jl2; omega) hr (hT _ _ (by omega)) (hT _ _ (by omega)) g2.obj pile2 g2.jns g2.ne fun H3 q0 q1 q2 q3 q4 => ?_
        refine hM (r.length + 1) _ _ (by omega) ⟨rs3, _, _, l3, n3, c3, ?_, ?_, e3, ⟨q0, by rw [er3]; exact q1, q2, g2.ne⟩, f2.trans q3, t2.trans q4, rfl⟩
        · simp only [List.length_append, List.length_cons, List.length_nil] at jl2 ⊢
          omega
        · simp only [List.length_cons] at rl2
          omega
      refine seq_k (fun σ3 H3 => H2 = H3 ∧ σ3 = [some (.ref a), some (.int (r.length : Nat))]) (fun K hK => ?_) ?_
      · simp only [asg, bin, blt, bLen, acons, anil, cst, fld, var, Z.get, gname, put]
        refine ⟨a, _, _, .ref st, rfl, g2.obj, rfl, _, _, rfl, items_l p1, ?_⟩
        rw [p2, opr_sub_ii, show (((x :: y :: r).length : Nat) : Int) - 2 = (r.length : Nat) by simp only [List.length_cons]; omega]
        exact hK _ _ ⟨rfl, rfl⟩
      rintro _ _ ⟨rfl, rfl⟩
      cases r with
      | nil =>
        obtain ⟨b1, b2, b3, b4, b5⟩ := c2
        refine seq_k (fun σ3 H3 => H2 = H3 ∧ σ3 = [some (.ref a), some (.int 0)]) (fun K hK => ?_) ?_
        · simp only [ifs, tand, tt, cmp, cst, var, Z.get]
          rw [cmpr_gt]
          refine ⟨_, rfl, ?_⟩
          rw [if_neg (by simp)]
          simp only [Bool.false_eq_true, if_false]
          exact hK _ _ ⟨rfl, rfl⟩
        rintro _ _ ⟨rfl, rfl⟩
        simp only [drop, meth, acons, anil, var, Z.get, perm]
        refine ⟨a, _, _, rfl, g2.obj, by simp, rfl, ⟨rfl, ?_⟩⟩
        rw [hC]
        exact go [] [] y x [(y.1, x.2.1, x.2.2)] _ 0 (by rw [erv]; simp) rfl b3.symm (by omega) (by omega) (by simp) rfl rfl (by simp) ⟨b1, by show y.1 < n; omega, b5⟩ (by rw [e2, lf]; rfl)
      | cons z r =>
        obtain ⟨b1, b2, b3, b4, b5, b6, b7⟩ := c2
        have er : (x :: y :: z :: r).reverse = r.reverse ++ z :: y :: x :: [] := by simp
        obtain ⟨ez, z1, z2⟩ := p3 r.length z (by rw [er]; simp [List.getElem?_append_right])
        obtain ⟨ex, x1, x2⟩ := p3 (r.length + 2) x (by rw [er]; simp [List.getElem?_append_right])
        have e4 : endN (ltS T0) f (x :: y :: z :: r) js2 = if ltS T0 z x = true then endN (ltS T0) (r.length + 1 + 1) (x :: (z.1, y.2.1, y.2.2) :: r) (js2 ++ [(z.1, z.2.1, y.2.1)]) else endN (ltS T0) (r.length + 1 + 1) ((y.1, x.2.1, x.2.2) :: z :: r) (js2 ++ [(y.1, y.2.1, x.2.1)]) := by
          rw [lf]
          rfl
        refine seq_k (fun σ3 H3 => H2 = H3 ∧ σ3 = [some (.ref a), some (.int (if ltS T0 z x = true then ((r.length : Nat) : Int) else (((z :: r).length : Nat) : Int)))]) (fun K hK => ?_) ?_
        · simp only [ifs, tand, tt, cmp, ix, bin, cst, fld, var, Z.get]
          rw [cmpr_gt]
          refine ⟨_, rfl, ?_⟩
          rw [decide_eq_true (show (0 : Int) < ((z :: r).length : Nat) by simp only [List.length_cons]; omega), if_pos rfl]
          simp only [opr_sub_ii, opr_add_ii]
          rw [show (((z :: r).length : Nat) : Int) - 1 = (r.length : Nat) by simp only [List.length_cons]; omega, show (((z :: r).length : Nat) : Int) + 1 = ((r.length + 2 : Nat) : Int) by simp only [List.length_cons]; omega]
          refine ⟨a, _, _, .ref st, rfl, g2.obj, rfl, _, _, .ref ez, items_l p1, rfl, z1, _, 1, .int (T0 z.2.1 - T0 z.1 : Nat), items_t z2, rfl, rfl, a, _, _, .ref st, rfl, g2.obj, rfl, _, _, .ref ex, items_l p1, rfl, x1, _, 1, .int (T0 x.2.1 - T0 x.1 : Nat), items_t x2, rfl, rfl, ?_⟩
          rw [cmpr_lt]
          refine ⟨_, rfl, ?_⟩
          have el : decide (((T0 z.2.1 - T0 z.1 : Nat) : Int) < ((T0 x.2.1 - T0 x.1 : Nat) : Int)) = ltS T0 z x := by
            unfold ltS
            by_cases w : T0 z.2.1 - T0 z.1 < T0 x.2.1 - T0 x.1
            · rw [decide_eq_true w, decide_eq_true (by omega)]
            · rw [decide_eq_false w, decide_eq_false (by omega)]
          rw [el]
          by_cases hlt : ltS T0 z x = true
          · rw [hlt, if_pos rfl]
            simp only [aug, cst, Z.get, augo, put]
            rw [show (((z :: r).length : Nat) : Int) - 1 = (r.length : Nat) by simp only [List.length_cons]; omega]
            exact hK _ _ ⟨rfl, by rw [if_pos hlt]⟩
          · rw [Bool.eq_false_iff.mpr hlt, if_neg (by decide)]
            exact hK _ _ ⟨rfl, by rw [if_neg hlt]⟩
        rintro _ _ ⟨rfl, rfl⟩
        simp only [drop, meth, acons, anil, var, Z.get, perm]
        refine ⟨a, _, _, rfl, g2.obj, by simp, rfl, ⟨rfl, ?_⟩⟩
        rw [hC]
        by_cases hlt : ltS T0 z x = true
        · rw [if_pos hlt] at e4 ⊢
          exact go r.reverse [x] z y (x :: (z.1, y.2.1, y.2.2) :: r) _ _ (by rw [erv]; simp) (by simp) b5.symm (by omega) (by omega) (by simp) rfl (by simp) (by simp) ⟨b1, b2, b3, by show z.1 < x.1; omega, b7⟩ (e2.trans e4)
        · rw [if_neg hlt] at e4 ⊢
          exact go (r.reverse ++ [z]) [] y x ((y.1, x.2.1, x.2.2) :: z :: r) _ _ (by rw [erv]; simp) (by simp) b3.symm (by omega) (by omega) (by simp) rfl (by simp) (by simp) ⟨b1, by show y.1 < n; omega, b5, b6, b7⟩ (e2.trans e4)
theorem lend_k {C : Cx} {D : Ends} {pp : Nat} {n : Nat} {rs : List Pc} {js : List Jn} {l0 l1 l4 l5 l6 l7 l8 : Option V} (hC : C.call = callK T (k + 1)) (hT : ∀ i j, i ≤ j → T0 i ≤ T0 j) (g : PilAt H T0  st jn rs js) (h0 : rs ≠ []) (hc : Cont n rs) (hl : rs.length ≤ 300) (hjl : js.length + rs.length ≤ 5000)
    (q : ∀ H' rs' lp, PilAt H' T0  st jn rs' (endN (ltS T0) rs.length rs js) → Fr [st, jn] H H' → FrT H H' → D.nx [l0, l1, some (.ref st), some (.ref jn), l4, l5, l6, l7, l8, lp] H') (lp : Option V) :
    (Z.whl (Z.tt (Z.cmp .gt (Z.blt Z.bLen (Z.acons (Z.var 2) Z.anil)) (Z.cst (.int 1)))) (Z.seq (Z.asg (Z.gname 9) (Z.bin .sub (Z.blt Z.bLen (Z.acons (Z.var 2) Z.anil)) (Z.cst (.int 2)))) (Z.seq (Z.ifs (Z.tand (Z.tt (Z.cmp .gt (Z.var 9) (Z.cst (.int 0)))) (Z.tt (Z.cmp .lt (Z.ix (Z.ix (Z.var 2) (Z.bin .sub (Z.var 9) (Z.cst (.int 1)))) (Z.cst (.int 1))) (Z.ix (Z.ix (Z.var 2) (Z.bin .add (Z.var 9) (Z.cst (.int 1)))) (Z.cst (.int 1)))))) (Z.asg (Z.gname 9) (Z.bin .sub (Z.var 9) (Z.cst (.int 1)))) Z.skip) (Z.drop (Z.callf "_law_note" 3 [.inl 0, .inl 1, .inl 2] (Z.acons (Z.var 2) (Z.acons (Z.var 3) (Z.acons (Z.var 9) Z.anil)))))))) C D [l0, l1, some (.ref st), some (.ref jn), l4, l5, l6, l7, l8, lp] H := by
  refine whl_k (n := rs.length) (fun f σ2 H2 => ∃ rs2 js2 lp, rs2.length = f ∧ rs2 ≠ [] ∧ Cont n rs2 ∧ js2.length + rs2.length ≤ 5000 ∧ rs2.length ≤ 300 ∧ endN (ltS T0) rs.length rs js = endN (ltS T0) f rs2 js2 ∧ PilAt H2 T0  st jn rs2 js2 ∧ Fr [st, jn] H H2 ∧ FrT H H2 ∧ σ2 = [l0, l1, some (.ref st), some (.ref jn), l4, l5, l6, l7, l8, lp]) ⟨rs, js, lp, rfl, h0, hc, hjl, hl, rfl, g, .refl _ _, .refl _, rfl⟩ ?_
  rintro f σ2 H2 ⟨rs2, js2, lp, fl2, n2, c2, jl2, rl2, e2, g2, f2, t2, rfl⟩ M hM
  obtain ⟨ys, p1, p2, p3⟩ := g2.pile.at_
  rw [List.length_reverse] at p2
  simp only [tt, cmp, blt, bLen, acons, anil, cst,  var, Z.get]
  refine ⟨_, _, rfl, items_l p1, ?_⟩
  rw [cmpr_gt, p2]
  refine ⟨_, rfl, ?_⟩
  cases rs2 with
  | nil => exact absurd rfl n2
  | cons x r =>
    cases r with
    | nil =>
      rw [if_neg (by simp)]
      have e3 : endN (ltS T0) f [x] js2 = js2 := by cases f <;> rfl
      rw [e3] at e2
      exact q H2 _ lp (by rw [e2]; exact g2) f2 t2
    | cons y r =>
      rw [if_pos (by simp; omega)]
      have lf : f = r.length + 1 + 1 := fl2.symm
      obtain ⟨rs2v, erv⟩ : ∃ v, v = x :: y :: r := ⟨_, rfl⟩
      have go : ∀ (A B : List Pc) (y x : Pc) (rs3 : List Pc) (js3 : List Jn) (i : Int), rs2v.reverse = A ++ y :: x :: B → i = (A.length : Nat) → x.1 = y.2.1 → y.1 < y.2.1 → y.2.1 < x.2.1 → rs3.reverse = A ++ (y.1, x.2.1, x.2.2) :: B → js3 = js2 ++ [(y.1, y.2.1, x.2.1)] → rs3.length = r.length + 1 → rs3 ≠ [] → Cont n rs3 → endN (ltS T0) rs.length rs js = endN (ltS T0) (r.length + 1) rs3 js3 →
          callK T (k + 1) "" "_law_note" [.ref st, .ref jn, .int i] H2 (fun _ H1 => M [l0, l1, some (.ref st), some (.ref jn), l4, l5, l6, l7, l8, some (.int i)] H1) fun c fs H' => C.exc c fs [l0, l1, some (.ref st), some (.ref jn), l4, l5, l6, l7, l8, some (.int i)] H' := by
        intro A B y x rs3 js3 i er ei hr b1 b2 er3 ej l3 n3 c3 e3
        subst ei ej
        rw [erv] at er
        have pile2 := g2.pile
        rw [er] at pile2
        have ll : (A ++ y :: x :: B).length ≤ 300 := by rw [← er, List.length_reverse]; exact rl2
        refine note_k (by omega) (by simp only [List.length_cons] at jl2; omega) hr (hT _ _ (by omega)) (hT _ _ (by omega))  pile2 g2.jns g2.ne fun H3  q1 q2 q3 q4 => ?_
        refine hM (r.length + 1) _ _ (by omega) ⟨rs3, _, _, l3, n3, c3, ?_, ?_, e3, ⟨by rw [er3]; exact q1, q2, g2.ne⟩, f2.trans q3, t2.trans q4, rfl⟩
        · simp only [List.length_append, List.length_cons, List.length_nil] at jl2 ⊢
          omega
        · simp only [List.length_cons] at rl2
          omega
      refine seq_k (fun σ3 H3 => H2 = H3 ∧ σ3 = [l0, l1, some (.ref st), some (.ref jn), l4, l5, l6, l7, l8, some (.int (r.length : Nat))]) (fun K hK => ?_) ?_
      · simp only [asg, bin, blt, bLen, acons, anil, cst,  var, Z.get, gname, put]
        refine ⟨_, _, rfl, items_l p1, ?_⟩
        rw [p2, opr_sub_ii, show (((x :: y :: r).length : Nat) : Int) - 2 = (r.length : Nat) by simp only [List.length_cons]; omega]
        exact hK _ _ ⟨rfl, rfl⟩
      rintro _ _ ⟨rfl, rfl⟩
      cases r with
      | nil =>
        obtain ⟨b1, b2, b3, b4, b5⟩ := c2
        refine seq_k (fun σ3 H3 => H2 = H3 ∧ σ3 = [l0, l1, some (.ref st), some (.ref jn), l4, l5, l6, l7, l8, some (.int 0)]) (fun K hK => ?_) ?_
        · simp only [ifs, tand, tt, cmp, cst, var, Z.get]
          rw [cmpr_gt]
          refine ⟨_, rfl, ?_⟩
          rw [if_neg (by simp)]
          simp only [Bool.false_eq_true, if_false]
          exact hK _ _ ⟨rfl, rfl⟩
        rintro _ _ ⟨rfl, rfl⟩
        simp only [drop, callf, acons, anil, var, Z.get, perm]
        refine ⟨rfl, ?_⟩
        rw [hC]
        exact go [] [] y x [(y.1, x.2.1, x.2.2)] _ 0 (by rw [erv]; simp) rfl b3.symm (by omega) (by omega) (by simp) rfl rfl (by simp) ⟨b1, by show y.1 < n; omega, b5⟩ (by rw [e2, lf]; rfl)
      | cons z r =>
        obtain ⟨b1, b2, b3, b4, b5, b6, b7⟩ := c2
        have er : (x :: y :: z :: r).reverse = r.reverse ++ z :: y :: x :: [] := by simp
        obtain ⟨ez, z1, z2⟩ := p3 r.length z (by rw [er]; simp [List.getElem?_append_right])
        obtain ⟨ex, x1, x2⟩ := p3 (r.length + 2) x (by rw [er]; simp [List.getElem?_append_right])
        have e4 : endN (ltS T0) f (x :: y :: z :: r) js2 = if ltS T0 z x = true then endN (ltS T0) (r.length + 1 + 1) (x :: (z.1, y.2.1, y.2.2) :: r) (js2 ++ [(z.1, z.2.1, y.2.1)]) else endN (ltS T0) (r.length + 1 + 1) ((y.1, x.2.1, x.2.2) :: z :: r) (js2 ++ [(y.1, y.2.1, x.2.1)]) := by
          rw [lf]
          rfl
        refine seq_k (fun σ3 H3 => H2 = H3 ∧ σ3 = [l0, l1, some (.ref st), some (.ref jn), l4, l5, l6, l7, l8, some (.int (if ltS T0 z x = true then ((r.length : Nat) : Int) else (((z :: r).length : Nat) : Int)))]) (fun K hK => ?_) ?_
        · simp only [ifs, tand, tt, cmp, ix, bin, cst,  var, Z.get]
          rw [cmpr_gt]
          refine ⟨_, rfl, ?_⟩
          rw [decide_eq_true (show (0 : Int) < ((z :: r).length : Nat) by simp only [List.length_cons]; omega), if_pos rfl]
          simp only [opr_sub_ii, opr_add_ii]
          rw [show (((z :: r).length : Nat) : Int) - 1 = (r.length : Nat) by simp only [List.length_cons]; omega, show (((z :: r).length : Nat) : Int) + 1 = ((r.length + 2 : Nat) : Int) by simp only [List.length_cons]; omega]
          refine ⟨_, _, .ref ez, items_l p1, rfl, z1, _, 1, .int (T0 z.2.1 - T0 z.1 : Nat), items_t z2, rfl, rfl, _, _, .ref ex, items_l p1, rfl, x1, _, 1, .int (T0 x.2.1 - T0 x.1 : Nat), items_t x2, rfl, rfl, ?_⟩
          rw [cmpr_lt]
          refine ⟨_, rfl, ?_⟩
          have el : decide (((T0 z.2.1 - T0 z.1 : Nat) : Int) < ((T0 x.2.1 - T0 x.1 : Nat) : Int)) = ltS T0 z x := by
            unfold ltS
            by_cases w : T0 z.2.1 - T0 z.1 < T0 x.2.1 - T0 x.1
            · rw [decide_eq_true w, decide_eq_true (by omega)]
            · rw [decide_eq_false w, decide_eq_false (by omega)]
          rw [el]
          by_cases hlt : ltS T0 z x = true
          · rw [hlt, if_pos rfl]
            simp only [asg, bin, cst, var, Z.get, opr_sub_ii, gname, put]
            rw [show (((z :: r).length : Nat) : Int) - 1 = (r.length : Nat) by simp only [List.length_cons]; omega]
            exact hK _ _ ⟨rfl, by rw [if_pos hlt]⟩
          · rw [Bool.eq_false_iff.mpr hlt, if_neg (by decide)]
            exact hK _ _ ⟨rfl, by rw [if_neg hlt]⟩
        rintro _ _ ⟨rfl, rfl⟩
        simp only [drop, callf, acons, anil, var, Z.get, perm]
        refine ⟨rfl, ?_⟩
        rw [hC]
        by_cases hlt : ltS T0 z x = true
        · rw [if_pos hlt] at e4 ⊢
          exact go r.reverse [x] z y (x :: (z.1, y.2.1, y.2.2) :: r) _ _ (by rw [erv]; simp) (by simp) b5.symm (by omega) (by omega) (by simp) rfl (by simp) (by simp) ⟨b1, b2, b3, by show z.1 < x.1; omega, b7⟩ (e2.trans e4)
        · rw [if_neg hlt] at e4 ⊢
          exact go (r.reverse ++ [z]) [] y x ((y.1, x.2.1, x.2.2) :: z :: r) _ _ (by rw [erv]; simp) (by simp) b3.symm (by omega) (by omega) (by simp) rfl (by simp) (by simp) ⟨b1, by show y.1 < n; omega, b5, b6, b7⟩ (e2.trans e4)
end
/- part c -/
/-- lengths that are handed in -/
def LenAt (H : Heap) (p : Nat) (ps : List Nat) : Prop := H p = some (.lst (nats ps)) ∨ H p = some (.tup (nats ps))
theorem LenAt.items {H : Heap} {p : Nat} {ps : List Nat} (h : LenAt H p ps) : items H (.ref p) = some (nats ps) := h.elim items_l items_t
theorem LenAt.fr {H H' : Heap} {p : Nat} {ps : List Nat} (h : LenAt H p ps) {S' : List Nat} (f : Fr S' H H') (n : p ∉ S') : LenAt H' p ps := h.elim (fun h => .inl (f p _ h n)) fun h => .inr (f p _ h n)
abbrev sums (ps : List Nat) (n : Nat) : List Nat := (List.range n).map (S ps)
theorem sums_succ (ps : List Nat) (n : Nat) : nats (sums ps (n + 1)) = nats (sums ps n) ++ [V.int (S ps n : Nat)] := by
  show List.map _ (List.map _ (List.range (n + 1))) = List.map _ (List.map _ (List.range n)) ++ _
  rw [List.range_succ, List.map_append, List.map_append]
  rfl
section
variable {k : Nat} {H : Heap} {Q : VK} {E : EK}
theorem starts_k {m : String} (hT : T "" m = some ⟨1, 3, z_starts_of⟩) {p : Nat} {ps : List Nat} (hp : LenAt H p ps) (hl : ps.length ≤ 200) (q : ∀ H' u, Fr [] H H' → H u = none → H' u = some (.lst (nats (sums ps (ps.length + 1)))) → Q (.ref u) H') : callK T (k + 1) "" m [.ref p] H Q E := by
  refine call_k hT rfl ?_
  unfold z_starts_of
  refine asg_k (fun v H1 => ∃ u, v = .ref u ∧ H u = none ∧ Fr [] H H1 ∧ H1 u = some (.lst (nats (sums ps 1)))) (fun K hK => ?_) ?_
  · simp only [lstl, acons, anil, cst]
    exact ⟨by decide, fun u nu => hK _ _ ⟨u, rfl, nu, Fr.new nu, upd_same⟩⟩
  rintro _ H1 ⟨u, rfl, nu, f1, hu⟩
  have hp1 := hp.fr f1 (by simp)
  refine seq_k (fun σ2 H2 => ∃ x, σ2 = [some (.ref p), some (.ref u), x] ∧ Fr [] H H2 ∧ H2 u = some (.lst (nats (sums ps (ps.length + 1))))) (fun K hK => ?_) ?_
  · have body : ∀ (C : Cx) (D : Ends) (st : Heap → Prop), (∀ H2, Fr [] H H2 → st H2) → (∀ σ H2, (∃ x, σ = [some (.ref p), some (.ref u), x] ∧ Fr [] H H2 ∧ H2 u = some (.lst (nats (sums ps (ps.length + 1))))) → D.nx σ H2) →
        fori st (gname 2) (drop (bmt isL mAppend (var 1) (acons (bin .add (ix (var 1) (neg (cst (.int 1)))) (var 2)) anil))) C D (nats ps) [some (.ref p), some (.ref u), none] H1 := by
      intro C D st hst hD
      refine fori_k (fun i σ H2 => ∃ x, σ = [some (.ref p), some (.ref u), x] ∧ Fr [] H H2 ∧ H2 u = some (.lst (nats (sums ps (i + 1))))) ⟨_, rfl, f1, hu⟩ (fun i v σ H2 hv g => ?_) fun σ H2 g => ?_
      · obtain ⟨x, rfl, f2, hu2⟩ := g
        refine ⟨hst H2 f2, fun L hL => ?_⟩
        have hi : i < ps.length := by
          have := (List.getElem?_eq_some_iff.mp hv).1
          simpa using this
        rw [nats_get hi] at hv
        cases hv
        simp only [gname, put]
        simp only [drop, bmt, acons, anil, bin, ix, neg, cst, var, Z.get]
        have a2 : atI (nats (sums ps (i + 1))) (-1) = some (.int (S ps i : Nat)) := by
          rw [atI_neg (by decide) (by simp; omega), List.length_map, List.length_map, List.length_range, show ((-1 : Int) + ((i + 1 : Nat) : Int)).toNat = i by omega, List.getElem?_map, List.getElem?_map, List.getElem?_range (by omega)]
          rfl
        refine ⟨⟨_, litems_l hu2⟩, _, -1, .int (S ps i : Nat), items_l hu2, rfl, a2, ?_⟩
        rw [opr_add_ii]
        refine ⟨u, _, _, rfl, rfl, hu2, ?_, hL _ _ ⟨_, rfl, Fr.shut (S := [u]) f2 (Fr.chg (by simp)) (by simpa using nu), ?_⟩⟩
        · rw [List.length_map, List.length_map, List.length_range]
          unfold line
          omega
        · rw [upd_same, sums_succ ps (i + 1), S_succ hi, Int.natCast_add]
      · obtain ⟨x, rfl, f2, hu2⟩ := g
        rw [show (nats ps).length = ps.length by simp] at hu2
        exact ⟨hst H2 f2, hD _ _ ⟨_, rfl, f2, hu2⟩⟩
    simp only [fore, iseq, var, start, put, Z.get]
    rcases hp with hp | hp
    · exact .inl ⟨_, litems_l (f1 p _ hp (by simp)), body _ _ _ (fun H2 f => litems_l (f p _ hp (by simp))) hK⟩
    · exact .inr ⟨_, titems_t (f1 p _ hp (by simp)), body _ _ _ (fun H2 f => titems_t (f p _ hp (by simp))) hK⟩
  rintro _ H2 ⟨x, rfl, f2, hu2⟩
  simp only [ret, var, Z.get]
  exact q H2 u f2 nu hu2
theorem rl_k {p : Nat} {ps : List Nat} (hp : LenAt H p ps) (h0 : 1 ≤ ps.length) (hl : ps.length ≤ 200) (h1 : ∀ x ∈ ps, 1 ≤ x) (q : Q .non H) : callK T (k + 2) "" "require_lengths" [.ref p] H Q E := by
  refine call_k (np := 1) (n := 3) rfl rfl ?_
  unfold z_require_lengths
  have body : ∀ (C : Cx) (D : Ends) (st : Heap → Prop), C.call = callK T (k + 1) → st H → D.nx = (fun _ H' => Q .non H') → fori2 st (gcons (gname 1) (gcons (gname 2) gnil)) (ifs (tor (tnot (tt (callf "is_integer" 1 [Sum.inl 0] (acons (var 2) anil)))) (tt (cmp .lt (var 2) (cst (.int 1))))) (rais "InvalidLengths" "index" (var 1)) skip) C D (enumV 0 (nats ps)) [some (V.ref p), none, none] H := by
    intro C D st hC hst hD
    refine fori2_k (fun i σ H2 => H = H2 ∧ ∃ x y, σ = [some (V.ref p), x, y]) ⟨rfl, _, _, rfl⟩ (fun i v σ H2 hv h2 => ?_) fun σ H2 h2 => ?_
    · obtain ⟨rfl, x, y, rfl⟩ := h2
      refine ⟨hst, fun K hK => ?_⟩
      obtain ⟨e1, e2⟩ := enumV_get _ _ _ _ hv
      have hi : i < ps.length := by
        have := (List.getElem?_eq_some_iff.mp e2).1
        simpa using this
      rw [nats_get hi] at e2
      obtain ⟨v1, v2⟩ := v
      simp only at e1 e2
      cases e2
      subst e1
      simp only [gcons, gnil, gname, put]
      refine ⟨_, _, rfl, _, _, rfl, rfl, ?_⟩
      simp only [ifs, tor, tnot, tt, cmp, callf, acons, anil, cst, var, Z.get, perm]
      refine ⟨rfl, ?_⟩
      rw [hC]
      refine isInt_k rfl rfl ⟨true, rfl, ?_⟩
      simp only [Bool.not_true, Bool.false_eq_true, if_false]
      rw [cmpr_lt]
      refine ⟨_, rfl, ?_⟩
      have g1 : 1 ≤ ps.getD i 0 := h1 _ (getD_mem hi)
      rw [decide_eq_false (by omega)]
      simp only [Bool.false_eq_true, if_false]
      exact hK _ _ ⟨rfl, _, _, rfl⟩
    · obtain ⟨rfl, _⟩ := h2
      rw [hD]
      exact ⟨hst, q⟩
  have it := hp.items
  have ty : isTy H ["list", "tuple"] (.ref p) = some true := by
    unfold isTy
    rcases hp with hp | hp
    · rw [tyOf_r, hp]; rfl
    · rw [tyOf_r, hp]; rfl
  refine seq_k (fun σ1 H1 => H = H1 ∧ σ1 = [some (.ref p), none, none]) (fun K hK => ?_) ?_
  · simp only [ifs, tor, tnot, tt, isi, chain, blt, bLen, acons, anil, cst, var, start, Z.get]
    refine ⟨_, ty, true, rfl, ?_⟩
    simp only [Bool.not_true, Bool.false_eq_true, if_false]
    refine ⟨_, _, rfl, it, ?_⟩
    rw [cmpr_le, List.length_map, decide_eq_true (show (1 : Int) ≤ (ps.length : Nat) by omega), if_pos rfl, cmpr_le, decide_eq_true (show ((ps.length : Nat) : Int) ≤ 200 by omega)]
    refine ⟨true, rfl, ?_⟩
    simp only [Bool.not_true, Bool.false_eq_true, if_false]
    exact hK _ _ ⟨rfl, rfl⟩
  rintro _ _ ⟨rfl, rfl⟩
  simp only [fore2, ienum, var, Z.get]
  rcases hp with hp | hp
  · exact .inl ⟨_, litems_l hp, body _ _ _ rfl (litems_l hp) rfl⟩
  · exact .inr ⟨_, titems_t hp, body _ _ _ rfl (titems_t hp) rfl⟩
theorem sinit_k {a w : Nat} (ha : H a = some (.ins "Stack" [])) {T0 : Nat → Nat} (q : ∀ H' st jn, StkAt H' T0 a w st jn [] [] → Fr [a] H H' → H st = none → H jn = none → Q .non H') : callK T (k + 1) "Stack" "__init__" [.ref a, .int w] H Q E := by
  refine call_k (np := 2) (n := 2) rfl rfl ?_
  unfold z_Stack_init
  simp only [par, acons, anil, lstl, var, start, Z.get]
  refine ⟨by decide, fun st ns => ⟨by decide, fun jn nj => ⟨rfl, ?_⟩⟩⟩
  have e1 := upd_old (o' := .lst []) (upd_same (H := H) (a := st) (o := .lst [])) nj
  have e2 : upd (upd H st (.lst [])) jn (.lst []) jn = some (.lst []) := upd_same
  have ea := upd_old (o' := .lst []) (upd_old (o' := .lst []) ha ns) nj
  have ne : st ≠ jn := fun z => by rw [← z, upd_same] at nj; cases nj
  have nj2 : H jn = none := by
    rw [upd_ne (Ne.symm ne)] at nj
    exact nj
  have f : Fr [a] H (upd (upd H st (.lst [])) jn (.lst [])) := (Fr.new ns).trans (Fr.new nj)
  generalize upd (upd H st (.lst [])) jn (.lst []) = H2 at *
  have sa : st ≠ a := fun z => by rw [z, ha] at ns; cases ns
  have ja : jn ≠ a := fun z => by rw [z, ha] at nj2; cases nj2
  simp only [gcons, gnil, gfld, var, Z.get]
  refine ⟨_, _, rfl, a, _, _, rfl, ea, by simp, by simp, _, _, rfl, a, _, _, rfl, upd_same, by simp, by simp [putF], _, _, rfl, a, _, _, rfl, upd_same, by simp, by simp [putF], rfl, ?_⟩
  refine q _ st jn ⟨upd_same, ⟨[], ?_, rfl, fun i e x h => by simp at h⟩, ⟨[], ?_, rfl, fun i e x h => by simp at h⟩, ne⟩ (((f.trans (Fr.chg (by simp))).trans (Fr.chg (by simp))).trans (Fr.chg (by simp))) ns nj2
  · rw [upd_ne sa, upd_ne sa, upd_ne sa]
    exact e1
  · rw [upd_ne ja, upd_ne ja, upd_ne ja]
    exact e2
end
/- part d -/
/-- a piece as data -/
def pcD (T0 : Nat → Nat) (p : Pc) : D := .tup [.int (T0 p.1 : Nat), .int (T0 p.2.1 - T0 p.1 : Nat), match p.2.2 with | none => .non | some c => .int c]
theorem rep_pc {H : Heap} {T0 : Nat → Nat} {e : Nat} {p : Pc} (h : H e = some (.tup (pcV T0 p))) : Rep H (.ref e) (pcD T0 p) := by
  refine .tup (titems_t h) (.cons (.int _) (.cons (.int _) (.cons ?_ .nil)))
  cases p.2.2 with
  | none => exact .non
  | some c => exact .int _
theorem rep_pcs {H : Heap} {T0 : Nat → Nat} : ∀ (es : List Nat) (ps : List Pc), es.length = ps.length → (∀ (i e : Nat) (x : Pc), es[i]? = some e → ps[i]? = some x → H e = some (.tup (pcV T0 x))) → RepL H (es.map V.ref) (ps.map (pcD T0))
  | [], [], _, _ => .nil
  | e :: es, p :: ps, hl, h => .cons (rep_pc (h 0 e p rfl rfl)) (rep_pcs es ps (Nat.succ.inj hl) fun i e x a b => h (i + 1) e x a b)
  | [], _ :: _, hl, _ => by simp at hl
  | _ :: _, [], hl, _ => by simp at hl
theorem dep_pcs {T0 : Nat → Nat} : ∀ ps : List Pc, D.depthL (ps.map (pcD T0)) ≤ 1
  | [] => Nat.zero_le _
  | p :: ps => by
    have := dep_pcs (T0 := T0) ps
    show max (D.depth (pcD T0 p)) (D.depthL (ps.map (pcD T0))) ≤ 1
    have e : D.depth (pcD T0 p) ≤ 1 := by
      unfold pcD
      cases p.2.2 <;> exact Nat.le_refl _
    omega
/-- a pile is not empty -/
theorem pile_ne {H : Heap} {T0 : Nat → Nat} {st u : Nat} {ps : List Pc} {R : Bool → Prop} (h : Tups (pcV T0) H st ps) (hu : H u = some (.lst [])) (q : R (decide (ps = []))) : eqD (.ref st) (.ref u) H R := by
  obtain ⟨es, h1, h2, h3⟩ := h
  refine ⟨.lst (ps.map (pcD T0)), .lst [], .lst (litems_l h1) (rep_pcs es ps h2 h3), .lst (litems_l hu) .nil, ?_, by decide, ?_⟩
  · have := dep_pcs (T0 := T0) ps
    show D.depthL _ + 1 ≤ 64
    omega
  · cases ps with
    | nil => exact q
    | cons p r =>
      have e : decide (p :: r = []) = false := by simp
      rw [e] at q
      exact q
theorem squeeze_len {m : Nat} : ∀ {f : Nat} {rs : List Pc} {js : List Jn}, (squeeze m f rs js).2.length + (squeeze m f rs js).1.length = js.length + rs.length
  | 0, rs, js => rfl
  | f + 1, [], js => rfl
  | f + 1, [x], js => rfl
  | f + 1, x :: y :: r, js => by
    unfold squeeze
    split
    · rw [squeeze_len]
      simp only [List.length_append, List.length_cons, List.length_nil]
      omega
    · rfl
theorem stN_len (lev : Nat → Nat → Nat → Nat) : ∀ k, (stN lev k).2.length + (stN lev k).1.length = k
  | 0 => rfl
  | k + 1 => by
    have ih := stN_len lev k
    obtain ⟨ok1, ok2, ok3⟩ := stN_ok lev k
    show (come lev k (stN lev k)).2.length + (come lev k (stN lev k)).1.length = k + 1
    generalize stN lev k = s at *
    obtain ⟨rs, js⟩ := s
    cases rs with
    | nil =>
      show js.length + 1 = k + 1
      have : js.length + 0 = k := ih
      omega
    | cons x r =>
      obtain ⟨n0, _⟩ := squeeze_ok (m := lev x.1 x.2.1 (k + 1)) (n := k) (f := (x :: r).length) (by simp) ok1 ok2 ok3
      have sl := squeeze_len (m := lev x.1 x.2.1 (k + 1)) (f := (x :: r).length) (rs := x :: r) (js := js)
      show (squeeze (lev x.1 x.2.1 (k + 1)) (x :: r).length (x :: r) js).2.length + (marked (lev x.1 x.2.1 (k + 1)) k (squeeze (lev x.1 x.2.1 (k + 1)) (x :: r).length (x :: r) js).1).length = k + 1
      generalize squeeze (lev x.1 x.2.1 (k + 1)) (x :: r).length (x :: r) js = t at *
      obtain ⟨ts, js2⟩ := t
      have ih : js.length + (x :: r).length = k := ih
      cases ts with
      | nil => exact absurd rfl n0
      | cons z r' =>
        show js2.length + ((r'.length + 1) + 1) = k + 1
        have sl : js2.length + (r'.length + 1) = js.length + (x :: r).length := sl
        omega
section
variable {k : Nat} {H : Heap} {Q : VK} {E : EK} {T0 : Nat → Nat} {st jn : Nat}
/-- one piece more, behind all -/
theorem StkAt.push {a w t : Nat} {rs : List Pc} {js : List Jn} {p : Pc} (g : StkAt H T0 a w st jn rs js) (nt : H t = none) : ∃ ys, H st = some (.lst ys) ∧ ys.length = rs.length ∧ StkAt (upd (upd H t (.tup (pcV T0 p))) st (.lst (ys ++ [.ref t]))) T0 a w st jn (p :: rs) js := by
  obtain ⟨ys, h1, h2, h3⟩ := g.pile.push (x := p) nt
  refine ⟨ys, h1, by rw [h2, List.length_reverse], ?_, by rw [List.reverse_cons]; exact h3, ?_, g.ne⟩
  · have oa := g.obj
    rw [upd_ne fun z => by rw [z, h1] at oa; cases oa]
    exact upd_old oa nt
  · refine g.jns.fr ((FrT.new nt).trans (FrT.chg (upd_old h1 nt))) ?_
    rw [upd_ne g.ne.symm]
    obtain ⟨es, j1, _⟩ := g.jns
    exact (upd_old j1 nt).trans j1.symm
theorem come_k {a w i : Nat} {ps : List Nat} (hw : w = S ps ps.length) (hi : i < ps.length) (hl : ps.length ≤ 200) (h1 : ∀ x ∈ ps, 1 ≤ x) (hb : 2 * w < 2 ^ 190)
    (g : StkAt H (S ps) a w st jn (stN (levS (S ps) w) i).1 (stN (levS (S ps) w) i).2)
    (q : ∀ H', StkAt H' (S ps) a w st jn (stN (levS (S ps) w) (i + 1)).1 (stN (levS (S ps) w) (i + 1)).2 → Fr [st, jn] H H' → FrT H H' → Q .non H') : callK T (k + 2) "Stack" "come" [.ref a, .int (S ps i : Nat), .int (ps.getD i 0 : Nat)] H Q E := by
  refine call_k (np := 3) (n := 7) rfl rfl ?_
  unfold z_Stack_come
  have es : stN (levS (S ps) w) (i + 1) = come (levS (S ps) w) i (stN (levS (S ps) w) i) := rfl
  obtain ⟨ok1, ok2, ok3⟩ := stN_ok (levS (S ps) w) i
  have hj := stN_len (levS (S ps) w) i
  generalize hstate : stN (levS (S ps) w) i = s at *
  obtain ⟨rs, js⟩ := s
  have hsi := S_succ hi
  have pi1 : 1 ≤ ps.getD i 0 := h1 _ (getD_mem hi)
  have le_w : S ps (i + 1) ≤ w := by rw [hw]; exact S_mono (by omega)
  -- what stands before the push
  obtain ⟨rs2, hrs2⟩ : ∃ rs2 : List Pc × List Jn, (stN (levS (S ps) w) (i + 1)) = ((i, i + 1, none) :: rs2.1, rs2.2) ∧ (rs = [] → rs2 = ([], js)) ∧ (∀ x r, rs = x :: r → ∃ z r', (squeeze (levS (S ps) w x.1 x.2.1 (i + 1)) (x :: r).length (x :: r) js).1 = z :: r' ∧ rs2 = ((z.1, z.2.1, some (levS (S ps) w x.1 x.2.1 (i + 1))) :: r', (squeeze (levS (S ps) w x.1 x.2.1 (i + 1)) (x :: r).length (x :: r) js).2)) := by
    rw [es]
    cases rs with
    | nil => exact ⟨([], js), rfl, fun _ => rfl, fun x r h => (nomatch h)⟩
    | cons x r =>
      obtain ⟨n0, _⟩ := squeeze_ok (m := levS (S ps) w x.1 x.2.1 (i + 1)) (n := i) (f := (x :: r).length) (by simp) ok1 ok2 ok3
      cases e : (squeeze (levS (S ps) w x.1 x.2.1 (i + 1)) (x :: r).length (x :: r) js).1 with
      | nil => exact absurd e n0
      | cons z r' =>
        refine ⟨((z.1, z.2.1, some (levS (S ps) w x.1 x.2.1 (i + 1))) :: r', (squeeze (levS (S ps) w x.1 x.2.1 (i + 1)) (x :: r).length (x :: r) js).2), ?_, fun h => (nomatch h), fun x' r2 h => ?_⟩
        · show (marked _ i _, _) = _
          rw [e]
          rfl
        · cases h
          exact ⟨z, r', e, rfl⟩
  obtain ⟨h3, h4, h5⟩ := hrs2
  rw [h3] at q
  refine seq_k (fun σ1 H1 => ∃ x3 x4 x5 x6, σ1 = [some (.ref a), some (.int (S ps i : Nat)), some (.int (ps.getD i 0 : Nat)), x3, x4, x5, x6] ∧ StkAt H1 (S ps) a w st jn rs2.1 rs2.2 ∧ Fr [st, jn] H H1 ∧ FrT H H1) (fun K hK => ?_) ?_
  · simp only [ifs, tt, cmp, fld, lstl, acons, anil, var, start, Z.get]
    refine ⟨a, _, _, .ref st, rfl, g.obj, rfl, by decide, fun u nu => ?_⟩
    rw [cmpr_ne]
    have fu : FrN H (upd H u (.lst [])) := .new nu
    have g1 : StkAt (upd H u (.lst [])) (S ps) a w st jn rs js := ⟨fu _ _ g.obj, g.pile.keep fu.tup (fu.fr []) (by simp), g.jns.keep fu.tup (fu.fr []) (by simp), g.ne⟩
    have f1 : Fr [st, jn] H (upd H u (.lst [])) := fu.fr _
    have t1 : FrT H (upd H u (.lst [])) := fu.tup
    refine pile_ne g1.pile upd_same ⟨_, rfl, ?_⟩
    generalize upd H u (.lst []) = H1 at *
    cases rs with
    | nil =>
      simp only [List.reverse_nil, decide_true, Bool.not_true, Bool.false_eq_true, if_false]
      rw [h4 rfl] at hK
      exact hK _ _ ⟨_, _, _, _, rfl, g1, f1, t1⟩
    | cons x r =>
      have ne : decide ((x :: r).reverse = []) = false := by simp
      rw [ne]
      simp only [Bool.not_false, if_true]
      obtain ⟨z, r', e1, e2⟩ := h5 x r rfl
      obtain ⟨b1, b2, b3⟩ := id ok1
      obtain ⟨ys, p1, p2, p3⟩ := g1.pile.at_
      rw [List.length_reverse] at p2
      obtain ⟨e, x1, x2⟩ := p3 r.length x (by rw [List.reverse_cons]; simp [List.getElem?_append_right])
      have x1' : atI ys (-1) = some (.ref e) := by
        rw [atI_lt (by omega) (by rw [p2]; simp only [List.length_cons]; omega), Int.toNat_natCast] at x1
        rw [atI_neg (by decide) (by rw [p2]; simp only [List.length_cons]; omega), p2, show ((-1 : Int) + (((x :: r).length : Nat) : Int)).toNat = r.length by simp only [List.length_cons]; omega]
        exact x1
      refine seq_k (fun σ1 H2 => H1 = H2 ∧ σ1 = [some (.ref a), some (.int (S ps i : Nat)), some (.int (ps.getD i 0 : Nat)), some (.int (S ps x.1 : Nat)), some (.int (S ps x.2.1 - S ps x.1 : Nat)), some (mkV x.2.2), none]) (fun K2 hK2 => ?_) ?_
      · simp only [asg, ix, fld, neg, cst, var, Z.get]
        refine ⟨a, _, _, .ref st, rfl, g1.obj, rfl, _, -1, .ref e, items_l p1, rfl, x1', ?_⟩
        simp only [gtup, gcons, gnil, gname]
        exact ⟨_, titems_t x2, rfl, _, _, rfl, _, _, rfl, _, _, rfl, rfl, hK2 _ _ ⟨rfl, rfl⟩⟩
      rintro _ _ ⟨rfl, rfl⟩
      refine asg_k (fun v H2 => H1 = H2 ∧ v = .int (levS (S ps) w x.1 x.2.1 (i + 1) : Nat)) (fun K2 hK2 => ?_) ?_
      · simp only [callf, acons, anil, fld, var, Z.get, perm]
        refine ⟨a, _, _, .int w, rfl, g1.obj, rfl, rfl, ?_⟩
        have lt1 : S ps x.1 < S ps x.2.1 := S_lt h1 (by omega) (by omega)
        have eS : S ps (i + 1) - S ps x.2.1 = ps.getD i 0 := by rw [b1]; omega
        have := plev_k (k := k) (H := H1) (E := fun c fs H' => E c fs H') (Q := K2) (b := S ps x.1) (f := S ps x.2.1 - S ps x.1) (s := ps.getD i 0) (size := w) (by omega) pi1 (by rw [b1] at lt1 ⊢; omega) hb (hK2 _ _ ⟨rfl, by unfold levS; rw [eS]⟩)
        exact this
      rintro _ _ ⟨rfl, rfl⟩
      simp only [put]
      refine seq_k (fun σ1 H2 => σ1 = [some (.ref a), some (.int (S ps i : Nat)), some (.int (ps.getD i 0 : Nat)), some (.int (S ps x.1 : Nat)), some (.int (S ps x.2.1 - S ps x.1 : Nat)), some (mkV x.2.2), some (.int (levS (S ps) w x.1 x.2.1 (i + 1) : Nat))] ∧ StkAt H2 (S ps) a w st jn (squeeze (levS (S ps) w x.1 x.2.1 (i + 1)) (x :: r).length (x :: r) js).1 (squeeze (levS (S ps) w x.1 x.2.1 (i + 1)) (x :: r).length (x :: r) js).2 ∧ Fr [st, jn] H H2 ∧ FrT H H2) (fun K2 hK2 => ?_) ?_
      · have hj' : js.length + (x :: r).length = i := hj
        refine psq_k (k := k) (a := a) (w := w) (n := i) rfl (fun i j h => S_mono h) g1 (by simp) ok1 ok2 (by omega) (by omega) fun H2 q1 q2 q3 => ?_
        exact hK2 _ _ ⟨rfl, q1, f1.trans q2, t1.trans q3⟩
      rintro _ H2 ⟨rfl, g2, f2, t2⟩
      rw [e1] at g2
      refine pset_k g2 fun H3 g3 f3 t3 => ?_
      rw [e2] at hK
      exact hK _ _ ⟨_, _, _, _, rfl, g3, f2.trans (f3.mono (by simp)), t2.trans t3⟩
  rintro _ H1 ⟨x3, x4, x5, x6, rfl, g1, f1, t1⟩
  simp only [drop, bmt, tupl, acons, anil, fld, cst, var, Z.get]
  obtain ⟨ys0, p0, _⟩ := g1.pile.at_
  refine ⟨a, _, _, .ref st, rfl, g1.obj, rfl, ⟨_, litems_l p0⟩, (by show 3 ≤ line; decide), fun t nt => ?_⟩
  obtain ⟨ys, p1, p2, g2⟩ := g1.push (p := (i, i + 1, none)) nt
  have lz : rs2.1.length ≤ 1000 := by
    have c := (stN_ok (levS (S ps) w) (i + 1)).1
    have l := stN_len (levS (S ps) w) (i + 1)
    rw [h3] at l
    simp only [List.length_cons] at l
    omega
  have ev : (.tup [.int (S ps i : Nat), .int (ps.getD i 0 : Nat), .non] : O) = .tup (pcV (S ps) (i, i + 1, none)) := by
    unfold pcV mkV
    rw [hsi, Nat.add_sub_cancel_left]
  have nt' := nt
  rw [ev]
  refine ⟨st, ys, _, rfl, rfl, upd_old p1 nt, ?_, ?_⟩
  · rw [p2]
    unfold line
    omega
  · exact q _ g2 ((f1.trans (Fr.new nt)).trans (Fr.chg (by simp))) ((t1.trans (FrT.new nt)).trans (FrT.chg (upd_old p1 nt)))
end
/- part e -/
abbrev intsN (xs : List Nat) : List Int := xs.map fun n : Nat => (n : Int)
theorem intsN_v (xs : List Nat) : (intsN xs).map V.int = nats xs := by
  show List.map _ (List.map _ _) = _
  rw [List.map_map]
  rfl
theorem endN_len {lt : Pc → Pc → Bool} : ∀ {f : Nat} {rs : List Pc} {js : List Jn}, js.length ≤ (endN lt f rs js).length ∧ (endN lt f rs js).length ≤ js.length + f
  | 0, rs, js => ⟨Nat.le_refl _, Nat.le_refl _⟩
  | f + 1, [], js => ⟨Nat.le_refl _, Nat.le_add_right _ _⟩
  | f + 1, [x], js => ⟨Nat.le_refl _, Nat.le_add_right _ _⟩
  | f + 1, [x, y], js => by
    show js.length ≤ (js ++ [_]).length ∧ (js ++ [_]).length ≤ _
    simp only [List.length_append, List.length_cons, List.length_nil]
    omega
  | f + 1, x :: y :: z :: r, js => by
    unfold endN
    split
    · have h := endN_len (lt := lt) (f := f) (rs := x :: (z.1, y.2.1, y.2.2) :: r) (js := js ++ [(z.1, z.2.1, y.2.1)])
      simp only [List.length_append, List.length_cons, List.length_nil] at h
      omega
    · have h := endN_len (lt := lt) (f := f) (rs := (y.1, x.2.1, x.2.2) :: z :: r) (js := js ++ [(y.1, y.2.1, x.2.1)])
      simp only [List.length_append, List.length_cons, List.length_nil] at h
      omega
theorem joins_len (ps : List Nat) : (stN (levS (S ps) (S ps ps.length)) ps.length).2.length ≤ (joinsN ps).length ∧ (joinsN ps).length ≤ ps.length := by
  have h := stN_len (levS (S ps) (S ps ps.length)) ps.length
  have e := endN_len (lt := ltS (S ps)) (f := (stN (levS (S ps) (S ps ps.length)) ps.length).1.length) (rs := (stN (levS (S ps) (S ps ps.length)) ps.length).1) (js := (stN (levS (S ps) (S ps ps.length)) ps.length).2)
  unfold joinsN allJ
  omega
theorem sum_ints : ∀ xs : List Nat, (intsN xs).sum = ((xs.sum : Nat) : Int)
  | [] => rfl
  | x :: r => by
    show (x : Int) + (intsN r).sum = _
    rw [sum_ints r, List.sum_cons]
    omega
/-- joins in a list, of references -/
def JAt (H : Heap) (ps : List Nat) (ys : List V) : Prop := ∃ es : List Nat, ys = es.map V.ref ∧ es.length = (joinsN ps).length ∧ ∀ (i e : Nat) (x : Jn), es[i]? = some e → (joinsN ps)[i]? = some x → H e = some (.tup (jnV (S ps) x))
/-- what is asked of lengths -/
structure Good (ps : List Nat) : Prop where
  one : 1 ≤ ps.length
  len : ps.length ≤ 200
  pos : ∀ x ∈ ps, 1 ≤ x
  fit : 2 * S ps ps.length < 2 ^ 190
section
variable {k : Nat} {H : Heap} {Q : VK} {E : EK}
theorem end_k {T0 : Nat → Nat} {st jn a w n : Nat} {rs : List Pc} {js : List Jn} (hT : ∀ i j, i ≤ j → T0 i ≤ T0 j) (g : StkAt H T0 a w st jn rs js) (h0 : rs ≠ []) (hc : Cont n rs) (hl : rs.length ≤ 300) (hjl : js.length + rs.length ≤ 5000)
    (q : ∀ H' rs', StkAt H' T0 a w st jn rs' (endN (ltS T0) rs.length rs js) → Fr [st, jn] H H' → FrT H H' → Q .non H') : callK T (k + 2) "Stack" "end" [.ref a] H Q E := by
  refine call_k (np := 1) (n := 2) rfl rfl ?_
  unfold z_Stack_end
  exact pend_k (k := k) (a := a) (w := w) (x9 := none) rfl hT g h0 hc hl hjl (fun H' rs' lp q1 q2 q3 => q H' rs' q1 q2 q3) none
theorem merges_k {p : Nat} {ps : List Nat} (gd : Good ps) (hp : LenAt H p ps)
    (q : ∀ H' t e l ys m, Fr [] H H' → H' t = some (.tup [.ref e, .ref l]) → H' e = some (.lst (ys.take m)) → H' l = some (.lst (ys.drop m)) → JAt H' ps ys → Q (.ref t) H') : callK T (k + 4) "" "merges" [.ref p] H Q E := by
  refine call_k (np := 1) (n := 5) rfl rfl ?_
  unfold z_merges
  have hwf : (S ps ps.length) = ps.sum := by unfold S; rw [List.take_of_length_le (Nat.le_refl _)]
  refine seq_k (fun σ1 H1 => H = H1 ∧ σ1 = [some (.ref p), none, none, none, none]) (fun K hK => ?_) ?_
  · simp only [drop, callf, acons, anil, var, start, Z.get, perm]
    exact ⟨rfl, rl_k (k := k + 1) hp gd.one gd.len gd.pos (hK _ _ ⟨rfl, rfl⟩)⟩
  rintro _ _ ⟨rfl, rfl⟩
  obtain ⟨w, ew⟩ : ∃ w, S ps ps.length = w := ⟨_, rfl⟩
  refine asg_k (fun v H1 => ∃ a st jn, v = .ref a ∧ StkAt H1 (S ps) a w st jn [] [] ∧ Fr [] H H1 ∧ H st = none ∧ H jn = none) (fun K hK => ?_) ?_
  · simp only [make, blt, acons, anil, var, Z.get, perm]
    refine ⟨.ref p, intsN ps, rfl, by rw [intsN_v]; exact hp.items, rfl, fun a na => ?_⟩
    have e : (intsN ps).sum = (w : Nat) := by rw [sum_ints, ← hwf, ew]
    rw [e]
    refine sinit_k upd_same fun H' st jn g f ns nj => ⟨rfl, hK _ _ ⟨a, st, jn, rfl, g, Fr.shut (Fr.new na) f (by simpa using na), ?_, ?_⟩⟩
    · rw [upd_ne fun z => by rw [z, upd_same] at ns; cases ns] at ns
      exact ns
    · rw [upd_ne fun z => by rw [z, upd_same] at nj; cases nj] at nj
      exact nj
  rintro _ H1 ⟨a, st, jn, rfl, g1, f1, ns, nj⟩
  have shut : ∀ {H2 H3 : Heap}, Fr [] H H2 → Fr [st, jn] H2 H3 → Fr [] H H3 := fun f g => Fr.shut f g (by simp [ns, nj])
  have levw : levS (S ps) w = levS (S ps) (S ps ps.length) := by rw [ew]
  have hb : 2 * w < 2 ^ 190 := by rw [← ew]; exact gd.fit
  simp only [put]
  refine seq_k (fun σ1 H2 => ∃ x y, σ1 = [some (.ref p), some (.ref a), x, y, none] ∧ StkAt H2 (S ps) a w st jn (stN (levS (S ps) w) ps.length).1 (stN (levS (S ps) w) ps.length).2 ∧ Fr [] H H2) (fun K hK => ?_) ?_
  · simp only [fore2, izip, callf, acons, anil, var, Z.get, perm]
    refine ⟨rfl, starts_k (k := k + 2) rfl (hp.fr f1 (by simp)) gd.len fun H2 u f2 nu hu => ⟨_, _, rfl, ?_⟩⟩
    have stu : u ≠ st := fun z => by obtain ⟨es, h, _⟩ := g1.pile; rw [z, h] at nu; cases nu
    have jnu : u ≠ jn := fun z => by obtain ⟨es, h, _⟩ := g1.jns; rw [z, h] at nu; cases nu
    have body : ∀ (C : Cx) (D : Ends) (sh : Heap → Prop), C.call = callK T (k + 3) → (∀ H3, Fr [] H H3 → H3 u = some (.lst (nats (sums ps (ps.length + 1)))) → sh H3) → D.nx = K →
        fori2 sh (gcons (gname 2) (gcons (gname 3) gnil)) (drop (meth ["Stack"] (var 1) "come" 2 [Sum.inl 0, Sum.inl 1, Sum.inl 2] (acons (var 2) (acons (var 3) anil)))) C D ((nats (sums ps (ps.length + 1))).zip (nats ps)) [some (.ref p), some (.ref a), none, none, none] H2 := by
      intro C D sh hC hsh hD
      have lz : ((nats (sums ps (ps.length + 1))).zip (nats ps)).length = ps.length := by
        rw [List.length_zip, List.length_map, List.length_map, List.length_map, List.length_range]
        omega
      refine fori2_k (fun i σ H3 => (∃ x y, σ = [some (.ref p), some (.ref a), x, y, none]) ∧ StkAt H3 (S ps) a w st jn (stN (levS (S ps) w) i).1 (stN (levS (S ps) w) i).2 ∧ Fr [] H H3 ∧ H3 u = some (.lst (nats (sums ps (ps.length + 1)))))
        ⟨⟨_, _, rfl⟩, ⟨f2 _ _ g1.obj (by simp), g1.pile.keep (FrT.of f2) f2 (by simp), g1.jns.keep (FrT.of f2) f2 (by simp), g1.ne⟩, f1.trans f2, hu⟩ (fun i v σ H3 hv gg => ?_) fun σ H3 gg => ?_
      · obtain ⟨⟨x, y, rfl⟩, g3, f3, hu3⟩ := gg
        have hi : i < ps.length := by
          have := (List.getElem?_eq_some_iff.mp hv).1
          omega
        rw [List.getElem?_zip_eq_some] at hv
        obtain ⟨v1, v2⟩ := hv
        rw [nats_get (by simp; omega)] at v1
        rw [nats_get hi] at v2
        obtain ⟨va, vb⟩ := v
        have w1 : V.int ((sums ps (ps.length + 1)).getD i 0 : Nat) = va := Option.some.inj v1
        have w2 : V.int (ps.getD i 0 : Nat) = vb := Option.some.inj v2
        subst w1 w2
        refine ⟨hsh H3 f3 hu3, fun M hM => ?_⟩
        simp only [gcons, gnil, gname, put]
        refine ⟨_, _, rfl, _, _, rfl, rfl, ?_⟩
        simp only [drop, meth, acons, anil, var, Z.get, perm]
        refine ⟨a, _, _, rfl, g3.obj, by simp, rfl, rfl, ?_⟩
        rw [hC]
        have eS : (sums ps (ps.length + 1)).getD i 0 = S ps i := by
          rw [List.getD, List.getElem?_map, List.getElem?_range (by omega)]
          rfl
        show callK T (k + 1 + 2) "Stack" "come" [.ref a, .int ((sums ps (ps.length + 1)).getD i 0 : Nat), .int (ps.getD i 0 : Nat)] H3 _ _
        rw [eS]
        refine come_k (k := k + 1) ew.symm hi gd.len gd.pos hb g3 fun H4 g4 f4 t4 => hM _ _ ⟨⟨_, _, rfl⟩, g4, shut f3 f4, f4 u _ hu3 (by simp [stu, jnu])⟩
      · obtain ⟨⟨x, y, rfl⟩, g3, f3, hu3⟩ := gg
        rw [lz] at g3
        rw [hD]
        exact ⟨hsh H3 f3 hu3, hK _ _ ⟨_, _, rfl, g3, f3⟩⟩
    rcases hp with hp | hp
    · exact .inl ⟨_, _, litems_l hu, litems_l (f2 p _ (f1 p _ hp (by simp)) (by simp)), body _ _ _ rfl (fun H3 f h => ⟨litems_l h, litems_l (f p _ hp (by simp))⟩) rfl⟩
    · exact .inr (.inr ⟨_, _, litems_l hu, titems_t (f2 p _ (f1 p _ hp (by simp)) (by simp)), body _ _ _ rfl (fun H3 f h => ⟨litems_l h, titems_t (f p _ hp (by simp))⟩) rfl⟩)
  rintro _ H2 ⟨x, y, rfl, g2, f2⟩
  have sl := stN_len (levS (S ps) w) ps.length
  obtain ⟨ok1, _, _⟩ := stN_ok (levS (S ps) w) ps.length
  have jl := joins_len ps
  have ej : joinsN ps = endN (ltS (S ps)) (stN (levS (S ps) w) ps.length).1.length (stN (levS (S ps) w) ps.length).1 (stN (levS (S ps) w) ps.length).2 := by
    rw [levw]
    rfl
  rw [← levw] at jl
  have ne : (stN (levS (S ps) w) ps.length).1 ≠ [] := fun z => by
    rw [z] at ok1
    have : ps.length = 0 := ok1
    have := gd.one
    omega
  generalize stN (levS (S ps) w) ps.length = s at *
  refine asg_k (fun v H3 => H2 = H3 ∧ v = .int (s.2.length : Nat)) (fun K hK => ?_) ?_
  · simp only [blt, bLen, acons, anil, fld, var, Z.get]
    obtain ⟨ys, j1, j2, _⟩ := g2.jns.at_
    refine ⟨a, _, _, .ref jn, rfl, g2.obj, rfl, _, _, rfl, items_l j1, ?_⟩
    rw [j2]
    exact hK _ _ ⟨rfl, rfl⟩
  rintro _ _ ⟨rfl, rfl⟩
  simp only [put]
  have l200 := gd.len
  refine seq_k (fun σ1 H3 => σ1 = [some (.ref p), some (.ref a), x, y, some (.int (s.2.length : Nat))] ∧ (∃ rs', StkAt H3 (S ps) a w st jn rs' (joinsN ps)) ∧ Fr [] H H3) (fun K hK => ?_) ?_
  · simp only [drop, meth, acons, anil, var, Z.get, perm]
    refine ⟨a, _, _, rfl, g2.obj, by simp, rfl, rfl, ?_⟩
    exact end_k (k := k + 1) (n := ps.length) (fun i j h => S_mono h) g2 ne ok1 (by omega) (by omega) fun H3 rs' g3 f3 t3 => hK _ _ ⟨rfl, ⟨rs', by rw [ej]; exact g3⟩, shut f2 f3⟩
  rintro _ H3 ⟨rfl, ⟨rs', g3⟩, f3⟩
  obtain ⟨es, j1, j2, j3⟩ := g3.jns
  simp only [ret, tupl, slc, acons, anil, pno, pso, fld, var, Z.get]
  refine ⟨a, _, _, .ref jn, rfl, g3.obj, rfl, _, rfl, .inl ⟨_, litems_l j1, fun e ne => ?_⟩⟩
  refine ⟨a, _, _, .ref jn, rfl, upd_old g3.obj ne, rfl, _, rfl, .inl ⟨_, litems_l (upd_old j1 ne), fun l nl => ⟨(by show 2 ≤ line; decide), fun t nt => ?_⟩⟩⟩
  have le : (es.map V.ref).length = (joinsN ps).length := by rw [List.length_map, j2]
  have c1 : cutV (es.map V.ref) none (some (s.2.length : Nat)) = (es.map V.ref).take s.2.length := by
    unfold cutV
    rw [sIx_in (by omega)]
    show ((es.map V.ref).drop 0).take (s.2.length - 0) = _
    rw [List.drop_zero, Nat.sub_zero]
  have c2 : cutV (es.map V.ref) (some (s.2.length : Nat)) none = (es.map V.ref).drop s.2.length := by
    unfold cutV
    rw [sIx_in (by omega)]
    show ((es.map V.ref).drop s.2.length).take ((es.map V.ref).length - s.2.length) = _
    rw [List.take_of_length_le (by rw [List.length_drop]; omega)]
  rw [c1] at nl nt ⊢
  rw [c2] at nt ⊢
  have fn : FrN H3 (upd (upd (upd H3 e (.lst ((es.map V.ref).take s.2.length))) l (.lst ((es.map V.ref).drop s.2.length))) t (.tup [.ref e, .ref l])) := ((FrN.new ne).trans (.new nl)).trans (.new nt)
  exact q _ t e l (es.map V.ref) s.2.length (f3.trans (fn.fr [])) upd_same (upd_old (upd_old upd_same nl) nt) (upd_old upd_same nt) ⟨es, rfl, j2, fun i e x a b => fn _ _ (j3 i e x a b)⟩
theorem am_k {p : Nat} {ps : List Nat} (gd : Good ps) (hp : LenAt H p ps) (q : ∀ H' u ys, Fr [] H H' → H' u = some (.lst ys) → JAt H' ps ys → Q (.ref u) H') : callK T (k + 5) "" "all_merges" [.ref p] H Q E := by
  refine call_k (np := 1) (n := 3) rfl rfl ?_
  unfold z_all_merges
  refine seq_k (fun σ1 H1 => ∃ e l ys m, σ1 = [some (.ref p), some (.ref e), some (.ref l)] ∧ Fr [] H H1 ∧ H1 e = some (.lst (ys.take m)) ∧ H1 l = some (.lst (ys.drop m)) ∧ JAt H1 ps ys) (fun K hK => ?_) ?_
  · simp only [asg, callf, acons, anil, var, start, Z.get, perm]
    refine ⟨rfl, merges_k (k := k) gd hp fun H1 t e l ys m f ht he hl hj => ?_⟩
    simp only [gtup, gcons, gnil, gname, put]
    exact ⟨_, titems_t ht, rfl, _, _, rfl, _, _, rfl, rfl, hK _ _ ⟨e, l, ys, m, rfl, f, he, hl, hj⟩⟩
  rintro _ H1 ⟨e, l, ys, m, rfl, f1, he, hl, hj⟩
  simp only [ret, bin, var, Z.get]
  rw [opr_add_rr]
  have lj : ys.length ≤ 200 := by
    obtain ⟨es, rfl, j2, _⟩ := hj
    rw [List.length_map, j2]
    have := joins_len ps
    have := gd.len
    omega
  refine .inl ⟨_, _, litems_l he, litems_l hl, ?_, fun u nu => ?_⟩
  · rw [List.length_take, List.length_drop]
    unfold line
    omega
  · rw [List.take_append_drop]
    obtain ⟨es, ey, j2, j3⟩ := hj
    exact q _ u ys (f1.trans (Fr.new nu)) upd_same ⟨es, ey, j2, fun i e x a b => upd_old (j3 i e x a b) nu⟩
end
/- part f -/
theorem JAt.fr {H H' : Heap} {ps : List Nat} {ys : List V} (h : JAt H ps ys) (f : FrT H H') : JAt H' ps ys := by
  obtain ⟨es, e, l, g⟩ := h
  exact ⟨es, e, l, fun i e x a b => f _ _ (g i e x a b)⟩
theorem JAt.len {H : Heap} {ps : List Nat} {ys : List V} (h : JAt H ps ys) : ys.length = (joinsN ps).length := by
  obtain ⟨es, rfl, l, _⟩ := h
  rw [List.length_map, l]
theorem JAt.get {H : Heap} {ps : List Nat} {ys : List V} (h : JAt H ps ys) {i : Nat} {v : V} (hv : ys[i]? = some v) : ∃ e x, v = .ref e ∧ (joinsN ps)[i]? = some x ∧ H e = some (.tup (jnV (S ps) x)) := by
  obtain ⟨es, rfl, l, g⟩ := h
  rw [List.getElem?_map] at hv
  obtain ⟨e, he, rfl⟩ := Option.map_eq_some_iff.mp hv
  have hi : i < (joinsN ps).length := by
    have := (List.getElem?_eq_some_iff.mp he).1
    omega
  exact ⟨e, _, rfl, List.getElem?_eq_getElem hi, g i e _ he (List.getElem?_eq_getElem hi)⟩
theorem rnd_app (p : Nat) (j : Jn) : ∀ js : List Jn, rnd (js ++ [j]) p = rnd js p + (if j.1 ≤ p ∧ p < j.2.2 then 1 else 0)
  | [] => by
    show _ + 0 = 0 + _
    omega
  | i :: r => by
    show _ + rnd (r ++ [j]) p = _ + rnd r p + _
    rw [rnd_app p j r]
    omega
theorem take_next {α : Type} {l : List α} {i : Nat} {x : α} (h : l[i]? = some x) : l.take (i + 1) = l.take i ++ [x] := by
  rw [List.take_succ, h]
  rfl
theorem cost_sum (T0 : Nat → Nat) : ∀ js : List Jn, (js.map fun j => T0 j.2.2 - T0 j.1).sum = costJ T0 js
  | [] => rfl
  | j :: r => by
    rw [List.map_cons, List.sum_cons, cost_sum T0 r]
    rfl
/-- a join's span holds a piece -/
theorem span_iff {ps : List Nat} (gd : Good ps) {j : Jn} (hj : j.1 < j.2.1 ∧ j.2.1 < j.2.2 ∧ j.2.2 ≤ ps.length) {i : Nat} (hi : i < ps.length) : (S ps j.1 ≤ S ps i ↔ j.1 ≤ i) ∧ (S ps i < S ps j.2.2 ↔ i < j.2.2) := by
  have lt : ∀ {a b : Nat}, a < b → b ≤ ps.length → S ps a < S ps b := fun h1 h2 => S_lt gd.pos h1 h2
  refine ⟨⟨fun h => ?_, fun h => S_mono h⟩, ⟨fun h => ?_, fun h => lt h hj.2.2⟩⟩
  · by_cases z : j.1 ≤ i
    · exact z
    · have := lt (show i < j.1 by omega) (by omega)
      omega
  · by_cases z : i < j.2.2
    · exact z
    · have := S_mono (ps := ps) (show j.2.2 ≤ i by omega)
      omega
section
variable {k : Nat} {H : Heap} {Q : VK} {E : EK}
theorem cost_k {p : Nat} {ps : List Nat} (gd : Good ps) (hp : LenAt H p ps) (q : ∀ H', Fr [] H H' → Q (.int (costJ (S ps) (joinsN ps) : Nat)) H') : callK T (k + 6) "" "cost" [.ref p] H Q E := by
  refine call_k (np := 1) (n := 4) rfl rfl ?_
  unfold z_cost
  simp only [ret, blt, acons, anil, lcomp, iseq, callf, var, start, Z.get, perm]
  refine ⟨rfl, am_k (k := k) gd hp fun H1 u ys f1 hu hj => .inl ⟨_, litems_l hu, ?_⟩⟩
  have ok := joins_ok ps
  have jl := joins_len ps
  have l200 := gd.len
  refine lci_k (fun i acc H2 => H1 = H2 ∧ acc = nats (((joinsN ps).take i).map fun j => S ps j.2.2 - S ps j.1)) ⟨rfl, rfl⟩ (fun i v acc H2 hv g => ⟨litems_l (by rw [← g.1]; exact hu), fun L hL => ?_⟩) fun acc H2 g => ⟨litems_l (by rw [← g.1]; exact hu), fun r nr => ?_⟩
  · obtain ⟨rfl, rfl⟩ := g
    obtain ⟨e, x, rfl, hx, he⟩ := hj.get hv
    have hx2 := ok x (List.mem_of_getElem? hx)
    simp only [gtup, gcons, gnil, gname, tyes, if_true]
    refine ⟨_, titems_t he, rfl, _, _, rfl, _, _, rfl, _, _, rfl, rfl, ?_⟩
    simp only [bin, var, wipe, Z.get, put]
    show _ < line ∧ _
    refine ⟨?_, hL _ _ ⟨rfl, ?_⟩⟩
    · rw [List.length_map, List.length_map, List.length_take]
      unfold line
      omega
    · rw [take_next hx, List.map_append, show nats ((((joinsN ps).take i).map fun j => S ps j.2.2 - S ps j.1) ++ ([x].map fun j => S ps j.2.2 - S ps j.1)) = nats (((joinsN ps).take i).map fun j => S ps j.2.2 - S ps j.1) ++ [V.int (S ps x.2.2 - S ps x.1 : Nat)] from List.map_append]
      congr 2
      have m1 := S_mono (ps := ps) (show x.1 ≤ x.2.1 by omega)
      have m2 := S_mono (ps := ps) (show x.2.1 ≤ x.2.2 by omega)
      congr 1
      omega
  · obtain ⟨rfl, rfl⟩ := g
    rw [hj.len, List.take_of_length_le (Nat.le_refl _)] at *
    refine ⟨.ref r, intsN ((joinsN ps).map fun j => S ps j.2.2 - S ps j.1), rfl, items_l (by rw [upd_same, intsN_v]), ?_⟩
    rw [sum_ints, cost_sum]
    exact q _ (f1.trans (Fr.new nr))
theorem rounds_k {p : Nat} {ps : List Nat} (gd : Good ps) (hp : LenAt H p ps) (q : ∀ H' u, Fr [] H H' → H u = none → H' u = some (.lst (nats ((List.range ps.length).map (rnd (joinsN ps))))) → Q (.ref u) H') : callK T (k + 6) "" "rounds" [.ref p] H Q E := by
  refine call_k (np := 1) (n := 6) rfl rfl ?_
  unfold z_rounds
  have ok := joins_ok ps
  have jl := joins_len ps
  have l200 := gd.len
  refine asg_k (fun v H1 => ∃ u ys, v = .ref u ∧ Fr [] H H1 ∧ H1 u = some (.lst ys) ∧ JAt H1 ps ys) (fun K hK => ?_) ?_
  · simp only [callf, acons, anil, var, start, Z.get, perm]
    exact ⟨rfl, am_k (k := k) gd hp fun H1 u ys f1 hu hj => hK _ _ ⟨u, ys, rfl, f1, hu, hj⟩⟩
  rintro _ H1 ⟨u, ys, rfl, f1, hu, hj⟩
  rw [show put (start 6 [V.ref p]) 1 (V.ref u) = [some (.ref p), some (.ref u), none, none, none, none] from rfl]
  simp only [ret, lcomp, iseq, slc, neg, callf, acons, anil, cst, pno, pso, var, Z.get, perm]
  refine ⟨rfl, starts_k (k := k + 4) rfl (hp.fr f1 (by simp)) gd.len fun H2 s f2 ns hs => ?_⟩
  have c1 : cutV (nats (sums ps (ps.length + 1))) none (some (-1)) = nats (sums ps ps.length) := by
    have l1 : (nats (sums ps (ps.length + 1))).length = ps.length + 1 := by simp
    unfold cutV
    rw [l1]
    have e1 : sIx (ps.length + 1) (ps.length + 1) (some (-1)) = ps.length := by
      show (if (-1 : Int) < 0 then ((-1 : Int) + ((ps.length + 1 : Nat) : Int)).toNat else min (-1 : Int).toNat (ps.length + 1)) = _
      rw [if_pos (by decide)]
      omega
    rw [e1]
    show ((nats (sums ps (ps.length + 1))).drop 0).take (ps.length - 0) = _
    rw [List.drop_zero, Nat.sub_zero, sums_succ, List.take_append_of_le_length (by simp), List.take_of_length_le (by simp)]
  refine ⟨-1, rfl, .inl ⟨_, litems_l hs, fun t nt => .inl ⟨_, litems_l upd_same, ?_⟩⟩⟩
  rw [c1]
  have f3 : Fr [] H1 (upd H2 t (.lst (nats (sums ps ps.length)))) := f2.trans (Fr.new nt)
  have ht : upd H2 t (.lst (nats (sums ps ps.length))) t = some (.lst (nats (sums ps ps.length))) := upd_same
  rw [c1] at *
  generalize upd H2 t (.lst (nats (sums ps ps.length))) = H3 at *
  refine lci_k (fun i acc H4 => acc = nats ((List.range i).map (rnd (joinsN ps))) ∧ Fr [] H3 H4) ⟨rfl, .refl _ _⟩ (fun i v acc H4 hv g => ⟨litems_l (g.2 t _ ht (by simp)), fun L hL => ?_⟩) fun acc H4 g => ⟨litems_l (g.2 t _ ht (by simp)), fun r nr => ?_⟩
  · obtain ⟨rfl, f4⟩ := g
    have hi : i < ps.length := by
      have := (List.getElem?_eq_some_iff.mp hv).1
      simpa using this
    rw [nats_get (by simpa using hi)] at hv
    have eS : (sums ps ps.length).getD i 0 = S ps i := by
      rw [List.getD, List.getElem?_map, List.getElem?_range hi]
      rfl
    rw [eS] at hv
    cases hv
    have hu4 := (f3.trans f4) u _ hu (by simp)
    have hj4 := hj.fr (FrT.of (f3.trans f4))
    simp only [gname, wipe, put, List.set_cons_succ, List.set_cons_zero]
    simp only [tyes, if_true, blt, acons, anil, lcomp, iseq, var, Z.get]
    refine .inl ⟨_, litems_l hu4, ?_⟩
    refine lci_k (fun c acc H5 => H4 = H5 ∧ acc = List.replicate (rnd ((joinsN ps).take c) i) (V.int 1)) ⟨rfl, rfl⟩ (fun c v acc H5 hv g => ⟨litems_l (by rw [← g.1]; exact hu4), fun M hM => ?_⟩) fun acc H5 g => ⟨litems_l (by rw [← g.1]; exact hu4), fun w nw => ?_⟩
    · obtain ⟨rfl, rfl⟩ := g
      obtain ⟨e, x, rfl, hx, he⟩ := hj4.get hv
      have hx2 := ok x (List.mem_of_getElem? hx)
      obtain ⟨s1, s2⟩ := span_iff gd hx2 hi
      have m1 := S_mono (ps := ps) (show x.1 ≤ x.2.1 by omega)
      have m2 := S_mono (ps := ps) (show x.2.1 ≤ x.2.2 by omega)
      simp only [gtup, gcons, gnil, gname]
      refine ⟨_, titems_t he, rfl, _, _, rfl, _, _, rfl, _, _, rfl, rfl, ?_⟩
      simp only [wipe, put, List.set_cons_succ, List.set_cons_zero]
      simp only [tt, chain, bin, cst, var, Z.get, opr_add_ii]
      have en : rnd ((joinsN ps).take (c + 1)) i = rnd ((joinsN ps).take c) i + (if x.1 ≤ i ∧ i < x.2.2 then 1 else 0) := by rw [take_next hx, rnd_app]
      have lr : rnd ((joinsN ps).take c) i ≤ c := by
        have : ∀ js : List Jn, rnd js i ≤ js.length := by
          intro js
          induction js with
          | nil => exact Nat.le_refl _
          | cons j r ih =>
            show (if _ then 1 else 0) + rnd r i ≤ r.length + 1
            split <;> omega
        exact Nat.le_trans (this _) (by rw [List.length_take]; omega)
      have cl : c < (joinsN ps).length := (List.getElem?_eq_some_iff.mp hx).1
      rw [cmpr_le]
      by_cases z1 : x.1 ≤ i
      · rw [decide_eq_true (show ((S ps x.1 : Nat) : Int) ≤ (S ps i : Nat) by have := s1.mpr z1; omega), if_pos rfl, cmpr_lt]
        by_cases z2 : i < x.2.2
        · rw [decide_eq_true (show ((S ps i : Nat) : Int) < (S ps x.1 : Nat) + (S ps x.2.1 - S ps x.1 : Nat) + (S ps x.2.2 - S ps x.2.1 : Nat) by have := s2.mpr z2; omega)]
          refine ⟨true, rfl, ?_⟩
          rw [if_pos rfl]
          refine ⟨?_, hM _ _ ⟨rfl, ?_⟩⟩
          · rw [List.length_replicate]
            unfold line
            omega
          · rw [en, if_pos ⟨z1, z2⟩, List.replicate_succ']
        · rw [decide_eq_false (show ¬ ((S ps i : Nat) : Int) < (S ps x.1 : Nat) + (S ps x.2.1 - S ps x.1 : Nat) + (S ps x.2.2 - S ps x.2.1 : Nat) by have := mt s2.mp z2; omega)]
          refine ⟨false, rfl, ?_⟩
          rw [if_neg (by decide)]
          exact hM _ _ ⟨rfl, by rw [en, if_neg (fun h => z2 h.2)]; rfl⟩
      · rw [decide_eq_false (show ¬ ((S ps x.1 : Nat) : Int) ≤ (S ps i : Nat) by have := mt s1.mp z1; omega), if_neg (by decide)]
        refine ⟨false, rfl, ?_⟩
        rw [if_neg (by decide)]
        exact hM _ _ ⟨rfl, by rw [en, if_neg (fun h => z1 h.1)]; rfl⟩
    · obtain ⟨rfl, rfl⟩ := g
      rw [hj4.len, List.take_of_length_le (Nat.le_refl _)] at *
      refine ⟨_, _, rfl, items_l upd_same, ?_⟩
      rw [List.length_replicate]
      refine ⟨?_, hL _ _ ⟨?_, f4.trans (Fr.new nw)⟩⟩
      · rw [List.length_map, List.length_map, List.length_range]
        unfold line
        omega
      · show nats ((List.range i).map (rnd (joinsN ps))) ++ [V.int (rnd (joinsN ps) i : Nat)] = List.map _ (List.map _ (List.range (i + 1)))
        rw [List.range_succ, List.map_append, List.map_append]
        rfl
  · obtain ⟨rfl, f4⟩ := g
    rw [show (nats (sums ps ps.length)).length = ps.length by simp]
    exact q _ r ((f1.trans (f3.trans f4)).trans (Fr.new nr)) ((f1.trans (f3.trans f4)).fresh (by simp) nr) (by rw [upd_same])
end
/- part g -/
section
variable {k : Nat} {H : Heap} {Q : VK} {E : EK} {T0 : Nat → Nat} {st jn : Nat}
theorem PilAt.push {t : Nat} {rs : List Pc} {js : List Jn} {p : Pc} (g : PilAt H T0 st jn rs js) (nt : H t = none) : ∃ ys, H st = some (.lst ys) ∧ ys.length = rs.length ∧ PilAt (upd (upd H t (.tup (pcV T0 p))) st (.lst (ys ++ [.ref t]))) T0 st jn (p :: rs) js := by
  obtain ⟨ys, h1, h2, h3⟩ := g.pile.push (x := p) nt
  refine ⟨ys, h1, by rw [h2, List.length_reverse], by rw [List.reverse_cons]; exact h3, ?_, g.ne⟩
  refine g.jns.fr ((FrT.new nt).trans (FrT.chg (upd_old h1 nt))) ?_
  rw [upd_ne g.ne.symm]
  obtain ⟨es, j1, _⟩ := g.jns
  exact (upd_old j1 nt).trans j1.symm
theorem PilAt.keep {H' : Heap} {rs : List Pc} {js : List Jn} {S' : List Nat} (g : PilAt H T0 st jn rs js) (t : FrT H H') (f : Fr S' H H') (n1 : st ∉ S') (n2 : jn ∉ S') : PilAt H' T0 st jn rs js := ⟨g.pile.keep t f n1, g.jns.keep t f n2, g.ne⟩
theorem stN_next {lev : Nat → Nat → Nat → Nat} {i : Nat} : ∃ r, (stN lev (i + 1)).1 = (i, i + 1, none) :: r ∧ ∃ z r', (squeeze (lev i (i + 1) (i + 1 + 1)) ((i, i + 1, none) :: r : List Pc).length ((i, i + 1, none) :: r) (stN lev (i + 1)).2).1 = z :: r' ∧ stN lev (i + 1 + 1) = ((i + 1, i + 1 + 1, none) :: (z.1, z.2.1, some (lev i (i + 1) (i + 1 + 1))) :: r', (squeeze (lev i (i + 1) (i + 1 + 1)) ((i, i + 1, none) :: r : List Pc).length ((i, i + 1, none) :: r) (stN lev (i + 1)).2).2) := by
  obtain ⟨r, e⟩ := stN_top lev i
  obtain ⟨ok1, ok2, ok3⟩ := stN_ok lev (i + 1)
  refine ⟨r, e, ?_⟩
  have es : stN lev (i + 1 + 1) = come lev (i + 1) (stN lev (i + 1)) := rfl
  rw [es]
  generalize stN lev (i + 1) = s at *
  obtain ⟨rs, js⟩ := s
  simp only at e
  subst e
  obtain ⟨n0, _⟩ := squeeze_ok (m := lev i (i + 1) (i + 1 + 1)) (n := i + 1) (f := ((i, i + 1, none) :: r : List Pc).length) (by simp) ok1 ok2 ok3
  cases e : (squeeze (lev i (i + 1) (i + 1 + 1)) ((i, i + 1, none) :: r : List Pc).length ((i, i + 1, none) :: r) js).1 with
  | nil => exact absurd e n0
  | cons z r' =>
    refine ⟨z, r', rfl, ?_⟩
    show (marked (lev i (i + 1) (i + 1 + 1)) (i + 1) (squeeze (lev i (i + 1) (i + 1 + 1)) ((i, i + 1, none) :: r : List Pc).length ((i, i + 1, none) :: r) js).1, _) = _
    rw [e]
    rfl
theorem piled_k {p : Nat} {ps : List Nat} (gd : Good ps) (hp : H p = some (.lst (nats ps)))
    (q : ∀ H' t s e l ys m, Fr [] H H' → H' t = some (.tup [.ref s, .ref e, .ref l]) → H' e = some (.lst (ys.take m)) → H' l = some (.lst (ys.drop m)) → JAt H' ps ys → Q (.ref t) H') : callK T (k + 3) "" "_law_piled" [.ref p] H Q E := by
  refine call_k (np := 1) (n := 10) rfl rfl ?_
  unfold z__law_piled
  obtain ⟨w, ew⟩ : ∃ w, S ps ps.length = w := ⟨_, rfl⟩
  have levw : levS (S ps) w = levS (S ps) (S ps ps.length) := by rw [ew]
  have hb : 2 * w < 2 ^ 190 := by rw [← ew]; exact gd.fit
  have l200 := gd.len
  refine seq_k (fun σ1 H1 => ∃ st pl dn sk, σ1 = [some (.ref p), some (.ref st), some (.ref pl), some (.ref dn), some (.ref sk), none, none, none, none, none] ∧ Fr [] H H1 ∧ H1 st = some (.lst (nats (sums ps (ps.length + 1)))) ∧ PilAt H1 (S ps) pl dn [] [] ∧ H1 sk = some (.lst []) ∧ H pl = none ∧ H dn = none ∧ H sk = none ∧ st ≠ pl ∧ st ≠ dn ∧ st ≠ sk ∧ sk ≠ pl ∧ sk ≠ dn) (fun K hK => ?_) ?_
  · simp only [par, callf, lstl, acons, anil, var, start, Z.get, perm]
    refine ⟨rfl, starts_k (k := k + 1) rfl (.inl hp) gd.len fun H1 s f1 ns hs => ⟨by decide, fun pl npl => ⟨by decide, fun dn nd => ⟨by decide, fun sk nk => ⟨rfl, ?_⟩⟩⟩⟩⟩
    simp only [gcons, gnil, gname, put]
    have s1 := upd_old (o' := .lst []) hs npl
    have p1 : upd H1 pl (.lst []) pl = some (.lst []) := upd_same
    have ne1 : s ≠ pl := fun z => by rw [← z, hs] at npl; cases npl
    have f2 : FrN H1 (upd H1 pl (.lst [])) := .new npl
    generalize upd H1 pl (.lst []) = H2 at *
    have s2 := upd_old (o' := .lst []) s1 nd
    have p2 := upd_old (o' := .lst []) p1 nd
    have d2 : upd H2 dn (.lst []) dn = some (.lst []) := upd_same
    have ne2 : s ≠ dn := fun z => by rw [← z, s1] at nd; cases nd
    have ne3 : pl ≠ dn := fun z => by rw [← z, p1] at nd; cases nd
    have f3 : FrN H1 (upd H2 dn (.lst [])) := f2.trans (.new nd)
    have nd0 : H1 dn = none := (f2.fr []).fresh (by simp) nd
    generalize upd H2 dn (.lst []) = H3 at *
    have s3 := upd_old (o' := .lst []) s2 nk
    have p3 := upd_old (o' := .lst []) p2 nk
    have d3 := upd_old (o' := .lst []) d2 nk
    have ne4 : s ≠ sk := fun z => by rw [← z, s2] at nk; cases nk
    have ne5 : pl ≠ sk := fun z => by rw [← z, p2] at nk; cases nk
    have ne6 : dn ≠ sk := fun z => by rw [← z, d2] at nk; cases nk
    have nk0 : H1 sk = none := (f3.fr []).fresh (by simp) nk
    have f4 : Fr [] H (upd H3 sk (.lst [])) := f1.trans ((f3.trans (.new nk)).fr [])
    exact ⟨_, _, rfl, _, _, rfl, _, _, rfl, _, _, rfl, rfl, hK _ _ ⟨s, pl, dn, sk, rfl, f4, s3, ⟨⟨[], p3, rfl, fun i e x h => by simp at h⟩, ⟨[], d3, rfl, fun i e x h => by simp at h⟩, ne3⟩, upd_same, f1.fresh (by simp) npl, f1.fresh (by simp) nd0, f1.fresh (by simp) nk0, ne1, ne2, ne4, ne5.symm, ne6.symm⟩⟩
  rintro _ H1 ⟨s, pl, dn, sk, rfl, f1, hs, g1, hsk, np, nd, nk, n1, n2, n3, n4, n5⟩
  have shut : ∀ {H2 H3 : Heap}, Fr [] H H2 → Fr [pl, dn, sk] H2 H3 → Fr [] H H3 := fun f g => Fr.shut f g (by simp [np, nd, nk])
  have getS : ∀ i, i ≤ ps.length → atI (nats (sums ps (ps.length + 1))) (i : Nat) = some (.int (S ps i : Nat)) := fun i hi => by
    rw [atI_lt (by omega) (by simp; omega), Int.toNat_natCast, nats_get (by simp; omega)]
    rw [List.getD, List.getElem?_map, List.getElem?_range (by omega)]
    rfl
  have getP : ∀ i, i < ps.length → atI (nats ps) (i : Nat) = some (.int (ps.getD i 0 : Nat)) := fun i hi => by
    rw [atI_lt (by omega) (by simp; omega), Int.toNat_natCast, nats_get hi]
  have lastS : atI (nats (sums ps (ps.length + 1))) (-1) = some (.int (w : Nat)) := by
    have := getS ps.length (Nat.le_refl _)
    rw [atI_lt (by omega) (by simp only [List.length_map, List.length_range]; omega), Int.toNat_natCast] at this
    rw [atI_neg (by decide) (by simp only [List.length_map, List.length_range]; omega), show ((-1 : Int) + ((nats (sums ps (ps.length + 1))).length : Int)).toNat = ps.length by simp only [List.length_map, List.length_range]; omega, this, ew]
  refine seq_k (fun σ2 H2 => (∃ x5 x6 x7, σ2 = [some (.ref p), some (.ref s), some (.ref pl), some (.ref dn), some (.ref sk), x5, x6, x7, none, none]) ∧ PilAt H2 (S ps) pl dn (stN (levS (S ps) w) ps.length).1 (stN (levS (S ps) w) ps.length).2 ∧ Fr [] H H2) (fun K hK => ?_) ?_
  · simp only [fore2, ienum, var, Z.get]
    refine .inl ⟨_, litems_l (f1 p _ hp (by simp)), ?_⟩
    have lz : (enumV 0 (nats ps)).length = ps.length := by
      have : ∀ (j : Int) (xs : List V), (enumV j xs).length = xs.length := by
        intro j xs
        induction xs generalizing j with
        | nil => rfl
        | cons x r ih => exact congrArg Nat.succ (ih (j + 1))
      rw [this, List.length_map]
    refine fori2_k (fun i σ H2 => (∃ x5 x6 x7, σ = [some (.ref p), some (.ref s), some (.ref pl), some (.ref dn), some (.ref sk), x5, x6, x7, none, none]) ∧ PilAt H2 (S ps) pl dn (stN (levS (S ps) w) i).1 (stN (levS (S ps) w) i).2 ∧ Fr [] H H2 ∧ H2 s = some (.lst (nats (sums ps (ps.length + 1)))) ∧ ∃ zs, H2 sk = some (.lst zs) ∧ zs.length = i) ⟨⟨_, _, _, rfl⟩, g1, f1, hs, [], hsk, rfl⟩ (fun i v σ H2 hv gg => ?_) fun σ H2 gg => ?_
    · obtain ⟨⟨x5, x6, x7, rfl⟩, g2, f2, hs2, zs, hz, lzs⟩ := gg
      refine ⟨litems_l (f2 p _ hp (by simp)), fun M hM => ?_⟩
      obtain ⟨e1, e2⟩ := enumV_get _ _ _ _ hv
      have hi : i < ps.length := by
        have := (List.getElem?_eq_some_iff.mp e2).1
        simpa using this
      rw [nats_get hi] at e2
      obtain ⟨v1, v2⟩ := v
      simp only at e1 e2
      cases e2
      subst e1
      simp only [gcons, gnil, gname, put]
      refine ⟨_, _, rfl, _, _, rfl, rfl, ?_⟩
      have ei : (0 : Int) + (i : Int) = (i : Nat) := by omega
      rw [ei]
      have hsi := S_succ hi
      -- what stands before the push
      refine seq_k (fun σ3 H3 => ∃ (x7 : Option V) (rs2 : List Pc × List Jn), σ3 = [some (.ref p), some (.ref s), some (.ref pl), some (.ref dn), some (.ref sk), some (.int (i : Nat)), some (.int (ps.getD i 0 : Nat)), x7, none, none] ∧ stN (levS (S ps) w) (i + 1) = ((i, i + 1, none) :: rs2.1, rs2.2) ∧ PilAt H3 (S ps) pl dn rs2.1 rs2.2 ∧ Fr [pl, dn] H2 H3 ∧ FrT H2 H3) (fun K2 hK2 => ?_) ?_
      · simp only [ifs, tt, cmp, cst, var, Z.get]
        rw [cmpr_gt]
        refine ⟨_, rfl, ?_⟩
        cases i with
        | zero =>
          rw [if_neg (by simp)]
          exact hK2 _ _ ⟨_, ([], []), rfl, rfl, g2, .refl _ _, .refl _⟩
        | succ i =>
          rw [if_pos (by simp)]
          obtain ⟨r, e3, z, r', e4, e5⟩ := stN_next (lev := levS (S ps) w) (i := i)
          obtain ⟨ok1, ok2, ok3⟩ := stN_ok (levS (S ps) w) (i + 1)
          have sl := stN_len (levS (S ps) w) (i + 1)
          rw [e3] at g2 ok1 ok2 sl
          refine asg_k (fun v H3 => H2 = H3 ∧ v = .int (levS (S ps) w i (i + 1) (i + 1 + 1) : Nat)) (fun K3 hK3 => ?_) ?_
          · simp only [callf, acons, anil, ix, bin, neg, cst, var, Z.get, perm, opr_sub_ii]
            rw [show ((i + 1 : Nat) : Int) - 1 = (i : Nat) by omega]
            refine ⟨_, _, _, items_l hs2, rfl, getS i (by omega), _, _, _, items_l (f2 p _ hp (by simp)), rfl, getP i (by omega), _, _, _, items_l hs2, rfl, lastS, rfl, ?_⟩
            have h2 := S_succ (ps := ps) (i := i) (by omega)
            have le_w : S ps (i + 1 + 1) ≤ w := by rw [← ew]; exact S_mono (by omega)
            have pi1 : 1 ≤ ps.getD i 0 := gd.pos _ (getD_mem (by omega))
            have := llev_k (k := k + 1) (H := H2) (E := fun c fs H' => E c fs H') (Q := K3) (b := S ps i) (f := ps.getD i 0) (s := ps.getD (i + 1) 0) (size := w) pi1 (by omega) hb (by omega) (hK3 _ _ ⟨rfl, by
              unfold levS
              rw [show S ps (i + 1) - S ps i = ps.getD i 0 by omega, show S ps (i + 1 + 1) - S ps (i + 1) = ps.getD (i + 1) 0 by omega]⟩)
            exact this
          rintro _ _ ⟨rfl, rfl⟩
          simp only [put]
          refine seq_k (fun σ3 H3 => σ3 = [some (.ref p), some (.ref s), some (.ref pl), some (.ref dn), some (.ref sk), some (.int (i + 1 : Nat)), some (.int (ps.getD (i + 1) 0 : Nat)), some (.int (levS (S ps) w i (i + 1) (i + 1 + 1) : Nat)), none, none] ∧ PilAt H3 (S ps) pl dn (z :: r') (stN (levS (S ps) w) (i + 1 + 1)).2 ∧ Fr [pl, dn] H2 H3 ∧ FrT H2 H3) (fun K3 hK3 => ?_) ?_
          · simp only [List.length_cons] at sl
            refine lsq_k (k := k + 1) (pp := 0) (n := i + 1) rfl (fun i j h => S_mono h) g2 (by simp) ok1 ok2 (by simp only [List.length_cons]; omega) (by simp only [List.length_cons]; omega) fun H3 q1 q2 q3 => ?_
            rw [e4] at q1
            exact hK3 _ _ ⟨rfl, by rw [e5]; exact q1, q2, q3⟩
          rintro _ H3 ⟨rfl, g3, f3, t3⟩
          refine lset_k (pp := 0) g3 fun H4 g4 f4 t4 => ?_
          exact hK2 _ _ ⟨_, ((z.1, z.2.1, some (levS (S ps) w i (i + 1) (i + 1 + 1))) :: r', (stN (levS (S ps) w) (i + 1 + 1)).2), rfl, by rw [e5], g4, f3.trans (f4.mono (by simp)), t3.trans t4⟩
      rintro _ H3 ⟨x7, rs2, rfl, es, g3, f3, t3⟩
      have hs3 := f3 s _ hs2 (by simp [n1, n2])
      have hz3 := f3 sk _ hz (by simp [n4, n5])
      have sl := stN_len (levS (S ps) w) (i + 1)
      rw [es] at sl
      simp only [List.length_cons] at sl
      refine seq_k (fun σ4 H4 => σ4 = [some (.ref p), some (.ref s), some (.ref pl), some (.ref dn), some (.ref sk), some (.int (i : Nat)), some (.int (ps.getD i 0 : Nat)), x7, none, none] ∧ PilAt H4 (S ps) pl dn (stN (levS (S ps) w) (i + 1)).1 (stN (levS (S ps) w) (i + 1)).2 ∧ Fr [pl, dn] H2 H4 ∧ FrT H2 H4) (fun K2 hK2 => ?_) ?_
      · simp only [drop, bmt, tupl, ix, acons, anil, cst, var, Z.get]
        obtain ⟨ys0, p0, _⟩ := g3.pile.at_
        refine ⟨⟨_, litems_l p0⟩, _, _, _, items_l hs3, rfl, getS i (by omega), (by show 3 ≤ line; decide), fun t nt => ?_⟩
        obtain ⟨ys, p1, p2, g4⟩ := g3.push (p := (i, i + 1, none)) nt
        have ev : (.tup [.int (S ps i : Nat), .int (ps.getD i 0 : Nat), .non] : O) = .tup (pcV (S ps) (i, i + 1, none)) := by
          unfold pcV mkV
          rw [hsi, Nat.add_sub_cancel_left]
        rw [ev]
        refine ⟨pl, ys, _, rfl, rfl, upd_old p1 nt, ?_, hK2 _ _ ⟨rfl, by rw [es]; exact g4, (f3.trans (Fr.new nt)).trans (Fr.chg (by simp)), (t3.trans (FrT.new nt)).trans (FrT.chg (upd_old p1 nt))⟩⟩
        rw [p2]
        unfold line
        omega
      rintro _ H4 ⟨rfl, g4, f4, t4⟩
      have hs4 := f4 s _ hs2 (by simp [n1, n2])
      have hz4 := f4 sk _ hz (by simp [n4, n5])
      simp only [drop, bmt, blt, bList, acons, anil, var, Z.get]
      obtain ⟨ys, p1, _⟩ := g4.pile.at_
      refine ⟨⟨_, litems_l hz4⟩, _, _, rfl, items_l p1, fun c nc => ⟨sk, zs, _, rfl, rfl, upd_old hz4 nc, by unfold line; omega, hM _ _ ⟨⟨_, _, _, rfl⟩, ?_, ?_, ?_, zs ++ [.ref c], upd_same, by simp [lzs]⟩⟩⟩
      · exact g4.keep ((FrT.new nc).trans (FrT.chg (upd_old hz4 nc))) ((Fr.new nc).trans (Fr.chg (S := [sk]) (by simp))) (by simp [n4.symm]) (by simp [n5.symm])
      · exact shut f2 (((f4.mono (by simp)).trans (Fr.new nc)).trans (Fr.chg (by simp)))
      · rw [upd_ne n3]
        exact upd_old hs4 nc
    · obtain ⟨⟨x5, x6, x7, rfl⟩, g2, f2, hs2, _⟩ := gg
      rw [lz] at g2
      exact ⟨litems_l (f2 p _ hp (by simp)), hK _ _ ⟨⟨_, _, _, rfl⟩, g2, f2⟩⟩
  rintro _ H2 ⟨⟨x5, x6, x7, rfl⟩, g2, f2⟩
  have sl := stN_len (levS (S ps) w) ps.length
  obtain ⟨ok1, _, _⟩ := stN_ok (levS (S ps) w) ps.length
  have jl := joins_len ps
  have ej : joinsN ps = endN (ltS (S ps)) (stN (levS (S ps) w) ps.length).1.length (stN (levS (S ps) w) ps.length).1 (stN (levS (S ps) w) ps.length).2 := by
    rw [levw]
    rfl
  rw [← levw] at jl
  have ne : (stN (levS (S ps) w) ps.length).1 ≠ [] := fun z => by
    rw [z] at ok1
    have : ps.length = 0 := ok1
    have := gd.one
    omega
  generalize stN (levS (S ps) w) ps.length = sN at *
  refine asg_k (fun v H3 => H2 = H3 ∧ v = .int (sN.2.length : Nat)) (fun K hK => ?_) ?_
  · simp only [blt, bLen, acons, anil, var, Z.get]
    obtain ⟨ys, j1, j2, _⟩ := g2.jns.at_
    refine ⟨_, _, rfl, items_l j1, ?_⟩
    rw [j2]
    exact hK _ _ ⟨rfl, rfl⟩
  rintro _ _ ⟨rfl, rfl⟩
  simp only [put]
  refine seq_k (fun σ1 H3 => ∃ x9, σ1 = [some (.ref p), some (.ref s), some (.ref pl), some (.ref dn), some (.ref sk), x5, x6, x7, some (.int (sN.2.length : Nat)), x9] ∧ (∃ rs', PilAt H3 (S ps) pl dn rs' (joinsN ps)) ∧ Fr [] H H3) (fun K hK => ?_) ?_
  · exact lend_k (k := k + 1) (pp := 0) (n := ps.length) rfl (fun i j h => S_mono h) g2 ne ok1 (by omega) (by omega) (fun H3 rs' lp g3 f3 t3 => hK _ _ ⟨lp, rfl, ⟨rs', by rw [ej]; exact g3⟩, shut f2 (f3.mono (by simp))⟩) none
  rintro _ H3 ⟨x9, rfl, ⟨rs', g3⟩, f3⟩
  obtain ⟨es, j1, j2, j3⟩ := g3.jns
  simp only [ret, tupl, slc, acons, anil, pno, pso, var, Z.get]
  refine ⟨_, rfl, .inl ⟨_, litems_l j1, fun e ne => ⟨_, rfl, .inl ⟨_, litems_l (upd_old j1 ne), fun l nl => ⟨(by show 3 ≤ line; decide), fun t nt => ?_⟩⟩⟩⟩⟩
  have le : (es.map V.ref).length = (joinsN ps).length := by rw [List.length_map, j2]
  have c1 : cutV (es.map V.ref) none (some (sN.2.length : Nat)) = (es.map V.ref).take sN.2.length := by
    unfold cutV
    rw [sIx_in (by omega)]
    show ((es.map V.ref).drop 0).take (sN.2.length - 0) = _
    rw [List.drop_zero, Nat.sub_zero]
  have c2 : cutV (es.map V.ref) (some (sN.2.length : Nat)) none = (es.map V.ref).drop sN.2.length := by
    unfold cutV
    rw [sIx_in (by omega)]
    show ((es.map V.ref).drop sN.2.length).take ((es.map V.ref).length - sN.2.length) = _
    rw [List.take_of_length_le (by rw [List.length_drop]; omega)]
  rw [c1] at nl nt ⊢
  rw [c2] at nt ⊢
  have fn : FrN H3 (upd (upd (upd H3 e (.lst ((es.map V.ref).take sN.2.length))) l (.lst ((es.map V.ref).drop sN.2.length))) t (.tup [.ref sk, .ref e, .ref l])) := ((FrN.new ne).trans (.new nl)).trans (.new nt)
  exact q _ t sk e l (es.map V.ref) sN.2.length (f3.trans (fn.fr [])) upd_same (upd_old (upd_old upd_same nl) nt) (upd_old upd_same nt) ⟨es, rfl, j2, fun i e x a b => fn _ _ (j3 i e x a b)⟩
end
/- part h -/
section
variable {k : Nat} {H : Heap} {Q : VK} {E : EK}
theorem set_rng {f g : Nat → Nat} {n i : Nat} {v : V} (hv : v = .int (g i : Nat)) (hne : ∀ p, p ≠ i → g p = f p) : (nats ((List.range n).map f)).set i v = nats ((List.range n).map g) := by
  apply List.ext_getElem
  · simp
  · intro j h1 h2
    simp only [List.length_map, List.length_range] at h2
    rw [List.getElem_set]
    simp only [List.getElem_map, List.getElem_range]
    split
    · rename_i e
      rw [← e, hv]
    · rename_i e
      rw [hne j (fun z => e z.symm)]
theorem rng_congr {f g : Nat → Nat} {n : Nat} (h : ∀ p, p < n → f p = g p) : nats ((List.range n).map f) = nats ((List.range n).map g) := by
  congr 1
  apply List.map_congr_left
  intro p hp
  exact h p (List.mem_range.mp hp)
theorem zeros : ∀ n : Nat, (List.replicate n [V.int 0]).flatten = nats ((List.range n).map fun _ => 0)
  | 0 => rfl
  | n + 1 => by
    show _ = List.map _ (List.map _ (List.range (n + 1)))
    rw [List.replicate_succ', List.flatten_append, zeros n, List.range_succ, List.map_append, List.map_append]
    rfl
theorem lr_k {p : Nat} {ps : List Nat} (gd : Good ps) (hp : H p = some (.lst (nats ps)))
    (q : ∀ H' u, Fr [] H H' → H u = none → H' u = some (.lst (nats ((List.range ps.length).map (rnd (joinsN ps))))) → Q (.ref u) H') : callK T (k + 4) "" "_law_rounds" [.ref p] H Q E := by
  refine call_k (np := 1) (n := 10) rfl rfl ?_
  unfold z__law_rounds
  have ok := joins_ok ps
  have jl := joins_len ps
  have l200 := gd.len
  refine seq_k (fun σ1 H1 => ∃ s e l ys m, σ1 = [some (.ref p), some (.ref s), some (.ref e), some (.ref l), none, none, none, none, none, none] ∧ Fr [] H H1 ∧ H1 e = some (.lst (ys.take m)) ∧ H1 l = some (.lst (ys.drop m)) ∧ JAt H1 ps ys) (fun K hK => ?_) ?_
  · simp only [asg, callf, acons, anil, var, start, Z.get, perm]
    refine ⟨rfl, piled_k (k := k) gd hp fun H1 t s e l ys m f1 ht he hl hj => ?_⟩
    simp only [gtup, gcons, gnil, gname, put]
    exact ⟨_, titems_t ht, rfl, _, _, rfl, _, _, rfl, _, _, rfl, rfl, hK _ _ ⟨s, e, l, ys, m, rfl, f1, he, hl, hj⟩⟩
  rintro _ H1 ⟨s, e, l, ys, m, rfl, f1, he, hl, hj⟩
  have hp1 := f1 p _ hp (by simp)
  refine seq_k (fun σ1 H2 => ∃ fd st, σ1 = [some (.ref p), some (.ref s), some (.ref e), some (.ref l), some (.ref fd), some (.ref st), none, none, none, none] ∧ Fr [] H1 H2 ∧ H1 fd = none ∧ st ≠ fd ∧ H2 fd = some (.lst (nats ((List.range ps.length).map fun _ => 0))) ∧ H2 st = some (.lst (nats (sums ps (ps.length + 1))))) (fun K hK => ?_) ?_
  · simp only [par, bin, callf, lstl, acons, anil, var, cst, Z.get, perm, blt, bLen]
    refine ⟨(by show 1 ≤ line; decide), fun q nq => ⟨_, _, rfl, items_l (upd_old hp1 nq), ?_⟩⟩
    rw [opr_mul_ri]
    refine ⟨_, upd_same, by omega, by rw [List.length_map]; omega, by unfold line; simp only [List.length_map, List.length_cons, List.length_nil, Int.toNat_natCast]; omega, fun fd nf => ⟨rfl, starts_k (k := k + 2) rfl (.inl (upd_old (upd_old hp1 nq) nf)) gd.len fun H3 st f3 ns hs => ?_⟩⟩
    refine ⟨rfl, ?_⟩
    simp only [gcons, gnil, gname, put]
    have ez : (List.replicate ((nats ps).length : Int).toNat [V.int 0]).flatten = nats ((List.range ps.length).map fun _ => 0) := by
      rw [Int.toNat_natCast, List.length_map]
      exact zeros _
    have nf0 : H1 fd = none := by
      by_cases z : fd = q
      · rw [z]; exact nq
      · rwa [upd_ne z] at nf
    exact ⟨_, _, rfl, _, _, rfl, rfl, hK _ _ ⟨fd, st, rfl, ((Fr.new nq).trans (Fr.new nf)).trans f3, nf0, fun z => (by rw [z, upd_same] at ns; cases ns), (by rw [← ez]; exact f3 _ _ upd_same (by simp)), hs⟩⟩
  rintro _ H2 ⟨fd, st, rfl, f2, nfd, nsf, hfd, hst⟩
  have he2 := f2 e _ he (by simp)
  have hl2 := f2 l _ hl (by simp)
  have hp2 := f2 p _ hp1 (by simp)
  have hj2 := hj.fr (FrT.of f2)
  have nlist : ∀ {q o}, H1 q = some o → q ≠ fd := fun h z => by rw [z, nfd] at h; cases h
  refine seq_k (fun σ3 H3 => (∃ x6 x7 x8 x9, σ3 = [some (.ref p), some (.ref s), some (.ref e), some (.ref l), some (.ref fd), some (.ref st), x6, x7, x8, x9]) ∧ Fr [fd] H2 H3 ∧ H3 fd = some (.lst (nats ((List.range ps.length).map (rnd (joinsN ps)))))) (fun K hK => ?_) ?_
  · simp only [fore, iseq, bin, var, Z.get]
    rw [opr_add_rr]
    refine .inl ⟨_, _, litems_l he2, litems_l hl2, ?_, fun v nv => .inl ⟨_, litems_l upd_same, ?_⟩⟩
    · rw [← List.length_append, List.take_append_drop, hj.len]
      unfold line
      omega
    rw [List.take_append_drop]
    have hv3 : upd H2 v (.lst ys) v = some (.lst ys) := upd_same
    have f3 : Fr [] H2 (upd H2 v (.lst ys)) := Fr.new nv
    have hfd3 := upd_old (o' := .lst ys) hfd nv
    have nvf : v ≠ fd := fun z => by rw [z, hfd] at nv; cases nv
    generalize upd H2 v (.lst ys) = H3 at *
    have hst3 := f3 st _ hst (by simp)
    have hp3 := f3 p _ hp2 (by simp)
    have hj3 := hj2.fr (FrT.of f3)
    have fin : ∀ {H4}, Fr [fd] H3 H4 → Fr [fd] H2 H4 := fun h => (f3.mono (by simp)).trans h
    have npf := nlist hp1
    refine fori_k (fun c σ H4 => (∃ x6 x7 x8 x9, σ = [some (.ref p), some (.ref s), some (.ref e), some (.ref l), some (.ref fd), some (.ref st), x6, x7, x8, x9]) ∧ Fr [fd] H3 H4 ∧ FrT H3 H4 ∧ H4 fd = some (.lst (nats ((List.range ps.length).map (rnd ((joinsN ps).take c)))))) ⟨⟨_, _, _, _, rfl⟩, .refl _ _, .refl _, hfd3⟩ (fun c w σ H4 hw gg => ?_) fun σ H4 gg => ?_
    · obtain ⟨⟨x6, x7, x8, x9, rfl⟩, f4, t4, hfd4⟩ := gg
      refine ⟨litems_l (f4 v _ hv3 (by simp [nvf])), fun M hM => ?_⟩
      have hj4 := hj3.fr t4
      obtain ⟨a, x, rfl, hx, ha⟩ := hj4.get hw
      have hx2 := ok x (List.mem_of_getElem? hx)
      have m1 := S_mono (ps := ps) (show x.1 ≤ x.2.1 by omega)
      have m2 := S_mono (ps := ps) (show x.2.1 ≤ x.2.2 by omega)
      have hp4 := f4 p _ hp3 (by simp [npf])
      simp only [gtup, gcons, gnil, gname, put]
      refine ⟨_, titems_t ha, rfl, _, _, rfl, _, _, rfl, _, _, rfl, rfl, ?_⟩
      simp only [fore, irng1, blt, bLen, acons, anil, var, Z.get]
      refine ⟨_, _, rfl, items_l hp4, _, rfl, ⟨by rw [List.length_map]; omega, by rw [List.length_map]; omega⟩, ?_⟩
      have el : ((nats ps).length : Int).toNat = ps.length := by rw [Int.toNat_natCast, List.length_map]
      rw [el]
      refine fori_k (fun i σ H5 => (∃ x9, σ = [some (.ref p), some (.ref s), some (.ref e), some (.ref l), some (.ref fd), some (.ref st), some (.int (S ps x.1 : Nat)), some (.int (S ps x.2.1 - S ps x.1 : Nat)), some (.int (S ps x.2.2 - S ps x.2.1 : Nat)), x9]) ∧ Fr [fd] H4 H5 ∧ FrT H4 H5 ∧ H5 fd = some (.lst (nats ((List.range ps.length).map fun p => rnd ((joinsN ps).take c) p + (if x.1 ≤ p ∧ p < x.2.2 ∧ p < i then 1 else 0))))) ⟨⟨_, rfl⟩, .refl _ _, .refl _, ?_⟩ (fun i w σ H5 hw gg => ⟨trivial, fun M2 hM2 => ?_⟩) fun σ H5 gg => ⟨trivial, ?_⟩
      · rw [hfd4]
        congr 2
        refine rng_congr fun p _ => ?_
        rw [if_neg (by omega)]
        rfl
      · obtain ⟨⟨y9, rfl⟩, f5, t5, hfd5⟩ := gg
        have hi : i < ps.length := by
          have := (List.getElem?_eq_some_iff.mp hw).1
          unfold rng at this
          rwa [List.length_map, List.length_range] at this
        have ew : w = .int (i : Nat) := by
          unfold rng at hw
          rw [List.getElem?_map, List.getElem?_range hi] at hw
          cases hw
          show V.int (0 + (i : Int)) = _
          rw [Int.zero_add]
        subst ew
        have hst5 := f5 st _ (f4 st _ hst3 (by simp [nsf])) (by simp [nsf])
        have getS : ∀ i, i ≤ ps.length → atI (nats (sums ps (ps.length + 1))) (i : Nat) = some (.int (S ps i : Nat)) := fun i hi => by
          rw [atI_lt (by omega) (by simp only [List.length_map, List.length_range]; omega), Int.toNat_natCast, nats_get (by simp only [List.length_map, List.length_range]; omega)]
          rw [List.getD, List.getElem?_map, List.getElem?_range (by omega)]
          rfl
        have s1 : S ps x.1 ≤ S ps i ↔ x.1 ≤ i := (span_iff gd hx2 hi).1
        have s2 : S ps (i + 1) ≤ S ps x.2.2 ↔ i < x.2.2 := by
          constructor
          · intro h
            by_cases z : i < x.2.2
            · exact z
            · have := S_lt gd.pos (show x.2.2 < i + 1 by omega) (by omega)
              omega
          · intro h
            exact S_mono (by omega)
        simp only [gname, put, asg, bin, blt, acons, anil, ix, andv, cmp, var, cst, Z.get]
        refine ⟨_, _, .int (rnd ((joinsN ps).take c) i : Nat), items_l hfd5, rfl, ?_, ?_⟩
        · rw [atI_lt (by omega) (by simp only [List.length_map, List.length_range]; omega), Int.toNat_natCast, nats_get (by simp only [List.length_map, List.length_range]; omega)]
          rw [List.getD, List.getElem?_map, List.getElem?_range (by omega)]
          show some (V.int ((rnd ((joinsN ps).take c) i + (if x.1 ≤ i ∧ i < x.2.2 ∧ i < i then 1 else 0) : Nat) : Int)) = _
          rw [if_neg (by omega)]
          rfl
        refine ⟨_, _, _, items_l hst5, rfl, getS i (by omega), ?_⟩
        rw [cmpr_le]
        have put5 : ∀ b : Nat, b = (if x.1 ≤ i ∧ i < x.2.2 then 1 else 0) → opr .add (.int (rnd ((joinsN ps).take c) i : Nat)) (.int (b : Nat)) H5 fun v H1 => gsub (var 4) (var 9) ⟨callK T (k + 3), fun c fs σ H => E c fs H⟩ v [some (.ref p), some (.ref s), some (.ref e), some (.ref l), some (.ref fd), some (.ref st), some (.int (S ps x.1 : Nat)), some (.int (S ps x.2.1 - S ps x.1 : Nat)), some (.int (S ps x.2.2 - S ps x.2.1 : Nat)), some (.int (i : Nat))] H1 M2 := by
          intro b hb
          rw [opr_add_ii]
          simp only [gsub, var, Z.get]
          refine ⟨fd, _, _, i, rfl, rfl, hfd5, by rw [ixN_lt (by omega) (by simp only [List.length_map, List.length_range]; omega), Int.toNat_natCast], hM2 _ _ ⟨⟨_, rfl⟩, f5.trans (Fr.chg (by simp)), t5.trans (FrT.chg hfd5), ?_⟩⟩
          rw [upd_same]
          congr 2
          refine set_rng ?_ ?_
          · show _ = V.int ((rnd ((joinsN ps).take c) i + (if x.1 ≤ i ∧ i < x.2.2 ∧ i < i + 1 then 1 else 0) : Nat) : Int)
            rw [hb, ← Int.natCast_add]
            congr 3
            by_cases z : x.1 ≤ i ∧ i < x.2.2
            · rw [if_pos z, if_pos ⟨z.1, z.2, by omega⟩]
            · rw [if_neg z, if_neg (fun h => z ⟨h.1, h.2.1⟩)]
          · intro p np
            congr 1
            by_cases z : x.1 ≤ p ∧ p < x.2.2 ∧ p < i
            · rw [if_pos z, if_pos ⟨z.1, z.2.1, by omega⟩]
            · rw [if_neg z, if_neg (fun h => z ⟨h.1, h.2.1, by omega⟩)]
        by_cases z1 : x.1 ≤ i
        · have d1 : decide (((S ps x.1 : Nat) : Int) ≤ (S ps i : Nat)) = true := decide_eq_true (by have := s1.mpr z1; omega)
          rw [d1]
          refine ⟨true, rfl, ?_⟩
          rw [if_pos rfl]
          simp only [opr_add_ii]
          refine ⟨_, _, _, items_l hst5, rfl, getS (i + 1) (by omega), ?_⟩
          rw [cmpr_le]
          by_cases z2 : i < x.2.2
          · have d2 : decide (((S ps (i + 1) : Nat) : Int) ≤ (S ps x.1 : Nat) + (S ps x.2.1 - S ps x.1 : Nat) + (S ps x.2.2 - S ps x.2.1 : Nat)) = true := decide_eq_true (by have := s2.mpr z2; omega)
            rw [d2]
            exact put5 1 (by rw [if_pos ⟨z1, z2⟩])
          · have d2 : decide (((S ps (i + 1) : Nat) : Int) ≤ (S ps x.1 : Nat) + (S ps x.2.1 - S ps x.1 : Nat) + (S ps x.2.2 - S ps x.2.1 : Nat)) = false := decide_eq_false (by have := mt s2.mp z2; omega)
            rw [d2]
            exact put5 0 (by rw [if_neg (fun h => z2 h.2)])
        · have d1 : decide (((S ps x.1 : Nat) : Int) ≤ (S ps i : Nat)) = false := decide_eq_false (by have := mt s1.mp z1; omega)
          rw [d1]
          refine ⟨false, rfl, ?_⟩
          rw [if_neg (by decide)]
          exact put5 0 (by rw [if_neg (fun h => z1 h.1)])
      · obtain ⟨⟨y9, rfl⟩, f5, t5, hfd5⟩ := gg
        refine hM _ _ ⟨⟨_, _, _, _, rfl⟩, f4.trans f5, t4.trans t5, ?_⟩
        rw [hfd5]
        congr 2
        refine rng_congr fun p hp => ?_
        have lr : (rng 0 ps.length).length = ps.length := by unfold rng; rw [List.length_map, List.length_range]
        rw [take_next hx, rnd_app, lr]
        congr 1
        by_cases z : x.1 ≤ p ∧ p < x.2.2
        · rw [if_pos z, if_pos ⟨z.1, z.2, hp⟩]
        · rw [if_neg z, if_neg (fun h => z ⟨h.1, h.2.1⟩)]
    · obtain ⟨⟨x6, x7, x8, x9, rfl⟩, f4, t4, hfd4⟩ := gg
      rw [hj.len, List.take_of_length_le (Nat.le_refl _)] at hfd4
      exact ⟨litems_l (f4 v _ hv3 (by simp [nvf])), hK _ _ ⟨⟨_, _, _, _, rfl⟩, fin f4, hfd4⟩⟩
  rintro _ H3 ⟨⟨x6, x7, x8, x9, rfl⟩, f3, hfd3⟩
  simp only [ret, var, Z.get]
  exact q _ _ (Fr.shut (f1.trans f2) f3 (by simp [f1.fresh (S := []) (by simp) nfd])) (f1.fresh (by simp) nfd) hfd3
end
/- part i -/
section
variable {k : Nat} {H : Heap} {Q : VK} {E : EK}
theorem src_new {s n u : Nat} {H H1 : Heap} (hs : Src H1 s n) (f : Fr [s] H H1) (nu : H1 u = none) : H u = none := by
  obtain ⟨a, b, c, h, _⟩ := hs
  exact f.fresh (fun q hq => ⟨.lst [.int a, .int b, .int c], by rw [List.mem_singleton.mp hq, h]⟩) nu
theorem src_ne {s n u : Nat} {H : Heap} (hs : Src H s n) (nu : H u = none) : u ≠ s := fun z => by
  obtain ⟨a, b, c, h, _⟩ := hs
  rw [z, h] at nu
  cases nu
theorem tk_k {s n b : Nat} (hs : Src H s n) (hn : n < 1000000) (hb : 0 < b) (hb2 : b ≤ 1000000000000) (q : ∀ (d : Nat) H', d < b → Src H' s (n + 1) → Fr [s] H H' → Q (.int d) H') : callK T (k + 2) "" "_law_take" [.ref s, .int b] H Q E := by
  refine take2_k rfl rfl hs (by omega) (by omega) (by omega) fun d o d0 d1 hs2 => ?_
  obtain ⟨d, rfl⟩ : ∃ m : Nat, d = m := ⟨d.toNat, by omega⟩
  exact q d _ (by omega) hs2 (Fr.chg (by simp))
theorem pk_k {s n p : Nat} {xs : List V} (hs : Src H s n) (hn : n < 1000000) (hp : H p = some (.lst xs)) (ne : p ≠ s) (h0 : 0 < xs.length) (h1 : xs.length < 1000) (q : ∀ v H', v ∈ xs → Src H' s (n + 1) → Fr [s] H H' → Q v H') : callK T (k + 3) "" "_law_pick" [.ref s, .ref p] H Q E := by
  refine call_k (np := 2) (n := 2) rfl rfl ?_
  unfold z__law_pick
  simp only [ret, ix, callf, blt, bLen, acons, anil, var, start, Z.get, perm]
  show ∃ x ys, [V.ref p] = [x] ∧ items H x = some ys ∧ _
  refine ⟨_, _, rfl, items_l hp, rfl, tk_k (k := k) hs hn h0 (by omega) fun d H1 hd hs1 f1 => ?_⟩
  have hp1 := f1 p _ hp (by simp [ne])
  refine ⟨_, _, xs[d]'hd, items_l hp1, rfl, ?_, q _ _ (List.getElem_mem hd) hs1 f1⟩
  rw [atI_lt (by omega) (by omega), Int.toNat_natCast, List.getElem?_eq_getElem hd]
theorem rngc_k {C : Cx} {σ : St} {e : TE} {s n sz m : Nat} (hz : sz ≤ 200) (h3 : Z.get σ 3 = some (.int sz)) (hs : Src H s n)
    (he : ∀ i H1 (K : VK), i < sz → Src H1 s (n + i) → (∀ (d : Nat) H2, 1 ≤ d → d ≤ m → Src H2 s (n + i + 1) → Fr [s] H1 H2 → K (.int d) H2) → e C.calm (put (wipe σ [6]) 6 (.int (i : Nat))) H1 K)
    (q : ∀ H' u (xs : List Nat), xs.length = sz → (∀ x ∈ xs, 1 ≤ x ∧ x ≤ m) → Src H' s (n + 200) → Fr [s] H H' → H u = none → H' u = some (.lst (nats xs)) → Q (.ref u) H') :
    lcomp (irng1 (acons (var 3) anil)) [6] (gname 6) tyes e C σ H Q := by
  simp only [lcomp, irng1, acons, anil, var, h3]
  refine ⟨_, rfl, ⟨by omega, by omega⟩, ?_⟩
  rw [Int.toNat_natCast]
  refine lci_k (fun i acc H1 => ∃ xs : List Nat, acc = nats xs ∧ xs.length = i ∧ (∀ x ∈ xs, 1 ≤ x ∧ x ≤ m) ∧ Src H1 s (n + i) ∧ Fr [s] H H1) ⟨[], rfl, rfl, fun x h => by simp at h, hs, .refl _ _⟩ (fun i v acc H1 hv g => ⟨trivial, fun L hL => ?_⟩) fun acc H1 g => ⟨trivial, fun u nu => ?_⟩
  · obtain ⟨xs, rfl, lx, bx, s1, f1⟩ := g
    obtain ⟨hi, rfl⟩ := rng_get hv
    rw [Int.zero_add]
    simp only [gname, tyes, if_true]
    refine he i H1 _ (by omega) s1 fun d H2 d1 d2 s2 f2 => ⟨?_, hL _ _ ⟨xs ++ [d], by simp, by simp [lx], fun x hx => ?_, s2, f1.trans f2⟩⟩
    · rw [List.length_map, lx]
      unfold line
      omega
    · rcases List.mem_append.mp hx with h | h
      · exact bx x h
      · rw [List.mem_singleton.mp h]
        exact ⟨d1, d2⟩
  · obtain ⟨xs, rfl, lx, bx, s1, f1⟩ := g
    rw [rng_len] at lx s1
    refine q _ u xs lx bx ((s1.mono (by omega)).fr (Fr.new (S := []) nu) (by simp)) (f1.trans (Fr.new nu)) ?_ upd_same
    exact src_new s1 f1 nu
theorem ifw {C : Cx} {D : Ends} {σ : St} {A : TS} {w : Nat} {j : Int} (hg : Z.get σ 4 = some (.int w)) (h1 : A C D σ H) (h2 : D.nx σ H) : ifs (tt (cmp .eq (var 4) (cst (.int j)))) A skip C D σ H := by
  simp only [ifs, tt, cmp, var, cst, hg, cmpr_eq, eqD_int, truth_b]
  refine ⟨_, rfl, ?_⟩
  split
  · exact h1
  · exact h2
theorem reps (n m : Nat) : (List.replicate n [V.int m]).flatten = nats (List.replicate n m) := by
  induction n with
  | zero => rfl
  | succ n ih => rw [List.replicate_succ, List.flatten_cons, ih]; rfl
theorem srt {xs : List Nat} {ns : List Int} {sz m : Nat} (lx : xs.length = sz) (bx : ∀ x ∈ xs, 1 ≤ x ∧ x ≤ m) (hp : List.Perm ns (xs.map fun n : Nat => (n : Int))) : ∃ zs : List Nat, ns = zs.map (fun n : Nat => (n : Int)) ∧ zs.length = sz ∧ ∀ x ∈ zs, 1 ≤ x ∧ x ≤ m := by
  refine ⟨ns.map Int.toNat, ?_, by rw [List.length_map, hp.length_eq, List.length_map, lx], fun x hx => ?_⟩
  · rw [List.map_map]
    conv => lhs; rw [← List.map_id ns]
    refine List.map_congr_left fun x hx => ?_
    obtain ⟨y, _, rfl⟩ := List.mem_map.mp (hp.mem_iff.mp hx)
    rfl
  · obtain ⟨y, hy, rfl⟩ := List.mem_map.mp hx
    obtain ⟨z, hz, rfl⟩ := List.mem_map.mp (hp.mem_iff.mp hy)
    exact bx z hz
/-- the lengths that are drawn -/
structure Fnd (s n sz m : Nat) (H0 H : Heap) (fd : Nat) (xs : List Nat) : Prop where
  src : Src H s n
  fr : Fr [s] H0 H
  new : H0 fd = none
  at_ : H fd = some (.lst (nats xs))
  len : xs.length = sz
  bd : ∀ x ∈ xs, 1 ≤ x ∧ x ≤ m
theorem ll_k {s n up : Nat} (hs : Src H s n) (hn : n ≤ 10) (hu : 1 ≤ up) (hu2 : up ≤ 200)
    (q : ∀ H' u xs, Fnd s (n + 2000) xs.length (10 ^ 32) H H' u xs → 1 ≤ xs.length → xs.length ≤ up → Q (.ref u) H') : callK T (k + 4) "" "_law_lengths" [.ref s, .int up, .bl true] H Q E := by
  refine call_k (np := 3) (n := 8) rfl rfl ?_
  unfold z__law_lengths
  refine seq_k (fun σ1 H1 => ∃ sz w : Nat, 1 ≤ sz ∧ sz ≤ up ∧ σ1 = [some (.ref s), some (.int up), some (.bl true), some (.int sz), some (.int w), none, none, none] ∧ Src H1 s (n + 2) ∧ Fr [s] H H1) (fun K hK => ?_) ?_
  · simp only [par, bin, callf, acons, anil, var, cst, start, Z.get, perm]
    refine ⟨rfl, tk_k (k := k + 1) hs (by omega) (by omega) (by omega) fun d H1 hd s1 f1 => ?_⟩
    simp only [opr_add_ii]
    refine ⟨rfl, tk_k (k := k + 1) (b := 7) s1 (by omega) (by omega) (by omega) fun w H2 hw s2 f2 => ⟨rfl, ?_⟩⟩
    simp only [gcons, gnil, gname, put]
    refine ⟨_, _, rfl, _, _, rfl, rfl, hK _ _ ⟨1 + d, w, by omega, by omega, ?_, s2, f1.trans f2⟩⟩
    show [some (V.ref s), some (V.int up), some (V.bl true), some (V.int (1 + (d : Int))), some (V.int w), none, none, none] = _
    rw [show (1 : Int) + (d : Int) = ((1 + d : Nat) : Int) by omega]
  rintro _ H1 ⟨sz, w, z1, z2, rfl, s1, f1⟩
  let st : V → St := fun v => [some (.ref s), some (.int up), some (.bl true), some (.int sz), some (.int w), some v, none, none]
  -- the first draw
  refine asg_k (fun v H2 => ∃ fd xs, v = .ref fd ∧ Fnd s (n + 202) sz 1000 H H2 fd xs) (fun K hK => ?_) ?_
  · refine rngc_k (s := s) (n := n + 2) (m := 1000) (by omega) rfl s1 (fun i H2 K2 hi s2 hK2 => ?_) fun H2 u xs lx bx s2 f2 nu hu => hK _ _ ⟨u, xs, rfl, s2, f1.trans f2, src_new s1 f1 nu, hu, lx, bx⟩
    simp only [wipe, put, List.set_cons_succ, List.set_cons_zero, bin, callf, ix, lstl, acons, anil, var, cst, Z.get, perm]
    refine ⟨by show 3 ≤ line; decide, fun p np => ?_⟩
    rw [opr_mod]
    refine ⟨by decide, ?_⟩
    have s3 := s2.new (o := .lst [.int 3, .int 40, .int 1000]) np
    have go : ∀ b : Nat, 0 < b → b ≤ 1000 → callK T (k + 3) "" "_law_take" [.ref s, .int b] (upd H2 p (.lst [.int 3, .int 40, .int 1000])) (fun y H3 => opr .add (.int 1) y H3 K2) fun _ _ _ => False := fun b b0 b1 => by
      refine tk_k (k := k + 1) s3 (by omega) b0 (by omega) fun d H4 hd s4 f4 => ?_
      rw [opr_add_ii, show (1 : Int) + (d : Int) = ((1 + d : Nat) : Int) by omega]
      exact hK2 _ _ (by omega) (by omega) s4 ((Fr.new np).trans f4)
    have w3 : (w : Int) % 3 = 0 ∨ (w : Int) % 3 = 1 ∨ (w : Int) % 3 = 2 := by omega
    rcases w3 with e | e | e <;> rw [e]
    · exact ⟨_, _, _, items_l upd_same, rfl, rfl, rfl, go 3 (by omega) (by omega)⟩
    · exact ⟨_, _, _, items_l upd_same, rfl, rfl, rfl, go 40 (by omega) (by omega)⟩
    · exact ⟨_, _, _, items_l upd_same, rfl, rfl, rfl, go 1000 (by omega) (by omega)⟩
  rintro _ H2 ⟨fd, xs, rfl, F2⟩
  simp only [put]
  let P : Nat → St → Heap → Prop := fun N σ H' => ∃ fd xs, σ = st (.ref fd) ∧ Fnd s (n + N) sz 1000 H H' fd xs
  have up1 : ∀ {N M : Nat} {σ H'}, N ≤ M → P N σ H' → P M σ H' := fun l ⟨fd, xs, e, F⟩ => ⟨fd, xs, e, F.src.mono (by omega), F.fr, F.new, F.at_, F.len, F.bd⟩
  -- way 3
  refine seq_k (P 203) (fun K hK => ?_) ?_
  · refine ifw rfl ?_ (hK _ _ ⟨fd, xs, rfl, F2.src.mono (by omega), F2.fr, F2.new, F2.at_, F2.len, F2.bd⟩)
    simp only [asg, bin, lstl, callf, acons, anil, var, cst, Z.get, perm]
    refine ⟨rfl, tk_k (k := k + 1) (b := 9) F2.src (by omega) (by omega) (by omega) fun d H3 hd s3 f3 => ?_⟩
    rw [opr_add_ii, show (1 : Int) + (d : Int) = ((1 + d : Nat) : Int) by omega]
    refine ⟨by show 1 ≤ line; decide, fun p np => ?_⟩
    rw [opr_mul_ri]
    refine ⟨_, upd_same, by omega, by omega, by unfold line; simp only [List.length_cons, List.length_nil, Int.toNat_natCast]; omega, fun u nu => ?_⟩
    simp only [gname, put]
    have f4 := (F2.fr.trans f3).trans (Fr.new (o := .lst [.int (1 + d : Nat)]) np)
    have s4 := s3.new (o := .lst [.int (1 + d : Nat)]) np
    have er : (List.replicate (sz : Int).toNat [V.int (1 + d : Nat)]).flatten = nats (List.replicate sz (1 + d)) := by
      rw [Int.toNat_natCast]
      exact reps _ _
    rw [er]
    refine hK _ _ ⟨u, List.replicate sz (1 + d), rfl, s4.new nu, f4.trans (Fr.new nu), src_new s4 f4 nu, upd_same, List.length_replicate, fun x hx => ?_⟩
    rw [(List.mem_replicate.mp hx).2]
    omega
  rintro _ H3 ⟨fd3, xs3, rfl, F3⟩
  -- way 4
  refine seq_k (P 403) (fun K hK => ?_) ?_
  · refine ifw rfl ?_ (hK _ _ (up1 (N := 203) (by omega) ⟨fd3, xs3, rfl, F3⟩))
    refine rngc_k (s := s) (n := n + 203) (m := 256) (by omega) rfl F3.src (fun i H4 K2 hi s2 hK2 => ?_) fun H4 u xs lx bx s2 f2 nu hu => hK _ _ ⟨u, xs, rfl, s2, F3.fr.trans f2, src_new F3.src F3.fr nu, hu, lx, fun x hx => ⟨(bx x hx).1, Nat.le_trans (bx x hx).2 (by omega)⟩⟩
    simp only [st, wipe, put, List.set_cons_succ, List.set_cons_zero, bin, callf, acons, anil, var, cst, Z.get, perm]
    refine ⟨rfl, tk_k (k := k + 1) (b := 9) s2 (by omega) (by omega) (by omega) fun d H5 hd s3 f3 => ?_⟩
    rw [opr_shl]
    refine ⟨by omega, ⟨1, by unfold small; decide, by omega⟩, ?_⟩
    rw [Int.toNat_natCast, Int.one_mul, show ((2 : Int) ^ d) = ((2 ^ d : Nat) : Int) by rw [Int.natCast_pow]; rfl]
    exact hK2 _ _ (Nat.one_le_two_pow) (Nat.le_trans (Nat.pow_le_pow_right (by omega) (show d ≤ 8 by omega)) (by decide)) s3 f3
  rintro _ H4 ⟨fd4, xs4, rfl, F4⟩
  -- ways 5 and 6
  have it4 : litems H4 (.ref fd4) = some ((xs4.map fun n : Nat => (n : Int)).map V.int) := by
    rw [litems_l F4.at_, List.map_map]
    rfl
  refine seq_k (P 403) (fun K hK => ?_) ?_
  · refine ifw rfl ?_ (hK _ _ ⟨fd4, xs4, rfl, F4⟩)
    simp only [asg, blt, acons, anil, var, Z.get, st]
    refine ⟨_, _, rfl, it4, fun ns u hp _ nu => ?_⟩
    obtain ⟨zs, rfl, lz, bz⟩ := srt F4.len F4.bd hp
    simp only [gname, put]
    refine hK _ _ ⟨u, zs, rfl, F4.src.new nu, F4.fr.trans (Fr.new nu), src_new F4.src F4.fr nu, ?_, lz, bz⟩
    rw [upd_same, List.map_map]
    rfl
  rintro _ H5 ⟨fd5, xs5, rfl, F5⟩
  have it5 : litems H5 (.ref fd5) = some ((xs5.map fun n : Nat => (n : Int)).map V.int) := by
    rw [litems_l F5.at_, List.map_map]
    rfl
  refine seq_k (P 403) (fun K hK => ?_) ?_
  · refine ifw rfl ?_ (hK _ _ ⟨fd5, xs5, rfl, F5⟩)
    simp only [asg, blt, revs, acons, anil, var, Z.get, st]
    refine ⟨_, _, rfl, it5, fun ns u hp _ nu => ⟨_, litems_l upd_same, fun r nr => ?_⟩⟩
    obtain ⟨zs, rfl, lz, bz⟩ := srt F5.len F5.bd hp
    simp only [gname, put]
    have s6 := F5.src.new (o := .lst ((zs.map (fun n : Nat => (n : Int))).map V.int)) nu
    have f6 := F5.fr.trans (Fr.new (o := .lst ((zs.map (fun n : Nat => (n : Int))).map V.int)) nu)
    refine hK _ _ ⟨r, zs.reverse, rfl, s6.new nr, f6.trans (Fr.new nr), src_new s6 f6 nr, ?_, by rw [List.length_reverse, lz], fun x hx => bz x (List.mem_reverse.mp hx)⟩
    rw [upd_same, List.map_map, ← List.map_reverse]
    rfl
  rintro _ H6 ⟨fd6, xs6, rfl, F6⟩
  -- great
  refine seq_k (fun σ H' => ∃ fd xs, σ = st (.ref fd) ∧ Fnd s (n + 2000) sz (10 ^ 32) H H' fd xs) (fun K hK => ?_) ?_
  · simp only [ifs, tand, tt, cmp, callf, acons, anil, var, cst, Z.get, perm, st, truth_b]
    refine ⟨_, rfl, ?_⟩
    rw [if_pos rfl]
    refine ⟨rfl, tk_k (k := k + 1) (b := 5) F6.src (by omega) (by omega) (by omega) fun d H7 hd s7 f7 => ?_⟩
    have at7 := f7 _ _ F6.at_ (by simp only [List.mem_singleton]; intro z; obtain ⟨_, _, _, h, _⟩ := hs; rw [← z, F6.new] at h; cases h)
    simp only [cmpr_eq, eqD_int]
    refine ⟨_, rfl, ?_⟩
    split
    · simp only [asg, lcomp, iseq, var, Z.get]
      refine .inl ⟨_, litems_l at7, ?_⟩
      have fd_ne : fd6 ≠ s := fun z => by obtain ⟨_, _, _, h, _⟩ := hs; rw [← z, F6.new] at h; cases h
      refine lci_k (fun i acc H1 => ∃ xs : List Nat, acc = nats xs ∧ xs.length = i ∧ (∀ x ∈ xs, 1 ≤ x ∧ x ≤ 10 ^ 32) ∧ Src H1 s (n + 404 + i) ∧ Fr [s] H7 H1) ⟨[], rfl, rfl, fun x h => by simp at h, s7, .refl _ _⟩ (fun i v acc H1 hv g => ⟨litems_l (g.elim fun _ g => g.2.2.2.2 _ _ at7 (by simp [fd_ne])), fun L hL => ?_⟩) fun acc H1 g => ⟨litems_l (g.elim fun _ g => g.2.2.2.2 _ _ at7 (by simp [fd_ne])), fun u nu => ?_⟩
      · obtain ⟨xs, rfl, lx, bx, s1, f1⟩ := g
        have hi : i < xs6.length := by
          have := (List.getElem?_eq_some_iff.mp hv).1
          simpa using this
        rw [nats_get hi] at hv
        cases hv
        have l6 := F6.len
        have b6 := F6.bd _ (getD_mem hi)
        generalize xs6.getD i 0 = y at b6
        simp only [gname, wipe, put, List.set_cons_succ, List.set_cons_zero, tyes, if_true, bin, callf, lstl, acons, anil, var, cst, Z.get, perm]
        have o9 : opr .pow (.int 10) (.int 9) H1 = fun Q => 0 ≤ (9 : Int) ∧ (∃ n, small n 10 ∧ n * (9 : Int).toNat ≤ 134217728) ∧ Q (.int 1000000000) H1 := rfl
        have o29 : opr .pow (.int 10) (.int 29) H1 = fun Q => 0 ≤ (29 : Int) ∧ (∃ n, small n 10 ∧ n * (29 : Int).toNat ≤ 134217728) ∧ Q (.int 100000000000000000000000000000) H1 := rfl
        rw [o9]
        refine ⟨by decide, ⟨4, by unfold small; decide, by decide⟩, ?_⟩
        simp only []
        rw [o29]
        refine ⟨by decide, ⟨4, by unfold small; decide, by decide⟩, by show 4 ≤ line; decide, fun p np => ⟨rfl, ?_⟩⟩
        refine pk_k (k := k) (s1.new np) (by omega) upd_same (src_ne s1 np) (by simp) (by simp) fun v H8 hv s8 f8 => ?_
        have hv2 : ∃ c : Nat, v = .int c ∧ 1 ≤ c ∧ c ≤ 100000000000000000000000000000 := by
          simp only [List.mem_cons, List.not_mem_nil, or_false] at hv
          rcases hv with rfl | rfl | rfl | rfl
          · exact ⟨1, rfl, by omega, by omega⟩
          · exact ⟨7, rfl, by omega, by omega⟩
          · exact ⟨1000000000, rfl, by omega, by omega⟩
          · exact ⟨100000000000000000000000000000, rfl, by omega, by omega⟩
        obtain ⟨c, rfl, c1, c2⟩ := hv2
        rw [opr_mul_ii]
        refine ⟨mul_k (small_b (by omega) (by omega) (by decide)) (small_b (by omega) (by omega) (by decide)), ?_⟩
        rw [← Int.natCast_mul]
        refine ⟨?_, hL _ _ ⟨xs ++ [y * c], by simp, by simp [lx], fun x hx => ?_, s8, (f1.trans (Fr.new np)).trans f8⟩⟩
        · rw [List.length_map, lx]
          unfold line
          omega
        · rcases List.mem_append.mp hx with h | h
          · exact bx x h
          · rw [List.mem_singleton.mp h]
            exact ⟨Nat.mul_pos b6.1 c1, Nat.le_trans (Nat.mul_le_mul b6.2 c2) (by decide)⟩
      · obtain ⟨xs, rfl, lx, bx, s1, f1⟩ := g
        rw [List.length_map, F6.len] at lx s1
        simp only [gname, put]
        have ff := (F6.fr.trans f7).trans f1
        exact hK _ _ ⟨u, xs, rfl, (s1.mono (by omega)).new nu, ff.trans (Fr.new nu), src_new s1 ff nu, upd_same, lx, bx⟩
    · exact hK _ _ ⟨fd6, xs6, rfl, s7.mono (by omega), F6.fr.trans f7, F6.new, at7, F6.len, fun x hx => ⟨(F6.bd x hx).1, Nat.le_trans (F6.bd x hx).2 (by decide)⟩⟩
  rintro _ H7 ⟨fd7, xs7, rfl, F7⟩
  simp only [ret, var, Z.get, st]
  have l7 := F7.len
  subst l7
  exact q _ _ xs7 F7 z1 z2
end
/- part j -/
theorem stN_ext {lev lev' : Nat → Nat → Nat → Nat} {n : Nat} (h : ∀ i j k, i < j → j < k → k ≤ n → lev i j k = lev' i j k) : ∀ k, k ≤ n → stN lev k = stN lev' k
  | 0, _ => rfl
  | k + 1, hk => by
    show come lev k (stN lev k) = come lev' k (stN lev' k)
    rw [← stN_ext h k (by omega)]
    obtain ⟨c, _, _⟩ := stN_ok lev k
    unfold come
    cases e : (stN lev k).1 with
    | nil => rfl
    | cons x r =>
      rw [e] at c
      obtain ⟨c1, c2, _⟩ := c
      simp only
      rw [h x.1 x.2.1 (k + 1) (by omega) (by omega) (by omega)]
theorem endN_ext {lt lt' : Pc → Pc → Bool} (h : ∀ z x, lt z x = lt' z x) {f : Nat} {rs : List Pc} {js : List Jn} : endN lt f rs js = endN lt' f rs js := by
  have : lt = lt' := funext fun z => funext fun x => h z x
  rw [this]
theorem joins_mul {t : Nat} {ps : List Nat} (ht : 0 < t) (hp : ∀ x ∈ ps, 1 ≤ x) (h0 : 1 ≤ ps.length) : joinsN (ps.map (t * ·)) = joinsN ps := by
  unfold joinsN allJ
  rw [List.length_map]
  have e : ∀ a b, t * a - t * b = t * (a - b) := fun a b => (Nat.mul_sub t a b).symm
  have wp : 0 < S ps ps.length := by
    have := S_lt hp (show 0 < ps.length by omega) (Nat.le_refl _)
    omega
  have es : stN (levS (S (ps.map (t * ·))) (S (ps.map (t * ·)) ps.length)) ps.length = stN (levS (S ps) (S ps ps.length)) ps.length := by
    refine stN_ext (n := ps.length) (fun i j k ij jk kn => ?_) _ (Nat.le_refl _)
    unfold levS
    have s1 := S_lt hp ij (by omega)
    have s2 := S_lt hp jk kn
    simp only [S_mul]
    rw [e, e]
    have a1 : 2 * (t * S ps i) + t * (S ps j - S ps i) = t * (2 * S ps i + (S ps j - S ps i)) := by rw [Nat.mul_add, Nat.mul_left_comm]
    rw [a1, ← Nat.mul_add, ← Nat.mul_add]
    exact lev0_mul ht (by omega) wp
  rw [es]
  refine endN_ext fun z x => ?_
  unfold ltS
  simp only [S_mul]
  rw [e, e]
  exact decide_eq_decide.mpr (Nat.mul_lt_mul_left ht)
theorem cost_mul {t : Nat} {ps : List Nat} : ∀ js : List Jn, costJ (S (ps.map (t * ·))) js = t * costJ (S ps) js
  | [] => rfl
  | j :: r => by
    show (S _ _ - S _ _) + costJ _ r = t * (_ + _)
    rw [cost_mul r, S_mul, S_mul, ← Nat.mul_sub, Nat.mul_add]
theorem sum_le {m : Nat} : ∀ {xs : List Nat}, (∀ x ∈ xs, x ≤ m) → xs.sum ≤ xs.length * m
  | [], _ => by simp
  | x :: r, h => by
    have a := h x (List.mem_cons_self ..)
    have b := sum_le (xs := r) fun y hy => h y (List.mem_cons_of_mem _ hy)
    rw [List.sum_cons, List.length_cons, Nat.succ_mul]
    omega
theorem good_of {ps : List Nat} {m : Nat} (h1 : 1 ≤ ps.length) (h2 : ps.length ≤ 200) (h3 : ∀ x ∈ ps, 1 ≤ x ∧ x ≤ m) (hm : m ≤ 10 ^ 44) : Good ps := by
  refine ⟨h1, h2, fun x hx => (h3 x hx).1, ?_⟩
  have a := sum_le fun x hx => (h3 x hx).2
  have b : ps.length * m ≤ 200 * 10 ^ 44 := Nat.mul_le_mul h2 hm
  have e : S ps ps.length = ps.sum := by unfold S; rw [List.take_length]
  rw [e]
  have c : 2 * (200 * 10 ^ 44) < 2 ^ 190 := by decide
  omega
section
variable {k : Nat} {H : Heap}
theorem nats_ne {p q : Nat} {xs : List Nat} {R : Bool → Prop} (hp : H p = some (.lst (nats xs))) (hq : H q = some (.lst (nats xs))) (h : R false) : cmpr .ne (.ref p) (.ref q) H R := by
  rw [cmpr_ne]
  refine eqD_ints (ns := intsN xs) (ms := intsN xs) (by rw [litems_l hp, intsN_v]) (by rw [litems_l hq, intsN_v]) ?_
  rw [beq_self_eq_true]
  exact h
theorem cellsE_k {C : Cx} {σ : St} {a m : Nat} {ns : List Int} {R : List (V × V) → (Heap → Prop) → Heap → Prop} (hs : H a = some (.scr (ns.map V.int))) (hl : ns.length ≤ 63) (hb : ∀ z ∈ ns, Fit z) (h0 : Z.get σ 0 = some (.ref a))
    (q : ∀ (H' : Heap) (p : Nat) (zs : List Int), Fr [] H H' → H' p = some (.lst (zs.map V.int)) → (∀ z ∈ zs, Fit z) → H p = none → R (enumV 0 (zs.map V.int)) (fun H2 => litems H2 (.ref p) = some (zs.map V.int)) H') :
    ienum (slc (bin .add (var 0) (lstl (acons (cst (.int 0)) anil))) pno (pso (cst (.int m)))) C σ H R := by
  simp only [ienum, slc, bin, var, h0, lstl, acons, anil, cst, pno, pso]
  refine ⟨by decide, fun p1 n1 => ?_⟩
  rw [opr_add_rr]
  have h1 := upd_old (o' := .lst [V.int 0]) hs n1
  refine .inl ⟨_, _, litems_s h1, litems_l upd_same, ?_, fun p2 n2 => ⟨_, rfl, .inl ⟨_, litems_l upd_same, fun p3 n3 => ?_⟩⟩⟩
  · rw [List.length_map]
    unfold line
    simp
    omega
  · obtain ⟨zs, ez, hz⟩ : ∃ zs : List Int, cutV (ns.map V.int ++ [V.int 0]) none (some (m : Int)) = zs.map .int ∧ ∀ z ∈ zs, Fit z := by
      refine ⟨((ns ++ [0]).drop 0).take (sIx (ns.map V.int ++ [V.int 0]).length (ns.map V.int ++ [V.int 0]).length (some (m : Int)) - 0), ?_, fun z hz => ?_⟩
      · rw [List.map_take, List.map_drop, List.map_append]
        rfl
      · rcases List.mem_append.mp (List.mem_of_mem_take hz) with h | h
        · exact hb z h
        · rw [List.mem_singleton.mp h]
          exact fit_zero
    rw [ez]
    have f : Fr [] H (upd (upd H p1 (.lst [V.int 0])) p2 (.lst (ns.map V.int ++ [V.int 0]))) := (Fr.new n1).trans (Fr.new n2)
    exact .inl ⟨_, litems_l upd_same, q _ p3 zs (f.trans (Fr.new n3)) upd_same hz (f.fresh (by simp) n3)⟩
end
/- law -/
section
variable {H : Heap}
theorem int_ne {i : Int} {R : Bool → Prop} (h : R false) : cmpr .ne (.int i) (.int i) H R := by
  rw [cmpr_ne]
  refine eqD_int.mpr ?_
  rw [beq_self_eq_true]
  exact h
theorem cost_le {ps : List Nat} : ∀ {js : List Jn}, JnOk ps.length js → costJ (S ps) js ≤ js.length * S ps ps.length
  | [], _ => Nat.zero_le _
  | j :: r, h => by
    have a := h j (List.mem_cons_self ..)
    have b := cost_le (js := r) fun i hi => h i (List.mem_cons_of_mem _ hi)
    have c := S_mono (ps := ps) a.2.2
    show (_ - _) + _ ≤ _
    rw [List.length_cons, Nat.succ_mul]
    omega
theorem rnd_le : ∀ (js : List Jn) (i : Nat), rnd js i ≤ js.length
  | [], _ => Nat.le_refl _
  | j :: r, i => by
    have := rnd_le r i
    show (if _ then 1 else 0) + rnd r i ≤ r.length + 1
    split <;> omega
theorem o12 {Q : VK} : opr .pow (.int 10) (.int 12) H Q = (0 ≤ (12 : Int) ∧ (∃ n, small n 10 ∧ n * (12 : Int).toNat ≤ 134217728) ∧ Q (.int (1000000000000 : Nat)) H) := rfl
end
theorem law_ok : LawOk ztab depth := by
  intro a ns hl hbits
  refine call_k (k := 11) (np := 1) (n := 12) rfl rfl ?_
  unfold z_law
  have hsc : heap0 a ns a = some (.scr (ns.map .int)) := if_pos rfl
  generalize heap0 a ns = H0 at *
  refine seq_k (fun _ H1 => True) (fun K hK => ?_) ?_
  · simp only [fore2]
    refine cellsE_k (a := a) (m := 8) hsc hl hbits rfl fun H1 p zs f1 hp hz np => ?_
    refine fori2_k (fun i σ H => (∃ x1 x2 x3 x4 x5 x6 x7 x8 x9, σ = [some (.ref a), x1, x2, x3, x4, x5, x6, x7, x8, x9, none, none]) ∧ Fr [] H1 H) ⟨⟨_, _, _, _, _, _, _, _, _, rfl⟩, .refl _ _⟩ (fun i v σ H2 hv gg => ?_) fun σ H2 gg => ⟨litems_l (gg.2 p _ hp (by simp)), hK _ _ trivial⟩
    obtain ⟨⟨x1, x2, x3, x4, x5, x6, x7, x8, x9, rfl⟩, f2⟩ := gg
    refine ⟨litems_l (f2 p _ hp (by simp)), fun M hM => ?_⟩
    obtain ⟨e1, e2⟩ := enumV_get _ _ _ _ hv
    rw [List.getElem?_map] at e2
    obtain ⟨c, ec, e3⟩ := Option.map_eq_some_iff.mp e2
    obtain ⟨v1, v2⟩ := v
    simp only at e1 e3
    subst e1 e3
    simp only [gcons, gnil, gname, put]
    refine ⟨_, _, rfl, _, _, rfl, rfl, ?_⟩
    rw [Int.zero_add]
    refine asg_k (fun v H3 => ∃ s, v = .ref s ∧ Src H3 s 0 ∧ H2 s = none ∧ Fr [] H2 H3) (fun K2 hK2 => ?_) ?_
    · simp only [callf, acons, anil, var, Z.get, perm]
      exact ⟨rfl, source2_k (k := 10) rfl fun s ns o hs => hK2 _ _ ⟨s, rfl, hs, ns, Fr.new ns⟩⟩
    rintro _ H3 ⟨s, rfl, hs, ns, f3⟩
    simp only [put]
    refine seq_k (fun σ H4 => ∃ (pa : Nat) (ps : List Nat) (tm : Nat), σ = [some (.ref a), some (.int (i : Nat)), some (.int c), some (.ref s), some (.ref pa), some (.int (tm : Nat)), x6, x7, x8, x9, none, none] ∧ Fr [s] H3 H4 ∧ H4 pa = some (.lst (nats ps)) ∧ 1 ≤ ps.length ∧ ps.length ≤ 200 ∧ (∀ x ∈ ps, 1 ≤ x ∧ x ≤ 10 ^ 32) ∧ 1 ≤ tm ∧ tm ≤ 10 ^ 12) (fun K2 hK2 => ?_) ?_
    · simp only [par, callf, bin, ife, tt, cmp, acons, anil, var, cst, Z.get, perm]
      rw [cmpr_gt]
      refine ⟨_, rfl, ?_⟩
      have two : ∀ {b : Bool} {A B : Prop}, A → B → (if b = true then A else B) := fun {b A B} x y => by cases b <;> assumption
      refine two ⟨rfl, ll_k (k := 7) (up := 40) hs (by omega) (by omega) (by omega) fun H4 pa ps F l1 l2 => ?_⟩ ⟨rfl, ll_k (k := 7) (up := 200) hs (by omega) (by omega) (by omega) fun H4 pa ps F l1 l2 => ?_⟩
      all_goals
        simp only [o12]
        refine ⟨by decide, ⟨4, by unfold small; decide, by decide⟩, rfl, tk_k (k := 9) (b := 1000000000000) F.src (by omega) (by omega) (by omega) fun d H5 hd s5 f5 => ?_⟩
        simp only [opr_add_ii]
        refine ⟨rfl, ?_⟩
        simp only [gcons, gnil, gname, put]
        refine ⟨_, _, rfl, _, _, rfl, rfl, hK2 _ _ ⟨pa, ps, 1 + d, ?_, F.fr.trans f5, f5 _ _ F.at_ ?_, l1, by omega, F.bd, by omega, by omega⟩⟩
        · rw [show (1 : Int) + (d : Int) = ((1 + d : Nat) : Int) by omega]
        · simp only [List.mem_singleton]
          intro z
          obtain ⟨_, _, _, h, _⟩ := hs
          rw [← z, F.new] at h
          cases h
    rintro _ H4 ⟨pa, ps, tm, rfl, f4, hpa, l1, l2, bp, t1, t2⟩
    have gd : Good ps := good_of l1 l2 bp (by decide)
    have jl := joins_len ps
    have f24 : Fr [] H2 H4 := Fr.shut f3 f4 (by simp [ns])
    refine asg_k (fun v H5 => ∃ du, v = .ref du ∧ Fr [] H4 H5 ∧ H5 du = some (.lst (nats ((List.range ps.length).map (rnd (joinsN ps)))))) (fun K2 hK2 => ?_) ?_
    · simp only [callf, acons, anil, var, Z.get, perm]
      exact ⟨rfl, lr_k (k := 7) gd hpa fun H5 u f5 nu hu => hK2 _ _ ⟨u, rfl, f5, hu⟩⟩
    rintro _ H5 ⟨du, rfl, f5, hdu⟩
    simp only [put]
    have hpa5 := f5 _ _ hpa (by simp)
    refine asg_k (fun v H6 => v = .int (costJ (S ps) (joinsN ps) : Nat) ∧ Fr [] H5 H6) (fun K2 hK2 => ?_) ?_
    · simp only [blt, lcomp2, izip, acons, anil, var, Z.get]
      refine ⟨_, _, rfl, .inl ⟨_, _, litems_l hpa5, litems_l hdu, ?_⟩⟩
      refine lci2_k (fun j acc H6 => H5 = H6 ∧ acc = nats ((List.range j).map fun p => ps.getD p 0 * rnd (joinsN ps) p)) ⟨rfl, rfl⟩ (fun j v acc H6 hv g => ?_) fun acc H6 g => ?_
      · obtain ⟨rfl, rfl⟩ := g
        refine ⟨⟨litems_l hpa5, litems_l hdu⟩, fun L hL => ?_⟩
        obtain ⟨v1, v2⟩ := v
        obtain ⟨e1, e2⟩ := List.getElem?_zip_eq_some.mp hv
        have hj : j < ps.length := by
          have := (List.getElem?_eq_some_iff.mp e1).1
          simpa using this
        rw [nats_get hj] at e1
        rw [nats_get (by simpa using hj)] at e2
        rw [show ((List.range ps.length).map (rnd (joinsN ps))).getD j 0 = rnd (joinsN ps) j by rw [List.getD, List.getElem?_map, List.getElem?_range hj]; rfl] at e2
        cases e1
        cases e2
        have b1 := bp _ (getD_mem hj)
        have b2 := rnd_le (joinsN ps) j
        simp only [gcons, gnil, gname, wipe, put, List.set_cons_succ, List.set_cons_zero, tyes, if_true, bin, var, Z.get]
        refine ⟨_, _, rfl, _, _, rfl, rfl, ?_⟩
        simp only [wipe, put, List.set_cons_succ, List.set_cons_zero, tyes, if_true, bin, var, Z.get, opr_mul_ii]
        refine ⟨mul_k (small_b (by omega) (by omega) (by decide)) (small_b (by omega) (by omega) (by decide)), ?_⟩
        rw [← Int.natCast_mul]
        refine ⟨by rw [List.length_map, List.length_map, List.length_range]; unfold line; omega, hL _ _ ⟨rfl, ?_⟩⟩
        show _ = List.map _ (List.map _ (List.range (j + 1)))
        rw [List.range_succ, List.map_append, List.map_append]
        rfl
      · obtain ⟨rfl, rfl⟩ := g
        refine ⟨⟨litems_l hpa5, litems_l hdu⟩, fun r nr => ?_⟩
        have el : ((nats ps).zip (nats ((List.range ps.length).map (rnd (joinsN ps))))).length = ps.length := by simp
        rw [el]
        refine ⟨.ref r, intsN ((List.range ps.length).map fun p => ps.getD p 0 * rnd (joinsN ps) p), rfl, items_l (by rw [upd_same, intsN_v]), ?_⟩
        rw [sum_ints, ← cost_rnd ps (joins_ok ps)]
        exact hK2 _ _ ⟨rfl, Fr.new nr⟩
    rintro _ H6 ⟨rfl, f6⟩
    simp only [put]
    have hpa6 := f6 _ _ hpa5 (by simp)
    have hdu6 := f6 _ _ hdu (by simp)
    refine asg_k (fun v H7 => ∃ hd, v = .ref hd ∧ Fr [] H6 H7 ∧ H6 hd = none ∧ H7 hd = some (.lst (nats ((List.range ps.length).map (rnd (joinsN ps)))))) (fun K2 hK2 => ?_) ?_
    · simp only [callf, acons, anil, var, Z.get, perm]
      exact ⟨rfl, rounds_k (k := 5) gd (.inl hpa6) fun H7 u f7 nu hu => hK2 _ _ ⟨u, rfl, f7, nu, hu⟩⟩
    rintro _ H7 ⟨hd, rfl, f7, nhd, hhd⟩
    simp only [put]
    have hpa7 := f7 _ _ hpa6 (by simp)
    have hdu7 := f7 _ _ hdu6 (by simp)
    refine seq_k (fun σ H8 => σ = [some (.ref a), some (.int (i : Nat)), some (.int c), some (.ref s), some (.ref pa), some (.int (tm : Nat)), some (.ref du), some (.int (costJ (S ps) (joinsN ps) : Nat)), some (.ref hd), x9, none, none] ∧ Fr [] H7 H8) (fun K2 hK2 => ?_) ?_
    · simp only [ifs, tor, tt, cmp, blt, bTuple, callf, acons, anil, var, Z.get, perm]
      refine nats_ne hhd hdu7 ⟨_, rfl, ?_⟩
      simp only [Bool.false_eq_true, if_false]
      refine ⟨rfl, cost_k (k := 5) gd (.inl hpa7) fun H8 f8 => int_ne ⟨_, rfl, ?_⟩⟩
      simp only [Bool.false_eq_true, if_false]
      refine ⟨_, _, rfl, .inl ⟨litems_l (f8 _ _ hpa7 (by simp)), fun t nt => ⟨rfl, cost_k (k := 5) gd (.inr upd_same) fun H9 f9 => int_ne ⟨_, rfl, ?_⟩⟩⟩⟩
      simp only [Bool.false_eq_true, if_false]
      exact hK2 _ _ ⟨rfl, (f8.trans (Fr.new nt)).trans f9⟩
    rintro _ H8 ⟨rfl, f8⟩
    refine seq_k (fun σ H9 => σ = [some (.ref a), some (.int (i : Nat)), some (.int c), some (.ref s), some (.ref pa), some (.int (tm : Nat)), some (.ref du), some (.int (costJ (S ps) (joinsN ps) : Nat)), some (.ref hd), x9, none, none] ∧ Fr [hd] H8 H9) (fun K2 hK2 => ?_) ?_
    · simp only [drop, bmt, acons, anil, cst, var, Z.get]
      have h8 := f8 _ _ hhd (by simp)
      refine ⟨⟨_, litems_l h8⟩, hd, _, _, rfl, rfl, h8, ?_, hK2 _ _ ⟨rfl, Fr.chg (by simp)⟩⟩
      rw [List.length_map, List.length_map, List.length_range]
      unfold line
      omega
    rintro _ H9 ⟨rfl, f9⟩
    have nd : ∀ {q o}, H6 q = some o → q ≠ hd := fun h z => by rw [z, nhd] at h; cases h
    have f69 : Fr [] H6 H9 := Fr.shut (f7.trans f8) f9 (by simp [nhd])
    have hpa9 := f69 _ _ hpa6 (by simp)
    have hdu9 := f69 _ _ hdu6 (by simp)
    refine seq_k (fun σ H10 => σ = [some (.ref a), some (.int (i : Nat)), some (.int c), some (.ref s), some (.ref pa), some (.int (tm : Nat)), some (.ref du), some (.int (costJ (S ps) (joinsN ps) : Nat)), some (.ref hd), x9, none, none] ∧ Fr [] H9 H10) (fun K2 hK2 => ?_) ?_
    · simp only [ifs, tt, cmp, blt, bTuple, callf, acons, anil, var, Z.get, perm]
      refine ⟨_, _, rfl, .inl ⟨litems_l hpa9, fun t nt => ⟨rfl, rounds_k (k := 5) gd (.inr upd_same) fun H10 u f10 nu hu => nats_ne hu (f10 _ _ (upd_old hdu9 nt) (by simp)) ⟨_, rfl, ?_⟩⟩⟩⟩
      simp only [Bool.false_eq_true, if_false]
      exact hK2 _ _ ⟨rfl, (Fr.new nt).trans f10⟩
    rintro _ H10 ⟨rfl, f10⟩
    have hpa10 := f10 _ _ hpa9 (by simp)
    have hdu10 := f10 _ _ hdu9 (by simp)
    refine asg_k (fun v H11 => ∃ wi, v = .ref wi ∧ Fr [] H10 H11 ∧ H11 wi = some (.lst (nats (ps.map (tm * ·))))) (fun K2 hK2 => ?_) ?_
    · simp only [lcomp, iseq, var, Z.get]
      refine .inl ⟨_, litems_l hpa10, ?_⟩
      refine lci_k (fun j acc H11 => H10 = H11 ∧ acc = nats ((ps.take j).map (tm * ·))) ⟨rfl, rfl⟩ (fun j v acc H11 hv g => ?_) fun acc H11 g => ?_
      · obtain ⟨rfl, rfl⟩ := g
        refine ⟨litems_l hpa10, fun L hL => ?_⟩
        have hj : j < ps.length := by
          have := (List.getElem?_eq_some_iff.mp hv).1
          simpa using this
        have hx : ps[j]? = some (ps.getD j 0) := by
          rw [List.getD, List.getElem?_eq_getElem hj]
          rfl
        rw [nats_get hj] at hv
        cases hv
        have b1 := bp _ (getD_mem hj)
        simp only [gname, wipe, put, List.set_cons_succ, List.set_cons_zero, tyes, if_true, bin, var, Z.get, opr_mul_ii]
        refine ⟨mul_k (small_b (by omega) (by omega) (by decide)) (small_b (by omega) (by omega) (by decide)), ?_⟩
        rw [← Int.natCast_mul, Nat.mul_comm]
        refine ⟨by rw [List.length_map, List.length_map, List.length_take]; unfold line; omega, hL _ _ ⟨rfl, ?_⟩⟩
        rw [take_next hx]
        show _ = List.map _ (List.map _ _)
        rw [List.map_append, List.map_append]
        rfl
      · obtain ⟨rfl, rfl⟩ := g
        refine ⟨litems_l hpa10, fun r nr => hK2 _ _ ⟨r, rfl, Fr.new nr, ?_⟩⟩
        rw [upd_same, List.length_map, List.take_of_length_le (Nat.le_refl _)]
    rintro _ H11 ⟨wi, rfl, f11, hwi⟩
    simp only [put]
    have hdu11 := f11 _ _ hdu10 (by simp)
    have gdw : Good (ps.map (tm * ·)) := good_of (m := 10 ^ 44) (by rw [List.length_map]; exact l1) (by rw [List.length_map]; exact l2) (fun x hx => by
      obtain ⟨y, hy, rfl⟩ := List.mem_map.mp hx
      have := bp y hy
      exact ⟨Nat.mul_pos t1 this.1, Nat.le_trans (Nat.mul_le_mul t2 this.2) (by decide)⟩) (Nat.le_refl _)
    have jm := joins_mul (t := tm) t1 gd.pos l1
    have cl : costJ (S ps) (joinsN ps) ≤ 200 * 2 ^ 189 := by
      refine Nat.le_trans (cost_le (joins_ok ps)) (Nat.mul_le_mul (by omega) ?_)
      have := gd.fit
      omega
    simp only [ifs, tor, tt, cmp, bin, callf, acons, anil, var, Z.get, perm]
    refine ⟨rfl, rounds_k (k := 5) gdw (.inl hwi) fun H12 u f12 nu hu => ?_⟩
    rw [jm, List.length_map] at hu
    refine nats_ne hu (f12 _ _ hdu11 (by simp)) ⟨_, rfl, ?_⟩
    simp only [Bool.false_eq_true, if_false]
    refine ⟨rfl, cost_k (k := 5) gdw (.inl (f12 _ _ hwi (by simp))) fun H13 f13 => ?_⟩
    rw [jm, cost_mul, opr_mul_ii]
    refine ⟨mul_k (small_b (by omega) (by omega) (by decide)) (small_b (by omega) (by omega) (by decide)), ?_⟩
    rw [← Int.natCast_mul, Nat.mul_comm]
    refine int_ne ⟨_, rfl, ?_⟩
    simp only [Bool.false_eq_true, if_false]
    exact hM _ _ ⟨⟨_, _, _, _, _, _, _, _, _, rfl⟩, (f2.trans (f24.trans (f5.trans f6))).trans ((f69.trans (f10.trans f11)).trans (f12.trans f13))⟩
  · rintro σ H1 _
    simp only [ret, andv, cmp, callf, lstl, acons, anil, cst, perm]
    have g5 : Good [5] := good_of (m := 5) (by decide) (by decide) (by decide) (by decide)
    have g532 : Good [5, 3, 2] := good_of (m := 5) (by decide) (by decide) (by decide) (by decide)
    refine ⟨by show 1 ≤ line; decide, fun p np => ⟨rfl, cost_k (k := 5) (ps := [5]) g5 (.inl (by rw [upd_same]; rfl)) fun H2 f2 => ?_⟩⟩
    rw [cmpr_eq]
    refine eqD_int.mpr ?_
    rw [show (costJ (S [5]) (joinsN [5])) = 0 from rfl]
    refine ⟨true, rfl, ?_⟩
    rw [if_pos rfl]
    refine ⟨by show 1 ≤ line; decide, fun p2 np2 => ⟨rfl, rounds_k (k := 5) (ps := [5]) g5 (.inl (by rw [upd_same]; rfl)) fun H3 u f3 nu hu => ⟨by show 1 ≤ line; decide, fun p3 np3 => ?_⟩⟩⟩
    rw [cmpr_eq]
    refine eqD_ints (ns := [0]) (ms := [0]) (by rw [litems_l (upd_old hu np3)]; rfl) (by rw [litems_l upd_same]; rfl) ?_
    refine ⟨true, rfl, ?_⟩
    rw [if_pos rfl]
    refine ⟨by show 3 ≤ line; decide, fun p4 np4 => ⟨rfl, cost_k (k := 5) (ps := [5, 3, 2]) g532 (.inl (by rw [upd_same]; rfl)) fun H4 f4 => ⟨by show 3 ≤ line; decide, fun p5 np5 => ⟨rfl, rounds_k (k := 5) (ps := [5, 3, 2]) g532 (.inl (by rw [upd_same]; rfl)) fun H5 u2 f5 nu2 hu2 => ⟨by show 2 ≤ line; decide, fun p6 np6 => ⟨by show 3 ≤ line; decide, fun p7 np7 => ⟨by show 2 ≤ line; decide, fun p8 np8 => ?_⟩⟩⟩⟩⟩⟩⟩
    rw [cmpr_eq]
    have h6 := upd_old (o' := O.lst [V.int 15, V.ref p7]) (upd_old (upd_same (H := H5) (a := p6)) np7) np8
    have h2 := upd_old (o' := O.lst [V.int 15, V.ref p7]) (upd_old (upd_old hu2 np6) np7) np8
    refine ⟨.lst [.int 15, .lst [.int 1, .int 2, .int 2]], .lst [.int 15, .lst [.int 1, .int 2, .int 2]], .lst (litems_l h6) (.cons ?_ (.cons (.lst (litems_l h2) ?_) .nil)), .lst (litems_l upd_same) (.cons (.int 15) (.cons (.lst (litems_l (upd_old upd_same np8)) (repL_ints [1, 2, 2])) .nil)), by decide, by decide, rfl⟩
    · exact .int 15
    · exact repL_ints [1, 2, 2]
end Q_k36
namespace Q_k36
open PySem L2 ZS PyProof.Rows
def top (i : Nat) : Stmt := PySem.Challenge.pw_askedorder_k36_costs_and_rounds.main.body.getD i (.Pass ⟨0, 0, 0, 0⟩)
abbrev st_is_integer : Stmt := (top 4)
def N_is_integer : List Str := ["value"]
theorem nd_is_integer : N_is_integer.Nodup := by decide +kernel
theorem sc_is_integer : FnScope N_is_integer ["value"] (defScope st_is_integer) := ⟨rfl, rfl, rfl, nd_is_integer, rfl, by decide +kernel, by decide +kernel⟩
abbrev st_level_between : Stmt := (top 7)
def N_level_between : List Str := ["start", "first", "second", "whole", "low", "count", "high", "taken"]
theorem nd_level_between : N_level_between.Nodup := by decide +kernel
theorem sc_level_between : FnScope N_level_between ["start", "first", "second", "whole"] (defScope st_level_between) := ⟨rfl, rfl, rfl, nd_level_between, rfl, by decide +kernel, by decide +kernel⟩
abbrev st_require_lengths : Stmt := (top 8)
def N_require_lengths : List Str := ["lengths", "index", "length"]
theorem nd_require_lengths : N_require_lengths.Nodup := by decide +kernel
theorem sc_require_lengths : FnScope N_require_lengths ["lengths"] (defScope st_require_lengths) := ⟨rfl, rfl, rfl, nd_require_lengths, rfl, by decide +kernel, by decide +kernel⟩
abbrev st_starts_of : Stmt := (top 9)
def N_starts_of : List Str := ["lengths", "found", "length"]
theorem nd_starts_of : N_starts_of.Nodup := by decide +kernel
theorem sc_starts_of : FnScope N_starts_of ["lengths"] (defScope st_starts_of) := ⟨rfl, rfl, rfl, nd_starts_of, rfl, by decide +kernel, by decide +kernel⟩
abbrev st_Stack_init : Stmt := (inClass (top 10) 0)
def N_Stack_init : List Str := ["self", "whole"]
theorem nd_Stack_init : N_Stack_init.Nodup := by decide +kernel
theorem sc_Stack_init : FnScope N_Stack_init ["self", "whole"] (defScope st_Stack_init) := ⟨rfl, rfl, rfl, nd_Stack_init, rfl, by decide +kernel, by decide +kernel⟩
abbrev st_Stack_join_at : Stmt := (inClass (top 10) 1)
def N_Stack_join_at : List Str := ["self", "place", "start", "first", "gone", "second", "mark"]
theorem nd_Stack_join_at : N_Stack_join_at.Nodup := by decide +kernel
theorem sc_Stack_join_at : FnScope N_Stack_join_at ["self", "place"] (defScope st_Stack_join_at) := ⟨rfl, rfl, rfl, nd_Stack_join_at, rfl, by decide +kernel, by decide +kernel⟩
abbrev st_Stack_come : Stmt := (inClass (top 10) 2)
def N_Stack_come : List Str := ["self", "start", "length", "last", "first", "gone", "mark"]
theorem nd_Stack_come : N_Stack_come.Nodup := by decide +kernel
theorem sc_Stack_come : FnScope N_Stack_come ["self", "start", "length"] (defScope st_Stack_come) := ⟨rfl, rfl, rfl, nd_Stack_come, rfl, by decide +kernel, by decide +kernel⟩
abbrev st_Stack_end : Stmt := (inClass (top 10) 3)
def N_Stack_end : List Str := ["self", "place"]
theorem nd_Stack_end : N_Stack_end.Nodup := by decide +kernel
theorem sc_Stack_end : FnScope N_Stack_end ["self"] (defScope st_Stack_end) := ⟨rfl, rfl, rfl, nd_Stack_end, rfl, by decide +kernel, by decide +kernel⟩
abbrev st_merges : Stmt := (top 11)
def N_merges : List Str := ["lengths", "pile", "start", "length", "many"]
theorem nd_merges : N_merges.Nodup := by decide +kernel
theorem sc_merges : FnScope N_merges ["lengths"] (defScope st_merges) := ⟨rfl, rfl, rfl, nd_merges, rfl, by decide +kernel, by decide +kernel⟩
abbrev st_all_merges : Stmt := (top 12)
def N_all_merges : List Str := ["lengths", "early", "late"]
theorem nd_all_merges : N_all_merges.Nodup := by decide +kernel
theorem sc_all_merges : FnScope N_all_merges ["lengths"] (defScope st_all_merges) := ⟨rfl, rfl, rfl, nd_all_merges, rfl, by decide +kernel, by decide +kernel⟩
abbrev st_cost : Stmt := (top 13)
def N_cost : List Str := ["lengths", "start", "first", "second"]
theorem nd_cost : N_cost.Nodup := by decide +kernel
theorem sc_cost : FnScope N_cost ["lengths"] (defScope st_cost) := ⟨rfl, rfl, rfl, nd_cost, rfl, by decide +kernel, by decide +kernel⟩
abbrev st_rounds : Stmt := (top 14)
def N_rounds : List Str := ["lengths", "joins", "place", "start", "first", "second"]
theorem nd_rounds : N_rounds.Nodup := by decide +kernel
theorem sc_rounds : FnScope N_rounds ["lengths"] (defScope st_rounds) := ⟨rfl, rfl, rfl, nd_rounds, rfl, by decide +kernel, by decide +kernel⟩
abbrev st__law_mixed : Stmt := (top 16)
def N__law_mixed : List Str := ["cell", "draw", "figure"]
theorem nd__law_mixed : N__law_mixed.Nodup := by decide +kernel
theorem sc__law_mixed : FnScope N__law_mixed ["cell", "draw"] (defScope st__law_mixed) := ⟨rfl, rfl, rfl, nd__law_mixed, rfl, by decide +kernel, by decide +kernel⟩
abbrev st__law_source : Stmt := (top 17)
def N__law_source : List Str := ["cell"]
theorem nd__law_source : N__law_source.Nodup := by decide +kernel
theorem sc__law_source : FnScope N__law_source ["cell"] (defScope st__law_source) := ⟨rfl, rfl, rfl, nd__law_source, rfl, by decide +kernel, by decide +kernel⟩
abbrev st__law_take : Stmt := (top 18)
def N__law_take : List Str := ["source", "bound", "drawn"]
theorem nd__law_take : N__law_take.Nodup := by decide +kernel
theorem sc__law_take : FnScope N__law_take ["source", "bound"] (defScope st__law_take) := ⟨rfl, rfl, rfl, nd__law_take, rfl, by decide +kernel, by decide +kernel⟩
abbrev st__law_pick : Stmt := (top 19)
def N__law_pick : List Str := ["source", "options"]
theorem nd__law_pick : N__law_pick.Nodup := by decide +kernel
theorem sc__law_pick : FnScope N__law_pick ["source", "options"] (defScope st__law_pick) := ⟨rfl, rfl, rfl, nd__law_pick, rfl, by decide +kernel, by decide +kernel⟩
abbrev st__law_level : Stmt := (top 20)
def N__law_level : List Str := ["begin", "one", "two", "size", "low", "high", "count"]
theorem nd__law_level : N__law_level.Nodup := by decide +kernel
theorem sc__law_level : FnScope N__law_level ["begin", "one", "two", "size"] (defScope st__law_level) := ⟨rfl, rfl, rfl, nd__law_level, rfl, by decide +kernel, by decide +kernel⟩
abbrev st__law_lengths : Stmt := (top 21)
def N__law_lengths : List Str := ["source", "upper", "great", "size", "way", "found", "k", "one"]
theorem nd__law_lengths : N__law_lengths.Nodup := by decide +kernel
theorem sc__law_lengths : FnScope N__law_lengths ["source", "upper", "great"] (defScope st__law_lengths) := ⟨rfl, rfl, rfl, nd__law_lengths, rfl, by decide +kernel, by decide +kernel⟩
abbrev st__law_starts : Stmt := (top 22)
def N__law_starts : List Str := ["parts", "found", "length"]
theorem nd__law_starts : N__law_starts.Nodup := by decide +kernel
theorem sc__law_starts : FnScope N__law_starts ["parts"] (defScope st__law_starts) := ⟨rfl, rfl, rfl, nd__law_starts, rfl, by decide +kernel, by decide +kernel⟩
abbrev st__law_note : Stmt := (top 23)
def N__law_note : List Str := ["pile", "done", "place", "begin", "first", "gone", "second", "mark"]
theorem nd__law_note : N__law_note.Nodup := by decide +kernel
theorem sc__law_note : FnScope N__law_note ["pile", "done", "place"] (defScope st__law_note) := ⟨rfl, rfl, rfl, nd__law_note, rfl, by decide +kernel, by decide +kernel⟩
abbrev st__law_piled : Stmt := (top 24)
def N__law_piled : List Str := ["parts", "starts", "pile", "done", "stacks", "at", "length", "mark", "many", "place"]
theorem nd__law_piled : N__law_piled.Nodup := by decide +kernel
theorem sc__law_piled : FnScope N__law_piled ["parts"] (defScope st__law_piled) := ⟨rfl, rfl, rfl, nd__law_piled, rfl, by decide +kernel, by decide +kernel⟩
abbrev st__law_rounds : Stmt := (top 25)
def N__law_rounds : List Str := ["parts", "stacks", "early", "late", "found", "starts", "begin", "first", "second", "at"]
theorem nd__law_rounds : N__law_rounds.Nodup := by decide +kernel
theorem sc__law_rounds : FnScope N__law_rounds ["parts"] (defScope st__law_rounds) := ⟨rfl, rfl, rfl, nd__law_rounds, rfl, by decide +kernel, by decide +kernel⟩
abbrev st_law : Stmt := (top 26)
def N_law : List Str := ["script", "at", "cell", "source", "parts", "times", "due", "price", "heard", "wide", "one", "turns"]
theorem nd_law : N_law.Nodup := by decide +kernel
theorem sc_law : FnScope N_law ["script"] (defScope st_law) := ⟨rfl, rfl, rfl, nd_law, rfl, by decide +kernel, by decide +kernel⟩
abbrev st_InvalidLengths : Stmt := inClass (top 2) 0
theorem sc_InvalidLengths : FnScope ["self", "index"] ["self", "index"] (defScope st_InvalidLengths) := ⟨rfl, rfl, rfl, by decide +kernel, rfl, by decide +kernel, by decide +kernel⟩
structure Gx (L : Lw) (P : Program) (w : World) (K : PySem.W.Frag) (mg : Str → Option Value) (base : Heap) : Prop where
  b_bool : mg "bool" = none
  b_enumerate : mg "enumerate" = none
  b_int : mg "int" = none
  b_isinstance : mg "isinstance" = none
  b_len : mg "len" = none
  b_list : mg "list" = none
  b_range : mg "range" = none
  b_sorted : mg "sorted" = none
  b_sum : mg "sum" = none
  b_tuple : mg "tuple" = none
  b_zip : mg "zip" = none
  g_MAX_LENGTHS : ∃ t, mg "MAX_LENGTHS" = some (.int 200 t)
  c_is_integer_1 : CallOk L K mg "is_integer" 1 [] [.inl 0]
  c_level_between_4 : CallOk L K mg "level_between" 4 [] [.inl 0, .inl 1, .inl 2, .inl 3]
  c_require_lengths_1 : CallOk L K mg "require_lengths" 1 [] [.inl 0]
  c_starts_of_1 : CallOk L K mg "starts_of" 1 [] [.inl 0]
  c_merges_1 : CallOk L K mg "merges" 1 [] [.inl 0]
  c_all_merges_1 : CallOk L K mg "all_merges" 1 [] [.inl 0]
  c_law_mixed_2 : CallOk L K mg "_law_mixed" 2 [] [.inl 0, .inl 1]
  c_law_take_2 : CallOk L K mg "_law_take" 2 [] [.inl 0, .inl 1]
  c_law_pick_2 : CallOk L K mg "_law_pick" 2 [] [.inl 0, .inl 1]
  c_law_starts_1 : CallOk L K mg "_law_starts" 1 [] [.inl 0]
  c_law_level_4 : CallOk L K mg "_law_level" 4 [] [.inl 0, .inl 1, .inl 2, .inl 3]
  c_law_note_3 : CallOk L K mg "_law_note" 3 [] [.inl 0, .inl 1, .inl 2]
  c_law_piled_1 : CallOk L K mg "_law_piled" 1 [] [.inl 0]
  c_law_source_1 : CallOk L K mg "_law_source" 1 [] [.inl 0]
  c_law_lengths_3 : CallOk L K mg "_law_lengths" 3 [] [.inl 0, .inl 1, .inl 2]
  c_law_rounds_1 : CallOk L K mg "_law_rounds" 1 [] [.inl 0]
  c_rounds_1 : CallOk L K mg "rounds" 1 [] [.inl 0]
  c_cost_1 : CallOk L K mg "cost" 1 [] [.inl 0]
  c_cost_0_lengths : CallOk L K mg "cost" 0 ["lengths"] [.inl 0]
  c_rounds_0_lengths : CallOk L K mg "rounds" 0 ["lengths"] [.inl 0]
  k_Stack_1 : MakeOk L K "Stack" 1 [] [.inl 0, .inl 1]
  cm_Stack : mg "Stack" = some (.ref (L.ca "Stack"))
  m_Stack_join_at_1 : MethOk L K "Stack" "join_at" 1 [] [.inl 0, .inl 1]
  m_Stack_come_2 : MethOk L K "Stack" "come" 2 [] [.inl 0, .inl 1, .inl 2]
  m_Stack_end_0 : MethOk L K "Stack" "end" 0 [] [.inl 0]
  n_Stack_joins : NoAttr K (L.ca "Stack") (Str.ofString "joins")
  n_Stack_stack : NoAttr K (L.ca "Stack") (Str.ofString "stack")
  n_Stack_whole : NoAttr K (L.ca "Stack") (Str.ofString "whole")
  e_InvalidLengths : ErrOk L P w K mg base "InvalidLengths" "index"
section
variable {L : Lw} {P : Program} {w : World} {K : PySem.W.Frag} {mg : Str → Option Value} {base : Heap}
theorem sb_is_integer (G : Gx L P w K mg base) (f : Addr) (cdv : Value) (A : Around) (outer : List Env) (s : Shared) (H : Hp) (E : XK) : SB L (cxOf (CX P w) P w K mg base N_is_integer (Str.ofString "is_integer") (defScope st_is_integer) f cdv A outer s H E) (defBody st_is_integer) z_is_integer :=
  (s_bone (s_ret (s_andv (s_isi1 "int" (s_var 0) G.b_isinstance G.b_int boot_int) (s_one (s_notv (s_isi1 "bool" (s_var 0) G.b_isinstance G.b_bool boot_bool))))))
theorem sb_level_between (G : Gx L P w K mg base) (f : Addr) (cdv : Value) (A : Around) (outer : List Env) (s : Shared) (H : Hp) (E : XK) : SB L (cxOf (CX P w) P w K mg base N_level_between (Str.ofString "level_between") (defScope st_level_between) f cdv A outer s H E) (defBody st_level_between) z_level_between :=
  (s_bcons (s_par2 (i := 4) (j := 5) rfl nd_level_between (s_acons (s_bin .add (s_bin .mul s_int (s_var 0)) (s_var 1)) (s_acons s_int s_anil)))
  (s_bcons (s_set (i := 6) nd_level_between (s_bin .add (s_bin .add (s_var 4) (s_var 1)) (s_var 2)))
  (s_bcons (s_whl (passes_of rfl) (s_tw (s_or (s_tcmp .ge (s_var 4) (s_var 3)) (s_or1 (s_tcmp .lt (s_var 6) (s_var 3))))) (s_bcons (s_set (i := 7) nd_level_between (s_ife (s_tcmp .ge (s_var 4) (s_var 3)) (s_var 3) s_int))
  (s_bone (s_par3 (i := 4) (j := 6) (l := 5) rfl nd_level_between (s_acons (s_bin .mul s_int (s_bin .sub (s_var 4) (s_var 7))) (s_acons (s_bin .mul s_int (s_bin .sub (s_var 6) (s_var 7))) (s_acons (s_bin .add (s_var 5) s_int) s_anil)))))))
  (s_bone (s_ret (s_var 5))))))
theorem sb_require_lengths (G : Gx L P w K mg base) (f : Addr) (cdv : Value) (A : Around) (outer : List Env) (s : Shared) (H : Hp) (E : XK) : SB L (cxOf (CX P w) P w K mg base N_require_lengths (Str.ofString "require_lengths") (defScope st_require_lengths) f cdv A outer s H E) (defBody st_require_lengths) z_require_lengths :=
  (s_bcons (s_if (s_tw (s_or (s_not (s_tt (s_isiN (s_var 0) G.b_isinstance (.cons rfl G.b_list boot_list (by decide) (by decide) (by decide) (.cons rfl G.b_tuple boot_tuple (by decide) (by decide) (by decide) .nil))))) (s_or1 (s_not (s_tchain .le .le s_int (b_len G.b_len (s_acons (s_var 0) s_anil)) (s_globN G.g_MAX_LENGTHS)))))) (s_bone (s_rais "InvalidLengths" "index" G.e_InvalidLengths rfl (s_neg s_int)))
  s_bnil)
  (s_bone (s_fore2 (passes_of rfl) rfl (s_ienum (by rfl) G.b_enumerate (s_var 0)) (s_gcons (s_gname (i := 1) nd_require_lengths) (s_gcons (s_gname (i := 2) nd_require_lengths) s_gnil)) (s_bone (s_if (s_tw (s_or (s_not (s_tt (s_callO "is_integer" G.c_is_integer_1 (sc_pos (s_acons (s_var 2) s_anil) 1)))) (s_or1 (s_tcmp .lt (s_var 2) s_int)))) (s_bone (s_rais "InvalidLengths" "index" G.e_InvalidLengths rfl (s_var 1)))
  s_bnil)))))
theorem sb_starts_of (G : Gx L P w K mg base) (f : Addr) (cdv : Value) (A : Around) (outer : List Env) (s : Shared) (H : Hp) (E : XK) : SB L (cxOf (CX P w) P w K mg base N_starts_of (Str.ofString "starts_of") (defScope st_starts_of) f cdv A outer s H E) (defBody st_starts_of) z_starts_of :=
  (s_bcons (s_set (i := 1) nd_starts_of (s_lst (s_acons s_int s_anil)))
  (s_bcons (s_fore (passes_of rfl) rfl (s_iseq (s_var 0)) (s_gname (i := 2) nd_starts_of) (s_bone (s_drop (bm_append (s_var 1) (s_acons (s_bin .add (s_ix (s_var 1) (s_neg s_int)) (s_var 2)) s_anil)))))
  (s_bone (s_ret (s_var 1)))))
theorem sb_Stack_init (G : Gx L P w K mg base) (f : Addr) (cdv : Value) (A : Around) (outer : List Env) (s : Shared) (H : Hp) (E : XK) : SB L (cxOf (CX P w) P w K mg base N_Stack_init (Str.ofString "Stack.__init__") (defScope st_Stack_init) f cdv A outer s H E) (defBody st_Stack_init) z_Stack_init :=
  (s_bone (s_par rfl (s_gcons (s_gfld ["Stack"] "whole" (all_cons G.n_Stack_whole all_nil) (s_var 0)) (s_gcons (s_gfld ["Stack"] "stack" (all_cons G.n_Stack_stack all_nil) (s_var 0)) (s_gcons (s_gfld ["Stack"] "joins" (all_cons G.n_Stack_joins all_nil) (s_var 0)) s_gnil))) (s_acons (s_var 1) (s_acons (s_lst s_anil) (s_acons (s_lst s_anil) s_anil)))))
theorem sb_Stack_join_at (G : Gx L P w K mg base) (f : Addr) (cdv : Value) (A : Around) (outer : List Env) (s : Shared) (H : Hp) (E : XK) : SB L (cxOf (CX P w) P w K mg base N_Stack_join_at (Str.ofString "Stack.join_at") (defScope st_Stack_join_at) f cdv A outer s H E) (defBody st_Stack_join_at) z_Stack_join_at :=
  (s_bcons (s_asg (s_gtup rfl (s_gcons (s_gname (i := 2) nd_Stack_join_at) (s_gcons (s_gname (i := 3) nd_Stack_join_at) (s_gcons (s_gname (i := 4) nd_Stack_join_at) s_gnil)))) (s_ix (s_fld "stack" (s_var 0)) (s_var 1)))
  (s_bcons (s_asg (s_gtup rfl (s_gcons (s_gname (i := 5) nd_Stack_join_at) (s_gcons (s_gname (i := 6) nd_Stack_join_at) s_gnil))) (s_slc (s_ix (s_fld "stack" (s_var 0)) (s_bin .add (s_var 1) s_int)) (s_pso s_int) s_pno))
  (s_bcons (s_asg (s_gslc (s_fld "stack" (s_var 0)) (s_var 1) (s_bin .add (s_var 1) s_int)) (s_lst (s_acons (s_tup (s_acons (s_var 2) (s_acons (s_bin .add (s_var 3) (s_var 5)) (s_acons (s_var 6) s_anil)))) s_anil)))
  (s_bone (s_drop (bm_append (s_fld "joins" (s_var 0)) (s_acons (s_tup (s_acons (s_var 2) (s_acons (s_var 3) (s_acons (s_var 5) s_anil)))) s_anil)))))))
theorem sb_Stack_come (G : Gx L P w K mg base) (f : Addr) (cdv : Value) (A : Around) (outer : List Env) (s : Shared) (H : Hp) (E : XK) : SB L (cxOf (CX P w) P w K mg base N_Stack_come (Str.ofString "Stack.come") (defScope st_Stack_come) f cdv A outer s H E) (defBody st_Stack_come) z_Stack_come :=
  (s_bcons (s_if (s_tcmp .ne (s_fld "stack" (s_var 0)) (s_lst s_anil)) (s_bcons (s_asg (s_gtup rfl (s_gcons (s_gname (i := 3) nd_Stack_come) (s_gcons (s_gname (i := 4) nd_Stack_come) (s_gcons (s_gname (i := 5) nd_Stack_come) s_gnil)))) (s_ix (s_fld "stack" (s_var 0)) (s_neg s_int)))
  (s_bcons (s_set (i := 6) nd_Stack_come (s_callO "level_between" G.c_level_between_4 (sc_pos (s_acons (s_var 3) (s_acons (s_var 4) (s_acons (s_var 2) (s_acons (s_fld "whole" (s_var 0)) s_anil)))) 4)))
  (s_bcons (s_whl (passes_of rfl) (s_tw (s_and (s_tcmp .gt (b_len G.b_len (s_acons (s_fld "stack" (s_var 0)) s_anil)) s_int) (s_and1 (s_tcmp .gt (s_ix (s_ix (s_fld "stack" (s_var 0)) (s_neg s_int)) s_int) (s_var 6))))) (s_bone (s_drop (s_methO ["Stack"] "join_at" (all_cons G.m_Stack_join_at_1 all_nil) (s_var 0) (sc_pos (s_acons (s_bin .sub (b_len G.b_len (s_acons (s_fld "stack" (s_var 0)) s_anil)) s_int) s_anil) 1)))))
  (s_bone (s_asg (s_gsub (s_fld "stack" (s_var 0)) (s_neg s_int)) (s_bin .add (s_slc (s_ix (s_fld "stack" (s_var 0)) (s_neg s_int)) s_pno (s_pso s_int)) (s_tup (s_acons (s_var 6) s_anil))))))))
  s_bnil)
  (s_bone (s_drop (bm_append (s_fld "stack" (s_var 0)) (s_acons (s_tup (s_acons (s_var 1) (s_acons (s_var 2) (s_acons s_non s_anil)))) s_anil)))))
theorem sb_Stack_end (G : Gx L P w K mg base) (f : Addr) (cdv : Value) (A : Around) (outer : List Env) (s : Shared) (H : Hp) (E : XK) : SB L (cxOf (CX P w) P w K mg base N_Stack_end (Str.ofString "Stack.end") (defScope st_Stack_end) f cdv A outer s H E) (defBody st_Stack_end) z_Stack_end :=
  (s_bone (s_whl (passes_of rfl) (s_tcmp .gt (b_len G.b_len (s_acons (s_fld "stack" (s_var 0)) s_anil)) s_int) (s_bcons (s_set (i := 1) nd_Stack_end (s_bin .sub (b_len G.b_len (s_acons (s_fld "stack" (s_var 0)) s_anil)) s_int))
  (s_bcons (s_if (s_tw (s_and (s_tcmp .gt (s_var 1) s_int) (s_and1 (s_tcmp .lt (s_ix (s_ix (s_fld "stack" (s_var 0)) (s_bin .sub (s_var 1) s_int)) s_int) (s_ix (s_ix (s_fld "stack" (s_var 0)) (s_bin .add (s_var 1) s_int)) s_int))))) (s_bone (s_augS (i := 1) nd_Stack_end s_int))
  s_bnil)
  (s_bone (s_drop (s_methO ["Stack"] "join_at" (all_cons G.m_Stack_join_at_1 all_nil) (s_var 0) (sc_pos (s_acons (s_var 1) s_anil) 1))))))))
theorem sb_merges (G : Gx L P w K mg base) (f : Addr) (cdv : Value) (A : Around) (outer : List Env) (s : Shared) (H : Hp) (E : XK) : SB L (cxOf (CX P w) P w K mg base N_merges (Str.ofString "merges") (defScope st_merges) f cdv A outer s H E) (defBody st_merges) z_merges :=
  (s_bcons (s_drop (s_callO "require_lengths" G.c_require_lengths_1 (sc_pos (s_acons (s_var 0) s_anil) 1)))
  (s_bcons (s_set (i := 1) nd_merges (s_makeO "Stack" G.k_Stack_1 G.cm_Stack (sc_pos (s_acons (b_sum (by rfl) G.b_sum (s_acons (s_var 0) s_anil)) s_anil) 1)))
  (s_bcons (s_fore2 (passes_of rfl) rfl (s_izip (by rfl) G.b_zip (s_acons (s_callO "starts_of" G.c_starts_of_1 (sc_pos (s_acons (s_var 0) s_anil) 1)) (s_acons (s_var 0) s_anil))) (s_gcons (s_gname (i := 2) nd_merges) (s_gcons (s_gname (i := 3) nd_merges) s_gnil)) (s_bone (s_drop (s_methO ["Stack"] "come" (all_cons G.m_Stack_come_2 all_nil) (s_var 1) (sc_pos (s_acons (s_var 2) (s_acons (s_var 3) s_anil)) 2)))))
  (s_bcons (s_set (i := 4) nd_merges (b_len G.b_len (s_acons (s_fld "joins" (s_var 1)) s_anil)))
  (s_bcons (s_drop (s_methO ["Stack"] "end" (all_cons G.m_Stack_end_0 all_nil) (s_var 1) sc_none))
  (s_bone (s_ret (s_tup (s_acons (s_slc (s_fld "joins" (s_var 1)) s_pno (s_pso (s_var 4))) (s_acons (s_slc (s_fld "joins" (s_var 1)) (s_pso (s_var 4)) s_pno) s_anil))))))))))
theorem sb_all_merges (G : Gx L P w K mg base) (f : Addr) (cdv : Value) (A : Around) (outer : List Env) (s : Shared) (H : Hp) (E : XK) : SB L (cxOf (CX P w) P w K mg base N_all_merges (Str.ofString "all_merges") (defScope st_all_merges) f cdv A outer s H E) (defBody st_all_merges) z_all_merges :=
  (s_bcons (s_asg (s_gtup rfl (s_gcons (s_gname (i := 1) nd_all_merges) (s_gcons (s_gname (i := 2) nd_all_merges) s_gnil))) (s_callO "merges" G.c_merges_1 (sc_pos (s_acons (s_var 0) s_anil) 1)))
  (s_bone (s_ret (s_bin .add (s_var 1) (s_var 2)))))
theorem sb_cost (G : Gx L P w K mg base) (f : Addr) (cdv : Value) (A : Around) (outer : List Env) (s : Shared) (H : Hp) (E : XK) : SB L (cxOf (CX P w) P w K mg base N_cost (Str.ofString "cost") (defScope st_cost) f cdv A outer s H E) (defBody st_cost) z_cost :=
  (s_bone (s_ret (b_sum (by rfl) G.b_sum (s_acons (s_lcomp (owns := [("start", 1), ("first", 2), ("second", 3)]) rfl nd_cost (s_iseq (s_callO "all_merges" G.c_all_merges_1 (sc_pos (s_acons (s_var 0) s_anil) 1))) (blkOk_by (own := [("start", 1), ("first", 2), ("second", 3)]) (N := N_cost) (sc := defScope st_cost) (by decide +kernel)) (fun _ _ _ _ _ => (s_gtup rfl (s_gcons (s_gname (i := 1) nd_cost) (s_gcons (s_gname (i := 2) nd_cost) (s_gcons (s_gname (i := 3) nd_cost) s_gnil))))) (fun _ _ _ _ _ => s_ts0) (fun _ _ _ _ _ => (s_bin .add (s_var 2) (s_var 3)))) s_anil))))
theorem sb_rounds (G : Gx L P w K mg base) (f : Addr) (cdv : Value) (A : Around) (outer : List Env) (s : Shared) (H : Hp) (E : XK) : SB L (cxOf (CX P w) P w K mg base N_rounds (Str.ofString "rounds") (defScope st_rounds) f cdv A outer s H E) (defBody st_rounds) z_rounds :=
  (s_bcons (s_set (i := 1) nd_rounds (s_callO "all_merges" G.c_all_merges_1 (sc_pos (s_acons (s_var 0) s_anil) 1)))
  (s_bone (s_ret (s_lcomp (owns := [("place", 2)]) rfl nd_rounds (s_iseq (s_slc (s_callO "starts_of" G.c_starts_of_1 (sc_pos (s_acons (s_var 0) s_anil) 1)) s_pno (s_pso (s_neg s_int)))) (blkOk_by (own := [("place", 2)]) (N := N_rounds) (sc := defScope st_rounds) (by decide +kernel)) (fun _ _ _ _ _ => (s_gname (i := 2) nd_rounds)) (fun _ _ _ _ _ => s_ts0) (fun _ _ _ _ _ => (b_len G.b_len (s_acons (s_lcomp (owns := [("start", 3), ("first", 4), ("second", 5)]) rfl nd_rounds (s_iseq (s_var 1)) (blkOk_by (own := [("start", 3), ("first", 4), ("second", 5)]) (by kernel_rfl)) (fun _ _ _ _ _ => (s_gtup rfl (s_gcons (s_gname (i := 3) nd_rounds) (s_gcons (s_gname (i := 4) nd_rounds) (s_gcons (s_gname (i := 5) nd_rounds) s_gnil))))) (fun _ _ _ _ _ => (s_ts1 (s_tchain .le .lt (s_var 3) (s_var 2) (s_bin .add (s_bin .add (s_var 3) (s_var 4)) (s_var 5))))) (fun _ _ _ _ _ => s_int)) s_anil)))))))
theorem sb__law_mixed (G : Gx L P w K mg base) (f : Addr) (cdv : Value) (A : Around) (outer : List Env) (s : Shared) (H : Hp) (E : XK) : SB L (cxOf (CX P w) P w K mg base N__law_mixed (Str.ofString "_law_mixed") (defScope st__law_mixed) f cdv A outer s H E) (defBody st__law_mixed) z__law_mixed :=
  (s_bcons (s_set (i := 2) nd__law_mixed (s_bin .mod (b_int G.b_int (s_acons (s_bin .mul (s_bin .add (s_bin .mod (b_int G.b_int (s_acons (s_var 0) s_anil)) s_int) s_int) (s_bin .add (s_bin .mul (s_var 1) s_int) s_int)) s_anil)) s_int))
  (s_bcons (s_set (i := 2) nd__law_mixed (s_bin .mod (b_int G.b_int (s_acons (s_bin .mul (s_bin .add (s_var 2) (s_bin .mul (s_bin .mod (b_int G.b_int (s_acons (s_bin .fdiv (s_var 0) s_int) s_anil)) s_int) (s_bin .add (s_var 1) s_int))) s_int) s_anil)) s_int))
  (s_bcons (s_set (i := 2) nd__law_mixed (s_bin .mod (b_int G.b_int (s_acons (s_bin .mul (s_var 2) (s_bin .add (s_bin .add (s_bin .fdiv (s_var 2) s_int) s_int) (s_var 1))) s_anil)) s_int))
  (s_bone (s_ret (s_bin .mod (b_int G.b_int (s_acons (s_bin .mul (s_var 2) (s_bin .add (s_bin .fdiv (s_var 2) s_int) s_int)) s_anil)) s_int))))))
theorem sb__law_source (G : Gx L P w K mg base) (f : Addr) (cdv : Value) (A : Around) (outer : List Env) (s : Shared) (H : Hp) (E : XK) : SB L (cxOf (CX P w) P w K mg base N__law_source (Str.ofString "_law_source") (defScope st__law_source) f cdv A outer s H E) (defBody st__law_source) z__law_source :=
  (s_bone (s_ret (s_lst (s_acons (s_var 0) (s_acons (s_var 0) (s_acons s_int s_anil))))))
theorem sb__law_take (G : Gx L P w K mg base) (f : Addr) (cdv : Value) (A : Around) (outer : List Env) (s : Shared) (H : Hp) (E : XK) : SB L (cxOf (CX P w) P w K mg base N__law_take (Str.ofString "_law_take") (defScope st__law_take) f cdv A outer s H E) (defBody st__law_take) z__law_take :=
  (s_bcons (s_if (s_tcmp .ge (s_ix (s_var 0) s_int) (s_bin .pow s_int s_int)) (s_bcons (s_set (i := 2) nd__law_take (s_bin .mod (b_int G.b_int (s_acons (s_ix (s_var 0) s_int) s_anil)) (s_var 1)))
  (s_bcons (s_asg (s_gsub (s_var 0) s_int) (s_bin .fdiv (s_ix (s_var 0) s_int) (s_var 1)))
  (s_bone (s_ret (s_var 2)))))
  s_bnil)
  (s_bcons (s_asg (s_gsub (s_var 0) s_int) (s_bin .add (s_ix (s_var 0) s_int) s_int))
  (s_bone (s_ret (s_bin .mod (b_int G.b_int (s_acons (s_callO "_law_mixed" G.c_law_mixed_2 (sc_pos (s_acons (s_ix (s_var 0) s_int) (s_acons (s_ix (s_var 0) s_int) s_anil)) 2)) s_anil)) (s_var 1))))))
theorem sb__law_pick (G : Gx L P w K mg base) (f : Addr) (cdv : Value) (A : Around) (outer : List Env) (s : Shared) (H : Hp) (E : XK) : SB L (cxOf (CX P w) P w K mg base N__law_pick (Str.ofString "_law_pick") (defScope st__law_pick) f cdv A outer s H E) (defBody st__law_pick) z__law_pick :=
  (s_bone (s_ret (s_ix (s_var 1) (s_callO "_law_take" G.c_law_take_2 (sc_pos (s_acons (s_var 0) (s_acons (b_len G.b_len (s_acons (s_var 1) s_anil)) s_anil)) 2)))))
theorem sb__law_level (G : Gx L P w K mg base) (f : Addr) (cdv : Value) (A : Around) (outer : List Env) (s : Shared) (H : Hp) (E : XK) : SB L (cxOf (CX P w) P w K mg base N__law_level (Str.ofString "_law_level") (defScope st__law_level) f cdv A outer s H E) (defBody st__law_level) z__law_level :=
  (s_bcons (s_set (i := 4) nd__law_level (s_bin .add (s_bin .mul s_int (s_var 0)) (s_var 1)))
  (s_bcons (s_par2 (i := 5) (j := 6) rfl nd__law_level (s_acons (s_bin .add (s_bin .add (s_var 4) (s_var 1)) (s_var 2)) (s_acons s_int s_anil)))
  (s_bcons (s_whl (passes_of rfl) (s_tcmp .eq (s_bin .fdiv (s_bin .shl (s_var 4) (s_var 6)) (s_bin .mul s_int (s_var 3))) (s_bin .fdiv (s_bin .shl (s_var 5) (s_var 6)) (s_bin .mul s_int (s_var 3)))) (s_bone (s_set (i := 6) nd__law_level (s_bin .add (s_var 6) s_int))))
  (s_bone (s_ret (s_var 6))))))
theorem sb__law_lengths (G : Gx L P w K mg base) (f : Addr) (cdv : Value) (A : Around) (outer : List Env) (s : Shared) (H : Hp) (E : XK) : SB L (cxOf (CX P w) P w K mg base N__law_lengths (Str.ofString "_law_lengths") (defScope st__law_lengths) f cdv A outer s H E) (defBody st__law_lengths) z__law_lengths :=
  (s_bcons (s_par rfl (s_gcons (s_gname (i := 3) nd__law_lengths) (s_gcons (s_gname (i := 4) nd__law_lengths) s_gnil)) (s_acons (s_bin .add s_int (s_callO "_law_take" G.c_law_take_2 (sc_pos (s_acons (s_var 0) (s_acons (s_var 1) s_anil)) 2))) (s_acons (s_callO "_law_take" G.c_law_take_2 (sc_pos (s_acons (s_var 0) (s_acons s_int s_anil)) 2)) s_anil)))
  (s_bcons (s_setLc (owns := [("k", 6)]) rfl nd__law_lengths (s_irng1 (by rfl) G.b_range (s_acons (s_var 3) s_anil)) (blkOk_by (own := [("k", 6)]) (N := N__law_lengths) (sc := defScope st__law_lengths) (by decide +kernel)) (fun _ _ _ _ _ => (s_gname (i := 6) nd__law_lengths)) (fun _ _ _ _ _ => s_ts0) (fun _ _ _ _ _ => (s_bin .add s_int (s_callO "_law_take" G.c_law_take_2 (sc_pos (s_acons (s_var 0) (s_acons (s_ix (s_lst (s_acons s_int (s_acons s_int (s_acons s_int s_anil)))) (s_bin .mod (s_var 4) s_int)) s_anil)) 2)))) (i := 5))
  (s_bcons (s_if (s_tcmp .eq (s_var 4) s_int) (s_bone (s_set (i := 5) nd__law_lengths (s_bin .mul (s_lst (s_acons (s_bin .add s_int (s_callO "_law_take" G.c_law_take_2 (sc_pos (s_acons (s_var 0) (s_acons s_int s_anil)) 2))) s_anil)) (s_var 3))))
  s_bnil)
  (s_bcons (s_if (s_tcmp .eq (s_var 4) s_int) (s_bone (s_setLc (owns := [("k", 6)]) rfl nd__law_lengths (s_irng1 (by rfl) G.b_range (s_acons (s_var 3) s_anil)) (blkOk_by (own := [("k", 6)]) (N := N__law_lengths) (sc := defScope st__law_lengths) (by decide +kernel)) (fun _ _ _ _ _ => (s_gname (i := 6) nd__law_lengths)) (fun _ _ _ _ _ => s_ts0) (fun _ _ _ _ _ => (s_bin .shl s_int (s_callO "_law_take" G.c_law_take_2 (sc_pos (s_acons (s_var 0) (s_acons s_int s_anil)) 2)))) (i := 5)))
  s_bnil)
  (s_bcons (s_if (s_tcmp .eq (s_var 4) s_int) (s_bone (s_set (i := 5) nd__law_lengths (b_sortedI G.b_sorted (s_acons (s_var 5) s_anil))))
  s_bnil)
  (s_bcons (s_if (s_tcmp .eq (s_var 4) s_int) (s_bone (s_set (i := 5) nd__law_lengths (s_revs (b_sortedI G.b_sorted (s_acons (s_var 5) s_anil)))))
  s_bnil)
  (s_bcons (s_if (s_tw (s_and (s_tt (s_var 2)) (s_and1 (s_tcmp .eq (s_callO "_law_take" G.c_law_take_2 (sc_pos (s_acons (s_var 0) (s_acons s_int s_anil)) 2)) s_int)))) (s_bone (s_setLc (owns := [("one", 7)]) rfl nd__law_lengths (s_iseq (s_var 5)) (blkOk_by (own := [("one", 7)]) (N := N__law_lengths) (sc := defScope st__law_lengths) (by decide +kernel)) (fun _ _ _ _ _ => (s_gname (i := 7) nd__law_lengths)) (fun _ _ _ _ _ => s_ts0) (fun _ _ _ _ _ => (s_bin .mul (s_var 7) (s_callO "_law_pick" G.c_law_pick_2 (sc_pos (s_acons (s_var 0) (s_acons (s_lst (s_acons s_int (s_acons s_int (s_acons (s_bin .pow s_int s_int) (s_acons (s_bin .pow s_int s_int) s_anil))))) s_anil)) 2)))) (i := 5)))
  s_bnil)
  (s_bone (s_ret (s_var 5))))))))))
theorem sb__law_starts (G : Gx L P w K mg base) (f : Addr) (cdv : Value) (A : Around) (outer : List Env) (s : Shared) (H : Hp) (E : XK) : SB L (cxOf (CX P w) P w K mg base N__law_starts (Str.ofString "_law_starts") (defScope st__law_starts) f cdv A outer s H E) (defBody st__law_starts) z__law_starts :=
  (s_bcons (s_set (i := 1) nd__law_starts (s_lst (s_acons s_int s_anil)))
  (s_bcons (s_fore (passes_of rfl) rfl (s_iseq (s_var 0)) (s_gname (i := 2) nd__law_starts) (s_bone (s_drop (bm_append (s_var 1) (s_acons (s_bin .add (s_ix (s_var 1) (s_neg s_int)) (s_var 2)) s_anil)))))
  (s_bone (s_ret (s_var 1)))))
theorem sb__law_note (G : Gx L P w K mg base) (f : Addr) (cdv : Value) (A : Around) (outer : List Env) (s : Shared) (H : Hp) (E : XK) : SB L (cxOf (CX P w) P w K mg base N__law_note (Str.ofString "_law_note") (defScope st__law_note) f cdv A outer s H E) (defBody st__law_note) z__law_note :=
  (s_bcons (s_asg (s_gtup rfl (s_gcons (s_gname (i := 3) nd__law_note) (s_gcons (s_gname (i := 4) nd__law_note) (s_gcons (s_gname (i := 5) nd__law_note) s_gnil)))) (s_ix (s_var 0) (s_var 2)))
  (s_bcons (s_asg (s_gtup rfl (s_gcons (s_gname (i := 6) nd__law_note) (s_gcons (s_gname (i := 7) nd__law_note) s_gnil))) (s_slc (s_ix (s_var 0) (s_bin .add (s_var 2) s_int)) (s_pso s_int) s_pno))
  (s_bcons (s_asg (s_gslc (s_var 0) (s_var 2) (s_bin .add (s_var 2) s_int)) (s_lst (s_acons (s_tup (s_acons (s_var 3) (s_acons (s_bin .add (s_var 4) (s_var 6)) (s_acons (s_var 7) s_anil)))) s_anil)))
  (s_bone (s_drop (bm_append (s_var 1) (s_acons (s_tup (s_acons (s_var 3) (s_acons (s_var 4) (s_acons (s_var 6) s_anil)))) s_anil)))))))
theorem sb__law_piled (G : Gx L P w K mg base) (f : Addr) (cdv : Value) (A : Around) (outer : List Env) (s : Shared) (H : Hp) (E : XK) : SB L (cxOf (CX P w) P w K mg base N__law_piled (Str.ofString "_law_piled") (defScope st__law_piled) f cdv A outer s H E) (defBody st__law_piled) z__law_piled :=
  (s_bcons (s_par rfl (s_gcons (s_gname (i := 1) nd__law_piled) (s_gcons (s_gname (i := 2) nd__law_piled) (s_gcons (s_gname (i := 3) nd__law_piled) (s_gcons (s_gname (i := 4) nd__law_piled) s_gnil)))) (s_acons (s_callO "_law_starts" G.c_law_starts_1 (sc_pos (s_acons (s_var 0) s_anil) 1)) (s_acons (s_lst s_anil) (s_acons (s_lst s_anil) (s_acons (s_lst s_anil) s_anil)))))
  (s_bcons (s_fore2 (passes_of rfl) rfl (s_ienum (by rfl) G.b_enumerate (s_var 0)) (s_gcons (s_gname (i := 5) nd__law_piled) (s_gcons (s_gname (i := 6) nd__law_piled) s_gnil)) (s_bcons (s_if (s_tcmp .gt (s_var 5) s_int) (s_bcons (s_set (i := 7) nd__law_piled (s_callO "_law_level" G.c_law_level_4 (sc_pos (s_acons (s_ix (s_var 1) (s_bin .sub (s_var 5) s_int)) (s_acons (s_ix (s_var 0) (s_bin .sub (s_var 5) s_int)) (s_acons (s_var 6) (s_acons (s_ix (s_var 1) (s_neg s_int)) s_anil)))) 4)))
  (s_bcons (s_whl (passes_of rfl) (s_tw (s_and (s_tcmp .gt (b_len G.b_len (s_acons (s_var 2) s_anil)) s_int) (s_and1 (s_tcmp .gt (s_ix (s_ix (s_var 2) (s_neg s_int)) s_int) (s_var 7))))) (s_bone (s_drop (s_callO "_law_note" G.c_law_note_3 (sc_pos (s_acons (s_var 2) (s_acons (s_var 3) (s_acons (s_bin .sub (b_len G.b_len (s_acons (s_var 2) s_anil)) s_int) s_anil))) 3)))))
  (s_bone (s_asg (s_gsub (s_var 2) (s_neg s_int)) (s_bin .add (s_slc (s_ix (s_var 2) (s_neg s_int)) s_pno (s_pso s_int)) (s_tup (s_acons (s_var 7) s_anil)))))))
  s_bnil)
  (s_bcons (s_drop (bm_append (s_var 2) (s_acons (s_tup (s_acons (s_ix (s_var 1) (s_var 5)) (s_acons (s_var 6) (s_acons s_non s_anil)))) s_anil)))
  (s_bone (s_drop (bm_append (s_var 4) (s_acons (b_list G.b_list (s_acons (s_var 2) s_anil)) s_anil)))))))
  (s_bcons (s_set (i := 8) nd__law_piled (b_len G.b_len (s_acons (s_var 3) s_anil)))
  (s_bcons (s_whl (passes_of rfl) (s_tcmp .gt (b_len G.b_len (s_acons (s_var 2) s_anil)) s_int) (s_bcons (s_set (i := 9) nd__law_piled (s_bin .sub (b_len G.b_len (s_acons (s_var 2) s_anil)) s_int))
  (s_bcons (s_if (s_tw (s_and (s_tcmp .gt (s_var 9) s_int) (s_and1 (s_tcmp .lt (s_ix (s_ix (s_var 2) (s_bin .sub (s_var 9) s_int)) s_int) (s_ix (s_ix (s_var 2) (s_bin .add (s_var 9) s_int)) s_int))))) (s_bone (s_set (i := 9) nd__law_piled (s_bin .sub (s_var 9) s_int)))
  s_bnil)
  (s_bone (s_drop (s_callO "_law_note" G.c_law_note_3 (sc_pos (s_acons (s_var 2) (s_acons (s_var 3) (s_acons (s_var 9) s_anil))) 3)))))))
  (s_bone (s_ret (s_tup (s_acons (s_var 4) (s_acons (s_slc (s_var 3) s_pno (s_pso (s_var 8))) (s_acons (s_slc (s_var 3) (s_pso (s_var 8)) s_pno) s_anil))))))))))
theorem sb__law_rounds (G : Gx L P w K mg base) (f : Addr) (cdv : Value) (A : Around) (outer : List Env) (s : Shared) (H : Hp) (E : XK) : SB L (cxOf (CX P w) P w K mg base N__law_rounds (Str.ofString "_law_rounds") (defScope st__law_rounds) f cdv A outer s H E) (defBody st__law_rounds) z__law_rounds :=
  (s_bcons (s_asg (s_gtup rfl (s_gcons (s_gname (i := 1) nd__law_rounds) (s_gcons (s_gname (i := 2) nd__law_rounds) (s_gcons (s_gname (i := 3) nd__law_rounds) s_gnil)))) (s_callO "_law_piled" G.c_law_piled_1 (sc_pos (s_acons (s_var 0) s_anil) 1)))
  (s_bcons (s_par2 (i := 4) (j := 5) rfl nd__law_rounds (s_acons (s_bin .mul (s_lst (s_acons s_int s_anil)) (b_len G.b_len (s_acons (s_var 0) s_anil))) (s_acons (s_callO "_law_starts" G.c_law_starts_1 (sc_pos (s_acons (s_var 0) s_anil) 1)) s_anil)))
  (s_bcons (s_fore (passes_of rfl) rfl (s_iseq (s_bin .add (s_var 2) (s_var 3))) (s_gtup rfl (s_gcons (s_gname (i := 6) nd__law_rounds) (s_gcons (s_gname (i := 7) nd__law_rounds) (s_gcons (s_gname (i := 8) nd__law_rounds) s_gnil)))) (s_bone (s_fore (passes_of rfl) rfl (s_irng1 (by rfl) G.b_range (s_acons (b_len G.b_len (s_acons (s_var 0) s_anil)) s_anil)) (s_gname (i := 9) nd__law_rounds) (s_bone (s_asg (s_gsub (s_var 4) (s_var 9)) (s_bin .add (s_ix (s_var 4) (s_var 9)) (b_int G.b_int (s_acons (s_andv (s_cmp .le (s_var 6) (s_ix (s_var 5) (s_var 9))) (s_one (s_cmp .le (s_ix (s_var 5) (s_bin .add (s_var 9) s_int)) (s_bin .add (s_bin .add (s_var 6) (s_var 7)) (s_var 8))))) s_anil))))))))
  (s_bone (s_ret (s_var 4))))))
theorem sb_law (G : Gx L P w K mg base) (f : Addr) (cdv : Value) (A : Around) (outer : List Env) (s : Shared) (H : Hp) (E : XK) : SB L (cxOf (CX P w) P w K mg base N_law (Str.ofString "law") (defScope st_law) f cdv A outer s H E) (defBody st_law) z_law :=
  (s_bcons (s_fore2 (passes_of rfl) rfl (s_ienum (by rfl) G.b_enumerate (s_slc (s_bin .add (s_var 0) (s_lst (s_acons s_int s_anil))) s_pno (s_pso s_int))) (s_gcons (s_gname (i := 1) nd_law) (s_gcons (s_gname (i := 2) nd_law) s_gnil)) (s_bcons (s_set (i := 3) nd_law (s_callO "_law_source" G.c_law_source_1 (sc_pos (s_acons (s_var 2) s_anil) 1)))
  (s_bcons (s_par rfl (s_gcons (s_gname (i := 4) nd_law) (s_gcons (s_gname (i := 5) nd_law) s_gnil)) (s_acons (s_callO "_law_lengths" G.c_law_lengths_3 (sc_pos (s_acons (s_var 3) (s_acons (s_ife (s_tcmp .gt (s_var 1) s_int) s_int s_int) (s_acons s_bl s_anil))) 3)) (s_acons (s_bin .add s_int (s_callO "_law_take" G.c_law_take_2 (sc_pos (s_acons (s_var 3) (s_acons (s_bin .pow s_int s_int) s_anil)) 2))) s_anil)))
  (s_bcons (s_set (i := 6) nd_law (s_callO "_law_rounds" G.c_law_rounds_1 (sc_pos (s_acons (s_var 4) s_anil) 1)))
  (s_bcons (s_set (i := 7) nd_law (b_sum (by rfl) G.b_sum (s_acons (s_lcomp2 (owns := [("one", 10), ("turns", 11)]) rfl nd_law (s_izip (by rfl) G.b_zip (s_acons (s_var 4) (s_acons (s_var 6) s_anil))) (blkOk_by (own := [("one", 10), ("turns", 11)]) (N := N_law) (sc := defScope st_law) (by decide +kernel)) (fun _ _ _ _ _ => (s_gcons (s_gname (i := 10) nd_law) (s_gcons (s_gname (i := 11) nd_law) s_gnil))) (fun _ _ _ _ _ => s_ts0) (fun _ _ _ _ _ => (s_bin .mul (s_var 10) (s_var 11)))) s_anil)))
  (s_bcons (s_set (i := 8) nd_law (s_callO "rounds" G.c_rounds_1 (sc_pos (s_acons (s_var 4) s_anil) 1)))
  (s_bcons (s_if (s_tw (s_or (s_tcmp .ne (s_var 8) (s_var 6)) (s_or (s_tcmp .ne (s_callO "cost" G.c_cost_1 (sc_pos (s_acons (s_var 4) s_anil) 1)) (s_var 7)) (s_or1 (s_tcmp .ne (s_callO "cost" G.c_cost_0_lengths (sc_kw0 (s_kcons (b_tuple G.b_tuple (s_acons (s_var 4) s_anil)) s_knil))) (s_var 7)))))) (s_bone (s_ret s_bl))
  s_bnil)
  (s_bcons (s_drop (bm_append (s_var 8) (s_acons s_non s_anil)))
  (s_bcons (s_if (s_tcmp .ne (s_callO "rounds" G.c_rounds_0_lengths (sc_kw0 (s_kcons (b_tuple G.b_tuple (s_acons (s_var 4) s_anil)) s_knil))) (s_var 6)) (s_bone (s_ret s_bl))
  s_bnil)
  (s_bcons (s_setLc (owns := [("one", 10)]) rfl nd_law (s_iseq (s_var 4)) (blkOk_by (own := [("one", 10)]) (N := N_law) (sc := defScope st_law) (by decide +kernel)) (fun _ _ _ _ _ => (s_gname (i := 10) nd_law)) (fun _ _ _ _ _ => s_ts0) (fun _ _ _ _ _ => (s_bin .mul (s_var 10) (s_var 5))) (i := 9))
  (s_bone (s_if (s_tw (s_or (s_tcmp .ne (s_callO "rounds" G.c_rounds_1 (sc_pos (s_acons (s_var 9) s_anil) 1)) (s_var 6)) (s_or1 (s_tcmp .ne (s_callO "cost" G.c_cost_1 (sc_pos (s_acons (s_var 9) s_anil) 1)) (s_bin .mul (s_var 7) (s_var 5)))))) (s_bone (s_ret s_bl))
  s_bnil))))))))))))
  (s_bone (s_ret (s_andv (s_cmp .eq (s_callO "cost" G.c_cost_1 (sc_pos (s_acons (s_lst (s_acons s_int s_anil)) s_anil) 1)) s_int) (s_andv (s_cmp .eq (s_callO "rounds" G.c_rounds_1 (sc_pos (s_acons (s_lst (s_acons s_int s_anil)) s_anil) 1)) (s_lst (s_acons s_int s_anil))) (s_one (s_cmp .eq (s_lst (s_acons (s_callO "cost" G.c_cost_1 (sc_pos (s_acons (s_lst (s_acons s_int (s_acons s_int (s_acons s_int s_anil)))) s_anil) 1)) (s_acons (s_callO "rounds" G.c_rounds_1 (sc_pos (s_acons (s_lst (s_acons s_int (s_acons s_int (s_acons s_int s_anil)))) s_anil) 1)) s_anil))) (s_lst (s_acons s_int (s_acons (s_lst (s_acons s_int (s_acons s_int (s_acons s_int s_anil)))) s_anil))))))))))
theorem pb_InvalidLengths {S f : Addr} {cdv : Value} (B : BaseE K mg "SortError" S) (A : Around) (outer : List Env) (s : Shared) (H : Hp) (E : XK) : PSs (cxOf (CX P w) P w K mg base ["self", "index"] (Str.ofString "InvalidLengths.__init__") (defScope st_InvalidLengths) f cdv A outer s H E) (defBody st_InvalidLengths) (errT K "these are no lengths" (Str.ofString "index")) :=
  pss_cons (ps_expr (pe_binit B rfl (pa_cons (pv 0) (pa_cons pe_str pa_nil)))) (pss_one (ps_ost (pv 0) (pv 1)))
end
theorem all_mk {P : Program} {w : World} {K : PySem.W.Frag} {mg : Str → Option Value} {h : Heap} {fa : Addr} {S0 : Addr} {C_Stack : Addr} {f0 : Addr} {oc0 kV0 dc0 pm0 cd0 ct0 : Value} {od0 an0 : Option Addr} {sl0 : Array (Option Value)} {f1 : Addr} {oc1 kV1 dc1 pm1 cd1 ct1 : Value} {od1 an1 : Option Addr} {sl1 : Array (Option Value)} {f2 : Addr} {oc2 kV2 dc2 pm2 cd2 ct2 : Value} {od2 an2 : Option Addr} {sl2 : Array (Option Value)} {f3 : Addr} {oc3 kV3 dc3 pm3 cd3 ct3 : Value} {od3 an3 : Option Addr} {sl3 : Array (Option Value)} {f4 : Addr} {oc4 kV4 dc4 pm4 cd4 ct4 : Value} {od4 an4 : Option Addr} {sl4 : Array (Option Value)} {f5 : Addr} {oc5 kV5 dc5 pm5 cd5 ct5 : Value} {od5 an5 : Option Addr} {sl5 : Array (Option Value)} {f6 : Addr} {oc6 kV6 dc6 pm6 cd6 ct6 : Value} {od6 an6 : Option Addr} {sl6 : Array (Option Value)} {f7 : Addr} {oc7 kV7 dc7 pm7 cd7 ct7 : Value} {od7 an7 : Option Addr} {sl7 : Array (Option Value)} {f8 : Addr} {oc8 kV8 dc8 pm8 cd8 ct8 : Value} {od8 an8 : Option Addr} {sl8 : Array (Option Value)} {f9 : Addr} {oc9 kV9 dc9 pm9 cd9 ct9 : Value} {od9 an9 : Option Addr} {sl9 : Array (Option Value)} {f10 : Addr} {oc10 kV10 dc10 pm10 cd10 ct10 : Value} {od10 an10 : Option Addr} {sl10 : Array (Option Value)} {f11 : Addr} {oc11 kV11 dc11 pm11 cd11 ct11 : Value} {od11 an11 : Option Addr} {sl11 : Array (Option Value)} {f12 : Addr} {oc12 kV12 dc12 pm12 cd12 ct12 : Value} {od12 an12 : Option Addr} {sl12 : Array (Option Value)} {f13 : Addr} {oc13 kV13 dc13 pm13 cd13 ct13 : Value} {od13 an13 : Option Addr} {sl13 : Array (Option Value)} {f14 : Addr} {oc14 kV14 dc14 pm14 cd14 ct14 : Value} {od14 an14 : Option Addr} {sl14 : Array (Option Value)} {f15 : Addr} {oc15 kV15 dc15 pm15 cd15 ct15 : Value} {od15 an15 : Option Addr} {sl15 : Array (Option Value)} {f16 : Addr} {oc16 kV16 dc16 pm16 cd16 ct16 : Value} {od16 an16 : Option Addr} {sl16 : Array (Option Value)} {f17 : Addr} {oc17 kV17 dc17 pm17 cd17 ct17 : Value} {od17 an17 : Option Addr} {sl17 : Array (Option Value)} {f18 : Addr} {oc18 kV18 dc18 pm18 cd18 ct18 : Value} {od18 an18 : Option Addr} {sl18 : Array (Option Value)} {f19 : Addr} {oc19 kV19 dc19 pm19 cd19 ct19 : Value} {od19 an19 : Option Addr} {sl19 : Array (Option Value)} {f20 : Addr} {oc20 kV20 dc20 pm20 cd20 ct20 : Value} {od20 an20 : Option Addr} {sl20 : Array (Option Value)} {f21 : Addr} {oc21 kV21 dc21 pm21 cd21 ct21 : Value} {od21 an21 : Option Addr} {sl21 : Array (Option Value)} {f22 : Addr} {oc22 kV22 dc22 pm22 cd22 ct22 : Value} {od22 an22 : Option Addr} {sl22 : Array (Option Value)} {C_InvalidLengths fIInvalidLengths NInvalidLengths : Addr} {nmInvalidLengths qInvalidLengths : Str} {bsInvalidLengths suInvalidLengths : List Value} {snInvalidLengths : List Str} {abInvalidLengths : Bool} {coInvalidLengths : Option Bool} {ddInvalidLengths : Option Addr} {m0InvalidLengths m1InvalidLengths m2InvalidLengths m3InvalidLengths m5InvalidLengths : Option Value} {ocInvalidLengths kVInvalidLengths dcInvalidLengths pmInvalidLengths cdInvalidLengths ctInvalidLengths : Value} {odInvalidLengths anInvalidLengths : Option Addr} {slInvalidLengths : Array (Option Value)} {t_MAX_LENGTHS : Tok} (X : K.In h) (Gn : h.Ns mainGlobals mg) (hfa : mg (Str.ofString "law") = some (.ref fa))
    (xStack : PySem.W.nsIn K mainGlobals "Stack" = some (some (.ref C_Stack)))
    (pgStack : PySem.W.plainGet K C_Stack Str.empty = true)
    (hdStack : PySem.W.hasDictIn K C_Stack = true)
    (poStack : PySem.W.plainOver K C_Stack = true)
    (saStack : PySem.W.findIn K (.ref C_Stack) "__setattr__" = some (some (.builtin "object.__setattr__")))
    (mkStack : PySem.W.makesIn K C_Stack = true)
    (kcStack : PySem.W.keepIn K (.ref C_Stack) = true)
    (sB : PySem.W.nsIn K mainGlobals "SortError" = some (some (.ref S0)))
    (gB : PySem.W.specialIn K (.ref S0) "__getattribute__" = some (some (.builtin "type.__getattribute__")))
    (rB : PySem.W.readsIn K S0 (.type "type") = true)
    (fB : PySem.W.findCls K (.ref S0) (.type "type") "__init__" = some (.val (.builtin "ValueError.__init__")))
    (a0 : PySem.W.nsIn K mainGlobals "is_integer" = some (some (.ref f0)))
    (l0 : K.lookup f0 = some ⟨oc0, od0, .func (PySem.W.fnOf (Str.ofString "is_integer") (Str.ofString "is_integer") (defArgs st_is_integer) (defBody st_is_integer) (defScope st_is_integer) .none kV0 dc0 pm0 an0 cd0 ct0), sl0⟩)
    (c0 : PySem.W.codeIn K cd0 (Str.ofString "is_integer") = true)
    (k0 : PySem.W.keepIn K (.ref f0) = true)
    (a1 : PySem.W.nsIn K mainGlobals "level_between" = some (some (.ref f1)))
    (l1 : K.lookup f1 = some ⟨oc1, od1, .func (PySem.W.fnOf (Str.ofString "level_between") (Str.ofString "level_between") (defArgs st_level_between) (defBody st_level_between) (defScope st_level_between) .none kV1 dc1 pm1 an1 cd1 ct1), sl1⟩)
    (c1 : PySem.W.codeIn K cd1 (Str.ofString "level_between") = true)
    (k1 : PySem.W.keepIn K (.ref f1) = true)
    (a2 : PySem.W.nsIn K mainGlobals "require_lengths" = some (some (.ref f2)))
    (l2 : K.lookup f2 = some ⟨oc2, od2, .func (PySem.W.fnOf (Str.ofString "require_lengths") (Str.ofString "require_lengths") (defArgs st_require_lengths) (defBody st_require_lengths) (defScope st_require_lengths) .none kV2 dc2 pm2 an2 cd2 ct2), sl2⟩)
    (c2 : PySem.W.codeIn K cd2 (Str.ofString "require_lengths") = true)
    (k2 : PySem.W.keepIn K (.ref f2) = true)
    (a3 : PySem.W.nsIn K mainGlobals "starts_of" = some (some (.ref f3)))
    (l3 : K.lookup f3 = some ⟨oc3, od3, .func (PySem.W.fnOf (Str.ofString "starts_of") (Str.ofString "starts_of") (defArgs st_starts_of) (defBody st_starts_of) (defScope st_starts_of) .none kV3 dc3 pm3 an3 cd3 ct3), sl3⟩)
    (c3 : PySem.W.codeIn K cd3 (Str.ofString "starts_of") = true)
    (k3 : PySem.W.keepIn K (.ref f3) = true)
    (a4 : PySem.W.findIn K (.ref C_Stack) (Str.ofString "__init__") = some (some (.ref f4)))
    (i4 : PySem.W.isFn K (.ref f4) = true)
    (l4 : K.lookup f4 = some ⟨oc4, od4, .func (PySem.W.fnOf (Str.ofString "__init__") (Str.ofString "Stack.__init__") (defArgs st_Stack_init) (defBody st_Stack_init) (defScope st_Stack_init) .none kV4 dc4 pm4 an4 cd4 ct4), sl4⟩)
    (c4 : PySem.W.codeIn K cd4 (Str.ofString "Stack.__init__") = true)
    (k4 : PySem.W.keepIn K (.ref f4) = true)
    (a5 : PySem.W.findIn K (.ref C_Stack) (Str.ofString "join_at") = some (some (.ref f5)))
    (i5 : PySem.W.isFn K (.ref f5) = true)
    (l5 : K.lookup f5 = some ⟨oc5, od5, .func (PySem.W.fnOf (Str.ofString "join_at") (Str.ofString "Stack.join_at") (defArgs st_Stack_join_at) (defBody st_Stack_join_at) (defScope st_Stack_join_at) .none kV5 dc5 pm5 an5 cd5 ct5), sl5⟩)
    (c5 : PySem.W.codeIn K cd5 (Str.ofString "Stack.join_at") = true)
    (k5 : PySem.W.keepIn K (.ref f5) = true)
    (a6 : PySem.W.findIn K (.ref C_Stack) (Str.ofString "come") = some (some (.ref f6)))
    (i6 : PySem.W.isFn K (.ref f6) = true)
    (l6 : K.lookup f6 = some ⟨oc6, od6, .func (PySem.W.fnOf (Str.ofString "come") (Str.ofString "Stack.come") (defArgs st_Stack_come) (defBody st_Stack_come) (defScope st_Stack_come) .none kV6 dc6 pm6 an6 cd6 ct6), sl6⟩)
    (c6 : PySem.W.codeIn K cd6 (Str.ofString "Stack.come") = true)
    (k6 : PySem.W.keepIn K (.ref f6) = true)
    (a7 : PySem.W.findIn K (.ref C_Stack) (Str.ofString "end") = some (some (.ref f7)))
    (i7 : PySem.W.isFn K (.ref f7) = true)
    (l7 : K.lookup f7 = some ⟨oc7, od7, .func (PySem.W.fnOf (Str.ofString "end") (Str.ofString "Stack.end") (defArgs st_Stack_end) (defBody st_Stack_end) (defScope st_Stack_end) .none kV7 dc7 pm7 an7 cd7 ct7), sl7⟩)
    (c7 : PySem.W.codeIn K cd7 (Str.ofString "Stack.end") = true)
    (k7 : PySem.W.keepIn K (.ref f7) = true)
    (a8 : PySem.W.nsIn K mainGlobals "merges" = some (some (.ref f8)))
    (l8 : K.lookup f8 = some ⟨oc8, od8, .func (PySem.W.fnOf (Str.ofString "merges") (Str.ofString "merges") (defArgs st_merges) (defBody st_merges) (defScope st_merges) .none kV8 dc8 pm8 an8 cd8 ct8), sl8⟩)
    (c8 : PySem.W.codeIn K cd8 (Str.ofString "merges") = true)
    (k8 : PySem.W.keepIn K (.ref f8) = true)
    (a9 : PySem.W.nsIn K mainGlobals "all_merges" = some (some (.ref f9)))
    (l9 : K.lookup f9 = some ⟨oc9, od9, .func (PySem.W.fnOf (Str.ofString "all_merges") (Str.ofString "all_merges") (defArgs st_all_merges) (defBody st_all_merges) (defScope st_all_merges) .none kV9 dc9 pm9 an9 cd9 ct9), sl9⟩)
    (c9 : PySem.W.codeIn K cd9 (Str.ofString "all_merges") = true)
    (k9 : PySem.W.keepIn K (.ref f9) = true)
    (a10 : PySem.W.nsIn K mainGlobals "cost" = some (some (.ref f10)))
    (l10 : K.lookup f10 = some ⟨oc10, od10, .func (PySem.W.fnOf (Str.ofString "cost") (Str.ofString "cost") (defArgs st_cost) (defBody st_cost) (defScope st_cost) .none kV10 dc10 pm10 an10 cd10 ct10), sl10⟩)
    (c10 : PySem.W.codeIn K cd10 (Str.ofString "cost") = true)
    (k10 : PySem.W.keepIn K (.ref f10) = true)
    (a11 : PySem.W.nsIn K mainGlobals "rounds" = some (some (.ref f11)))
    (l11 : K.lookup f11 = some ⟨oc11, od11, .func (PySem.W.fnOf (Str.ofString "rounds") (Str.ofString "rounds") (defArgs st_rounds) (defBody st_rounds) (defScope st_rounds) .none kV11 dc11 pm11 an11 cd11 ct11), sl11⟩)
    (c11 : PySem.W.codeIn K cd11 (Str.ofString "rounds") = true)
    (k11 : PySem.W.keepIn K (.ref f11) = true)
    (a12 : PySem.W.nsIn K mainGlobals "_law_mixed" = some (some (.ref f12)))
    (l12 : K.lookup f12 = some ⟨oc12, od12, .func (PySem.W.fnOf (Str.ofString "_law_mixed") (Str.ofString "_law_mixed") (defArgs st__law_mixed) (defBody st__law_mixed) (defScope st__law_mixed) .none kV12 dc12 pm12 an12 cd12 ct12), sl12⟩)
    (c12 : PySem.W.codeIn K cd12 (Str.ofString "_law_mixed") = true)
    (k12 : PySem.W.keepIn K (.ref f12) = true)
    (a13 : PySem.W.nsIn K mainGlobals "_law_source" = some (some (.ref f13)))
    (l13 : K.lookup f13 = some ⟨oc13, od13, .func (PySem.W.fnOf (Str.ofString "_law_source") (Str.ofString "_law_source") (defArgs st__law_source) (defBody st__law_source) (defScope st__law_source) .none kV13 dc13 pm13 an13 cd13 ct13), sl13⟩)
    (c13 : PySem.W.codeIn K cd13 (Str.ofString "_law_source") = true)
    (k13 : PySem.W.keepIn K (.ref f13) = true)
    (a14 : PySem.W.nsIn K mainGlobals "_law_take" = some (some (.ref f14)))
    (l14 : K.lookup f14 = some ⟨oc14, od14, .func (PySem.W.fnOf (Str.ofString "_law_take") (Str.ofString "_law_take") (defArgs st__law_take) (defBody st__law_take) (defScope st__law_take) .none kV14 dc14 pm14 an14 cd14 ct14), sl14⟩)
    (c14 : PySem.W.codeIn K cd14 (Str.ofString "_law_take") = true)
    (k14 : PySem.W.keepIn K (.ref f14) = true)
    (a15 : PySem.W.nsIn K mainGlobals "_law_pick" = some (some (.ref f15)))
    (l15 : K.lookup f15 = some ⟨oc15, od15, .func (PySem.W.fnOf (Str.ofString "_law_pick") (Str.ofString "_law_pick") (defArgs st__law_pick) (defBody st__law_pick) (defScope st__law_pick) .none kV15 dc15 pm15 an15 cd15 ct15), sl15⟩)
    (c15 : PySem.W.codeIn K cd15 (Str.ofString "_law_pick") = true)
    (k15 : PySem.W.keepIn K (.ref f15) = true)
    (a16 : PySem.W.nsIn K mainGlobals "_law_level" = some (some (.ref f16)))
    (l16 : K.lookup f16 = some ⟨oc16, od16, .func (PySem.W.fnOf (Str.ofString "_law_level") (Str.ofString "_law_level") (defArgs st__law_level) (defBody st__law_level) (defScope st__law_level) .none kV16 dc16 pm16 an16 cd16 ct16), sl16⟩)
    (c16 : PySem.W.codeIn K cd16 (Str.ofString "_law_level") = true)
    (k16 : PySem.W.keepIn K (.ref f16) = true)
    (a17 : PySem.W.nsIn K mainGlobals "_law_lengths" = some (some (.ref f17)))
    (l17 : K.lookup f17 = some ⟨oc17, od17, .func (PySem.W.fnOf (Str.ofString "_law_lengths") (Str.ofString "_law_lengths") (defArgs st__law_lengths) (defBody st__law_lengths) (defScope st__law_lengths) .none kV17 dc17 pm17 an17 cd17 ct17), sl17⟩)
    (c17 : PySem.W.codeIn K cd17 (Str.ofString "_law_lengths") = true)
    (k17 : PySem.W.keepIn K (.ref f17) = true)
    (a18 : PySem.W.nsIn K mainGlobals "_law_starts" = some (some (.ref f18)))
    (l18 : K.lookup f18 = some ⟨oc18, od18, .func (PySem.W.fnOf (Str.ofString "_law_starts") (Str.ofString "_law_starts") (defArgs st__law_starts) (defBody st__law_starts) (defScope st__law_starts) .none kV18 dc18 pm18 an18 cd18 ct18), sl18⟩)
    (c18 : PySem.W.codeIn K cd18 (Str.ofString "_law_starts") = true)
    (k18 : PySem.W.keepIn K (.ref f18) = true)
    (a19 : PySem.W.nsIn K mainGlobals "_law_note" = some (some (.ref f19)))
    (l19 : K.lookup f19 = some ⟨oc19, od19, .func (PySem.W.fnOf (Str.ofString "_law_note") (Str.ofString "_law_note") (defArgs st__law_note) (defBody st__law_note) (defScope st__law_note) .none kV19 dc19 pm19 an19 cd19 ct19), sl19⟩)
    (c19 : PySem.W.codeIn K cd19 (Str.ofString "_law_note") = true)
    (k19 : PySem.W.keepIn K (.ref f19) = true)
    (a20 : PySem.W.nsIn K mainGlobals "_law_piled" = some (some (.ref f20)))
    (l20 : K.lookup f20 = some ⟨oc20, od20, .func (PySem.W.fnOf (Str.ofString "_law_piled") (Str.ofString "_law_piled") (defArgs st__law_piled) (defBody st__law_piled) (defScope st__law_piled) .none kV20 dc20 pm20 an20 cd20 ct20), sl20⟩)
    (c20 : PySem.W.codeIn K cd20 (Str.ofString "_law_piled") = true)
    (k20 : PySem.W.keepIn K (.ref f20) = true)
    (a21 : PySem.W.nsIn K mainGlobals "_law_rounds" = some (some (.ref f21)))
    (l21 : K.lookup f21 = some ⟨oc21, od21, .func (PySem.W.fnOf (Str.ofString "_law_rounds") (Str.ofString "_law_rounds") (defArgs st__law_rounds) (defBody st__law_rounds) (defScope st__law_rounds) .none kV21 dc21 pm21 an21 cd21 ct21), sl21⟩)
    (c21 : PySem.W.codeIn K cd21 (Str.ofString "_law_rounds") = true)
    (k21 : PySem.W.keepIn K (.ref f21) = true)
    (a22 : PySem.W.nsIn K mainGlobals "law" = some (some (.ref f22)))
    (l22 : K.lookup f22 = some ⟨oc22, od22, .func (PySem.W.fnOf (Str.ofString "law") (Str.ofString "law") (defArgs st_law) (defBody st_law) (defScope st_law) .none kV22 dc22 pm22 an22 cd22 ct22), sl22⟩)
    (c22 : PySem.W.codeIn K cd22 (Str.ofString "law") = true)
    (k22 : PySem.W.keepIn K (.ref f22) = true)
    (nfStackjoins : PySem.W.findIn K (.ref C_Stack) (Str.ofString "joins") = some none)
    (nfStackstack : PySem.W.findIn K (.ref C_Stack) (Str.ofString "stack") = some none)
    (nfStackwhole : PySem.W.findIn K (.ref C_Stack) (Str.ofString "whole") = some none)
    (xInvalidLengths : PySem.W.nsIn K mainGlobals "InvalidLengths" = some (some (.ref C_InvalidLengths)))
    (xlInvalidLengths : K.lookup C_InvalidLengths = some (excClassObj nmInvalidLengths qInvalidLengths C_InvalidLengths NInvalidLengths bsInvalidLengths [.ref S0, .type "ValueError", .type "Exception", .type "BaseException", .type "object"] true snInvalidLengths suInvalidLengths abInvalidLengths coInvalidLengths ddInvalidLengths m0InvalidLengths m1InvalidLengths m2InvalidLengths m3InvalidLengths m5InvalidLengths "ValueError.__new__"))
    (saInvalidLengths : PySem.W.findIn K (.ref C_InvalidLengths) "__setattr__" = some (some (.builtin "object.__setattr__")))
    (exInvalidLengths : PySem.W.subIn K (.ref C_InvalidLengths) (.type "BaseException") = some true)
    (tyInvalidLengths : PySem.W.typeIn K (.ref C_InvalidLengths) = some (.type "type"))
    (kcInvalidLengths : PySem.W.keepIn K (.ref C_InvalidLengths) = true)
    (nfInvalidLengths : PySem.W.findIn K (.ref C_InvalidLengths) (Str.ofString "index") = some none)
    (inInvalidLengths : PySem.W.findIn K (.ref C_InvalidLengths) "__init__" = some (some (.ref fIInvalidLengths)))
    (tfInvalidLengths : PySem.W.typeIn K (.ref fIInvalidLengths) = some (.type "function"))
    (lIInvalidLengths : K.lookup fIInvalidLengths = some ⟨ocInvalidLengths, odInvalidLengths, .func (PySem.W.fnOf "__init__" (Str.ofString "InvalidLengths.__init__") (defArgs st_InvalidLengths) (defBody st_InvalidLengths) (defScope st_InvalidLengths) .none kVInvalidLengths dcInvalidLengths pmInvalidLengths anInvalidLengths cdInvalidLengths ctInvalidLengths), slInvalidLengths⟩)
    (cIInvalidLengths : PySem.W.codeIn K cdInvalidLengths (Str.ofString "InvalidLengths.__init__") = true)
    (hb_bool : PySem.W.nsIn K mainGlobals "bool" = some none)
    (hb_enumerate : PySem.W.nsIn K mainGlobals "enumerate" = some none)
    (hb_int : PySem.W.nsIn K mainGlobals "int" = some none)
    (hb_isinstance : PySem.W.nsIn K mainGlobals "isinstance" = some none)
    (hb_len : PySem.W.nsIn K mainGlobals "len" = some none)
    (hb_list : PySem.W.nsIn K mainGlobals "list" = some none)
    (hb_range : PySem.W.nsIn K mainGlobals "range" = some none)
    (hb_sorted : PySem.W.nsIn K mainGlobals "sorted" = some none)
    (hb_sum : PySem.W.nsIn K mainGlobals "sum" = some none)
    (hb_tuple : PySem.W.nsIn K mainGlobals "tuple" = some none)
    (hb_zip : PySem.W.nsIn K mainGlobals "zip" = some none)
    (hg_MAX_LENGTHS : PySem.W.nsIn K mainGlobals "MAX_LENGTHS" = some (some (.int 200 t_MAX_LENGTHS))) :
    ∃ fd : FuncData, (∀ (s : Shared) (v : Value), BindsTo s fd ⟨[v], []⟩ [(Str.ofString "script", v)]) ∧ ∀ base : Heap, K.In base → base.Ns mainGlobals mg → FnOk P w K mg base (CX P w) (2 * depth + 1) fa fd [Str.ofString "script"] spLaw := by
  have e : f22 = fa := by
    have e := hfa.symm.trans (PySem.W.mg_of X Gn a22)
    injection e with e
    injection e with e
    exact e.symm
  subst e
  let T : Tab := [(("", "is_integer"), f0, (PySem.W.fnOf (Str.ofString "is_integer") (Str.ofString "is_integer") (defArgs st_is_integer) (defBody st_is_integer) (defScope st_is_integer) .none kV0 dc0 pm0 an0 cd0 ct0), ["value"]), (("", "level_between"), f1, (PySem.W.fnOf (Str.ofString "level_between") (Str.ofString "level_between") (defArgs st_level_between) (defBody st_level_between) (defScope st_level_between) .none kV1 dc1 pm1 an1 cd1 ct1), ["start", "first", "second", "whole"]), (("", "require_lengths"), f2, (PySem.W.fnOf (Str.ofString "require_lengths") (Str.ofString "require_lengths") (defArgs st_require_lengths) (defBody st_require_lengths) (defScope st_require_lengths) .none kV2 dc2 pm2 an2 cd2 ct2), ["lengths"]), (("", "starts_of"), f3, (PySem.W.fnOf (Str.ofString "starts_of") (Str.ofString "starts_of") (defArgs st_starts_of) (defBody st_starts_of) (defScope st_starts_of) .none kV3 dc3 pm3 an3 cd3 ct3), ["lengths"]), (("Stack", "__init__"), f4, (PySem.W.fnOf (Str.ofString "__init__") (Str.ofString "Stack.__init__") (defArgs st_Stack_init) (defBody st_Stack_init) (defScope st_Stack_init) .none kV4 dc4 pm4 an4 cd4 ct4), ["self", "whole"]), (("Stack", "join_at"), f5, (PySem.W.fnOf (Str.ofString "join_at") (Str.ofString "Stack.join_at") (defArgs st_Stack_join_at) (defBody st_Stack_join_at) (defScope st_Stack_join_at) .none kV5 dc5 pm5 an5 cd5 ct5), ["self", "place"]), (("Stack", "come"), f6, (PySem.W.fnOf (Str.ofString "come") (Str.ofString "Stack.come") (defArgs st_Stack_come) (defBody st_Stack_come) (defScope st_Stack_come) .none kV6 dc6 pm6 an6 cd6 ct6), ["self", "start", "length"]), (("Stack", "end"), f7, (PySem.W.fnOf (Str.ofString "end") (Str.ofString "Stack.end") (defArgs st_Stack_end) (defBody st_Stack_end) (defScope st_Stack_end) .none kV7 dc7 pm7 an7 cd7 ct7), ["self"]), (("", "merges"), f8, (PySem.W.fnOf (Str.ofString "merges") (Str.ofString "merges") (defArgs st_merges) (defBody st_merges) (defScope st_merges) .none kV8 dc8 pm8 an8 cd8 ct8), ["lengths"]), (("", "all_merges"), f9, (PySem.W.fnOf (Str.ofString "all_merges") (Str.ofString "all_merges") (defArgs st_all_merges) (defBody st_all_merges) (defScope st_all_merges) .none kV9 dc9 pm9 an9 cd9 ct9), ["lengths"]), (("", "cost"), f10, (PySem.W.fnOf (Str.ofString "cost") (Str.ofString "cost") (defArgs st_cost) (defBody st_cost) (defScope st_cost) .none kV10 dc10 pm10 an10 cd10 ct10), ["lengths"]), (("", "rounds"), f11, (PySem.W.fnOf (Str.ofString "rounds") (Str.ofString "rounds") (defArgs st_rounds) (defBody st_rounds) (defScope st_rounds) .none kV11 dc11 pm11 an11 cd11 ct11), ["lengths"]), (("", "_law_mixed"), f12, (PySem.W.fnOf (Str.ofString "_law_mixed") (Str.ofString "_law_mixed") (defArgs st__law_mixed) (defBody st__law_mixed) (defScope st__law_mixed) .none kV12 dc12 pm12 an12 cd12 ct12), ["cell", "draw"]), (("", "_law_source"), f13, (PySem.W.fnOf (Str.ofString "_law_source") (Str.ofString "_law_source") (defArgs st__law_source) (defBody st__law_source) (defScope st__law_source) .none kV13 dc13 pm13 an13 cd13 ct13), ["cell"]), (("", "_law_take"), f14, (PySem.W.fnOf (Str.ofString "_law_take") (Str.ofString "_law_take") (defArgs st__law_take) (defBody st__law_take) (defScope st__law_take) .none kV14 dc14 pm14 an14 cd14 ct14), ["source", "bound"]), (("", "_law_pick"), f15, (PySem.W.fnOf (Str.ofString "_law_pick") (Str.ofString "_law_pick") (defArgs st__law_pick) (defBody st__law_pick) (defScope st__law_pick) .none kV15 dc15 pm15 an15 cd15 ct15), ["source", "options"]), (("", "_law_level"), f16, (PySem.W.fnOf (Str.ofString "_law_level") (Str.ofString "_law_level") (defArgs st__law_level) (defBody st__law_level) (defScope st__law_level) .none kV16 dc16 pm16 an16 cd16 ct16), ["begin", "one", "two", "size"]), (("", "_law_lengths"), f17, (PySem.W.fnOf (Str.ofString "_law_lengths") (Str.ofString "_law_lengths") (defArgs st__law_lengths) (defBody st__law_lengths) (defScope st__law_lengths) .none kV17 dc17 pm17 an17 cd17 ct17), ["source", "upper", "great"]), (("", "_law_starts"), f18, (PySem.W.fnOf (Str.ofString "_law_starts") (Str.ofString "_law_starts") (defArgs st__law_starts) (defBody st__law_starts) (defScope st__law_starts) .none kV18 dc18 pm18 an18 cd18 ct18), ["parts"]), (("", "_law_note"), f19, (PySem.W.fnOf (Str.ofString "_law_note") (Str.ofString "_law_note") (defArgs st__law_note) (defBody st__law_note) (defScope st__law_note) .none kV19 dc19 pm19 an19 cd19 ct19), ["pile", "done", "place"]), (("", "_law_piled"), f20, (PySem.W.fnOf (Str.ofString "_law_piled") (Str.ofString "_law_piled") (defArgs st__law_piled) (defBody st__law_piled) (defScope st__law_piled) .none kV20 dc20 pm20 an20 cd20 ct20), ["parts"]), (("", "_law_rounds"), f21, (PySem.W.fnOf (Str.ofString "_law_rounds") (Str.ofString "_law_rounds") (defArgs st__law_rounds) (defBody st__law_rounds) (defScope st__law_rounds) .none kV21 dc21 pm21 an21 cd21 ct21), ["parts"]), (("", "law"), f22, (PySem.W.fnOf (Str.ofString "law") (Str.ofString "law") (defArgs st_law) (defBody st_law) (defScope st_law) .none kV22 dc22 pm22 an22 cd22 ct22), ["script"])]
  let CA : String → Addr := fun c => (([("Stack", C_Stack), ("InvalidLengths", C_InvalidLengths)] : List (String × Addr)).lookup c).getD 0
  let L : Lw := lwOf (fun _ => 0) CA T
  have D0 : ∀ h0 H0, DF (L.at_ h0 H0) K "" "is_integer" "is_integer" st_is_integer ["value"] [] f0 := fun h0 H0 => ⟨⟨oc0, od0, an0, .none, kV0, dc0, pm0, cd0, ct0, sl0, rfl, l0, c0, .inl ⟨rfl, rfl⟩⟩, k0⟩
  have D1 : ∀ h0 H0, DF (L.at_ h0 H0) K "" "level_between" "level_between" st_level_between ["start", "first", "second", "whole"] [] f1 := fun h0 H0 => ⟨⟨oc1, od1, an1, .none, kV1, dc1, pm1, cd1, ct1, sl1, rfl, l1, c1, .inl ⟨rfl, rfl⟩⟩, k1⟩
  have D2 : ∀ h0 H0, DF (L.at_ h0 H0) K "" "require_lengths" "require_lengths" st_require_lengths ["lengths"] [] f2 := fun h0 H0 => ⟨⟨oc2, od2, an2, .none, kV2, dc2, pm2, cd2, ct2, sl2, rfl, l2, c2, .inl ⟨rfl, rfl⟩⟩, k2⟩
  have D3 : ∀ h0 H0, DF (L.at_ h0 H0) K "" "starts_of" "starts_of" st_starts_of ["lengths"] [] f3 := fun h0 H0 => ⟨⟨oc3, od3, an3, .none, kV3, dc3, pm3, cd3, ct3, sl3, rfl, l3, c3, .inl ⟨rfl, rfl⟩⟩, k3⟩
  have D4 : ∀ h0 H0, DF (L.at_ h0 H0) K "Stack" "__init__" "Stack.__init__" st_Stack_init ["self", "whole"] [] f4 := fun h0 H0 => ⟨⟨oc4, od4, an4, .none, kV4, dc4, pm4, cd4, ct4, sl4, rfl, l4, c4, .inl ⟨rfl, rfl⟩⟩, k4⟩
  have D5 : ∀ h0 H0, DF (L.at_ h0 H0) K "Stack" "join_at" "Stack.join_at" st_Stack_join_at ["self", "place"] [] f5 := fun h0 H0 => ⟨⟨oc5, od5, an5, .none, kV5, dc5, pm5, cd5, ct5, sl5, rfl, l5, c5, .inl ⟨rfl, rfl⟩⟩, k5⟩
  have D6 : ∀ h0 H0, DF (L.at_ h0 H0) K "Stack" "come" "Stack.come" st_Stack_come ["self", "start", "length"] [] f6 := fun h0 H0 => ⟨⟨oc6, od6, an6, .none, kV6, dc6, pm6, cd6, ct6, sl6, rfl, l6, c6, .inl ⟨rfl, rfl⟩⟩, k6⟩
  have D7 : ∀ h0 H0, DF (L.at_ h0 H0) K "Stack" "end" "Stack.end" st_Stack_end ["self"] [] f7 := fun h0 H0 => ⟨⟨oc7, od7, an7, .none, kV7, dc7, pm7, cd7, ct7, sl7, rfl, l7, c7, .inl ⟨rfl, rfl⟩⟩, k7⟩
  have D8 : ∀ h0 H0, DF (L.at_ h0 H0) K "" "merges" "merges" st_merges ["lengths"] [] f8 := fun h0 H0 => ⟨⟨oc8, od8, an8, .none, kV8, dc8, pm8, cd8, ct8, sl8, rfl, l8, c8, .inl ⟨rfl, rfl⟩⟩, k8⟩
  have D9 : ∀ h0 H0, DF (L.at_ h0 H0) K "" "all_merges" "all_merges" st_all_merges ["lengths"] [] f9 := fun h0 H0 => ⟨⟨oc9, od9, an9, .none, kV9, dc9, pm9, cd9, ct9, sl9, rfl, l9, c9, .inl ⟨rfl, rfl⟩⟩, k9⟩
  have D10 : ∀ h0 H0, DF (L.at_ h0 H0) K "" "cost" "cost" st_cost ["lengths"] [] f10 := fun h0 H0 => ⟨⟨oc10, od10, an10, .none, kV10, dc10, pm10, cd10, ct10, sl10, rfl, l10, c10, .inl ⟨rfl, rfl⟩⟩, k10⟩
  have D11 : ∀ h0 H0, DF (L.at_ h0 H0) K "" "rounds" "rounds" st_rounds ["lengths"] [] f11 := fun h0 H0 => ⟨⟨oc11, od11, an11, .none, kV11, dc11, pm11, cd11, ct11, sl11, rfl, l11, c11, .inl ⟨rfl, rfl⟩⟩, k11⟩
  have D12 : ∀ h0 H0, DF (L.at_ h0 H0) K "" "_law_mixed" "_law_mixed" st__law_mixed ["cell", "draw"] [] f12 := fun h0 H0 => ⟨⟨oc12, od12, an12, .none, kV12, dc12, pm12, cd12, ct12, sl12, rfl, l12, c12, .inl ⟨rfl, rfl⟩⟩, k12⟩
  have D13 : ∀ h0 H0, DF (L.at_ h0 H0) K "" "_law_source" "_law_source" st__law_source ["cell"] [] f13 := fun h0 H0 => ⟨⟨oc13, od13, an13, .none, kV13, dc13, pm13, cd13, ct13, sl13, rfl, l13, c13, .inl ⟨rfl, rfl⟩⟩, k13⟩
  have D14 : ∀ h0 H0, DF (L.at_ h0 H0) K "" "_law_take" "_law_take" st__law_take ["source", "bound"] [] f14 := fun h0 H0 => ⟨⟨oc14, od14, an14, .none, kV14, dc14, pm14, cd14, ct14, sl14, rfl, l14, c14, .inl ⟨rfl, rfl⟩⟩, k14⟩
  have D15 : ∀ h0 H0, DF (L.at_ h0 H0) K "" "_law_pick" "_law_pick" st__law_pick ["source", "options"] [] f15 := fun h0 H0 => ⟨⟨oc15, od15, an15, .none, kV15, dc15, pm15, cd15, ct15, sl15, rfl, l15, c15, .inl ⟨rfl, rfl⟩⟩, k15⟩
  have D16 : ∀ h0 H0, DF (L.at_ h0 H0) K "" "_law_level" "_law_level" st__law_level ["begin", "one", "two", "size"] [] f16 := fun h0 H0 => ⟨⟨oc16, od16, an16, .none, kV16, dc16, pm16, cd16, ct16, sl16, rfl, l16, c16, .inl ⟨rfl, rfl⟩⟩, k16⟩
  have D17 : ∀ h0 H0, DF (L.at_ h0 H0) K "" "_law_lengths" "_law_lengths" st__law_lengths ["source", "upper", "great"] [] f17 := fun h0 H0 => ⟨⟨oc17, od17, an17, .none, kV17, dc17, pm17, cd17, ct17, sl17, rfl, l17, c17, .inl ⟨rfl, rfl⟩⟩, k17⟩
  have D18 : ∀ h0 H0, DF (L.at_ h0 H0) K "" "_law_starts" "_law_starts" st__law_starts ["parts"] [] f18 := fun h0 H0 => ⟨⟨oc18, od18, an18, .none, kV18, dc18, pm18, cd18, ct18, sl18, rfl, l18, c18, .inl ⟨rfl, rfl⟩⟩, k18⟩
  have D19 : ∀ h0 H0, DF (L.at_ h0 H0) K "" "_law_note" "_law_note" st__law_note ["pile", "done", "place"] [] f19 := fun h0 H0 => ⟨⟨oc19, od19, an19, .none, kV19, dc19, pm19, cd19, ct19, sl19, rfl, l19, c19, .inl ⟨rfl, rfl⟩⟩, k19⟩
  have D20 : ∀ h0 H0, DF (L.at_ h0 H0) K "" "_law_piled" "_law_piled" st__law_piled ["parts"] [] f20 := fun h0 H0 => ⟨⟨oc20, od20, an20, .none, kV20, dc20, pm20, cd20, ct20, sl20, rfl, l20, c20, .inl ⟨rfl, rfl⟩⟩, k20⟩
  have D21 : ∀ h0 H0, DF (L.at_ h0 H0) K "" "_law_rounds" "_law_rounds" st__law_rounds ["parts"] [] f21 := fun h0 H0 => ⟨⟨oc21, od21, an21, .none, kV21, dc21, pm21, cd21, ct21, sl21, rfl, l21, c21, .inl ⟨rfl, rfl⟩⟩, k21⟩
  have D22 : ∀ h0 H0, DF (L.at_ h0 H0) K "" "law" "law" st_law ["script"] [] f22 := fun h0 H0 => ⟨⟨oc22, od22, an22, .none, kV22, dc22, pm22, cd22, ct22, sl22, rfl, l22, c22, .inl ⟨rfl, rfl⟩⟩, k22⟩
  refine ⟨(PySem.W.fnOf (Str.ofString "law") (Str.ofString "law") (defArgs st_law) (defBody st_law) (defScope st_law) .none kV22 dc22 pm22 an22 cd22 ct22), fun s v => .of_eq rfl, fun base _ _ => ?_⟩
  have G : ∀ h0 H0, Gx (L.at_ h0 H0) P w K mg base := fun h0 H0 => ⟨PySem.W.mg_none_of X Gn hb_bool,
    PySem.W.mg_none_of X Gn hb_enumerate,
    PySem.W.mg_none_of X Gn hb_int,
    PySem.W.mg_none_of X Gn hb_isinstance,
    PySem.W.mg_none_of X Gn hb_len,
    PySem.W.mg_none_of X Gn hb_list,
    PySem.W.mg_none_of X Gn hb_range,
    PySem.W.mg_none_of X Gn hb_sorted,
    PySem.W.mg_none_of X Gn hb_sum,
    PySem.W.mg_none_of X Gn hb_tuple,
    PySem.W.mg_none_of X Gn hb_zip,
    ⟨t_MAX_LENGTHS, PySem.W.mg_of X Gn hg_MAX_LENGTHS⟩,
    (D0 h0 H0).call (PySem.W.mg_of X Gn a0) ((D0 h0 H0).shp [.inl 0] rfl fun _ _ _ _ _ _ us ws l1 l2 => match us, l1, ws, l2 with | [_], _, [], _ => rfl),
    (D1 h0 H0).call (PySem.W.mg_of X Gn a1) ((D1 h0 H0).shp [.inl 0, .inl 1, .inl 2, .inl 3] rfl fun _ _ _ _ _ _ us ws l1 l2 => match us, l1, ws, l2 with | [_, _, _, _], _, [], _ => rfl),
    (D2 h0 H0).call (PySem.W.mg_of X Gn a2) ((D2 h0 H0).shp [.inl 0] rfl fun _ _ _ _ _ _ us ws l1 l2 => match us, l1, ws, l2 with | [_], _, [], _ => rfl),
    (D3 h0 H0).call (PySem.W.mg_of X Gn a3) ((D3 h0 H0).shp [.inl 0] rfl fun _ _ _ _ _ _ us ws l1 l2 => match us, l1, ws, l2 with | [_], _, [], _ => rfl),
    (D8 h0 H0).call (PySem.W.mg_of X Gn a8) ((D8 h0 H0).shp [.inl 0] rfl fun _ _ _ _ _ _ us ws l1 l2 => match us, l1, ws, l2 with | [_], _, [], _ => rfl),
    (D9 h0 H0).call (PySem.W.mg_of X Gn a9) ((D9 h0 H0).shp [.inl 0] rfl fun _ _ _ _ _ _ us ws l1 l2 => match us, l1, ws, l2 with | [_], _, [], _ => rfl),
    (D12 h0 H0).call (PySem.W.mg_of X Gn a12) ((D12 h0 H0).shp [.inl 0, .inl 1] rfl fun _ _ _ _ _ _ us ws l1 l2 => match us, l1, ws, l2 with | [_, _], _, [], _ => rfl),
    (D14 h0 H0).call (PySem.W.mg_of X Gn a14) ((D14 h0 H0).shp [.inl 0, .inl 1] rfl fun _ _ _ _ _ _ us ws l1 l2 => match us, l1, ws, l2 with | [_, _], _, [], _ => rfl),
    (D15 h0 H0).call (PySem.W.mg_of X Gn a15) ((D15 h0 H0).shp [.inl 0, .inl 1] rfl fun _ _ _ _ _ _ us ws l1 l2 => match us, l1, ws, l2 with | [_, _], _, [], _ => rfl),
    (D18 h0 H0).call (PySem.W.mg_of X Gn a18) ((D18 h0 H0).shp [.inl 0] rfl fun _ _ _ _ _ _ us ws l1 l2 => match us, l1, ws, l2 with | [_], _, [], _ => rfl),
    (D16 h0 H0).call (PySem.W.mg_of X Gn a16) ((D16 h0 H0).shp [.inl 0, .inl 1, .inl 2, .inl 3] rfl fun _ _ _ _ _ _ us ws l1 l2 => match us, l1, ws, l2 with | [_, _, _, _], _, [], _ => rfl),
    (D19 h0 H0).call (PySem.W.mg_of X Gn a19) ((D19 h0 H0).shp [.inl 0, .inl 1, .inl 2] rfl fun _ _ _ _ _ _ us ws l1 l2 => match us, l1, ws, l2 with | [_, _, _], _, [], _ => rfl),
    (D20 h0 H0).call (PySem.W.mg_of X Gn a20) ((D20 h0 H0).shp [.inl 0] rfl fun _ _ _ _ _ _ us ws l1 l2 => match us, l1, ws, l2 with | [_], _, [], _ => rfl),
    (D13 h0 H0).call (PySem.W.mg_of X Gn a13) ((D13 h0 H0).shp [.inl 0] rfl fun _ _ _ _ _ _ us ws l1 l2 => match us, l1, ws, l2 with | [_], _, [], _ => rfl),
    (D17 h0 H0).call (PySem.W.mg_of X Gn a17) ((D17 h0 H0).shp [.inl 0, .inl 1, .inl 2] rfl fun _ _ _ _ _ _ us ws l1 l2 => match us, l1, ws, l2 with | [_, _, _], _, [], _ => rfl),
    (D21 h0 H0).call (PySem.W.mg_of X Gn a21) ((D21 h0 H0).shp [.inl 0] rfl fun _ _ _ _ _ _ us ws l1 l2 => match us, l1, ws, l2 with | [_], _, [], _ => rfl),
    (D11 h0 H0).call (PySem.W.mg_of X Gn a11) ((D11 h0 H0).shp [.inl 0] rfl fun _ _ _ _ _ _ us ws l1 l2 => match us, l1, ws, l2 with | [_], _, [], _ => rfl),
    (D10 h0 H0).call (PySem.W.mg_of X Gn a10) ((D10 h0 H0).shp [.inl 0] rfl fun _ _ _ _ _ _ us ws l1 l2 => match us, l1, ws, l2 with | [_], _, [], _ => rfl),
    (D10 h0 H0).call (PySem.W.mg_of X Gn a10) ((D10 h0 H0).shp [.inl 0] rfl fun _ _ _ _ _ _ us ws l1 l2 => match us, l1, ws, l2 with | [], _, [_], _ => rfl),
    (D11 h0 H0).call (PySem.W.mg_of X Gn a11) ((D11 h0 H0).shp [.inl 0] rfl fun _ _ _ _ _ _ us ws l1 l2 => match us, l1, ws, l2 with | [], _, [_], _ => rfl),
    (D4 h0 H0).make ⟨pgStack, hdStack, poStack, saStack⟩ mkStack a4 i4 kcStack ((D4 h0 H0).shp [.inl 0, .inl 1] rfl fun _ _ _ _ _ _ us ws l1 l2 => match us, l1, ws, l2 with | [_, _], _, [], _ => rfl),
    PySem.W.mg_of X Gn xStack,
    (D5 h0 H0).meth a5 i5 ((D5 h0 H0).shp [.inl 0, .inl 1] rfl fun _ _ _ _ _ _ us ws l1 l2 => match us, l1, ws, l2 with | [_, _], _, [], _ => rfl),
    (D6 h0 H0).meth a6 i6 ((D6 h0 H0).shp [.inl 0, .inl 1, .inl 2] rfl fun _ _ _ _ _ _ us ws l1 l2 => match us, l1, ws, l2 with | [_, _, _], _, [], _ => rfl),
    (D7 h0 H0).meth a7 i7 ((D7 h0 H0).shp [.inl 0] rfl fun _ _ _ _ _ _ us ws l1 l2 => match us, l1, ws, l2 with | [_], _, [], _ => rfl),
    nfStackjoins,
    nfStackstack,
    nfStackwhole,
    ⟨fIInvalidLengths, _, _, ⟨⟨nmInvalidLengths, qInvalidLengths, NInvalidLengths, bsInvalidLengths, _, snInvalidLengths, suInvalidLengths, abInvalidLengths, coInvalidLengths, ddInvalidLengths, m0InvalidLengths, m1InvalidLengths, m2InvalidLengths, m3InvalidLengths, m5InvalidLengths, xlInvalidLengths, rfl⟩, saInvalidLengths, exInvalidLengths, tyInvalidLengths, kcInvalidLengths⟩, inInvalidLengths, tfInvalidLengths, err_ok rfl lIInvalidLengths cIInvalidLengths sc_InvalidLengths (fun A outer s H E => pb_InvalidLengths ⟨gB, rB, fB, PySem.W.mg_of X Gn sB⟩ A outer s H E) ⟨⟨nmInvalidLengths, qInvalidLengths, NInvalidLengths, bsInvalidLengths, _, snInvalidLengths, suInvalidLengths, abInvalidLengths, coInvalidLengths, ddInvalidLengths, m0InvalidLengths, m1InvalidLengths, m2InvalidLengths, m3InvalidLengths, m5InvalidLengths, xlInvalidLengths, rfl⟩, saInvalidLengths, exInvalidLengths, tyInvalidLengths, kcInvalidLengths⟩ nfInvalidLengths, .all (fun us hl => match us, hl with | [_, _], _ => rfl), PySem.W.mg_of X Gn xInvalidLengths⟩⟩
  refine fn_law (fa := fun _ => 0) (ca := CA) (t := T) (z := ztab) (f := f22) (x := Str.ofString "script") ?_ rfl law_ok
  exact .cons ((D0 (fun _ => none) (fun _ => none)).ok rfl rfl sc_is_integer rfl fun h0 H0 f cdv A outer s H E => sb_is_integer (G h0 H0) f cdv A outer s H E)
    (.cons ((D1 (fun _ => none) (fun _ => none)).ok rfl rfl sc_level_between rfl fun h0 H0 f cdv A outer s H E => sb_level_between (G h0 H0) f cdv A outer s H E)
    (.cons ((D2 (fun _ => none) (fun _ => none)).ok rfl rfl sc_require_lengths rfl fun h0 H0 f cdv A outer s H E => sb_require_lengths (G h0 H0) f cdv A outer s H E)
    (.cons ((D3 (fun _ => none) (fun _ => none)).ok rfl rfl sc_starts_of rfl fun h0 H0 f cdv A outer s H E => sb_starts_of (G h0 H0) f cdv A outer s H E)
    (.cons ((D4 (fun _ => none) (fun _ => none)).ok rfl rfl sc_Stack_init rfl fun h0 H0 f cdv A outer s H E => sb_Stack_init (G h0 H0) f cdv A outer s H E)
    (.cons ((D5 (fun _ => none) (fun _ => none)).ok rfl rfl sc_Stack_join_at rfl fun h0 H0 f cdv A outer s H E => sb_Stack_join_at (G h0 H0) f cdv A outer s H E)
    (.cons ((D6 (fun _ => none) (fun _ => none)).ok rfl rfl sc_Stack_come rfl fun h0 H0 f cdv A outer s H E => sb_Stack_come (G h0 H0) f cdv A outer s H E)
    (.cons ((D7 (fun _ => none) (fun _ => none)).ok rfl rfl sc_Stack_end rfl fun h0 H0 f cdv A outer s H E => sb_Stack_end (G h0 H0) f cdv A outer s H E)
    (.cons ((D8 (fun _ => none) (fun _ => none)).ok rfl rfl sc_merges rfl fun h0 H0 f cdv A outer s H E => sb_merges (G h0 H0) f cdv A outer s H E)
    (.cons ((D9 (fun _ => none) (fun _ => none)).ok rfl rfl sc_all_merges rfl fun h0 H0 f cdv A outer s H E => sb_all_merges (G h0 H0) f cdv A outer s H E)
    (.cons ((D10 (fun _ => none) (fun _ => none)).ok rfl rfl sc_cost rfl fun h0 H0 f cdv A outer s H E => sb_cost (G h0 H0) f cdv A outer s H E)
    (.cons ((D11 (fun _ => none) (fun _ => none)).ok rfl rfl sc_rounds rfl fun h0 H0 f cdv A outer s H E => sb_rounds (G h0 H0) f cdv A outer s H E)
    (.cons ((D12 (fun _ => none) (fun _ => none)).ok rfl rfl sc__law_mixed rfl fun h0 H0 f cdv A outer s H E => sb__law_mixed (G h0 H0) f cdv A outer s H E)
    (.cons ((D13 (fun _ => none) (fun _ => none)).ok rfl rfl sc__law_source rfl fun h0 H0 f cdv A outer s H E => sb__law_source (G h0 H0) f cdv A outer s H E)
    (.cons ((D14 (fun _ => none) (fun _ => none)).ok rfl rfl sc__law_take rfl fun h0 H0 f cdv A outer s H E => sb__law_take (G h0 H0) f cdv A outer s H E)
    (.cons ((D15 (fun _ => none) (fun _ => none)).ok rfl rfl sc__law_pick rfl fun h0 H0 f cdv A outer s H E => sb__law_pick (G h0 H0) f cdv A outer s H E)
    (.cons ((D16 (fun _ => none) (fun _ => none)).ok rfl rfl sc__law_level rfl fun h0 H0 f cdv A outer s H E => sb__law_level (G h0 H0) f cdv A outer s H E)
    (.cons ((D17 (fun _ => none) (fun _ => none)).ok rfl rfl sc__law_lengths rfl fun h0 H0 f cdv A outer s H E => sb__law_lengths (G h0 H0) f cdv A outer s H E)
    (.cons ((D18 (fun _ => none) (fun _ => none)).ok rfl rfl sc__law_starts rfl fun h0 H0 f cdv A outer s H E => sb__law_starts (G h0 H0) f cdv A outer s H E)
    (.cons ((D19 (fun _ => none) (fun _ => none)).ok rfl rfl sc__law_note rfl fun h0 H0 f cdv A outer s H E => sb__law_note (G h0 H0) f cdv A outer s H E)
    (.cons ((D20 (fun _ => none) (fun _ => none)).ok rfl rfl sc__law_piled rfl fun h0 H0 f cdv A outer s H E => sb__law_piled (G h0 H0) f cdv A outer s H E)
    (.cons ((D21 (fun _ => none) (fun _ => none)).ok rfl rfl sc__law_rounds rfl fun h0 H0 f cdv A outer s H E => sb__law_rounds (G h0 H0) f cdv A outer s H E)
    (.cons ((D22 (fun _ => none) (fun _ => none)).ok rfl rfl sc_law rfl fun h0 H0 f cdv A outer s H E => sb_law (G h0 H0) f cdv A outer s H E)
    (.nil)))))))))))))))))))))))
end Q_k36
open PySem PySem.W PyProof.Rows
set_option maxRecDepth 100000 in
set_option maxHeartbeats 0 in
theorem PySem.Challenge.cw_askedorder_k36_costs_and_rounds_holds : PySem.Challenge.rw_askedorder_k36_costs_and_rounds.Holds := by
  w_on; o_law; k_head; (case hw => w_witness2)
  k_fill
  refine L2.walk_ofB (l := PySem.Challenge.rw_askedorder_k36_costs_and_rounds) (n := 63) (k := 2 * Q_k36.depth + 1) (x := "script") (CX := fun w => L2.CX PySem.Challenge.rw_askedorder_k36_costs_and_rounds.prog w) (sp := fun _ => ZS.spLaw) rfl (by decide) rfl ⟨rfl, by decide, by decide⟩ (fun w h Y => PySem.W.kIn_of Y) ?F ?S fun _ _ _ _ _ h => ZS.cx_none h
  case S =>
    intro w H a ns hl hb _ hS
    exact ZS.spLaw_at hl hb hS (by kernel_rfl)
  case F =>
    intro w mg fa h KX G hmg
    refine' Q_k36.all_mk KX G hmg ?xStack ?pgStack ?hdStack ?poStack ?saStack ?mkStack ?kcStack ?sB ?gB ?rB ?fB ?a0 ?l0 ?c0 ?k0 ?a1 ?l1 ?c1 ?k1 ?a2 ?l2 ?c2 ?k2 ?a3 ?l3 ?c3 ?k3 ?a4 ?i4 ?l4 ?c4 ?k4 ?a5 ?i5 ?l5 ?c5 ?k5 ?a6 ?i6 ?l6 ?c6 ?k6 ?a7 ?i7 ?l7 ?c7 ?k7 ?a8 ?l8 ?c8 ?k8 ?a9 ?l9 ?c9 ?k9 ?a10 ?l10 ?c10 ?k10 ?a11 ?l11 ?c11 ?k11 ?a12 ?l12 ?c12 ?k12 ?a13 ?l13 ?c13 ?k13 ?a14 ?l14 ?c14 ?k14 ?a15 ?l15 ?c15 ?k15 ?a16 ?l16 ?c16 ?k16 ?a17 ?l17 ?c17 ?k17 ?a18 ?l18 ?c18 ?k18 ?a19 ?l19 ?c19 ?k19 ?a20 ?l20 ?c20 ?k20 ?a21 ?l21 ?c21 ?k21 ?a22 ?l22 ?c22 ?k22 ?nfStackjoins ?nfStackstack ?nfStackwhole ?xInvalidLengths ?xlInvalidLengths ?saInvalidLengths ?exInvalidLengths ?tyInvalidLengths ?kcInvalidLengths ?nfInvalidLengths ?inInvalidLengths ?tfInvalidLengths ?lIInvalidLengths ?cIInvalidLengths ?hb_bool ?hb_enumerate ?hb_int ?hb_isinstance ?hb_len ?hb_list ?hb_range ?hb_sorted ?hb_sum ?hb_tuple ?hb_zip ?hg_MAX_LENGTHS
    (case xStack => k_is)
    (case pgStack => k_is)
    (case hdStack => k_is)
    (case poStack => k_is)
    (case saStack => k_is)
    (case mkStack => k_is)
    (case kcStack => k_is)
    (case sB => k_is)
    (case gB => k_is)
    (case rB => k_is)
    (case fB => k_is)
    (case a0 => k_is)
    (case l0 => k_is)
    (case c0 => k_is)
    (case k0 => k_is)
    (case a1 => k_is)
    (case l1 => k_is)
    (case c1 => k_is)
    (case k1 => k_is)
    (case a2 => k_is)
    (case l2 => k_is)
    (case c2 => k_is)
    (case k2 => k_is)
    (case a3 => k_is)
    (case l3 => k_is)
    (case c3 => k_is)
    (case k3 => k_is)
    (case a4 => k_is)
    (case i4 => k_is)
    (case l4 => k_is)
    (case c4 => k_is)
    (case k4 => k_is)
    (case a5 => k_is)
    (case i5 => k_is)
    (case l5 => k_is)
    (case c5 => k_is)
    (case k5 => k_is)
    (case a6 => k_is)
    (case i6 => k_is)
    (case l6 => k_is)
    (case c6 => k_is)
    (case k6 => k_is)
    (case a7 => k_is)
    (case i7 => k_is)
    (case l7 => k_is)
    (case c7 => k_is)
    (case k7 => k_is)
    (case a8 => k_is)
    (case l8 => k_is)
    (case c8 => k_is)
    (case k8 => k_is)
    (case a9 => k_is)
    (case l9 => k_is)
    (case c9 => k_is)
    (case k9 => k_is)
    (case a10 => k_is)
    (case l10 => k_is)
    (case c10 => k_is)
    (case k10 => k_is)
    (case a11 => k_is)
    (case l11 => k_is)
    (case c11 => k_is)
    (case k11 => k_is)
    (case a12 => k_is)
    (case l12 => k_is)
    (case c12 => k_is)
    (case k12 => k_is)
    (case a13 => k_is)
    (case l13 => k_is)
    (case c13 => k_is)
    (case k13 => k_is)
    (case a14 => k_is)
    (case l14 => k_is)
    (case c14 => k_is)
    (case k14 => k_is)
    (case a15 => k_is)
    (case l15 => k_is)
    (case c15 => k_is)
    (case k15 => k_is)
    (case a16 => k_is)
    (case l16 => k_is)
    (case c16 => k_is)
    (case k16 => k_is)
    (case a17 => k_is)
    (case l17 => k_is)
    (case c17 => k_is)
    (case k17 => k_is)
    (case a18 => k_is)
    (case l18 => k_is)
    (case c18 => k_is)
    (case k18 => k_is)
    (case a19 => k_is)
    (case l19 => k_is)
    (case c19 => k_is)
    (case k19 => k_is)
    (case a20 => k_is)
    (case l20 => k_is)
    (case c20 => k_is)
    (case k20 => k_is)
    (case a21 => k_is)
    (case l21 => k_is)
    (case c21 => k_is)
    (case k21 => k_is)
    (case a22 => k_is)
    (case l22 => k_is)
    (case c22 => k_is)
    (case k22 => k_is)
    (case nfStackjoins => k_is)
    (case nfStackstack => k_is)
    (case nfStackwhole => k_is)
    (case xInvalidLengths => k_is)
    (case xlInvalidLengths => k_is)
    (case saInvalidLengths => k_is)
    (case exInvalidLengths => k_is)
    (case tyInvalidLengths => k_is)
    (case kcInvalidLengths => k_is)
    (case nfInvalidLengths => k_is)
    (case inInvalidLengths => k_is)
    (case tfInvalidLengths => k_is)
    (case lIInvalidLengths => k_is)
    (case cIInvalidLengths => k_is)
    (case hb_bool => k_is)
    (case hb_enumerate => k_is)
    (case hb_int => k_is)
    (case hb_isinstance => k_is)
    (case hb_len => k_is)
    (case hb_list => k_is)
    (case hb_range => k_is)
    (case hb_sorted => k_is)
    (case hb_sum => k_is)
    (case hb_tuple => k_is)
    (case hb_zip => k_is)
    (case hg_MAX_LENGTHS => k_is)


