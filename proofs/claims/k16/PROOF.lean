import PyProof.Rows.All
import Wide.All
import OpenK.AllK
import Wide.FinOn
import HandS.ForMost
import HandS.Exc
import HandS.TryOnly
import HandS.Wide
import HandS.Flow
import HandS.Style
import HandS.SortInts
import HandS.Conv
import HandS.WideBits
import HandS.EndBits
import HandS.Deep
import KE.GoesMore
import HandS.Defaults
import HandS.IsInst
import HandS.RaiseMore
import PyProof.Rows.Walk
import HandS.Star
import HandS.More
import HandS.ExcInit
import HandS.WordsExc
import HandS.ExcField
import HandS.Zip
import HandS.Flt
import HandS.TryMany
import PySem.Challenge.RW_askedorder_k16_fewest_and_most_placed
set_option Elab.async false
set_option linter.all false
set_option maxRecDepth 100000
set_option autoImplicit false
set_option maxHeartbeats 4000000
/-! Z0: values, objects, heaps, and the constructs of a program as predicate transformers. Plain Lean. -/
namespace Z
/-- a value -/
inductive V where
  | non | bl (b : Bool) | int (i : Int) | str (s : List Nat) | ref (a : Nat) | fn (x : String) | cls (x : String) | ty (x : String)
  deriving DecidableEq
abbrev Hk := Sum Int (List Nat)
/-- an object: list, tuple, the script (read alone), dicts (keys ints and texts; tuples of such), an instance -/
inductive O where
  | lst (xs : List V) | tup (xs : List V) | scr (xs : List V)
  | dct (kvs : List (Hk × V)) | dctT (kvs : List (List Hk × V))
  | ins (c : String) (fs : List (String × V))
  | xd (fs : List (String × V))
abbrev Heap := Nat → Option O
def upd (H : Heap) (a : Nat) (o : O) : Heap := fun b => if b = a then some o else H b
theorem upd_same {H : Heap} {a : Nat} {o : O} : upd H a o a = some o := if_pos rfl
theorem upd_ne {H : Heap} {a b : Nat} {o : O} (h : b ≠ a) : upd H a o b = H b := if_neg h
def line : Nat := 16777216
abbrev St := List (Option V)
def get : St → Nat → Option V
  | [], _ => none
  | o :: _, 0 => o
  | _ :: r, n + 1 => get r n
def put : St → Nat → V → St
  | [], _, _ => []
  | _ :: r, 0, v => some v :: r
  | o :: r, n + 1, v => o :: put r n v
abbrev VK := V → Heap → Prop
abbrev EK := String → List (String × V) → Heap → Prop
/-- what runs around: how defs and methods answer, what is wanted of an error -/
structure Cx where
  call : String → String → List V → Heap → VK → EK → Prop
  exc : String → List (String × V) → St → Heap → Prop
abbrev TE := Cx → St → Heap → VK → Prop
abbrev TA := Cx → St → Heap → (List V → Heap → Prop) → Prop
abbrev TT := Cx → St → Heap → (Bool → Heap → Prop) → Prop
structure Ends where
  nx : St → Heap → Prop
  rt : VK
  bk : St → Heap → Prop := fun _ _ => False
  ct : St → Heap → Prop := fun _ _ => False
abbrev TS := Cx → Ends → St → Heap → Prop
abbrev TG := Cx → V → St → Heap → (St → Heap → Prop) → Prop

/-! ### objects by values -/
/-- the items of a list, a tuple, the script -/
def items (H : Heap) : V → Option (List V)
  | .ref a => match H a with
    | some (.lst xs) => some xs
    | some (.tup xs) => some xs
    | some (.scr xs) => some xs
    | _ => none
  | _ => none
/-- the items of a list, the script -/
def litems (H : Heap) : V → Option (List V)
  | .ref a => match H a with
    | some (.lst xs) => some xs
    | some (.scr xs) => some xs
    | _ => none
  | _ => none
def titems (H : Heap) : V → Option (List V)
  | .ref a => match H a with
    | some (.tup xs) => some xs
    | _ => none
  | _ => none
def ixN (n : Nat) (i : Int) : Option Nat := if 0 ≤ i then (if i < n then some i.toNat else none) else if -(n : Int) ≤ i then some (i + n).toNat else none
def atI (xs : List V) (i : Int) : Option V := (ixN xs.length i).bind fun j => xs[j]?
def sIx (n d : Nat) : Option Int → Nat
  | none => d
  | some v => if v < 0 then (v + (n : Int)).toNat else min v.toNat n
def cutV (xs : List V) (lo hi : Option Int) : List V := (xs.drop (sIx xs.length 0 lo)).take (sIx xs.length xs.length hi - sIx xs.length 0 lo)
def truth (H : Heap) : V → Option Bool
  | .non => some false
  | .bl b => some b
  | .int i => some (i != 0)
  | .ref a => match H a with
    | some (.lst xs) => some (!xs.isEmpty)
    | some (.tup xs) => some (!xs.isEmpty)
    | some (.scr xs) => some (!xs.isEmpty)
    | _ => none
  | _ => none

/-! ### data -/
inductive D where
  | non | bl (b : Bool) | int (i : Int) | str (s : List Nat) | lst (xs : List D) | tup (xs : List D)
mutual
inductive Rep (H : Heap) : V → D → Prop
  | non : Rep H .non .non
  | bl (b : Bool) : Rep H (.bl b) (.bl b)
  | int (i : Int) : Rep H (.int i) (.int i)
  | str (s : List Nat) (h : s.all (fun c => decide (c < 1114112)) = true) : Rep H (.str s) (.str s)
  | lst {a : Nat} {xs : List V} {ds : List D} : litems H (.ref a) = some xs → RepL H xs ds → Rep H (.ref a) (.lst ds)
  | tup {a : Nat} {xs : List V} {ds : List D} : titems H (.ref a) = some xs → RepL H xs ds → Rep H (.ref a) (.tup ds)
inductive RepL (H : Heap) : List V → List D → Prop
  | nil : RepL H [] []
  | cons {v : V} {vs : List V} {d : D} {ds : List D} : Rep H v d → RepL H vs ds → RepL H (v :: vs) (d :: ds)
end
mutual
def D.eqv : D → D → Bool
  | .non, .non => true
  | .bl a, .bl b => a == b
  | .bl a, .int j => (if a then 1 else 0) == j
  | .int i, .bl b => i == (if b then 1 else 0)
  | .int i, .int j => i == j
  | .str x, .str y => x == y
  | .lst xs, .lst ys => D.eqvL xs ys
  | .tup xs, .tup ys => D.eqvL xs ys
  | _, _ => false
def D.eqvL : List D → List D → Bool
  | [], [] => true
  | x :: xs, y :: ys => D.eqv x y && D.eqvL xs ys
  | _, _ => false
end
mutual
def D.depth : D → Nat
  | .lst xs => D.depthL xs + 1
  | .tup xs => D.depthL xs + 1
  | _ => 0
def D.depthL : List D → Nat
  | [] => 0
  | x :: xs => max (D.depth x) (D.depthL xs)
end
/-! ### operators, by values -/
inductive Op where
  | add | sub | mul | fdiv | mod | pow | shl | shr | band
/-- a number of at most so many bits -/
def small (n : Nat) (i : Int) : Prop := i.natAbs < 2 ^ n
def opr : Op → V → V → Heap → VK → Prop
  | .add, .int i, .int j, H, Q => Q (.int (i + j)) H
  | .add, .ref a, .ref b, H, Q => (∃ xs ys, litems H (.ref a) = some xs ∧ litems H (.ref b) = some ys ∧ xs.length + ys.length ≤ line ∧ ∀ p, H p = none → Q (.ref p) (upd H p (.lst (xs ++ ys)))) ∨
      (∃ xs ys, titems H (.ref a) = some xs ∧ titems H (.ref b) = some ys ∧ xs ≠ [] ∧ ys ≠ [] ∧ xs.length + ys.length ≤ line ∧ ∀ p, H p = none → Q (.ref p) (upd H p (.tup (xs ++ ys))))
  | .sub, .int i, .int j, H, Q => Q (.int (i - j)) H
  | .mul, .int i, .int j, H, Q => (∃ n m, n + m ≤ 134217728 ∧ small n i ∧ small m j) ∧ Q (.int (i * j)) H
  | .mul, .ref a, .int k, H, Q => ∃ xs, H a = some (.lst xs) ∧ -(2 ^ 63) ≤ k ∧ k < 2 ^ 63 ∧ xs.length * k.toNat ≤ line ∧ ∀ p, H p = none → Q (.ref p) (upd H p (.lst (List.replicate k.toNat xs).flatten))
  | .fdiv, .int i, .int j, H, Q => 0 < j ∧ small 9000 j ∧ Q (.int (i / j)) H
  | .mod, .int i, .int j, H, Q => 0 < j ∧ Q (.int (i % j)) H
  | .pow, .int i, .int j, H, Q => 0 ≤ j ∧ (∃ n, small n i ∧ n * j.toNat ≤ 134217728) ∧ Q (.int (i ^ j.toNat)) H
  | .shl, .int i, .int j, H, Q => 0 ≤ j ∧ (∃ n, small n i ∧ n + j.toNat ≤ 134217728) ∧ Q (.int (i * 2 ^ j.toNat)) H
  | .shr, .int i, .int j, H, Q => 0 ≤ j ∧ Q (.int (i / 2 ^ j.toNat)) H
  | .band, .int i, .int j, H, Q => 0 ≤ i ∧ 0 ≤ j ∧ Q (.int ((i.toNat &&& j.toNat : Nat) : Int)) H
  | _, _, _, _, _ => False
inductive Cm where
  | eq | ne | lt | le | gt | ge | is | isnot | isin | notin
def lexLt : List Int → List Int → Bool
  | [], [] => false
  | [], _ :: _ => true
  | _ :: _, [] => false
  | x :: xs, y :: ys => if x = y then lexLt xs ys else decide (x < y)
def flatV : V → Bool
  | .non => true
  | .bl _ => true
  | .int _ => true
  | .str _ => true
  | _ => false
def eqF : V → V → Bool
  | .non, .non => true
  | .bl a, .bl b => a == b
  | .bl a, .int j => (if a then 1 else 0) == j
  | .int i, .bl b => i == (if b then 1 else 0)
  | .int i, .int j => i == j
  | .str x, .str y => x == y
  | _, _ => false
def inF (x : V) (xs : List V) : Bool := xs.any fun y => eqF y x
def eqD (x y : V) (H : Heap) (Q : Bool → Prop) : Prop := ∃ d e, Rep H x d ∧ Rep H y e ∧ d.depth ≤ 64 ∧ e.depth ≤ 64 ∧ Q (D.eqv d e)
def hkOf : V → Option Hk
  | .int i => some (.inl i)
  | .str s => some (.inr s)
  | _ => none
def look {κ : Type} [DecidableEq κ] (k : κ) : List (κ × V) → Option V
  | [] => none
  | (j, v) :: r => if j = k then some v else look k r
def hksOf : List V → Option (List Hk)
  | [] => some []
  | v :: r => match hkOf v, hksOf r with
    | some k, some ks => some (k :: ks)
    | _, _ => none
/-- what a dict has under a key -/
def dget (H : Heap) (x y : V) (r : Option V) : Prop := (∃ a kvs k, x = .ref a ∧ H a = some (.dct kvs) ∧ hkOf y = some k ∧ r = look k kvs) ∨
  (∃ a kvs b ys k, x = .ref a ∧ H a = some (.dctT kvs) ∧ y = .ref b ∧ H b = some (.tup ys) ∧ hksOf ys = some k ∧ r = look k kvs)
def putKv {κ : Type} [DecidableEq κ] (k : κ) (v : V) : List (κ × V) → List (κ × V)
  | [] => [(k, v)]
  | (j, w) :: r => if j = k then (j, v) :: r else (j, w) :: putKv k v r
/-- the heap behind x[y] = v -/
def dput (H : Heap) (x y v : V) (H' : Heap) : Prop := (∃ a kvs k, x = .ref a ∧ H a = some (.dct kvs) ∧ hkOf y = some k ∧ kvs.length < line ∧ H' = upd H a (.dct (putKv k v kvs))) ∨
  (∃ a kvs b ys k, x = .ref a ∧ H a = some (.dctT kvs) ∧ y = .ref b ∧ H b = some (.tup ys) ∧ hksOf ys = some k ∧ kvs.length < line ∧ H' = upd H a (.dctT (putKv k v kvs)))
/-- is an equal one in a list of data -/
def inD (x : V) (b : Nat) (H : Heap) (Q : Bool → Prop) : Prop := ∃ d ds, Rep H x d ∧ Rep H (.ref b) (.lst ds) ∧ d.depth ≤ 64 ∧ (D.lst ds).depth ≤ 64 ∧ Q (ds.any fun z => D.eqv z d)
def cmpr : Cm → V → V → Heap → (Bool → Prop) → Prop
  | .eq, x, y, H, Q => eqD x y H Q
  | .ne, x, y, H, Q => eqD x y H fun b => Q (!b)
  | .lt, .int i, .int j, _, Q => Q (decide (i < j))
  | .lt, .ref a, .ref b, H, Q => ∃ ns ms, titems H (.ref a) = some (ns.map V.int) ∧ titems H (.ref b) = some (ms.map V.int) ∧ Q (lexLt ns ms)
  | .le, .int i, .int j, _, Q => Q (decide (i ≤ j))
  | .gt, .int i, .int j, _, Q => Q (decide (j < i))
  | .ge, .int i, .int j, _, Q => Q (decide (j ≤ i))
  | .is, x, .non, _, Q => Q (decide (x = .non))
  | .is, .bl a, .bl b, _, Q => Q (a == b)
  | .isnot, x, .non, _, Q => Q (!decide (x = .non))
  | .isnot, .bl a, .bl b, _, Q => Q (!(a == b))
  | .isin, x, .ref b, H, Q => (∃ xs, items H (.ref b) = some xs ∧ flatV x = true ∧ xs.all flatV = true ∧ Q (inF x xs)) ∨ (∃ r, dget H (.ref b) x r ∧ Q r.isSome) ∨ inD x b H Q
  | .notin, x, .ref b, H, Q => (∃ xs, items H (.ref b) = some xs ∧ flatV x = true ∧ xs.all flatV = true ∧ Q (!inF x xs)) ∨ (∃ r, dget H (.ref b) x r ∧ Q (!r.isSome)) ∨ inD x b H fun k => Q (!k)
  | _, _, _, _, _ => False

/-! ### expressions -/
def var (i : Nat) : TE := fun _ σ H Q => match get σ i with
  | some v => Q v H
  | none => False
def cst (v : V) : TE := fun _ _ H Q => Q v H
def bin (o : Op) (a b : TE) : TE := fun C σ H Q => a C σ H fun x H1 => b C σ H1 fun y H2 => opr o x y H2 Q
def neg (a : TE) : TE := fun C σ H Q => a C σ H fun x H1 => match x with
  | .int i => Q (.int (-i)) H1
  | _ => False
def cmp (o : Cm) (a b : TE) : TE := fun C σ H Q => a C σ H fun x H1 => b C σ H1 fun y H2 => cmpr o x y H2 fun k => Q (.bl k) H2
/-- a o b o' c -/
def chain (o o' : Cm) (a b c : TE) : TE := fun C σ H Q => a C σ H fun x H1 => b C σ H1 fun y H2 => cmpr o x y H2 fun k =>
  if k = true then c C σ H2 fun z H3 => cmpr o' y z H3 fun l => Q (.bl l) H3 else Q (.bl false) H2
def ife (t : TT) (a b : TE) : TE := fun C σ H Q => t C σ H fun k H1 => if k = true then a C σ H1 Q else b C σ H1 Q
def orv (a b : TE) : TE := fun C σ H Q => a C σ H fun x H1 => ∃ k, truth H1 x = some k ∧ if k = true then Q x H1 else b C σ H1 Q
def andv (a b : TE) : TE := fun C σ H Q => a C σ H fun x H1 => ∃ k, truth H1 x = some k ∧ if k = true then b C σ H1 Q else Q x H1
def notv (a : TE) : TE := fun C σ H Q => a C σ H fun x H1 => ∃ k, truth H1 x = some k ∧ Q (.bl (!k)) H1
def fld (a : TE) (f : String) : TE := fun C σ H Q => a C σ H fun x H1 => ∃ p c fs v, x = .ref p ∧ H1 p = some (.ins c fs) ∧ fs.lookup f = some v ∧ Q v H1
def ix (a b : TE) : TE := fun C σ H Q => a C σ H fun x H1 => b C σ H1 fun y H2 => ∃ xs i v, items H2 x = some xs ∧ y = .int i ∧ atI xs i = some v ∧ Q v H2
def dix (a b : TE) : TE := fun C σ H Q => a C σ H fun x H1 => b C σ H1 fun y H2 => ∃ v, dget H2 x y (some v) ∧ Q v H2
/-- an optional part of a slice -/
abbrev TO := Cx → St → Heap → (Option Int → Heap → Prop) → Prop
def pno : TO := fun _ _ H Q => Q none H
def pso (a : TE) : TO := fun C σ H Q => a C σ H fun x H1 => ∃ i, x = .int i ∧ Q (some i) H1
def slc (a : TE) (l h : TO) : TE := fun C σ H Q => a C σ H fun x H1 => l C σ H1 fun lo H2 => h C σ H2 fun hi H3 =>
  (∃ xs, litems H3 x = some xs ∧ ∀ p, H3 p = none → Q (.ref p) (upd H3 p (.lst (cutV xs lo hi)))) ∨
  (∃ xs, titems H3 x = some xs ∧ ¬ (sIx xs.length 0 lo = 0 ∧ sIx xs.length xs.length hi = xs.length) ∧ ∀ p, H3 p = none → Q (.ref p) (upd H3 p (.tup (cutV xs lo hi))))
def revs (a : TE) : TE := fun C σ H Q => a C σ H fun x H1 => ∃ xs, litems H1 x = some xs ∧ ∀ p, H1 p = none → Q (.ref p) (upd H1 p (.lst xs.reverse))
def anil : TA := fun _ _ H Q => Q [] H
def acons (a : TE) (r : TA) : TA := fun C σ H Q => a C σ H fun x H1 => r C σ H1 fun xs H2 => Q (x :: xs) H2
def astar (a : TE) (r : TA) : TA := fun C σ H Q => a C σ H fun x H1 => ∃ ys, items H1 x = some ys ∧ r C σ H1 fun xs H2 => Q (ys ++ xs) H2
def tupl (t : TA) : TE := fun C σ H Q => t C σ H fun xs H1 => xs.length ≤ line ∧ ∀ p, H1 p = none → Q (.ref p) (upd H1 p (.tup xs))
def lstl (t : TA) : TE := fun C σ H Q => t C σ H fun xs H1 => xs.length ≤ line ∧ ∀ p, H1 p = none → Q (.ref p) (upd H1 p (.lst xs))
def dnew : TE := fun _ _ H Q => ∀ p, H p = none → Q (.ref p) (upd H p (.dct []))
/-- a call of a built-in by values -/
def blt (r : List V → Heap → VK → Prop) (t : TA) : TE := fun C σ H Q => t C σ H fun vs H1 => r vs H1 Q
/-- the arguments in the parameters' order: places of the given ones, or defaults -/
def perm (ps : List (Sum Nat V)) (vs : List V) : List V := ps.map fun p => match p with
  | .inl i => vs.getD i .non
  | .inr v => v
/-- written arguments, then keywords' values -/
def akw (n : Nat) (ta tk : TA) : TA := fun C σ H Q => ta C σ H fun xs H1 => xs.length = n ∧ tk C σ H1 fun ys H2 => Q (xs ++ ys) H2
/-- a def, by its name; n values are written -/
def callf (f : String) (n : Nat) (ps : List (Sum Nat V)) (t : TA) : TE := fun C σ H Q => t C σ H fun vs H1 => vs.length = n ∧ C.call "" f (perm ps vs) H1 Q fun c fs H' => C.exc c fs σ H'
/-- a method, of instances of cs; the instance is the first of the values -/
def meth (cs : List String) (o : TE) (m : String) (n : Nat) (ps : List (Sum Nat V)) (t : TA) : TE := fun C σ H Q => o C σ H fun x H1 => ∃ a c fs, x = .ref a ∧ H1 a = some (.ins c fs) ∧ c ∈ cs ∧ fs.lookup m = none ∧ t C σ H1 fun vs H2 => vs.length = n ∧
  C.call c m (perm ps (x :: vs)) H2 Q fun c fs H' => C.exc c fs σ H'
def make (c : String) (n : Nat) (ps : List (Sum Nat V)) (t : TA) : TE := fun C σ H Q => t C σ H fun vs H1 => vs.length = n ∧ ∀ p, H1 p = none → C.call c "__init__" (perm ps (.ref p :: vs)) (upd H1 p (.ins c [])) (fun v H2 => v = .non ∧ Q (.ref p) H2) fun c fs H' => C.exc c fs σ H'
/-- a built-in method by values -/
def bmt (k : V → Heap → Prop) (r : V → List V → Heap → VK → Prop) (o : TE) (t : TA) : TE := fun C σ H Q => o C σ H fun x H1 => k x H1 ∧ t C σ H1 fun vs H2 => r x vs H2 Q
def isL (x : V) (H : Heap) : Prop := ∃ xs, litems H x = some xs
def isD (x : V) (H : Heap) : Prop := ∃ a, x = .ref a ∧ ((∃ kvs, H a = some (.dct kvs)) ∨ ∃ kvs, H a = some (.dctT kvs))

/-! ### built-ins by values -/
abbrev B1 := List V → Heap → VK → Prop
def bLen : B1 := fun vs H Q => ∃ x xs, vs = [x] ∧ items H x = some xs ∧ Q (.int xs.length) H
def bAbs : B1 := fun vs H Q => ∃ i : Int, vs = [.int i] ∧ Q (.int (i.natAbs : Int)) H
def bInt : B1 := fun vs H Q => match vs with
  | [.int i] => Q (.int i) H
  | [.bl b] => Q (.int (if b then 1 else 0)) H
  | _ => False
def bMax2 : B1 := fun vs H Q => ∃ i j : Int, vs = [.int i, .int j] ∧ Q (.int (max i j)) H
def bMin2 : B1 := fun vs H Q => ∃ i j : Int, vs = [.int i, .int j] ∧ Q (.int (min i j)) H
def bMax3 : B1 := fun vs H Q => ∃ i j k : Int, vs = [.int i, .int j, .int k] ∧ Q (.int (max (max i j) k)) H
def bMin3 : B1 := fun vs H Q => ∃ i j k : Int, vs = [.int i, .int j, .int k] ∧ Q (.int (min (min i j) k)) H
def bSum : B1 := fun vs H Q => ∃ (x : V) (ns : List Int), vs = [x] ∧ litems H x = some (ns.map V.int) ∧ Q (.int ns.sum) H
def bMax1 : B1 := fun vs H Q => ∃ (x : V) (ns : List Int), vs = [x] ∧ litems H x = some (ns.map V.int) ∧ 0 < ns.length ∧ ∀ m, m ∈ ns → (∀ y, y ∈ ns → y ≤ m) → Q (.int m) H
def bMin1 : B1 := fun vs H Q => ∃ (x : V) (ns : List Int), vs = [x] ∧ litems H x = some (ns.map V.int) ∧ 0 < ns.length ∧ ∀ m, m ∈ ns → (∀ y, y ∈ ns → m ≤ y) → Q (.int m) H
def bAll : B1 := fun vs H Q => ∃ (x : V) (bs : List Bool), vs = [x] ∧ litems H x = some (bs.map V.bl) ∧ Q (.bl (bs.all id)) H
def bAny : B1 := fun vs H Q => ∃ (x : V) (bs : List Bool), vs = [x] ∧ litems H x = some (bs.map V.bl) ∧ Q (.bl (bs.any id)) H
def bList : B1 := fun vs H Q => ∃ x xs, vs = [x] ∧ items H x = some xs ∧ ∀ p, H p = none → Q (.ref p) (upd H p (.lst xs))
def bTuple : B1 := fun vs H Q => ∃ x xs, vs = [x] ∧ ((litems H x = some xs ∧ ∀ p, H p = none → Q (.ref p) (upd H p (.tup xs))) ∨ (titems H x = some xs ∧ Q x H))
/-- list(range(..)) -/
def lrng1 (a : TE) : TE := fun C σ H Q => a C σ H fun x H1 => ∃ j : Int, x = .int j ∧ j ≤ line ∧ -(2 ^ 62) ≤ j ∧ ∀ p, H1 p = none → Q (.ref p) (upd H1 p (.lst ((List.range j.toNat).map fun (k : Nat) => V.int k)))
def lrng2 (a b : TE) : TE := fun C σ H Q => a C σ H fun x H1 => b C σ H1 fun y H2 => ∃ i j : Int, x = .int i ∧ y = .int j ∧ (-(2 ^ 62) ≤ i ∧ i < 2 ^ 62 ∧ -(2 ^ 62) ≤ j ∧ j < 2 ^ 62 ∧ (j - i).toNat ≤ line) ∧
  ∀ p, H2 p = none → Q (.ref p) (upd H2 p (.lst ((List.range (j - i).toNat).map fun (k : Nat) => V.int (i + k))))
def bSortedI : B1 := fun vs H Q => ∃ (x : V) (ns : List Int), vs = [x] ∧ litems H x = some (ns.map V.int) ∧ ∀ (ns' : List Int) p, List.Perm ns' ns → List.Pairwise (· ≤ ·) ns' → H p = none → Q (.ref p) (upd H p (.lst (ns'.map V.int)))
/-- a text's code points -/
def txt (s : String) : List Nat := s.toList.map Char.toNat
def bRepr : B1 := fun vs H Q => match vs with
  | [.bl b] => Q (.str (if b then [84, 114, 117, 101] else [70, 97, 108, 115, 101])) H
  | [.int i] => i.natAbs.log2 < 1920 ∧ Q (.str (txt (toString i))) H
  | _ => False
abbrev M1 := V → List V → Heap → VK → Prop
def mAppend : M1 := fun x vs H Q => ∃ a xs y, x = .ref a ∧ vs = [y] ∧ H a = some (.lst xs) ∧ xs.length < line ∧ Q .non (upd H a (.lst (xs ++ [y])))
def mExtend : M1 := fun x vs H Q => ∃ a b xs zs, x = .ref a ∧ vs = [.ref b] ∧ H a = some (.lst xs) ∧ H b = some (.lst zs) ∧ xs.length + zs.length ≤ line ∧ Q .non (upd H a (.lst (xs ++ zs)))
def mPop0 : M1 := fun x vs H Q => ∃ a xs y, x = .ref a ∧ vs = [] ∧ H a = some (.lst (xs ++ [y])) ∧ Q y (upd H a (.lst xs))
def mPopAt : M1 := fun x vs H Q => ∃ a xs i k y, x = .ref a ∧ vs = [.int i] ∧ H a = some (.lst xs) ∧ xs.length < 2 ^ 62 ∧ ixN xs.length i = some k ∧ xs[k]? = some y ∧ Q y (upd H a (.lst (xs.eraseIdx k)))
def mReverse : M1 := fun x vs H Q => ∃ a xs, x = .ref a ∧ vs = [] ∧ H a = some (.lst xs) ∧ Q .non (upd H a (.lst xs.reverse))
def mClear : M1 := fun x vs H Q => ∃ a xs, x = .ref a ∧ vs = [] ∧ H a = some (.lst xs) ∧ Q .non (upd H a (.lst []))
def mInsert : M1 := fun x vs H Q => ∃ a xs i y, x = .ref a ∧ vs = [.int i, y] ∧ H a = some (.lst xs) ∧ xs.length < line ∧ 0 ≤ i ∧ i < 2 ^ 63 ∧ Q .non (upd H a (.lst (xs.take i.toNat ++ [y] ++ xs.drop i.toNat)))
/-- how many figures of two a number has -/
def bits (i : Int) : Nat := if i = 0 then 0 else i.natAbs.log2 + 1
/-- x.bit_length() -/
def bitl (o : TE) : TE := fun C σ H Q => o C σ H fun x H1 => ∃ i, x = .int i ∧ Q (.int (bits i : Nat)) H1

/-! ### isinstance, of written classes -/
/-- a value's built-in type -/
def tyOf (H : Heap) : V → Option String
  | .non => some "NoneType"
  | .bl _ => some "bool"
  | .int _ => some "int"
  | .str _ => some "str"
  | .ref a => match H a with
    | some (.lst _) => some "list"
    | some (.scr _) => some "list"
    | some (.tup _) => some "tuple"
    | some (.dct _) => some "dict"
    | some (.dctT _) => some "dict"
    | _ => none
  | _ => none
def subT (T c : String) : Bool := T == c || (T == "bool" && c == "int")
/-- is the value of one of these built-in types (bool is an int) -/
def isTy (H : Heap) (ts : List String) (x : V) : Option Bool := (tyOf H x).map fun T => ts.any (subT T)
def isi (a : TE) (ts : List String) : TE := fun C σ H Q => a C σ H fun x H1 => ∃ k, isTy H1 ts x = some k ∧ Q (.bl k) H1

/-! ### tests -/
def tt (a : TE) : TT := fun C σ H Q => a C σ H fun x H1 => ∃ k, truth H1 x = some k ∧ Q k H1
def tand (a b : TT) : TT := fun C σ H Q => a C σ H fun k H1 => if k = true then b C σ H1 Q else Q false H1
def tor (a b : TT) : TT := fun C σ H Q => a C σ H fun k H1 => if k = true then Q true H1 else b C σ H1 Q
def tnot (a : TT) : TT := fun C σ H Q => a C σ H fun k H1 => Q (!k) H1

/-! ### targets -/
def gname (i : Nat) : TG := fun _ v σ H Q => Q (put σ i v) H
def gsub (o i : TE) : TG := fun C v σ H Q => o C σ H fun x H1 => i C σ H1 fun y H2 => ∃ a xs k j, x = .ref a ∧ y = .int k ∧ H2 a = some (.lst xs) ∧ ixN xs.length k = some j ∧ Q σ (upd H2 a (.lst (xs.set j v)))
def putF (f : String) (v : V) : List (String × V) → List (String × V)
  | [] => [(f, v)]
  | (g, w) :: r => if g = f then (g, v) :: r else (g, w) :: putF f v r
def gfld (cs : List String) (o : TE) (f : String) : TG := fun C v σ H Q => o C σ H fun x H1 => ∃ a c fs, x = .ref a ∧ H1 a = some (.ins c fs) ∧ c ∈ cs ∧ fs.length < 1000 ∧ Q σ (upd H1 a (.ins c (putF f v fs)))
/-- o[l:h] = a list -/
def gslc (o l h : TE) : TG := fun C v σ H Q => o C σ H fun x H1 => l C σ H1 fun lo H2 => h C σ H2 fun hi H3 => ∃ a b xs ys i j, x = .ref a ∧ v = .ref b ∧ lo = .int i ∧ hi = .int j ∧ H3 a = some (.lst xs) ∧ H3 b = some (.lst ys) ∧ a ≠ b ∧ 0 ≤ i ∧ i ≤ j ∧ j ≤ xs.length ∧ xs.length + ys.length ≤ line ∧
  Q σ (upd H3 a (.lst (xs.take i.toNat ++ ys ++ xs.drop j.toNat)))
/-- several targets for several values -/
abbrev TGs := Cx → List V → St → Heap → (St → Heap → Prop) → Prop
def gnil : TGs := fun _ vs σ H Q => vs = [] ∧ Q σ H
def gcons (g : TG) (r : TGs) : TGs := fun C vs σ H Q => ∃ v ws, vs = v :: ws ∧ g C v σ H fun σ1 H1 => r C ws σ1 H1 Q
def gtup (n : Nat) (g : TGs) : TG := fun C v σ H Q => ∃ xs, titems H v = some xs ∧ xs.length = n ∧ g C xs σ H Q

/-! ### statements -/
def skip : TS := fun _ D σ H => D.nx σ H
def seq (t u : TS) : TS := fun C D σ H => t C { D with nx := fun σ1 H1 => u C D σ1 H1 } σ H
def asg (g : TG) (e : TE) : TS := fun C D σ H => e C σ H fun v H1 => g C v σ H1 D.nx
/-- a, b, .. = e, f, .. both written; the values are taken first -/
def par (n : Nat) (g : TGs) (t : TA) : TS := fun C D σ H => t C σ H fun vs H1 => vs.length = n ∧ g C vs σ H1 D.nx
/-- a = b = e -/
def asg2 (g g' : TG) (e : TE) : TS := fun C D σ H => e C σ H fun v H1 => g C v σ H1 fun σ1 H2 => g' C v σ1 H2 D.nx
/-- += and -= of numbers -/
def augo : Bool → V → V → (V → Prop) → Prop
  | true, .int i, .int j, Q => Q (.int (i + j))
  | false, .int i, .int j, Q => Q (.int (i - j))
  | _, _, _, _ => False
def aug (i : Nat) (o : Bool) (e : TE) : TS := fun C D σ H => match get σ i with
  | some x => e C σ H fun y H1 => augo o x y fun z => D.nx (put σ i z) H1
  | none => False
def augf (cs : List String) (o : TE) (f : String) (k : Bool) (e : TE) : TS := fun C D σ H => o C σ H fun x H1 => ∃ a c fs v, x = .ref a ∧ H1 a = some (.ins c fs) ∧ fs.lookup f = some v ∧ e C σ H1 fun y H2 => augo k v y fun z =>
  ∃ fs', H2 a = some (.ins c fs') ∧ c ∈ cs ∧ fs'.length < 1000 ∧ D.nx σ (upd H2 a (.ins c (putF f z fs')))
def drop (e : TE) : TS := fun C D σ H => e C σ H fun _ H1 => D.nx σ H1
def ret (e : TE) : TS := fun C D σ H => e C σ H D.rt
def retN : TS := fun _ D _ H => D.rt .non H
def ifs (c : TT) (t u : TS) : TS := fun C D σ H => c C σ H fun k H1 => if k = true then t C D σ H1 else u C D σ H1
def brk : TS := fun _ D σ H => D.bk σ H
def cnt : TS := fun _ D σ H => D.ct σ H
/-- code that is not come to -/
def never : TS := fun _ _ _ _ => False
/-- raise C(e), the error keeping the value as f -/
def rais (c f : String) (e : TE) : TS := fun C _ σ H => e C σ H fun v H1 => C.exc c [(f, v)] σ H1
/-- an optional name is forgotten -/
def wipeO (σ : St) : Option Nat → St
  | some i => σ.set i none
  | none => σ
def putO (σ : St) (i : Option Nat) (v : V) : St := match i with
  | some i => put σ i v
  | none => σ
def Ends.wipe (D : Ends) (i : Option Nat) : Ends := ⟨fun σ H => D.nx (wipeO σ i) H, D.rt, fun σ H => D.bk (wipeO σ i) H, fun σ H => D.ct (wipeO σ i) H⟩
/-- there is nothing at dd, or an error's fields -/
def xfree (H : Heap) (dd : Nat) : Prop := H dd = none ∨ ∃ fs, H dd = some (.xd fs)
/-- try: b, except the classes acc (as the i-th name): h. Classes of rej pass by. In h the error stands at a, its fields at dd -/
def tryx (acc rej : List String) (i : Option Nat) (b : TS) (h : String → Nat → Nat → TS) : TS := fun C D σ H => ∃ X0 : String → List (String × V) → St → Heap → Prop,
  (∀ c fs σ' H', X0 c fs σ' H' → (c ∈ acc ∧ ∀ a dd, H' a = none → xfree H' dd → a ≠ dd → h c a dd { C with exc := fun _ _ _ _ => False } (D.wipe i) (putO σ' i (.ref a)) (upd H' dd (.xd fs))) ∨ (c ∈ rej ∧ C.exc c fs σ' H')) ∧
  b { C with exc := X0 } D σ H
/-- an except clause: the classes that it takes, those that it lets by, the slot of its name, its suite -/
structure Cl where
  acc : List String
  rej : List String
  i : Option Nat
  h : String → Nat → Nat → TS
/-- an error meets the clauses, one behind the other -/
def disp (C : Cx) (D : Ends) : List Cl → String → List (String × V) → St → Heap → Prop
  | [], c, fs, σ, H => C.exc c fs σ H
  | k :: r, c, fs, σ, H => (c ∈ k.acc ∧ ∀ a dd, H a = none → xfree H dd → a ≠ dd → k.h c a dd { C with exc := fun _ _ _ _ => False } (D.wipe k.i) (putO σ k.i (.ref a)) (upd H dd (.xd fs))) ∨ (c ∈ k.rej ∧ disp C D r c fs σ H)
/-- try with several clauses -/
def trym (ks : List Cl) (b : TS) : TS := fun C D σ H => ∃ X0 : String → List (String × V) → St → Heap → Prop, (∀ c fs σ' H', X0 c fs σ' H' → disp C D ks c fs σ' H') ∧ b { C with exc := X0 } D σ H
/-- a field of the error at a -/
def efld (a dd : Nat) (e : TE) (f : String) : TE := fun C σ H Q => e C σ H fun x H1 => x = .ref a ∧ ∃ fs v, H1 dd = some (.xd fs) ∧ fs.lookup f = some v ∧ Q v H1
/-- at most n turns -/
def whn (c : TT) (b : TS) (C : Cx) (D : Ends) : Nat → St → Heap → Prop
  | 0, _, _ => False
  | n + 1, σ, H => c C σ H fun k H1 => if k = true then b C { D with nx := whn c b C D n, ct := whn c b C D n, bk := D.nx } σ H1 else D.nx σ H1
def whl (c : TT) (b : TS) : TS := fun C D σ H => ∃ n, whn c b C D n σ H
/-- what a for walks: the values of the turns, each asked of the heap at its turn -/
abbrev It := List (Heap → (V → Prop) → Prop)
/-- the turns of a for; st: what must stand at each turn and at the end -/
def fori (st : Heap → Prop) (g : TG) (b : TS) (C : Cx) (D : Ends) : List V → St → Heap → Prop
  | [], σ, H => st H ∧ D.nx σ H
  | v :: r, σ, H => st H ∧ g C v σ H fun σ1 H1 => b C { D with nx := fori st g b C D r, ct := fori st g b C D r, bk := D.nx } σ1 H1
/-- what is walked: items, and what must stand -/
abbrev TI := Cx → St → Heap → (List V → (Heap → Prop) → Heap → Prop) → Prop
def iseq (e : TE) : TI := fun C σ H Q => e C σ H fun x H1 => (∃ xs, litems H1 x = some xs ∧ Q xs (fun H2 => litems H2 x = some xs) H1) ∨ (∃ xs, titems H1 x = some xs ∧ Q xs (fun H2 => titems H2 x = some xs) H1)
def rng (lo : Int) (n : Nat) : List V := (List.range n).map fun (k : Nat) => V.int (lo + (k : Int))
def big (i : Int) : Prop := -(2 ^ 62) ≤ i ∧ i < 2 ^ 62
def irng1 (t : TA) : TI := fun C σ H Q => t C σ H fun vs H1 => ∃ j : Int, vs = [.int j] ∧ big j ∧ Q (rng 0 j.toNat) (fun _ => True) H1
def irng2 (t : TA) : TI := fun C σ H Q => t C σ H fun vs H1 => ∃ i j : Int, vs = [.int i, .int j] ∧ big i ∧ big j ∧ Q (rng i (j - i).toNat) (fun _ => True) H1
def fore (i : TI) (g : TG) (b : TS) : TS := fun C D σ H => i C σ H fun vs st H1 => fori st g b C D vs σ H1
/-- pairs that are made at each turn and taken apart at once: enumerate, zip, items -/
def fori2 (st : Heap → Prop) (g : TGs) (b : TS) (C : Cx) (D : Ends) : List (V × V) → St → Heap → Prop
  | [], σ, H => st H ∧ D.nx σ H
  | v :: r, σ, H => st H ∧ g C [v.1, v.2] σ H fun σ1 H1 => b C { D with nx := fori2 st g b C D r, ct := fori2 st g b C D r, bk := D.nx } σ1 H1
abbrev TI2 := Cx → St → Heap → (List (V × V) → (Heap → Prop) → Heap → Prop) → Prop
def enumV : Int → List V → List (V × V)
  | _, [] => []
  | k, x :: r => (.int k, x) :: enumV (k + 1) r
def ienum (e : TE) : TI2 := fun C σ H Q => e C σ H fun x H1 => (∃ xs, litems H1 x = some xs ∧ Q (enumV 0 xs) (fun H2 => litems H2 x = some xs) H1) ∨ (∃ xs, titems H1 x = some xs ∧ Q (enumV 0 xs) (fun H2 => titems H2 x = some xs) H1)
/-- two lists, or two tuples, side by side -/
def izip (t : TA) : TI2 := fun C σ H Q => t C σ H fun vs H1 => ∃ x y, vs = [x, y] ∧ ((∃ xs ys, litems H1 x = some xs ∧ litems H1 y = some ys ∧ Q (xs.zip ys) (fun H2 => litems H2 x = some xs ∧ litems H2 y = some ys) H1) ∨
  (∃ xs ys, titems H1 x = some xs ∧ titems H1 y = some ys ∧ Q (xs.zip ys) (fun H2 => titems H2 x = some xs ∧ titems H2 y = some ys) H1))
def fore2 (i : TI2) (g : TGs) (b : TS) : TS := fun C D σ H => i C σ H fun vs st H1 => fori2 st g b C D vs σ H1
/-! ### comprehensions: the names of the block are forgotten at its start; no error leaves it -/
def wipe (σ : St) : List Nat → St
  | [] => σ
  | i :: r => (wipe σ r).set i none
def Cx.calm (C : Cx) : Cx := { C with exc := fun _ _ _ _ => False }
def lci (st : Heap → Prop) (own : List Nat) (g : TG) (c : TT) (e : TE) (C : Cx) (σ : St) (Q : List V → Heap → Prop) : List V → List V → Heap → Prop
  | [], acc, H => st H ∧ Q acc H
  | v :: r, acc, H => st H ∧ g C v (wipe σ own) H fun σ1 H1 => c C σ1 H1 fun k H2 => if k = true then e C σ1 H2 fun y H3 => acc.length < line ∧ lci st own g c e C σ Q r (acc ++ [y]) H3 else lci st own g c e C σ Q r acc H2
def tyes : TT := fun _ _ H Q => Q true H
def lcomp (i : TI) (own : List Nat) (g : TG) (c : TT) (e : TE) : TE := fun C σ H Q => i C σ H fun vs st H1 => lci st own g c e C.calm σ (fun acc H2 => ∀ p, H2 p = none → Q (.ref p) (upd H2 p (.lst acc))) vs [] H1
def lci2 (st : Heap → Prop) (own : List Nat) (g : TGs) (c : TT) (e : TE) (C : Cx) (σ : St) (Q : List V → Heap → Prop) : List (V × V) → List V → Heap → Prop
  | [], acc, H => st H ∧ Q acc H
  | v :: r, acc, H => st H ∧ g C [v.1, v.2] (wipe σ own) H fun σ1 H1 => c C σ1 H1 fun k H2 => if k = true then e C σ1 H2 fun y H3 => acc.length < line ∧ lci2 st own g c e C σ Q r (acc ++ [y]) H3 else lci2 st own g c e C σ Q r acc H2
def lcomp2 (i : TI2) (own : List Nat) (g : TGs) (c : TT) (e : TE) : TE := fun C σ H Q => i C σ H fun vs st H1 => lci2 st own g c e C.calm σ (fun acc H2 => ∀ p, H2 p = none → Q (.ref p) (upd H2 p (.lst acc))) vs [] H1

/-! ### defs -/
structure Def where
  np : Nat
  n : Nat
  body : TS
def start (n : Nat) (vs : List V) : St := vs.map some ++ List.replicate (n - vs.length) none
/-- how a def answers, at most k calls deep (what is reached may be less than what is asked for) -/
def callK (T : String → String → Option Def) : Nat → String → String → List V → Heap → VK → EK → Prop
  | 0, _, _, _, _, _, _ => False
  | k + 1, c, m, vs, H, Q, E => match T c m with
    | some d => vs.length = d.np ∧ ∃ (Q0 : VK) (E0 : EK), (∀ v H, Q0 v H → Q v H) ∧ (∀ c f H, E0 c f H → E c f H) ∧ d.body ⟨callK T k, fun c fs _ H' => E0 c fs H'⟩ { nx := fun _ H' => Q0 .non H', rt := Q0 } (start d.n vs) H
    | none => False
end Z

/-! Z1: every construct of Z0 is met by the program's own syntax. -/
namespace ZS
open PySem PySem.Spec PyProof.Rows L2

abbrev St := L2.St
/-- where the defs and the classes lie -/
structure Lw where
  fa : String → Addr
  ca : String → Addr
  /-- the def (of the class named first, or of none): its address, its object, its parameters -/
  fn : String → String → Option (Addr × FuncData × List Str)
  /-- where the def at hand began -/
  h0 : Z.Heap
  H0 : Hp
def Lw.at_ (L : Lw) (h0 : Z.Heap) (H0 : Hp) : Lw := { L with h0 := h0, H0 := H0 }
def code (s : List Nat) : Str := ⟨s.toArray⟩
def Lw.v (L : Lw) : Z.V → V
  | .non => .non
  | .bl b => .bl b
  | .int i => .int i
  | .str s => .str (code s)
  | .ref a => .ref a
  | .fn x => .ref (L.fa x)
  | .cls x => .ref (L.ca x)
  | .ty x => .ty x
abbrev Lw.vs (L : Lw) (xs : List Z.V) : List V := xs.map L.v
abbrev Lw.fs (L : Lw) (fs : List (String × Z.V)) : List (Str × V) := fs.map fun p => (Str.ofString p.1, L.v p.2)
def hk : Z.Hk → Key
  | .inl i => .inl i
  | .inr s => .inr (code s)
/-- what stands at an address -/
def RO (L : Lw) (K : PySem.W.Frag) (H : Hp) (a : Addr) : Z.O → Prop
  | .lst xs => H a = some (.lst (L.vs xs))
  | .tup xs => H a = some (.tup (L.vs xs))
  | .scr xs => Rd H a (.lst (L.vs xs))
  | .dct kvs => H a = some (.dK (kvs.map fun p => (hk p.1, L.v p.2)))
  | .dctT kvs => H a = some (.dT (kvs.map fun p => (p.1.map hk, L.v p.2)))
  | .ins c fs => ∃ dx, H a = some (.ins (L.ca c) dx (L.fs fs)) ∧ Cls K (L.ca c) ∧ ∀ f ∈ fs.map (·.1), NoAttr K (L.ca c) (Str.ofString f)
  | .xd fs => H a = some (.xd (L.fs fs))
def RH (L : Lw) (K : PySem.W.Frag) (Ho : Z.Heap) (H : Hp) : Prop := ∀ a o, Ho a = some o → RO L K H a o
/-- nothing that stood is gone; what was not told of stays untold, and as it was (but for tables of code) -/
structure Gr (Ho : Z.Heap) (H : Hp) (Ho' : Z.Heap) (H' : Hp) : Prop where
  on : ∀ a, H a ≠ none → H' a ≠ none
  un : ∀ a o, H a = some o → Ho a = none → Ho' a = none ∧ ((∀ ps, o ≠ .tbl ps) → H' a = some o)
structure R (L : Lw) (K : PySem.W.Frag) (σo : Z.St) (Ho : Z.Heap) (σ : St) (H : Hp) : Prop where
  len : σo.length = σ.length
  sl : ∀ i v, Z.get σo i = some v → σ[i]? = some (some (L.v v))
  hp : RH L K Ho H
  gr : Gr L.h0 L.H0 Ho H
theorem Gr.refl (Ho : Z.Heap) (H : Hp) : Gr Ho H Ho H := ⟨fun _ h => h, fun _ _ e h => ⟨h, fun _ => e⟩⟩
theorem Gr.trans {Ho Ho1 Ho2 : Z.Heap} {H H1 H2 : Hp} (a : Gr Ho H Ho1 H1) (b : Gr Ho1 H1 Ho2 H2) : Gr Ho H Ho2 H2 :=
  ⟨fun p h => b.on p (a.on p h), fun p o e n => by
    obtain ⟨n1, k1⟩ := a.un p o e n
    cases e1 : H1 p with
    | none => exact absurd e1 (a.on p (by rw [e]; exact fun z => nomatch z))
    | some o1 =>
      obtain ⟨n2, k2⟩ := b.un p o1 e1 n1
      refine ⟨n2, fun nt => ?_⟩
      have e3 := k1 nt
      rw [e1] at e3
      cases e3
      exact k2 nt⟩

/-! ### the heaps -/
section
variable {L : Lw} {K : PySem.W.Frag} {Ho : Z.Heap} {H : Hp} {σo : Z.St} {σ : St}
theorem RO.ne {a : Addr} {o : Z.O} (h : RO L K H a o) : H a ≠ none := by
  intro e
  cases o with
  | lst xs => rw [show H a = _ from h] at e; cases e
  | tup xs => rw [show H a = _ from h] at e; cases e
  | scr xs => rcases h with h | ⟨x, h⟩ <;> rw [h] at e <;> cases e
  | dct kvs => rw [show H a = _ from h] at e; cases e
  | dctT kvs => rw [show H a = _ from h] at e; cases e
  | ins c fs => obtain ⟨dx, h, _⟩ := h; rw [h] at e; cases e
  | xd fs => rw [show H a = _ from h] at e; cases e
/-- what is told of an address does not hang on another one that is new, or changes but is no tuple -/
theorem RO.upd {a b : Addr} {o : Z.O} {u : HO} (h : RO L K H a o) (hb : a ≠ b) : RO L K (upd H b u) a o := by
  cases o with
  | lst xs => exact (upd_ne hb).trans h
  | tup xs => exact (upd_ne hb).trans h
  | scr xs =>
    rcases h with h | ⟨x, h⟩
    · exact .inl ((upd_ne hb).trans h)
    · exact .inr ⟨x, (upd_ne hb).trans h⟩
  | dct kvs => exact (upd_ne hb).trans h
  | dctT kvs => exact (upd_ne hb).trans h
  | ins c fs => obtain ⟨dx, h, r⟩ := h; exact ⟨dx, (upd_ne hb).trans h, r⟩
  | xd fs => exact (upd_ne hb).trans h
theorem RH.set {a : Addr} {o : Z.O} {u : HO} (h : RH L K Ho H) (n : RO L K (upd H a u) a o) : RH L K (Z.upd Ho a o) (upd H a u) := fun b w e => by
  by_cases hb : b = a
  · subst hb
    rw [Z.upd_same] at e
    cases e
    exact n
  · rw [Z.upd_ne hb] at e
    exact (h b w e).upd hb
/-- what is not in the model's heap is not told of -/
theorem RH.free {a : Addr} (h : RH L K Ho H) (hn : H a = none) : Ho a = none := by
  cases e : Ho a with
  | none => rfl
  | some o => exact absurd hn (h a o e).ne
/-- an object is laid that is not told of -/
theorem RH.hid {a : Addr} {u : HO} (h : RH L K Ho H) (hn : Ho a = none) : RH L K Ho (upd H a u) := fun b w e =>
  (h b w e).upd fun z => by rw [z, hn] at e; cases e
theorem Gr.new {a : Addr} {o : Z.O} {u : HO} (hn : H a = none) : Gr Ho H (Z.upd Ho a o) (upd H a u) :=
  ⟨fun p h => by
    by_cases e : p = a
    · subst e; exact absurd hn h
    · rw [upd_ne e]; exact h, fun p w h n => by
    have e : p ≠ a := fun z => by rw [z, hn] at h; cases h
    rw [Z.upd_ne e, upd_ne e]
    exact ⟨n, fun _ => h⟩⟩
theorem Gr.chg {a : Addr} {o o' : Z.O} {u : HO} (hn : Ho a = some o) : Gr Ho H (Z.upd Ho a o') (upd H a u) :=
  ⟨fun p h => by
    by_cases e : p = a
    · subst e; rw [upd_same]; exact fun z => nomatch z
    · rw [upd_ne e]; exact h, fun p w h n => by
    have e : p ≠ a := fun z => by rw [z, hn] at n; cases n
    rw [Z.upd_ne e, upd_ne e]
    exact ⟨n, fun _ => h⟩⟩
theorem Gr.hid {a : Addr} {u : HO} (hn : H a = none) : Gr Ho H Ho (upd H a u) :=
  ⟨fun p h => by
    by_cases e : p = a
    · subst e; exact absurd hn h
    · rw [upd_ne e]; exact h, fun p w h n => by
    have e : p ≠ a := fun z => by rw [z, hn] at h; cases h
    rw [upd_ne e]
    exact ⟨n, fun _ => h⟩⟩
theorem R.heap {Ho' : Z.Heap} {H' : Hp} (h : R L K σo Ho σ H) (g : RH L K Ho' H') (gr : Gr Ho H Ho' H') : R L K σo Ho' σ H' := ⟨h.len, h.sl, g, h.gr.trans gr⟩
theorem get_put : ∀ (σo : Z.St) (i j : Nat) (v w : Z.V), Z.get (Z.put σo i v) j = some w → (j = i ∧ w = v) ∨ (j ≠ i ∧ Z.get σo j = some w)
  | [], _, _, _, _, h => by cases h
  | _ :: _, 0, 0, v, w, h => .inl ⟨rfl, (Option.some.inj h).symm⟩
  | _ :: _, 0, j + 1, v, w, h => .inr ⟨by omega, h⟩
  | _ :: _, i + 1, 0, v, w, h => .inr ⟨by omega, h⟩
  | _ :: r, i + 1, j + 1, v, w, h => by
    rcases get_put r i j v w h with ⟨a, b⟩ | ⟨a, b⟩
    · exact .inl ⟨by omega, b⟩
    · exact .inr ⟨by omega, b⟩
theorem put_length : ∀ (σo : Z.St) (i : Nat) (v : Z.V), (Z.put σo i v).length = σo.length
  | [], _, _ => rfl
  | _ :: _, 0, _ => rfl
  | _ :: r, i + 1, v => by
    show (Z.put r i v).length + 1 = r.length + 1
    rw [put_length r i v]
theorem get_lt : ∀ (σo : Z.St) (i : Nat) (v : Z.V), Z.get σo i = some v → i < σo.length
  | [], _, _, h => by cases h
  | _ :: _, 0, _, _ => Nat.succ_pos _
  | _ :: r, i + 1, v, h => Nat.succ_lt_succ (get_lt r i v h)
theorem R.put (h : R L K σo Ho σ H) (i : Nat) (v : Z.V) : R L K (Z.put σo i v) Ho (σ.set i (some (L.v v))) H := by
  refine ⟨by rw [put_length, List.length_set]; exact h.len, fun j w e => ?_, h.hp, h.gr⟩
  have hl := get_lt _ _ _ e
  rw [put_length, h.len] at hl
  rcases get_put _ _ _ _ _ e with ⟨rfl, rfl⟩ | ⟨hj, e⟩
  · rw [List.getElem?_set_self hl]
  · rw [List.getElem?_set_ne (Ne.symm hj)]
    exact h.sl j w e
theorem items_rel {x : Z.V} {xs : List Z.V} (h : RH L K Ho H) (e : Z.items Ho x = some xs) : ∃ a, x = .ref a ∧ (SqL K H a (L.vs xs) ∨ SqT K H a (L.vs xs)) := by
  unfold Z.items at e
  split at e
  · rename_i a
    refine ⟨a, rfl, ?_⟩
    split at e
    · rename_i ys q; cases e; exact .inl (SqL.of (h a _ q))
    · rename_i ys q; cases e; exact .inr (SqT.of (h a _ q))
    · rename_i ys q; cases e; exact .inl (.inl (h a _ q))
    · cases e
  · cases e
theorem litems_rel {x : Z.V} {xs : List Z.V} (h : RH L K Ho H) (e : Z.litems Ho x = some xs) : ∃ a, x = .ref a ∧ SqL K H a (L.vs xs) := by
  unfold Z.litems at e
  split at e
  · rename_i a
    refine ⟨a, rfl, ?_⟩
    split at e
    · rename_i ys q; cases e; exact SqL.of (h a _ q)
    · rename_i ys q; cases e; exact .inl (h a _ q)
    · cases e
  · cases e
theorem titems_rel {x : Z.V} {xs : List Z.V} (h : RH L K Ho H) (e : Z.titems Ho x = some xs) : ∃ a, x = .ref a ∧ SqT K H a (L.vs xs) := by
  unfold Z.titems at e
  split at e
  · rename_i a
    refine ⟨a, rfl, ?_⟩
    split at e
    · rename_i ys q; cases e; exact SqT.of (h a _ q)
    · cases e
  · cases e
theorem truth_rel {x : Z.V} {k : Bool} (h : RH L K Ho H) (e : Z.truth Ho x = some k) : TruV K (L.v x) H k := by
  unfold Z.truth at e
  split at e
  · cases e; exact (rfl : false = false)
  · cases e; exact (rfl : _ = _)
  · cases e; exact (rfl : _ = _)
  · rename_i a
    split at e
    · rename_i xs q
      cases e
      exact .inl ⟨_, SqL.of (h a _ q), by simp⟩
    · rename_i xs q
      cases e
      exact .inr (.inl ⟨_, SqT.of (h a _ q), by simp⟩)
    · rename_i xs q
      cases e
      exact .inl ⟨_, .inl (h a _ q), by simp⟩
    · cases e
  · cases e
end

/-! ### the judgements -/
/-- what defs and methods keep; errors reach the code around -/
def Cmono (C : Z.Cx) : Prop := ∀ c m vs H (Q Q' : Z.VK) (E E' : Z.EK), (∀ v H, Q v H → Q' v H) → (∀ c f H, E c f H → E' c f H) → C.call c m vs H Q E → C.call c m vs H Q' E'
/-- how an error lies -/
def RE (L : Lw) (cls : Value) (d : Option Addr) (H : Hp) (c : String) (fs : List (String × Z.V)) : Prop :=
  cls = .ref (L.ca c) ∧ ∃ dx, d = some dx ∧ H dx = some (.xd (L.fs fs))
/-- the error's dict was not yet there -/
def NewD (H : Hp) (d : Option Addr) : Prop := ∀ dx, d = some dx → H dx = none
theorem NewD.back {h0 Ho : Z.Heap} {H0 H : Hp} {d : Option Addr} (n : NewD H d) (g : Gr h0 H0 Ho H) : NewD H0 d := fun dx e => by
  cases q : H0 dx with
  | none => rfl
  | some o => exact absurd (n dx e) (g.on dx (by rw [q]; exact fun z => nomatch z))
def liftW (L : Lw) (K : PySem.W.Frag) (C : Z.Cx) : WX := fun cls d σ H => ∃ c fs σo Ho, R L K σo Ho σ H ∧ RE L cls d H c fs ∧ NewD L.H0 d ∧ C.exc c fs σo Ho
/-- a def's promise, over the model's own values -/
abbrev ZCall := String → String → List Z.V → Z.Heap → Z.VK → Z.EK → Prop
def liftSp (L : Lw) (K : PySem.W.Frag) (cl : ZCall) (c m : String) (n : Nat) : Sp := fun vs H Q E => ∃ vo Ho, vs = L.vs vo ∧ vo.length = n ∧ RH L K Ho H ∧
  cl c m vo Ho (fun v Ho' => ∀ H', RH L K Ho' H' → Gr Ho H Ho' H' → Q (L.v v) H') fun c fs Ho' => ∀ cls d H', RH L K Ho' H' → Gr Ho H Ho' H' → RE L cls d H' c fs → NewD H d → E cls d H'
/-- every def of the table keeps its promise, k deep -/
def Has (L : Lw) (P : Program) (w : World) (K : PySem.W.Frag) (mg : Str → Option Value) (base : Heap) (k : Nat) (cl : ZCall) : Prop :=
  ∀ c m f fd ps, L.fn c m = some (f, fd, ps) → FnOk P w K mg base (CX P w) k f fd ps (liftSp L K cl c m ps.length)
structure Good (L : Lw) (X : Cx) (C : Z.Cx) : Prop where
  mono : Cmono C
  takes : Takes X (liftW L X.K C)
  units : X.A.units + 130 < cLine
  call : X.calm = true → ∃ k, 1 ≤ k ∧ Room (k + 1) X.A ∧ Has L X.prog X.w X.K X.mg X.base k C.call
def liftE (L : Lw) (K : PySem.W.Frag) (C : Z.Cx) (t : Z.TE) : TE := fun σ H Q => ∃ σo Ho, R L K σo Ho σ H ∧ t C σo Ho fun v Ho' => ∀ H', R L K σo Ho' σ H' → Gr Ho H Ho' H' → Q (L.v v) H'
def liftT (L : Lw) (K : PySem.W.Frag) (C : Z.Cx) (t : Z.TT) : TT := fun σ H Q => ∃ σo Ho, R L K σo Ho σ H ∧ t C σo Ho fun k Ho' => ∀ H', R L K σo Ho' σ H' → Gr Ho H Ho' H' → Q k H'
def liftA (L : Lw) (K : PySem.W.Frag) (C : Z.Cx) (t : Z.TA) : TA := fun σ H Q => ∃ σo Ho, R L K σo Ho σ H ∧ t C σo Ho fun vs Ho' => ∀ H', R L K σo Ho' σ H' → Gr Ho H Ho' H' → Q (L.vs vs) H'
def liftO (L : Lw) (K : PySem.W.Frag) (C : Z.Cx) (t : Z.TO) : TO := fun σ H Q => ∃ σo Ho, R L K σo Ho σ H ∧ t C σo Ho fun k Ho' => ∀ H', R L K σo Ho' σ H' → Gr Ho H Ho' H' → Q k H'
/-- all slots but some are as they were -/
structure But (sl : List Nat) (σ σ' : St) : Prop where
  len : σ'.length = σ.length
  at_ : ∀ j, j ∉ sl → σ'[j]? = σ[j]?
theorem But.refl (sl : List Nat) (σ : St) : But sl σ σ := ⟨rfl, fun _ _ => rfl⟩
theorem But.trans {l1 l2 : List Nat} {σ σ1 σ2 : St} (a : But l1 σ σ1) (b : But l2 σ1 σ2) : But (l1 ++ l2) σ σ2 := ⟨b.len.trans a.len, fun j h => by
  rw [b.at_ j fun z => h (List.mem_append_right _ z), a.at_ j fun z => h (List.mem_append_left _ z)]⟩
def liftG (L : Lw) (K : PySem.W.Frag) (C : Z.Cx) (t : Z.TG) (sl : List Nat) : TG := fun v σ H Q => ∃ vo σo Ho, v = L.v vo ∧ R L K σo Ho σ H ∧ t C vo σo Ho fun σo' Ho' => ∀ σ' H', R L K σo' Ho' σ' H' → Gr Ho H Ho' H' → But sl σ σ' → Q σ' H'
def liftGs (L : Lw) (K : PySem.W.Frag) (C : Z.Cx) (t : Z.TGs) (sl : List Nat) : TGs := fun vs σ H Q => ∃ vo σo Ho, vs = L.vs vo ∧ R L K σo Ho σ H ∧ t C vo σo Ho fun σo' Ho' => ∀ σ' H', R L K σo' Ho' σ' H' → Gr Ho H Ho' H' → But sl σ σ' → Q σ' H'
/-- the ends of a block that begins at Ho, H -/
def ends (L : Lw) (K : PySem.W.Frag) (_ : Z.Heap) (_ : Hp) (D : Ends) : Z.Ends where
  nx := fun σo' Ho' => ∀ σ' H', R L K σo' Ho' σ' H' → Gr L.h0 L.H0 Ho' H' → D.nx σ' H'
  rt := fun v Ho' => ∀ H', RH L K Ho' H' → Gr L.h0 L.H0 Ho' H' → D.rt (L.v v) H'
  bk := fun σo' Ho' => ∀ σ' H', R L K σo' Ho' σ' H' → Gr L.h0 L.H0 Ho' H' → D.bk σ' H'
  ct := fun σo' Ho' => ∀ σ' H', R L K σo' Ho' σ' H' → Gr L.h0 L.H0 Ho' H' → D.ct σ' H'
def liftS (L : Lw) (K : PySem.W.Frag) (C : Z.Cx) (t : Z.TS) : TS := fun D σ H => ∃ σo Ho, R L K σo Ho σ H ∧ t C (ends L K Ho H D) σo Ho
/-- one set of ends asks no more than another -/
structure Le (D D' : Z.Ends) : Prop where
  nx : ∀ σ H, D.nx σ H → D'.nx σ H
  rt : ∀ v H, D.rt v H → D'.rt v H
  bk : ∀ σ H, D.bk σ H → D'.bk σ H
  ct : ∀ σ H, D.ct σ H → D'.ct σ H
structure SE (L : Lw) (X : Cx) (e : Expr) (t : Z.TE) : Prop where
  mono : ∀ C, Cmono C → ∀ σ H (Q Q' : Z.VK), (∀ v H, Q v H → Q' v H) → t C σ H Q → t C σ H Q'
  run : ∀ C, Good L X C → PE X e (liftE L X.K C t)
structure ST (L : Lw) (X : Cx) (e : Expr) (t : Z.TT) : Prop where
  mono : ∀ C, Cmono C → ∀ σ H (Q Q' : Bool → Z.Heap → Prop), (∀ v H, Q v H → Q' v H) → t C σ H Q → t C σ H Q'
  run : ∀ C, Good L X C → PT X e (liftT L X.K C t)
/-- a test whatever its whole is (and, or) -/
structure SW (L : Lw) (X : Cx) (e : Expr) (t : Z.TT) : Prop where
  mono : ∀ C, Cmono C → ∀ σ H (Q Q' : Bool → Z.Heap → Prop), (∀ v H, Q v H → Q' v H) → t C σ H Q → t C σ H Q'
  run : ∀ C, Good L X C → PW X e (liftT L X.K C t)
structure SA (L : Lw) (X : Cx) (es : List Expr) (t : Z.TA) : Prop where
  mono : ∀ C, Cmono C → ∀ σ H (Q Q' : List Z.V → Z.Heap → Prop), (∀ v H, Q v H → Q' v H) → t C σ H Q → t C σ H Q'
  run : ∀ C, Good L X C → PA X es (liftA L X.K C t)
structure SO (L : Lw) (X : Cx) (e : Option Expr) (t : Z.TO) : Prop where
  mono : ∀ C, Cmono C → ∀ σ H (Q Q' : Option Int → Z.Heap → Prop), (∀ v H, Q v H → Q' v H) → t C σ H Q → t C σ H Q'
  run : ∀ C, Good L X C → PO X e (liftO L X.K C t)
structure SG (L : Lw) (X : Cx) (e : Expr) (t : Z.TG) (sl : List Nat) : Prop where
  mono : ∀ C, Cmono C → ∀ v σ H (Q Q' : Z.St → Z.Heap → Prop), (∀ v H, Q v H → Q' v H) → t C v σ H Q → t C v σ H Q'
  run : ∀ C, Good L X C → PG X e (liftG L X.K C t sl)
structure SGs (L : Lw) (X : Cx) (es : List Expr) (t : Z.TGs) (sl : List Nat) : Prop where
  mono : ∀ C, Cmono C → ∀ v σ H (Q Q' : Z.St → Z.Heap → Prop), (∀ v H, Q v H → Q' v H) → t C v σ H Q → t C v σ H Q'
  run : ∀ C, Good L X C → PGs X es (liftGs L X.K C t sl)
structure SS (L : Lw) (X : Cx) (st : Stmt) (t : Z.TS) : Prop where
  mono : ∀ C, Cmono C → ∀ σ H D D', Le D D' → t C D σ H → t C D' σ H
  run : ∀ C, Good L X C → PS X st (liftS L X.K C t)
structure SB (L : Lw) (X : Cx) (st : List Stmt) (t : Z.TS) : Prop where
  mono : ∀ C, Cmono C → ∀ σ H D D', Le D D' → t C D σ H → t C D' σ H
  run : ∀ C, Good L X C → PSs X st (liftS L X.K C t)
section
variable {X : Cx}
theorem impE {e : Expr} {t t' : TE} (h : PE X e t) (i : ∀ σ H Q, t' σ H Q → t σ H Q) : PE X e t' := ⟨fun pins s σ H Q I q => h.run pins s σ H Q I (i σ H Q q)⟩
theorem impT {e : Expr} {t t' : TT} (h : PT X e t) (i : ∀ σ H Q, t' σ H Q → t σ H Q) : PT X e t' := ⟨fun pins s σ H Q I q => h.run pins s σ H Q I (i σ H Q q)⟩
theorem impW {e : Expr} {t t' : TT} (h : PW X e t) (i : ∀ σ H Q, t' σ H Q → t σ H Q) : PW X e t' := ⟨fun wh pins s σ H Q I q => h.run wh pins s σ H Q I (i σ H Q q)⟩
theorem impA {e : List Expr} {t t' : TA} (h : PA X e t) (i : ∀ σ H Q, t' σ H Q → t σ H Q) : PA X e t' := ⟨fun pos pins s σ H Q I q => h.run pos pins s σ H Q I (i σ H Q q)⟩
theorem impG {e : Expr} {t t' : TG} (h : PG X e t) (i : ∀ v σ H Q, t' v σ H Q → t v σ H Q) : PG X e t' := ⟨fun pins s σ H v u Q I r q => h.run pins s σ H v u Q I r (i v σ H Q q)⟩
theorem impGs {e : List Expr} {t t' : TGs} (h : PGs X e t) (i : ∀ v σ H Q, t' v σ H Q → t v σ H Q) : PGs X e t' := ⟨fun pins s σ H v u Q I r q => h.run pins s σ H v u Q I r (i v σ H Q q)⟩
theorem impS {e : Stmt} {t t' : TS} (h : PS X e t) (i : ∀ D σ H, t' D σ H → t D σ H) : PS X e t' := ⟨fun pins s σ H D I q => h.run pins s σ H D I (i D σ H q)⟩
theorem impB {e : List Stmt} {t t' : TS} (h : PSs X e t) (i : ∀ D σ H, t' D σ H → t D σ H) : PSs X e t' := ⟨fun pins s σ H D I q => h.run pins s σ H D I (i D σ H q)⟩
end

/-! ### names, constants -/
section
variable {L : Lw} {X : Cx} {pos : Pos}
theorem s_var (i : Nat) {x : Str} (hN : X.N[i]? = some x := by rfl) (hv : Vis X.env.scope x := by first | exact Or.inl rfl | exact Or.inr (Or.inl rfl) | exact Or.inr (Or.inr rfl))
    (hd : (x == ("__debug__" : Str)) = false := by decide) (hcd : (x == ("__classdict__" : Str)) = false := by decide) : SE L X (.Name x pos) (Z.var i) := by
  refine ⟨fun C _ σ H Q Q' q h => ?_, fun C _ => impE (pe_var hN hv hd hcd) fun σ H Q ⟨σo, Ho, r, h⟩ => ?_⟩
  · unfold Z.var at h ⊢
    split at h
    · exact q _ _ h
    · exact h
  · unfold Z.var at h
    split at h
    · rename_i v e
      exact ⟨_, r.sl i v e, h H r (Gr.refl _ _)⟩
    · exact h.elim
theorem s_cst {v : Z.V} {e : Expr} (h : PE X e (tC (L.v v))) : SE L X e (Z.cst v) :=
  ⟨fun C _ σ H Q Q' q h => q _ _ h, fun C _ => impE h fun σ H Q ⟨σo, Ho, r, q⟩ => q H r (Gr.refl _ _)⟩
theorem s_int {i : Int} {j : Nat} : SE L X (.Constant (.int i) j pos) (Z.cst (.int i)) := s_cst pe_int
theorem s_bl {b : Bool} {j : Nat} : SE L X (.Constant (.bool b) j pos) (Z.cst (.bl b)) := s_cst pe_bl
theorem s_non {j : Nat} : SE L X (.Constant .none j pos) (Z.cst .non) := s_cst pe_non
theorem s_str {x : Str} {j : Nat} (s : List Nat) (h : x = code s := by rfl) : SE L X (.Constant (.str x) j pos) (Z.cst (.str s)) := by
  subst h
  exact s_cst pe_str
/-- a module's own number -/
theorem s_globI {x : Str} {i : Int} {t : Tok} (hg : Gl X x) (hm : X.mg x = some (.int i t)) (hd : (x == ("__debug__" : Str)) = false := by decide) : SE L X (.Name x pos) (Z.cst (.int i)) := s_cst (pe_glob hg hm ⟨t, rfl⟩ hd)
end
end ZS

/-! Z2: operators and comparisons. -/
namespace ZS
open PySem PySem.Spec PyProof.Rows L2
/-- a rule of two values, over the heap of Z0 -/
def lift2 (L : Lw) (K : PySem.W.Frag) (z : Z.V → Z.V → Z.Heap → Z.VK → Prop) : R2 := fun x y H Q => ∃ xo yo Ho, x = L.v xo ∧ y = L.v yo ∧ RH L K Ho H ∧ z xo yo Ho fun v Ho' => ∀ H', RH L K Ho' H' → Gr Ho H Ho' H' → Q (L.v v) H'
/-- .. that makes a truth value -/
def lift2b (L : Lw) (K : PySem.W.Frag) (z : Z.V → Z.V → Z.Heap → (Bool → Prop) → Prop) : R2 := fun x y H Q => ∃ xo yo Ho, x = L.v xo ∧ y = L.v yo ∧ RH L K Ho H ∧ z xo yo Ho fun b => Q (.bl b) H
def oz : Z.Op → Operator
  | .add => .Add
  | .sub => .Sub
  | .mul => .Mult
  | .fdiv => .FloorDiv
  | .mod => .Mod
  | .pow => .Pow
  | .shl => .LShift
  | .shr => .RShift
  | .band => .BitAnd
theorem line_eq : (Z.line : Nat) = sizeLine := by rw [sizeLine_eq]; rfl
theorem vs_len (L : Lw) (xs : List Z.V) : (L.vs xs).length = xs.length := List.length_map ..
theorem vs_app (L : Lw) (xs ys : List Z.V) : L.vs (xs ++ ys) = L.vs xs ++ L.vs ys := List.map_append ..
section
variable {L : Lw} {X : Cx} {K : PySem.W.Frag} {Ho : Z.Heap} {H : Hp}
/-- list + list, where either may be the script -/
theorem op_catS : OpR X (binaryOp .Add) (fun x y H Q => ∃ l b xs zs, x = .ref l ∧ y = .ref b ∧ SqL X.K H l xs ∧ SqL X.K H b zs ∧ xs.length + zs.length ≤ sizeLine ∧ ∀ p, H p = none → Q (.ref p) (upd H p (.lst (xs ++ zs)))) := by
  intro pins s σ H x y v u Q I rx ry h
  obtain ⟨l, b, xs, zs, rfl, rfl, hH, hB, hz, q⟩ := h
  cases rx
  cases ry
  obtain ⟨its, r, ⟨o, n, e, hc, hd, hs⟩, _⟩ := I.list hH
  obtain ⟨its2, r2, ⟨o2, n2, e2, hc2, hd2, hs2⟩, _⟩ := I.list hB
  obtain ⟨cls, d, dt, sl⟩ := o
  obtain ⟨cls2, d2, dt2, sl2⟩ := o2
  simp only at hc hd hs hc2 hd2 hs2
  subst hc hd hs hc2 hd2 hs2
  have l1 := r.length
  have l2 := r2.length
  refine concat_meets ⟨_, e, rfl⟩ ⟨_, e2, rfl⟩ noFill_list_add seq_list_add PySem.F.slot_list_add PySem.F.entry_list_add (PySem.F.args_list_add_2 _ _)
    (list_addW l b its.toArray its2.toArray n n2 none none sl sl2 (by simp only [List.size_toArray]; omega)) ⟨e, e2, ?_⟩
  have ea : its.toArray ++ its2.toArray = (its ++ its2).toArray := by simp
  rw [ea]
  exact ⟨.ref _, _, I.lnew (t' := s.toks) (r.append r2) (by rw [List.length_append]; exact hz), rfl, q _ I.fresh⟩
theorem new_lst {p : Addr} {xs : List Z.V} {Q : VK} {Qo : Z.VK} (h : RH L K Ho H) (hp : H p = none) (hq : Qo (.ref p) (Z.upd Ho p (.lst xs)))
    (k : ∀ v Ho', Qo v Ho' → ∀ H', RH L K Ho' H' → Gr Ho H Ho' H' → Q (L.v v) H') : Q (.ref p) (upd H p (.lst (L.vs xs))) :=
  k _ _ hq _ (h.set upd_same) (Gr.new hp)
theorem new_tup {p : Addr} {xs : List Z.V} {Q : VK} {Qo : Z.VK} (h : RH L K Ho H) (hp : H p = none) (hq : Qo (.ref p) (Z.upd Ho p (.tup xs)))
    (k : ∀ v Ho', Qo v Ho' → ∀ H', RH L K Ho' H' → Gr Ho H Ho' H' → Q (L.v v) H') : Q (.ref p) (upd H p (.tup (L.vs xs))) :=
  k _ _ hq _ (h.set upd_same) (Gr.new hp)

theorem op_bin (o : Z.Op) : OpR X (binaryOp (oz o)) (lift2 L X.K (Z.opr o)) := by
  intro pins s σ H x y v u Q I rx ry h
  obtain ⟨xo, yo, Ho, rfl, rfl, h, q⟩ := h
  have fin : ∀ {w : Z.V}, (∀ H', RH L X.K Ho H' → Gr Ho H Ho H' → Q (L.v w) H') → Q (L.v w) H := fun k => k H h (Gr.refl _ _)
  have list2 : ∀ {a b : Nat} {xs ys : List Z.V}, xo = .ref a → yo = .ref b → Z.litems Ho (.ref a) = some xs → Z.litems Ho (.ref b) = some ys → xs.length + ys.length ≤ Z.line →
      (∀ p, Ho p = none → ∀ H', RH L X.K (Z.upd Ho p (.lst (xs ++ ys))) H' → Gr Ho H (Z.upd Ho p (.lst (xs ++ ys))) H' → Q (L.v (.ref p)) H') → wpAny (model X.prog X.w) X.A (binaryOp .Add v u) (EP X pins σ Q) X.xe s := by
    intro a b xs ys ex ey e1 e2 hz k
    subst ex ey
    obtain ⟨_, z1, s1⟩ := litems_rel h e1
    obtain ⟨_, z2, s2⟩ := litems_rel h e2
    cases z1
    cases z2
    refine op_catS pins s σ H _ _ v u Q I rx ry ⟨a, b, L.vs xs, L.vs ys, rfl, rfl, s1, s2, by rw [vs_len, vs_len, ← line_eq]; exact hz, fun p hp => ?_⟩
    rw [← vs_app]
    exact k p (h.free hp) _ (h.set upd_same) (Gr.new hp)
  cases o with
  | add =>
    cases xo <;> cases yo <;> first
      | exact op_add pins s σ H _ _ v u Q I rx ry ⟨_, _, rfl, rfl, q H h (Gr.refl _ _)⟩
      | exact q.elim
      | skip
    rename_i a b
    rcases q with ⟨xs, ys, e1, e2, hz, k⟩ | ⟨xs, ys, e1, e2, n1, n2, hz, k⟩
    · exact list2 rfl rfl e1 e2 hz k
    · obtain ⟨_, z1, s1⟩ := titems_rel h e1
      obtain ⟨_, z2, s2⟩ := titems_rel h e2
      cases z1
      cases z2
      refine op_catT pins s σ H _ _ v u Q I rx ry ⟨a, b, L.vs xs, L.vs ys, rfl, rfl, s1, s2, fun z => n1 (List.map_eq_nil_iff.mp z), by rw [vs_len, vs_len, ← line_eq]; exact hz, fun z => absurd (List.map_eq_nil_iff.mp z) n2, fun _ p hp => ?_⟩
      rw [← vs_app]
      exact k p (h.free hp) _ (h.set upd_same) (Gr.new hp)
  | sub =>
    cases xo <;> cases yo <;> first
      | exact op_sub pins s σ H _ _ v u Q I rx ry ⟨_, _, rfl, rfl, q H h (Gr.refl _ _)⟩
      | exact q.elim
  | mul =>
    cases xo <;> cases yo <;> first
      | (obtain ⟨⟨n, m, hz, h1, h2⟩, q⟩ := q
         exact op_mulX pins s σ H _ _ v u Q I rx ry ⟨_, _, rfl, rfl, mulx_ok h1 h2 hz, q H h (Gr.refl _ _)⟩)
      | exact q.elim
      | skip
    rename_i a k
    obtain ⟨xs, e, k1, k2, hz, q⟩ := q
    refine op_rep pins s σ H _ _ v u Q I rx ry ⟨a, k, L.vs xs, rfl, rfl, h a _ e, k1, k2, by rw [vs_len, ← line_eq]; exact hz, fun p hp => ?_⟩
    have er : (List.replicate k.toNat (L.vs xs)).flatten = L.vs (List.replicate k.toNat xs).flatten := by
      show _ = List.map L.v _
      rw [List.map_flatten, List.map_replicate]
    rw [er]
    exact q p (h.free hp) _ (h.set upd_same) (Gr.new hp)
  | fdiv =>
    cases xo <;> cases yo <;> first
      | (obtain ⟨h0, h1, q⟩ := q
         exact op_fdivW pins s σ H _ _ v u Q I rx ry ⟨_, _, rfl, rfl, wide_div h0 h1 (by decide) (by decide), q H h (Gr.refl _ _)⟩)
      | exact q.elim
  | mod =>
    cases xo <;> cases yo <;> first
      | (obtain ⟨h0, q⟩ := q
         exact op_mod pins s σ H _ _ v u Q I rx ry ⟨_, _, rfl, rfl, h0, q H h (Gr.refl _ _)⟩)
      | exact q.elim
  | pow =>
    cases xo <;> cases yo <;> first
      | (obtain ⟨h0, ⟨n, h1, h2⟩, q⟩ := q
         refine (opI (C := fun i j => 0 ≤ j ∧ (Builtin.Int.intBits i : Int) * j ≤ 2 ^ 27) (g := fun i j => i ^ j.toNat) fun _ _ _ _ _ _ _ hc q => pow_int hc.1 hc.2 q) pins s σ H _ _ v u Q I rx ry ⟨_, _, rfl, rfl, ⟨h0, ?_⟩, q H h (Gr.refl _ _)⟩
         have b := PyProof.Rows.intBits_le h1
         rename_i i j
         have e2 : (j.toNat : Int) = j := Int.toNat_of_nonneg h0
         have h3 : Builtin.Int.intBits i * j.toNat ≤ 134217728 := Nat.le_trans (Nat.mul_le_mul_right _ b) h2
         have h4 : ((Builtin.Int.intBits i * j.toNat : Nat) : Int) ≤ 134217728 := by omega
         rw [Int.natCast_mul, e2] at h4
         exact h4)
      | exact q.elim
  | shl =>
    cases xo <;> cases yo <;> first
      | (obtain ⟨h0, ⟨n, h1, h2⟩, q⟩ := q
         refine op_shlW pins s σ H _ _ v u Q I rx ry ⟨_, _, rfl, rfl, ⟨h0, ?_⟩, q H h (Gr.refl _ _)⟩
         have b := PyProof.Rows.intBits_le h1
         have e : (2 : Int) ^ 27 = 134217728 := by decide
         rw [e]
         omega)
      | exact q.elim
  | shr =>
    cases xo <;> cases yo <;> first
      | (obtain ⟨h0, q⟩ := q
         exact op_shr pins s σ H _ _ v u Q I rx ry ⟨_, _, rfl, rfl, h0, q H h (Gr.refl _ _)⟩)
      | exact q.elim
  | band =>
    cases xo <;> cases yo <;> try exact q.elim
    obtain ⟨h0, h1, q⟩ := q
    refine op_and pins s σ H _ _ v u Q I rx ry ⟨_, _, rfl, rfl, ?_⟩
    show Q (V.int (Builtin.bitAnd _ _)) H
    rw [bitAnd_pp h0 h1]
    exact q H h (Gr.refl _ _)
end
/-! ### data -/
mutual
def pd : Z.D → PyData
  | .non => .none
  | .bl b => .bool b
  | .int i => .int i
  | .str s => .str (code s)
  | .lst xs => .list (pdL xs)
  | .tup xs => .tuple (pdL xs)
def pdL : List Z.D → List PyData
  | [] => []
  | x :: xs => pd x :: pdL xs
end
mutual
theorem pd_depth : ∀ d : Z.D, (pd d).depth = d.depth
  | .non => rfl
  | .bl _ => rfl
  | .int _ => rfl
  | .str _ => rfl
  | .lst xs => by simp only [pd, PyData.depth, Z.D.depth, pdL_depth xs]
  | .tup xs => by simp only [pd, PyData.depth, Z.D.depth, pdL_depth xs]
theorem pdL_depth : ∀ ds : List Z.D, PyData.depthAll (pdL ds) = Z.D.depthL ds
  | [] => rfl
  | x :: xs => by simp only [pdL, PyData.depthAll, Z.D.depthL, pd_depth x, pdL_depth xs]
end
theorem code_beq (x y : List Nat) : (code x == code y) = (x == y) := by
  have e : code x = code y ↔ x = y := ⟨fun h => by
    have h2 := congrArg (fun z : Str => z.cps.toList) h
    simpa [code] using h2, fun h => by rw [h]⟩
  by_cases h : x = y
  · subst h; simp
  · rw [beq_eq_false_iff_ne.mpr h, beq_eq_false_iff_ne.mpr fun z => h (e.mp z)]
mutual
theorem pd_eqv : ∀ d e : Z.D, PyData.eqv (pd d) (pd e) = Z.D.eqv d e
  | .lst xs, .lst ys => by simp only [pd, PyData.eqv, Z.D.eqv]; exact pdL_eqv xs ys
  | .tup xs, .tup ys => by simp only [pd, PyData.eqv, Z.D.eqv]; exact pdL_eqv xs ys
  | .str x, .str y => by simp only [pd, PyData.eqv, Z.D.eqv]; exact code_beq x y
  | .non, e => by cases e <;> simp only [pd, PyData.eqv, Z.D.eqv]
  | .bl _, e => by cases e <;> simp only [pd, PyData.eqv, Z.D.eqv]
  | .int _, e => by cases e <;> simp only [pd, PyData.eqv, Z.D.eqv]
  | .str _, .non => by simp only [pd, PyData.eqv, Z.D.eqv]
  | .str _, .bl _ => by simp only [pd, PyData.eqv, Z.D.eqv]
  | .str _, .int _ => by simp only [pd, PyData.eqv, Z.D.eqv]
  | .str _, .lst _ => by simp only [pd, PyData.eqv, Z.D.eqv]
  | .str _, .tup _ => by simp only [pd, PyData.eqv, Z.D.eqv]
  | .lst _, .non => by simp only [pd, PyData.eqv, Z.D.eqv]
  | .lst _, .bl _ => by simp only [pd, PyData.eqv, Z.D.eqv]
  | .lst _, .int _ => by simp only [pd, PyData.eqv, Z.D.eqv]
  | .lst _, .str _ => by simp only [pd, PyData.eqv, Z.D.eqv]
  | .lst _, .tup _ => by simp only [pd, PyData.eqv, Z.D.eqv]
  | .tup _, .non => by simp only [pd, PyData.eqv, Z.D.eqv]
  | .tup _, .bl _ => by simp only [pd, PyData.eqv, Z.D.eqv]
  | .tup _, .int _ => by simp only [pd, PyData.eqv, Z.D.eqv]
  | .tup _, .str _ => by simp only [pd, PyData.eqv, Z.D.eqv]
  | .tup _, .lst _ => by simp only [pd, PyData.eqv, Z.D.eqv]
theorem pdL_eqv : ∀ ds es : List Z.D, PyData.eqvAll (pdL ds) (pdL es) = Z.D.eqvL ds es
  | [], [] => rfl
  | [], _ :: _ => rfl
  | _ :: _, [] => rfl
  | x :: xs, y :: ys => by simp only [pdL, PyData.eqvAll, Z.D.eqvL, pd_eqv x y, pdL_eqv xs ys]
end
section
variable {L : Lw} {X : Cx} {K : PySem.W.Frag} {Ho : Z.Heap} {H : Hp}
mutual
theorem rep_dp (h : RH L K Ho H) : ∀ (d : Z.D) (v : Z.V), Z.Rep Ho v d → Dp K H (L.v v) (pd d)
  | .non, _, r => by cases r; exact .non
  | .bl _, _, r => by cases r; exact .bl _
  | .int _, _, r => by cases r; exact .int _
  | .str _, _, r => by cases r; exact .str _
  | .lst ds, _, r => by
    cases r with
    | lst e q =>
      obtain ⟨_, z, s⟩ := litems_rel h e
      cases z
      exact .lst s (repL_dp h ds _ q)
  | .tup ds, _, r => by
    cases r with
    | tup e q =>
      obtain ⟨_, z, s⟩ := titems_rel h e
      cases z
      exact .tup s (repL_dp h ds _ q)
theorem repL_dp (h : RH L K Ho H) : ∀ (ds : List Z.D) (vs : List Z.V), Z.RepL Ho vs ds → DpAll K H (L.vs vs) (pdL ds)
  | [], _, r => by cases r; exact .nil
  | d :: ds, _, r => by
    cases r with
    | cons q1 q2 => exact .cons (rep_dp h d _ q1) (repL_dp h ds _ q2)
end
mutual
theorem rep_lay : ∀ (d : Z.D) (v : Z.V), Z.Rep Ho v d → (pd d).canLay0 = true
  | .non, _, _ => rfl
  | .bl _, _, _ => rfl
  | .int _, _, _ => rfl
  | .str s, _, r => by
    cases r with
    | str _ q =>
      show PyData.strOk (code s) = true
      unfold PyData.strOk code
      simp only [List.all_eq_true, decide_eq_true_eq] at q
      simp only [Array.all_eq_true, decide_eq_true_eq]
      intro i hi
      exact q _ (by simp)
  | .lst ds, _, r => by
    cases r with
    | lst _ q => exact repL_lay ds _ q
  | .tup ds, _, r => by
    cases r with
    | tup _ q => exact repL_lay ds _ q
theorem repL_lay : ∀ (ds : List Z.D) (vs : List Z.V), Z.RepL Ho vs ds → PyData.canLayAll0 (pdL ds) = true
  | [], _, _ => rfl
  | d :: ds, _, r => by
    cases r with
    | cons q1 q2 =>
      show ((pd d).canLay0 && PyData.canLayAll0 (pdL ds)) = true
      rw [rep_lay d _ q1, repL_lay ds _ q2]
      rfl
end
theorem rep_shaped {d : Z.D} {v : Z.V} (r : Z.Rep Ho v d) (h : d.depth ≤ 64) : SeqAt.shaped (pd d) = true := by
  show ((pd d).canLay0 && decide ((pd d).depth ≤ 64)) = true
  rw [rep_lay d v r, pd_depth, decide_eq_true h]
  rfl
end
def cz : Z.Cm → CmpOp
  | .eq => .Eq
  | .ne => .NotEq
  | .lt => .Lt
  | .le => .LtE
  | .gt => .Gt
  | .ge => .GtE
  | .is => .Is
  | .isnot => .IsNot
  | .isin => .In
  | .notin => .NotIn
theorem flat_rel (L : Lw) {x : Z.V} (h : Z.flatV x = true) : flatV (L.v x) = true := by
  cases x <;> first | rfl | cases h
theorem eqF_rel (L : Lw) {x y : Z.V} (hx : Z.flatV x = true) (hy : Z.flatV y = true) : eqV (L.v x) (L.v y) = Z.eqF x y := by
  cases x <;> try cases hx
  all_goals (cases y <;> first | rfl | (exact code_beq _ _))
theorem inF_rel (L : Lw) {x : Z.V} (hx : Z.flatV x = true) : ∀ xs : List Z.V, xs.all Z.flatV = true → (L.vs xs).all flatV = true ∧ inV (L.v x) (L.vs xs) = Z.inF x xs
  | [], _ => ⟨rfl, rfl⟩
  | y :: r, h => by
    have h2 : Z.flatV y = true ∧ r.all Z.flatV = true := by simpa using h
    obtain ⟨i1, i2⟩ := inF_rel L hx r h2.2
    refine ⟨?_, ?_⟩
    · show (flatV (L.v y) && (L.vs r).all flatV) = true
      rw [flat_rel L h2.1, i1]
      rfl
    · show (eqV (L.v y) (L.v x) || inV (L.v x) (L.vs r)) = (Z.eqF y x || Z.inF x r)
      rw [eqF_rel L h2.1 hx, i2]
section
variable {L : Lw} {X : Cx} {K : PySem.W.Frag} {Ho : Z.Heap} {H : Hp}
theorem hk_inj {j k : Z.Hk} : hk j = hk k ↔ j = k := by
  constructor
  · intro h
    cases j with
    | inl a =>
      cases k with
      | inl b => exact congrArg _ (Sum.inl.inj h)
      | inr b => exact nomatch h
    | inr a =>
      cases k with
      | inl b => exact nomatch h
      | inr b =>
        have h2 := congrArg (fun z : Str => z.cps.toList) (Sum.inr.inj h)
        have h3 : a = b := by simpa [code] using h2
        rw [h3]
  · intro h
    rw [h]
theorem hks_inj : ∀ {j k : List Z.Hk}, j.map hk = k.map hk ↔ j = k
  | [], [] => ⟨fun _ => rfl, fun _ => rfl⟩
  | [], _ :: _ => ⟨fun h => (nomatch h), fun h => (nomatch h)⟩
  | _ :: _, [] => ⟨fun h => (nomatch h), fun h => (nomatch h)⟩
  | a :: j, b :: k => by
    constructor
    · intro h
      have h1 : hk a = hk b ∧ j.map hk = k.map hk := by simpa using h
      rw [hk_inj.mp h1.1, hks_inj.mp h1.2]
    · intro h
      rw [h]
theorem look_rel {κ κ' : Type} [DecidableEq κ] [DecidableEq κ'] {f : κ → κ'} (hf : ∀ j k, f j = f k ↔ j = k) (k : κ) : ∀ kvs : List (κ × Z.V), valV (kvs.map fun p => (f p.1, L.v p.2)) (f k) = (Z.look k kvs).map L.v
  | [] => rfl
  | (j, v) :: r => by
    rw [List.map_cons]
    unfold Z.look
    by_cases h : j = k
    · subst h
      rw [valV_pos rfl, if_pos rfl]
      rfl
    · rw [if_neg h, ← look_rel hf k r]
      unfold valV
      rw [List.find?_cons_of_neg (by simpa using fun z => h ((hf j k).mp z))]
theorem hkOf_rel {y : Z.V} {k : Z.Hk} (h : Z.hkOf y = some k) : L.v y = kV (hk k) := by
  cases y <;> cases h <;> rfl
theorem hksOf_rel : ∀ {ys : List Z.V} {k : List Z.Hk}, Z.hksOf ys = some k → L.vs ys = (k.map hk).map kV
  | [], k, h => by cases h; rfl
  | y :: r, k, h => by
    unfold Z.hksOf at h
    split at h
    · rename_i a b e1 e2
      cases h
      show L.v y :: L.vs r = kV (hk a) :: (b.map hk).map kV
      rw [hkOf_rel e1, hksOf_rel e2]
    · cases h
theorem dget_rel {x y : Z.V} {r : Option Z.V} (h : RH L K Ho H) (g : Z.dget Ho x y r) : ∃ a, x = .ref a ∧ DGet H a (L.v y) (r.map L.v) := by
  rcases g with ⟨a, kvs, k, rfl, e, hk', rfl⟩ | ⟨a, kvs, b, ys, k, rfl, e, rfl, eb, hk', rfl⟩
  · refine ⟨a, rfl, ?_⟩
    rw [hkOf_rel hk', ← look_rel (fun _ _ => hk_inj) k kvs]
    exact DGet.k (h a _ e)
  · refine ⟨a, rfl, ?_⟩
    rw [← look_rel (fun _ _ => hks_inj) k kvs]
    have q := h b _ eb
    refine DGet.t (b := b) (h a _ e) ?_
    rw [show H b = _ from q, hksOf_rel hk']
theorem putKv_rel {κ κ' : Type} [DecidableEq κ] [DecidableEq κ'] {f : κ → κ'} (hf : ∀ j k, f j = f k ↔ j = k) (k : κ) (v : Z.V) (kvs : List (κ × Z.V)) (nd : (kvs.map (·.1)).Nodup) :
    putK (kvs.map fun p => (f p.1, L.v p.2)) (f k) (L.v v) = (Z.putKv k v kvs).map fun p => (f p.1, L.v p.2) := by
  induction kvs with
  | nil => rfl
  | cons p r ih =>
    obtain ⟨j, w⟩ := p
    have nd2 : j ∉ r.map (·.1) ∧ (r.map (·.1)).Nodup := List.nodup_cons.mp nd
    unfold Z.putKv
    by_cases h : j = k
    · subst h
      rw [if_pos rfl]
      unfold putK
      have hm : (List.map (fun kv => if kv.1 = f j then (kv.1, L.v v) else kv) (r.map fun p => (f p.1, L.v p.2))) = r.map fun p => (f p.1, L.v p.2) := by
        rw [List.map_map]
        refine List.map_congr_left fun q hq => ?_
        have : ¬ f q.1 = f j := fun z => nd2.1 (by rw [← (hf _ _).mp z]; exact List.mem_map_of_mem hq)
        simp [this]
      simp only [List.map_cons, List.any_cons, decide_true, Bool.true_or, if_true]
      rw [hm]
    · rw [if_neg h]
      have h' : ¬ f j = f k := fun z => h ((hf _ _).mp z)
      have ih2 := ih nd2.2
      unfold putK at ih2 ⊢
      simp only [List.map_cons, List.any_cons, decide_eq_false h', Bool.false_or, if_neg h', List.cons_append]
      split
      · rename_i c
        rw [if_pos c] at ih2
        rw [ih2]
      · rename_i c
        rw [if_neg c] at ih2
        rw [ih2]
theorem pdL_any (d : Z.D) : ∀ ds : List Z.D, ((pdL ds).any fun z => PyData.eqv z (pd d)) = ds.any fun z => Z.D.eqv z d
  | [] => rfl
  | x :: r => by
    show (PyData.eqv (pd x) (pd d) || (pdL r).any _) = (Z.D.eqv x d || r.any _)
    rw [pd_eqv, pdL_any d r]
theorem op_cmp (hu0 : X.A.units + 130 < cLine) (o : Z.Cm) : OpR X (compareOp (cz o)) (lift2b L X.K (Z.cmpr o)) := by
  intro pins s σ H x y v u Q I rx ry h
  have hu : X.A.units + 64 < cLine := by omega
  obtain ⟨xo, yo, Ho, rfl, rfl, h, q⟩ := h
  have data : ∀ {F : Bool → Prop}, Z.eqD xo yo Ho F → ∃ d e, Dp X.K H (L.v xo) d ∧ Dp X.K H (L.v yo) e ∧ SeqAt.shaped d = true ∧ SeqAt.shaped e = true ∧ F (PyData.eqv d e) := by
    rintro F ⟨d, e, rd, re, d1, d2, q⟩
    exact ⟨pd d, pd e, rep_dp h d _ rd, rep_dp h e _ re, rep_shaped rd d1, rep_shaped re d2, by rw [pd_eqv]; exact q⟩
  cases o with
  | eq =>
    obtain ⟨d, e, q1, q2, q3, q4, q⟩ := data (F := fun b => Q (.bl b) H) (by cases xo <;> cases yo <;> exact q)
    exact op_eqD hu pins s σ H _ _ v u Q I rx ry ⟨d, e, q1, q2, q3, q4, q⟩
  | ne =>
    obtain ⟨d, e, q1, q2, q3, q4, q⟩ := data (F := fun b => Q (.bl (!b)) H) (by cases xo <;> cases yo <;> exact q)
    exact op_neD hu pins s σ H _ _ v u Q I rx ry ⟨d, e, q1, q2, q3, q4, q⟩
  | lt =>
    cases xo <;> cases yo <;> first
      | exact op_lt pins s σ H _ _ v u Q I rx ry ⟨_, _, rfl, rfl, q⟩
      | exact q.elim
      | skip
    obtain ⟨ns, ms, e1, e2, q⟩ := q
    obtain ⟨_, z1, s1⟩ := titems_rel h e1
    obtain ⟨_, z2, s2⟩ := titems_rel h e2
    cases z1
    cases z2
    have em : ∀ zs : List Int, L.vs (zs.map Z.V.int) = zs.map V.int := fun zs => by
      rw [Lw.vs, List.map_map]
      rfl
    have el : ∀ zs ws : List Int, HT.lexLt zs ws = Z.lexLt zs ws := by
      intro zs
      induction zs with
      | nil => intro ws; cases ws <;> rfl
      | cons z zs ih =>
        intro ws
        cases ws with
        | nil => rfl
        | cons w ws =>
          show (if z = w then HT.lexLt zs ws else decide (z < w)) = (if z = w then Z.lexLt zs ws else decide (z < w))
          rw [ih]
    rw [em] at s1 s2
    exact op_ltT (by omega) pins s σ H _ _ v u Q I rx ry ⟨_, _, ns, ms, rfl, rfl, s1, s2, by rw [el]; exact q⟩
  | le =>
    cases xo <;> cases yo <;> first
      | exact op_le pins s σ H _ _ v u Q I rx ry ⟨_, _, rfl, rfl, q⟩
      | exact q.elim
  | gt =>
    cases xo <;> cases yo <;> first
      | exact op_gt pins s σ H _ _ v u Q I rx ry ⟨_, _, rfl, rfl, q⟩
      | exact q.elim
  | ge =>
    cases xo <;> cases yo <;> first
      | exact op_ge pins s σ H _ _ v u Q I rx ry ⟨_, _, rfl, rfl, q⟩
      | exact q.elim
  | is =>
    cases yo with
    | non =>
      refine op_isN pins s σ H _ _ v u Q I rx ry ⟨rfl, ?_⟩
      have e : decide (L.v xo = V.non) = decide (xo = Z.V.non) := by cases xo <;> rfl
      rw [e]
      exact q
    | bl b =>
      cases xo <;> first
        | (refine op_isBl pins s σ H _ _ v u Q I rx ry ⟨_, _, rfl, rfl, ?_⟩
           rw [← Bool.beq_eq_decide_eq]
           exact q)
        | exact q.elim
    | int _ => cases xo <;> exact q.elim
    | str _ => cases xo <;> exact q.elim
    | ref _ => cases xo <;> exact q.elim
    | fn _ => cases xo <;> exact q.elim
    | cls _ => cases xo <;> exact q.elim
    | ty _ => cases xo <;> exact q.elim
  | isnot =>
    cases yo with
    | non =>
      refine op_notN pins s σ H _ _ v u Q I rx ry ⟨rfl, ?_⟩
      have e : decide (L.v xo = V.non) = decide (xo = Z.V.non) := by cases xo <;> rfl
      rw [e]
      exact q
    | bl b =>
      cases xo <;> first
        | (refine op_notBl pins s σ H _ _ v u Q I rx ry ⟨_, _, rfl, rfl, ?_⟩
           rw [← Bool.beq_eq_decide_eq]
           exact q)
        | exact q.elim
    | int _ => cases xo <;> exact q.elim
    | str _ => cases xo <;> exact q.elim
    | ref _ => cases xo <;> exact q.elim
    | fn _ => cases xo <;> exact q.elim
    | cls _ => cases xo <;> exact q.elim
    | ty _ => cases xo <;> exact q.elim
  | isin =>
    cases yo with
    | ref b =>
      rcases q with ⟨xs, e, f1, f2, q⟩ | ⟨r, g, q⟩ | ⟨d, ds, rd, re, d1, d2, q⟩
      · obtain ⟨_, z, sq⟩ := items_rel h e
        cases z
        obtain ⟨g1, g2⟩ := inF_rel L f1 xs f2
        refine op_in_seq pins s σ H _ _ v u Q I rx ry ⟨b, L.vs xs, rfl, sq, flat_rel L f1, g1, ?_⟩
        rw [g2]
        exact q
      · obtain ⟨_, z, g⟩ := dget_rel h g
        cases z
        obtain rfl : u = Value.ref b := ry
        refine d_in (by omega) I g rx fun s2 I2 => ⟨.bl _, H, I2, rfl, ?_⟩
        have e : (r.map L.v).isSome = r.isSome := by cases r <;> rfl
        rw [e]
        exact q
      · refine op_inD (by omega) pins s σ H _ _ v u Q I rx ry ⟨pd d, pdL ds, rep_dp h d _ rd, rep_dp h (.lst ds) _ re, rep_shaped rd d1, rep_shaped re d2, ?_⟩
        rw [pdL_any]
        exact q
    | _ => exact q.elim
  | notin =>
    cases yo with
    | ref b =>
      rcases q with ⟨xs, e, f1, f2, q⟩ | ⟨r, g, q⟩ | ⟨d, ds, rd, re, d1, d2, q⟩
      · obtain ⟨_, z, sq⟩ := items_rel h e
        cases z
        obtain ⟨g1, g2⟩ := inF_rel L f1 xs f2
        refine op_notIn_seq pins s σ H _ _ v u Q I rx ry ⟨b, L.vs xs, rfl, sq, flat_rel L f1, g1, ?_⟩
        rw [g2]
        exact q
      · obtain ⟨_, z, g⟩ := dget_rel h g
        cases z
        obtain rfl : u = Value.ref b := ry
        refine d_notIn (by omega) I g rx fun s2 I2 => ⟨.bl _, H, I2, rfl, ?_⟩
        have e : (r.map L.v).isSome = r.isSome := by cases r <;> rfl
        rw [e]
        exact q
      · refine op_notInD (by omega) pins s σ H _ _ v u Q I rx ry ⟨pd d, pdL ds, rep_dp h d _ rd, rep_dp h (.lst ds) _ re, rep_shaped rd d1, rep_shaped re d2, ?_⟩
        rw [pdL_any]
        exact q
    | _ => exact q.elim
end
end ZS

/-! Z3: expressions, tests. -/
namespace ZS
open PySem PySem.Spec PyProof.Rows L2
section
variable {L : Lw} {X : Cx} {a b c e : Expr} {ta tb tc : Z.TE} {pos : Pos}
theorem opr_mono (o : Z.Op) (x y : Z.V) (H : Z.Heap) (Q Q' : Z.VK) (q : ∀ v H, Q v H → Q' v H) (h : Z.opr o x y H Q) : Z.opr o x y H Q' := by
  cases o with
  | add =>
    cases x <;> cases y <;> first
      | exact q _ _ h
      | exact h.elim
      | (rcases h with ⟨xs, ys, e1, e2, z, k⟩ | ⟨xs, ys, e1, e2, n1, n2, z, k⟩
         · exact .inl ⟨xs, ys, e1, e2, z, fun p hp => q _ _ (k p hp)⟩
         · exact .inr ⟨xs, ys, e1, e2, n1, n2, z, fun p hp => q _ _ (k p hp)⟩)
  | mul =>
    cases x <;> cases y <;> first
      | exact ⟨h.1, q _ _ h.2⟩
      | exact h.elim
      | (obtain ⟨xs, e, z1, z2, z3, k⟩ := h
         exact ⟨xs, e, z1, z2, z3, fun p hp => q _ _ (k p hp)⟩)
  | sub => cases x <;> cases y <;> first | exact q _ _ h | exact h.elim
  | fdiv => cases x <;> cases y <;> first | exact ⟨h.1, h.2.1, q _ _ h.2.2⟩ | exact h.elim
  | mod => cases x <;> cases y <;> first | exact ⟨h.1, q _ _ h.2⟩ | exact h.elim
  | pow => cases x <;> cases y <;> first | exact ⟨h.1, h.2.1, q _ _ h.2.2⟩ | exact h.elim
  | shl => cases x <;> cases y <;> first | exact ⟨h.1, h.2.1, q _ _ h.2.2⟩ | exact h.elim
  | shr => cases x <;> cases y <;> first | exact ⟨h.1, q _ _ h.2⟩ | exact h.elim
  | band => cases x <;> cases y <;> first | exact ⟨h.1, h.2.1, q _ _ h.2.2⟩ | exact h.elim
theorem eqD_mono {x y : Z.V} {H : Z.Heap} {Q Q' : Bool → Prop} (q : ∀ b, Q b → Q' b) (h : Z.eqD x y H Q) : Z.eqD x y H Q' := by
  obtain ⟨d, e, r1, r2, d1, d2, h⟩ := h
  exact ⟨d, e, r1, r2, d1, d2, q _ h⟩
theorem cmpr_mono (o : Z.Cm) (x y : Z.V) (H : Z.Heap) (Q Q' : Bool → Prop) (q : ∀ b, Q b → Q' b) (h : Z.cmpr o x y H Q) : Z.cmpr o x y H Q' := by
  cases o with
  | eq => cases x <;> cases y <;> exact eqD_mono q h
  | ne => cases x <;> cases y <;> exact eqD_mono (fun b => q (!b)) h
  | lt =>
    cases x <;> cases y <;> first
      | exact q _ h
      | exact h.elim
      | (obtain ⟨ns, ms, e1, e2, h⟩ := h
         exact ⟨ns, ms, e1, e2, q _ h⟩)
  | le => cases x <;> cases y <;> first | exact q _ h | exact h.elim
  | gt => cases x <;> cases y <;> first | exact q _ h | exact h.elim
  | ge => cases x <;> cases y <;> first | exact q _ h | exact h.elim
  | is => cases y <;> first | exact q _ h | (cases x <;> first | exact q _ h | exact h.elim)
  | isnot => cases y <;> first | exact q _ h | (cases x <;> first | exact q _ h | exact h.elim)
  | isin =>
    cases y <;> first
      | exact h.elim
      | (rcases h with ⟨xs, e, f1, f2, h⟩ | ⟨r, g, h⟩ | h
         · exact .inl ⟨xs, e, f1, f2, q _ h⟩
         · exact .inr (.inl ⟨r, g, q _ h⟩)
         · obtain ⟨d, ds, h1, h2, h3, h4, h5⟩ := h
           exact .inr (.inr ⟨d, ds, h1, h2, h3, h4, q _ h5⟩))
  | notin =>
    cases y <;> first
      | exact h.elim
      | (rcases h with ⟨xs, e, f1, f2, h⟩ | ⟨r, g, h⟩ | h
         · exact .inl ⟨xs, e, f1, f2, q _ h⟩
         · exact .inr (.inl ⟨r, g, q _ h⟩)
         · obtain ⟨d, ds, h1, h2, h3, h4, h5⟩ := h
           exact .inr (.inr ⟨d, ds, h1, h2, h3, h4, q _ h5⟩))

/-! ### operators -/
theorem s_bin (o : Z.Op) (ha : SE L X a ta) (hb : SE L X b tb) : SE L X (.BinOp a (oz o) b pos) (Z.bin o ta tb) := by
  refine ⟨fun C m σ H Q Q' q h => ha.mono C m _ _ _ _ (fun x H1 h1 => hb.mono C m _ _ _ _ (fun y H2 h2 => opr_mono o x y H2 Q Q' q h2) h1) h, fun C g => ?_⟩
  refine impE (pe_op (op_bin (L := L) o) (ha.run C g) (hb.run C g)) fun σ H Q ⟨σo, Ho, r, h⟩ => ?_
  refine ⟨σo, Ho, r, ha.mono C g.mono _ _ _ _ (fun x Ho1 h1 H1 r1 g1 => ?_) h⟩
  refine ⟨σo, Ho1, r1, hb.mono C g.mono _ _ _ _ (fun y Ho2 h2 H2 r2 g2 => ?_) h1⟩
  refine ⟨x, y, Ho2, rfl, rfl, r2.hp, opr_mono o x y Ho2 _ _ (fun v Ho3 h3 H3 r3 g3 => h3 H3 (r2.heap r3 g3) (g1.trans (g2.trans g3))) h2⟩
theorem s_neg (ha : SE L X a ta) : SE L X (.UnaryOp .USub a pos) (Z.neg ta) := by
  refine ⟨fun C m σ H Q Q' q h => ha.mono C m _ _ _ _ (fun x H1 h1 => ?_) h, fun C g => ?_⟩
  · cases x <;> first | exact q _ _ h1 | exact h1.elim
  · refine impE (pe_un un_neg (ha.run C g)) fun σ H Q ⟨σo, Ho, r, h⟩ => ?_
    refine ⟨σo, Ho, r, ha.mono C g.mono _ _ _ _ (fun x Ho1 h1 H1 r1 g1 => ?_) h⟩
    cases x <;> first
      | exact ⟨_, rfl, h1 H1 r1 g1⟩
      | exact h1.elim
theorem s_cmp (o : Z.Cm) (ha : SE L X a ta) (hb : SE L X b tb) (hm : behindInMarks (cz o) b = false := by first | exact nomark _ | rfl | (with_unfolding_all rfl)) : SE L X (.Compare a [cz o] [b] pos) (Z.cmp o ta tb) := by
  refine ⟨fun C m σ H Q Q' q h => ha.mono C m _ _ _ _ (fun x H1 h1 => hb.mono C m _ _ _ _ (fun y H2 h2 => cmpr_mono o x y H2 _ _ (fun k => q _ _) h2) h1) h, fun C g => ?_⟩
  refine impE (pe_cmpR (op_cmp (L := L) g.units o) (ha.run C g) (hb.run C g) hm) fun σ H Q ⟨σo, Ho, r, h⟩ => ?_
  refine ⟨σo, Ho, r, ha.mono C g.mono _ _ _ _ (fun x Ho1 h1 H1 r1 g1 => ?_) h⟩
  refine ⟨σo, Ho1, r1, hb.mono C g.mono _ _ _ _ (fun y Ho2 h2 H2 r2 g2 => ?_) h1⟩
  exact ⟨x, y, Ho2, rfl, rfl, r2.hp, cmpr_mono o x y Ho2 _ _ (fun k h3 => h3 H2 r2 (g1.trans g2)) h2⟩
theorem s_tcmp (o : Z.Cm) (ha : SE L X a ta) (hb : SE L X b tb) (hm : behindInMarks (cz o) b = false := by first | exact nomark _ | rfl | (with_unfolding_all rfl)) : ST L X (.Compare a [cz o] [b] pos) (Z.tt (Z.cmp o ta tb)) := by
  have se := s_cmp (pos := pos) o ha hb hm
  refine ⟨fun C m σ H Q Q' q h => se.mono C m _ _ _ _ (fun x H1 ⟨k, e, h1⟩ => ⟨k, e, q _ _ h1⟩) h, fun C g => ?_⟩
  refine impT (pt_cmpR (op_cmp (L := L) g.units o) (ha.run C g) (hb.run C g) hm) fun σ H Q ⟨σo, Ho, r, h⟩ => ?_
  refine ⟨σo, Ho, r, ha.mono C g.mono _ _ _ _ (fun x Ho1 h1 H1 r1 g1 => ?_) h⟩
  refine ⟨σo, Ho1, r1, hb.mono C g.mono _ _ _ _ (fun y Ho2 h2 H2 r2 g2 => ?_) h1⟩
  refine ⟨x, y, Ho2, rfl, rfl, r2.hp, cmpr_mono o x y Ho2 _ _ (fun k h3 => ?_) h2⟩
  obtain ⟨k2, e, h3⟩ := h3
  cases e
  exact ⟨k, rfl, h3 H2 r2 (g1.trans g2)⟩
theorem chain_mono (o o' : Z.Cm) (ha : SE L X a ta) (hb : SE L X b tb) (hc : SE L X c tc) : ∀ C, Cmono C → ∀ σ H (Q Q' : Z.VK), (∀ v H, Q v H → Q' v H) → Z.chain o o' ta tb tc C σ H Q → Z.chain o o' ta tb tc C σ H Q' := by
  intro C m σ H Q Q' q h
  refine ha.mono C m _ _ _ _ (fun x H1 h1 => hb.mono C m _ _ _ _ (fun y H2 h2 => cmpr_mono o x y H2 _ _ (fun k h3 => ?_) h2) h1) h
  cases k with
  | true => exact hc.mono C m _ _ _ _ (fun z H3 h4 => cmpr_mono o' y z H3 _ _ (fun l => q _ _) h4) h3
  | false => exact q _ _ h3
theorem s_chain (o o' : Z.Cm) (ha : SE L X a ta) (hb : SE L X b tb) (hc : SE L X c tc) (hm : lastMarks [cz o, cz o'] [b, c] = false := by with_unfolding_all rfl) : SE L X (.Compare a [cz o, cz o'] [b, c] pos) (Z.chain o o' ta tb tc) := by
  refine ⟨chain_mono o o' ha hb hc, fun C g => ?_⟩
  refine impE (pe_chain (op_cmp (L := L) g.units o) (op_cmp (L := L) g.units o') (ha.run C g) (hb.run C g) (hc.run C g) hm) fun σ H Q ⟨σo, Ho, r, h⟩ => ?_
  refine ⟨σo, Ho, r, ha.mono C g.mono _ _ _ _ (fun x Ho1 h1 H1 r1 g1 => ?_) h⟩
  refine ⟨σo, Ho1, r1, hb.mono C g.mono _ _ _ _ (fun y Ho2 h2 H2 r2 g2 => ?_) h1⟩
  refine ⟨x, y, Ho2, rfl, rfl, r2.hp, cmpr_mono o x y Ho2 _ _ (fun k h3 => ⟨k, rfl, ?_⟩) h2⟩
  cases k with
  | true =>
    refine iteT ⟨σo, Ho2, r2, hc.mono C g.mono _ _ _ _ (fun z Ho3 h4 H3 r3 g3 => ?_) h3⟩
    exact ⟨y, z, Ho3, rfl, rfl, r3.hp, cmpr_mono o' y z Ho3 _ _ (fun l h5 => h5 H3 r3 (g1.trans (g2.trans g3))) h4⟩
  | false => exact iteF (h3 H2 r2 (g1.trans g2))
theorem s_tchain (o o' : Z.Cm) (ha : SE L X a ta) (hb : SE L X b tb) (hc : SE L X c tc) (hm : lastMarks [cz o, cz o'] [b, c] = false := by with_unfolding_all rfl) : ST L X (.Compare a [cz o, cz o'] [b, c] pos) (Z.tt (Z.chain o o' ta tb tc)) := by
  refine ⟨fun C m σ H Q Q' q h => chain_mono o o' ha hb hc C m _ _ _ _ (fun x H1 ⟨k, e, h1⟩ => ⟨k, e, q _ _ h1⟩) h, fun C g => ?_⟩
  refine impT (pt_chain (op_cmp (L := L) g.units o) (op_cmp (L := L) g.units o') (ha.run C g) (hb.run C g) (hc.run C g) hm) fun σ H Q ⟨σo, Ho, r, h⟩ => ?_
  refine ⟨σo, Ho, r, ha.mono C g.mono _ _ _ _ (fun x Ho1 h1 H1 r1 g1 => ?_) h⟩
  refine ⟨σo, Ho1, r1, hb.mono C g.mono _ _ _ _ (fun y Ho2 h2 H2 r2 g2 => ?_) h1⟩
  refine ⟨x, y, Ho2, rfl, rfl, r2.hp, cmpr_mono o x y Ho2 _ _ (fun k h3 => ⟨k, rfl, ?_⟩) h2⟩
  cases k with
  | true =>
    refine iteT ⟨σo, Ho2, r2, hc.mono C g.mono _ _ _ _ (fun z Ho3 h4 H3 r3 g3 => ?_) h3⟩
    refine ⟨y, z, Ho3, rfl, rfl, r3.hp, cmpr_mono o' y z Ho3 _ _ (fun l h5 => ?_) h4⟩
    obtain ⟨l2, e, h5⟩ := h5
    cases e
    exact ⟨l, rfl, h5 H3 r3 (g1.trans (g2.trans g3))⟩
  | false =>
    obtain ⟨l2, e, h3⟩ := h3
    cases e
    exact iteF ⟨false, rfl, h3 H2 r2 (g1.trans g2)⟩

/-! ### tests -/
/-- any expression as a test -/
theorem s_tt (ha : SE L X a ta) (he : ∀ whole, isTrue a X.env whole = (do let v ← whole; standAt a.pos; holding [v] (truthy v)) := by intro _; rfl) : ST L X a (Z.tt ta) := by
  refine ⟨fun C m σ H Q Q' q h => ha.mono C m _ _ _ _ (fun x H1 ⟨k, e, h1⟩ => ⟨k, e, q _ _ h1⟩) h, fun C g => ?_⟩
  refine impT (pt_truth (ha.run C g) he) fun σ H Q ⟨σo, Ho, r, h⟩ => ?_
  refine ⟨σo, Ho, r, ha.mono C g.mono _ _ _ _ (fun x Ho1 h1 H1 r1 g1 => ?_) h⟩
  obtain ⟨k, e, h2⟩ := h1
  exact ⟨k, truth_rel r1.hp e, h2 H1 r1 g1⟩
variable {t u : Z.TT} {rest : List Expr}
theorem s_and1 (ha : ST L X a t) : SW L X (.BoolOp .And [a] pos) t := ⟨ha.mono, fun C g => pw_and1 (ha.run C g)⟩
theorem s_or1 (ha : ST L X a t) : SW L X (.BoolOp .Or [a] pos) t := ⟨ha.mono, fun C g => pw_or1 (ha.run C g)⟩
theorem s_and (ha : ST L X a t) (hb : SW L X (.BoolOp .And (b :: rest) pos) u) : SW L X (.BoolOp .And (a :: b :: rest) pos) (Z.tand t u) := by
  refine ⟨fun C m σ H Q Q' q h => ha.mono C m _ _ _ _ (fun k H1 h1 => ?_) h, fun C g => ?_⟩
  · cases k with
    | true => exact hb.mono C m _ _ _ _ q h1
    | false => exact q _ _ h1
  · refine impW (pw_and (ha.run C g) (hb.run C g)) fun σ H Q ⟨σo, Ho, r, h⟩ => ?_
    refine ⟨σo, Ho, r, ha.mono C g.mono _ _ _ _ (fun k Ho1 h1 H1 r1 g1 => ?_) h⟩
    cases k with
    | true => exact iteT ⟨σo, Ho1, r1, hb.mono C g.mono _ _ _ _ (fun l Ho2 h2 H2 r2 g2 => h2 H2 r2 (g1.trans g2)) h1⟩
    | false => exact iteF (h1 H1 r1 g1)
theorem s_or (ha : ST L X a t) (hb : SW L X (.BoolOp .Or (b :: rest) pos) u) : SW L X (.BoolOp .Or (a :: b :: rest) pos) (Z.tor t u) := by
  refine ⟨fun C m σ H Q Q' q h => ha.mono C m _ _ _ _ (fun k H1 h1 => ?_) h, fun C g => ?_⟩
  · cases k with
    | true => exact q _ _ h1
    | false => exact hb.mono C m _ _ _ _ q h1
  · refine impW (pw_or (ha.run C g) (hb.run C g)) fun σ H Q ⟨σo, Ho, r, h⟩ => ?_
    refine ⟨σo, Ho, r, ha.mono C g.mono _ _ _ _ (fun k Ho1 h1 H1 r1 g1 => ?_) h⟩
    cases k with
    | true => exact iteT (h1 H1 r1 g1)
    | false => exact iteF ⟨σo, Ho1, r1, hb.mono C g.mono _ _ _ _ (fun l Ho2 h2 H2 r2 g2 => h2 H2 r2 (g1.trans g2)) h1⟩
theorem s_tw (h : SW L X a t) : ST L X a t := ⟨h.mono, fun C g => (h.run C g).pt⟩
theorem s_not (ha : ST L X a t) : ST L X (.UnaryOp .Not a pos) (Z.tnot t) := by
  refine ⟨fun C m σ H Q Q' q h => ha.mono C m _ _ _ _ (fun k H1 h1 => q _ _ h1) h, fun C g => ?_⟩
  refine impT (pt_not (ha.run C g)) fun σ H Q ⟨σo, Ho, r, h⟩ => ?_
  exact ⟨σo, Ho, r, h⟩

/-! ### by truth, as values -/
theorem s_ife (hc : ST L X c t) (ha : SE L X a ta) (hb : SE L X b tb) : SE L X (.IfExp c a b pos) (Z.ife t ta tb) := by
  refine ⟨fun C m σ H Q Q' q h => hc.mono C m _ _ _ _ (fun k H1 h1 => ?_) h, fun C g => ?_⟩
  · cases k with
    | true => exact ha.mono C m _ _ _ _ q h1
    | false => exact hb.mono C m _ _ _ _ q h1
  · refine impE (pe_ifExp (hc.run C g) (ha.run C g) (hb.run C g)) fun σ H Q ⟨σo, Ho, r, h⟩ => ?_
    refine ⟨σo, Ho, r, hc.mono C g.mono _ _ _ _ (fun k Ho1 h1 H1 r1 g1 => ?_) h⟩
    cases k with
    | true => exact iteT ⟨σo, Ho1, r1, ha.mono C g.mono _ _ _ _ (fun l Ho2 h2 H2 r2 g2 => h2 H2 r2 (g1.trans g2)) h1⟩
    | false => exact iteF ⟨σo, Ho1, r1, hb.mono C g.mono _ _ _ _ (fun l Ho2 h2 H2 r2 g2 => h2 H2 r2 (g1.trans g2)) h1⟩
theorem s_one {op : BoolOp} (h : SE L X a ta) : SE L X (.BoolOp op [a] pos) ta := ⟨h.mono, fun C g => pe_one (h.run C g)⟩
theorem s_orv (ha : SE L X a ta) (hb : SE L X (.BoolOp .Or (b :: rest) pos) tb) : SE L X (.BoolOp .Or (a :: b :: rest) pos) (Z.orv ta tb) := by
  refine ⟨fun C m σ H Q Q' q h => ha.mono C m _ _ _ _ (fun x H1 h1 => ?_) h, fun C g => ?_⟩
  · obtain ⟨k, e, h1⟩ := h1
    refine ⟨k, e, ?_⟩
    cases k with
    | true => exact q _ _ h1
    | false => exact hb.mono C m _ _ _ _ q h1
  · refine impE (pe_orT (ha.run C g) (hb.run C g)) fun σ H Q ⟨σo, Ho, r, h⟩ => ?_
    refine ⟨σo, Ho, r, ha.mono C g.mono _ _ _ _ (fun x Ho1 h1 H1 r1 g1 => ?_) h⟩
    obtain ⟨k, e, h1⟩ := h1
    refine ⟨k, truth_rel r1.hp e, ?_⟩
    cases k with
    | true => exact iteT (h1 H1 r1 g1)
    | false => exact iteF ⟨σo, Ho1, r1, hb.mono C g.mono _ _ _ _ (fun l Ho2 h2 H2 r2 g2 => h2 H2 r2 (g1.trans g2)) h1⟩
theorem s_andv (ha : SE L X a ta) (hb : SE L X (.BoolOp .And (b :: rest) pos) tb) : SE L X (.BoolOp .And (a :: b :: rest) pos) (Z.andv ta tb) := by
  refine ⟨fun C m σ H Q Q' q h => ha.mono C m _ _ _ _ (fun x H1 h1 => ?_) h, fun C g => ?_⟩
  · obtain ⟨k, e, h1⟩ := h1
    refine ⟨k, e, ?_⟩
    cases k with
    | true => exact hb.mono C m _ _ _ _ q h1
    | false => exact q _ _ h1
  · refine impE (pe_andT (ha.run C g) (hb.run C g)) fun σ H Q ⟨σo, Ho, r, h⟩ => ?_
    refine ⟨σo, Ho, r, ha.mono C g.mono _ _ _ _ (fun x Ho1 h1 H1 r1 g1 => ?_) h⟩
    obtain ⟨k, e, h1⟩ := h1
    refine ⟨k, truth_rel r1.hp e, ?_⟩
    cases k with
    | true => exact iteT ⟨σo, Ho1, r1, hb.mono C g.mono _ _ _ _ (fun l Ho2 h2 H2 r2 g2 => h2 H2 r2 (g1.trans g2)) h1⟩
    | false => exact iteF (h1 H1 r1 g1)
theorem s_notv (ha : SE L X a ta) : SE L X (.UnaryOp .Not a pos) (Z.notv ta) := by
  refine ⟨fun C m σ H Q Q' q h => ha.mono C m _ _ _ _ (fun x H1 ⟨k, e, h1⟩ => ⟨k, e, q _ _ h1⟩) h, fun C g => ?_⟩
  refine impE (pe_notT (ha.run C g)) fun σ H Q ⟨σo, Ho, r, h⟩ => ?_
  refine ⟨σo, Ho, r, ha.mono C g.mono _ _ _ _ (fun x Ho1 h1 H1 r1 g1 => ?_) h⟩
  obtain ⟨k, e, h1⟩ := h1
  exact ⟨k, truth_rel r1.hp e, h1 H1 r1 g1⟩

/-! ### subscripts -/
theorem ixN_eq (n : Nat) (i : Int) : L2.ixN n i = Z.ixN n i := rfl
theorem atI_vs {xs : List Z.V} {i : Int} {v : Z.V} (h : Z.atI xs i = some v) : atI (L.vs xs) i = some (L.v v) := by
  unfold Z.atI at h
  unfold L2.atI
  rw [vs_len, ixN_eq]
  cases e : Z.ixN xs.length i with
  | none => rw [e] at h; cases h
  | some j =>
    rw [e] at h
    show (L.vs xs)[j]? = _
    have h : xs[j]? = some v := h
    rw [List.getElem?_map, h]
    rfl
theorem s_ix (ha : SE L X a ta) (hb : SE L X b tb) (hs : PlainIx b := by exact fun _ _ => rfl) : SE L X (.Subscript a b pos) (Z.ix ta tb) := by
  refine ⟨fun C m σ H Q Q' q h => ha.mono C m _ _ _ _ (fun x H1 h1 => hb.mono C m _ _ _ _ (fun y H2 ⟨xs, i, v, e1, e2, e3, h2⟩ => ⟨xs, i, v, e1, e2, e3, q _ _ h2⟩) h1) h, fun C g => ?_⟩
  refine impE (pe_ix (ix_list.or ix_tup) (ha.run C g) (hb.run C g) hs) fun σ H Q ⟨σo, Ho, r, h⟩ => ?_
  refine ⟨σo, Ho, r, ha.mono C g.mono _ _ _ _ (fun x Ho1 h1 H1 r1 g1 => ?_) h⟩
  refine ⟨σo, Ho1, r1, hb.mono C g.mono _ _ _ _ (fun y Ho2 h2 H2 r2 g2 => ?_) h1⟩
  obtain ⟨xs, i, v, e1, rfl, e3, h2⟩ := h2
  obtain ⟨p, rfl, sq⟩ := items_rel r2.hp e1
  rcases sq with sq | sq
  · exact .inl ⟨p, L.vs xs, i, L.v v, rfl, rfl, sq, atI_vs e3, h2 H2 r2 (g1.trans g2)⟩
  · exact .inr ⟨p, L.vs xs, i, L.v v, rfl, rfl, sq, atI_vs e3, h2 H2 r2 (g1.trans g2)⟩
theorem s_dix (ha : SE L X a ta) (hb : SE L X b tb) (hs : PlainIx b := by exact fun _ _ => rfl) : SE L X (.Subscript a b pos) (Z.dix ta tb) := by
  refine ⟨fun C m σ H Q Q' q h => ha.mono C m _ _ _ _ (fun x H1 h1 => hb.mono C m _ _ _ _ (fun y H2 ⟨v, e1, h2⟩ => ⟨v, e1, q _ _ h2⟩) h1) h, fun C g => ?_⟩
  refine impE (pe_dget (by have := g.units; omega) (ha.run C g) (hb.run C g) hs) fun σ H Q ⟨σo, Ho, r, h⟩ => ?_
  refine ⟨σo, Ho, r, ha.mono C g.mono _ _ _ _ (fun x Ho1 h1 H1 r1 g1 => ?_) h⟩
  refine ⟨σo, Ho1, r1, hb.mono C g.mono _ _ _ _ (fun y Ho2 h2 H2 r2 g2 => ?_) h1⟩
  obtain ⟨v, e1, h2⟩ := h2
  obtain ⟨p, rfl, dg⟩ := dget_rel r2.hp e1
  exact ⟨p, L.v v, rfl, dg, h2 H2 r2 (g1.trans g2)⟩
variable {lo hi : Option Expr} {tl th : Z.TO} {p2 : Pos}
theorem s_pno : SO L X none Z.pno := ⟨fun C m σ H Q Q' q h => q _ _ h, fun C g => ⟨fun pins s σ H Q I ⟨σo, Ho, r, h⟩ => po_none.run pins s σ H Q I (h H r (Gr.refl _ _))⟩⟩
theorem s_pso (ha : SE L X a ta) : SO L X (some a) (Z.pso ta) := by
  refine ⟨fun C m σ H Q Q' q h => ha.mono C m _ _ _ _ (fun x H1 ⟨i, e, h1⟩ => ⟨i, e, q _ _ h1⟩) h, fun C g => ⟨fun pins s σ H Q I ⟨σo, Ho, r, h⟩ => ?_⟩⟩
  refine (po_some (ha.run C g)).run pins s σ H Q I ⟨σo, Ho, r, ha.mono C g.mono _ _ _ _ (fun x Ho1 h1 H1 r1 g1 => ?_) h⟩
  obtain ⟨i, rfl, h1⟩ := h1
  exact ⟨i, rfl, h1 H1 r1 g1⟩
theorem cut_vs (xs : List Z.V) (lo hi : Option Int) : L2.cutV (L.vs xs) lo hi = L.vs (Z.cutV xs lo hi) := by
  have e : ∀ n d o, HT.sIx n d o = Z.sIx n d o := fun n d o => by cases o <;> rfl
  unfold L2.cutV Z.cutV
  rw [vs_len, e, e, Lw.vs, ← List.map_drop, ← List.map_take]
theorem s_slc (ha : SE L X a ta) (hl : SO L X lo tl) (hh : SO L X hi th) : SE L X (.Subscript a (.Slice lo hi none p2) pos) (Z.slc ta tl th) := by
  have mo : ∀ C, Cmono C → ∀ σ H (Q Q' : Z.VK), (∀ v H, Q v H → Q' v H) → Z.slc ta tl th C σ H Q → Z.slc ta tl th C σ H Q' := by
    intro C m σ H Q Q' q h
    refine ha.mono C m _ _ _ _ (fun x H1 h1 => hl.mono C m _ _ _ _ (fun l H2 h2 => hh.mono C m _ _ _ _ (fun u H3 h3 => ?_) h2) h1) h
    rcases h3 with ⟨xs, e, k⟩ | ⟨xs, e, n, k⟩
    · exact .inl ⟨xs, e, fun p hp => q _ _ (k p hp)⟩
    · exact .inr ⟨xs, e, n, fun p hp => q _ _ (k p hp)⟩
  refine ⟨mo, fun C g => ?_⟩
  refine impE (pe_slice (sl_list.or sl_tup) (ha.run C g) (hl.run C g) (hh.run C g)) fun σ H Q ⟨σo, Ho, r, h⟩ => ?_
  refine ⟨σo, Ho, r, ha.mono C g.mono _ _ _ _ (fun x Ho1 h1 H1 r1 g1 => ?_) h⟩
  refine ⟨σo, Ho1, r1, hl.mono C g.mono _ _ _ _ (fun l Ho2 h2 H2 r2 g2 => ?_) h1⟩
  refine ⟨σo, Ho2, r2, hh.mono C g.mono _ _ _ _ (fun u Ho3 h3 H3 r3 g3 => ?_) h2⟩
  have g13 := g1.trans (g2.trans g3)
  rcases h3 with ⟨xs, e, k⟩ | ⟨xs, e, n, k⟩
  · obtain ⟨p, rfl, sq⟩ := litems_rel r3.hp e
    refine .inl ⟨p, L.vs xs, rfl, sq, fun q hq => ?_⟩
    rw [cut_vs]
    exact k q (r3.hp.free hq) _ (r3.heap (r3.hp.set upd_same) (Gr.new hq)) (g13.trans (Gr.new hq))
  · obtain ⟨p, rfl, sq⟩ := titems_rel r3.hp e
    have es : ∀ n d o, HT.sIx n d o = Z.sIx n d o := fun n d o => by cases o <;> rfl
    refine .inr ⟨p, L.vs xs, rfl, sq, by rw [vs_len, es, es]; exact n, fun q hq => ?_⟩
    rw [cut_vs]
    exact k q (r3.hp.free hq) _ (r3.heap (r3.hp.set upd_same) (Gr.new hq)) (g13.trans (Gr.new hq))
theorem s_revs {k : Nat} {p1 p3 : Pos} (ha : SE L X a ta) : SE L X (.Subscript a (.Slice none none (some (.UnaryOp .USub (.Constant (.int 1) k p1) p2)) p3) pos) (Z.revs ta) := by
  refine ⟨fun C m σ H Q Q' q h => ha.mono C m _ _ _ _ (fun x H1 ⟨xs, e, h1⟩ => ⟨xs, e, fun p hp => q _ _ (h1 p hp)⟩) h, fun C g => ?_⟩
  refine impE (pe_revL (ha.run C g)) fun σ H Q ⟨σo, Ho, r, h⟩ => ?_
  refine ⟨σo, Ho, r, ha.mono C g.mono _ _ _ _ (fun x Ho1 h1 H1 r1 g1 => ?_) h⟩
  obtain ⟨xs, e, h1⟩ := h1
  obtain ⟨p, rfl, sq⟩ := litems_rel r1.hp e
  refine ⟨p, L.vs xs, rfl, sq, fun q hq => ?_⟩
  have er : (L.vs xs).reverse = L.vs xs.reverse := by
    show (List.map L.v xs).reverse = List.map L.v xs.reverse
    rw [List.map_reverse]
  rw [er]
  exact h1 q (r1.hp.free hq) _ (r1.heap (r1.hp.set upd_same) (Gr.new hq)) (g1.trans (Gr.new hq))

/-! ### fields -/
theorem ofString_inj {x y : String} (h : Str.ofString x = Str.ofString y) : x = y := by
  rw [Str.ofString_eq_toList, Str.ofString_eq_toList] at h
  have h2 : (x.toList.map Char.toNat) = y.toList.map Char.toNat := by
    have := congrArg (fun z : Str => z.cps.toList) h
    simpa using this
  have inj : ∀ (a b : List Char), a.map Char.toNat = b.map Char.toNat → a = b := by
    intro a
    induction a with
    | nil => intro b h; cases b with
      | nil => rfl
      | cons _ _ => cases h
    | cons c a ih =>
      intro b h
      cases b with
      | nil => cases h
      | cons d b =>
        have h3 : c.toNat = d.toNat ∧ a.map Char.toNat = b.map Char.toNat := by simpa using h
        rw [ih b h3.2, Char.toNat_inj.mp h3.1]
  exact String.toList_inj.mp (inj _ _ h2)
theorem fs_look (f : String) : ∀ fs : List (String × Z.V), (L.fs fs).lookup (Str.ofString f) = (fs.lookup f).map L.v
  | [] => rfl
  | (g, v) :: r => by
    have ih := fs_look f r
    by_cases h : f = g
    · subst h
      simp [List.lookup_cons_self, Lw.fs]
    · have h1 : (f == g) = false := beq_eq_false_iff_ne.mpr h
      have h2 : (Str.ofString f == Str.ofString g) = false := beq_eq_false_iff_ne.mpr fun z => h (ofString_inj z)
      show List.lookup (Str.ofString f) ((Str.ofString g, L.v v) :: L.fs r) = _
      rw [List.lookup_cons, List.lookup_cons, h1, h2]
      exact ih
theorem fs_mem {f : String} {v : Z.V} : ∀ {fs : List (String × Z.V)}, fs.lookup f = some v → f ∈ fs.map (·.1)
  | [], h => by cases h
  | (g, w) :: r, h => by
    by_cases e : f = g
    · subst e
      simp
    · rw [List.lookup_cons, beq_eq_false_iff_ne.mpr e] at h
      exact List.mem_cons_of_mem _ (fs_mem h)
theorem s_fld (f : String) {x : Str} (ha : SE L X a ta) (hx : x = Str.ofString f := by rfl) (hb : attributeBase a x X.env (eval a X.env) = eval a X.env := by rfl) : SE L X (.Attribute a x pos) (Z.fld ta f) := by
  subst hx
  refine ⟨fun C m σ H Q Q' q h => ha.mono C m _ _ _ _ (fun x H1 ⟨p, c, fs, v, e1, e2, e3, h1⟩ => ⟨p, c, fs, v, e1, e2, e3, q _ _ h1⟩) h, fun C g => ?_⟩
  refine impE (pe_fld (ha.run C g) hb) fun σ H Q ⟨σo, Ho, r, h⟩ => ?_
  refine ⟨σo, Ho, r, ha.mono C g.mono _ _ _ _ (fun x Ho1 h1 H1 r1 g1 => ?_) h⟩
  obtain ⟨p, c, fs, v, rfl, e2, e3, h1⟩ := h1
  obtain ⟨dx, hi, hc, hn⟩ := r1.hp p _ e2
  exact ⟨p, _, dx, L.fs fs, L.v v, rfl, hi, hc, hn f (fs_mem e3), by rw [fs_look, e3]; rfl, h1 H1 r1 g1⟩

/-! ### argument lists, displays -/
variable {es : List Expr} {tr : Z.TA}
theorem s_anil : SA L X [] Z.anil := ⟨fun C m σ H Q Q' q h => q _ _ h, fun C g => impA pa_nil fun σ H Q ⟨σo, Ho, r, h⟩ => h H r (Gr.refl _ _)⟩
theorem s_acons (ha : SE L X a ta) (hr : SA L X es tr) (hs : starEach (a :: es) X.env = (false, eval a X.env) :: starEach es X.env := by rfl) : SA L X (a :: es) (Z.acons ta tr) := by
  refine ⟨fun C m σ H Q Q' q h => ha.mono C m _ _ _ _ (fun x H1 h1 => hr.mono C m _ _ _ _ (fun xs H2 h2 => q _ _ h2) h1) h, fun C g => ?_⟩
  refine impA (pa_cons (ha.run C g) (hr.run C g) hs) fun σ H Q ⟨σo, Ho, r, h⟩ => ?_
  refine ⟨σo, Ho, r, ha.mono C g.mono _ _ _ _ (fun x Ho1 h1 H1 r1 g1 => ?_) h⟩
  exact ⟨σo, Ho1, r1, hr.mono C g.mono _ _ _ _ (fun xs Ho2 h2 H2 r2 g2 => h2 H2 r2 (g1.trans g2)) h1⟩
theorem s_tup {k : Nat} (h : SA L X es tr) : SE L X (.Tuple es k pos) (Z.tupl tr) := by
  refine ⟨fun C m σ H Q Q' q hh => h.mono C m _ _ _ _ (fun xs H1 ⟨z, h1⟩ => ⟨z, fun p hp => q _ _ (h1 p hp)⟩) hh, fun C g => ?_⟩
  refine impE (pe_tup (h.run C g)) fun σ H Q ⟨σo, Ho, r, hh⟩ => ?_
  refine ⟨σo, Ho, r, h.mono C g.mono _ _ _ _ (fun xs Ho1 h1 H1 r1 g1 => ?_) hh⟩
  exact ⟨by rw [vs_len, ← line_eq]; exact h1.1, fun p hp => h1.2 p (r1.hp.free hp) _ (r1.heap (r1.hp.set upd_same) (Gr.new hp)) (g1.trans (Gr.new hp))⟩
theorem s_lst (h : SA L X es tr) : SE L X (.List es pos) (Z.lstl tr) := by
  refine ⟨fun C m σ H Q Q' q hh => h.mono C m _ _ _ _ (fun xs H1 ⟨z, h1⟩ => ⟨z, fun p hp => q _ _ (h1 p hp)⟩) hh, fun C g => ?_⟩
  refine impE (pe_lst (h.run C g)) fun σ H Q ⟨σo, Ho, r, hh⟩ => ?_
  refine ⟨σo, Ho, r, h.mono C g.mono _ _ _ _ (fun xs Ho1 h1 H1 r1 g1 => ?_) hh⟩
  exact ⟨by rw [vs_len, ← line_eq]; exact h1.1, fun p hp => h1.2 p (r1.hp.free hp) _ (r1.heap (r1.hp.set upd_same) (Gr.new hp)) (g1.trans (Gr.new hp))⟩
theorem s_dnew : SE L X (.Dict [] [] pos) Z.dnew := by
  refine ⟨fun C m σ H Q Q' q h p hp => q _ _ (h p hp), fun C g => ?_⟩
  refine impE pe_dnewK fun σ H Q ⟨σo, Ho, r, h⟩ => ?_
  intro d hd
  exact h d (r.hp.free hd) _ (r.heap (r.hp.set upd_same) (Gr.new hd)) (Gr.new hd)
end
end ZS

/-! Z4: built-ins and their methods. -/
namespace ZS
open PySem PySem.Spec PyProof.Rows L2
def lift1 (L : Lw) (K : PySem.W.Frag) (z : Z.B1) : List V → Hp → VK → Prop := fun vs H Q => ∃ vo Ho, vs = L.vs vo ∧ RH L K Ho H ∧ z vo Ho fun v Ho' => ∀ H', RH L K Ho' H' → Gr Ho H Ho' H' → Q (L.v v) H'
def liftM (L : Lw) (K : PySem.W.Frag) (z : Z.M1) : V → List V → Hp → VK → Prop := fun x vs H Q => ∃ xo vo Ho, x = L.v xo ∧ vs = L.vs vo ∧ RH L K Ho H ∧ z xo vo Ho fun v Ho' => ∀ H', RH L K Ho' H' → Gr Ho H Ho' H' → Q (L.v v) H'
def Mono1 (z : Z.B1) : Prop := ∀ vs H (Q Q' : Z.VK), (∀ v H, Q v H → Q' v H) → z vs H Q → z vs H Q'
def MonoM (z : Z.M1) : Prop := ∀ x vs H (Q Q' : Z.VK), (∀ v H, Q v H → Q' v H) → z x vs H Q → z x vs H Q'
theorem ints_vs (L : Lw) (ns : List Int) : L.vs (ns.map Z.V.int) = ns.map V.int := by
  show List.map L.v (List.map Z.V.int ns) = _
  rw [List.map_map]
  rfl
theorem bls_vs (L : Lw) (ns : List Bool) : L.vs (ns.map Z.V.bl) = ns.map V.bl := by
  show List.map L.v (List.map Z.V.bl ns) = _
  rw [List.map_map]
  rfl
theorem erase_map {α β : Type} (f : α → β) : ∀ (l : List α) (i : Nat), (l.map f).eraseIdx i = (l.eraseIdx i).map f
  | [], _ => rfl
  | _ :: _, 0 => rfl
  | x :: r, i + 1 => by
    show f x :: (r.map f).eraseIdx i = f x :: (r.eraseIdx i).map f
    rw [erase_map f r i]
section
variable {L : Lw} {X : Cx} {a b c e : Expr} {es : List Expr} {ta tb tc : Z.TE} {t : Z.TA} {pos p : Pos}
theorem blt_mono {z : Z.B1} (mz : Mono1 z) (ha : SA L X es t) : ∀ C, Cmono C → ∀ σ H (Q Q' : Z.VK), (∀ v H, Q v H → Q' v H) → Z.blt z t C σ H Q → Z.blt z t C σ H Q' :=
  fun C m σ H Q Q' q h => ha.mono C m _ _ _ _ (fun vs H1 h1 => mz vs H1 Q Q' q h1) h
theorem s_blt {id : String} {x : Str} {z : Z.B1} (mz : Mono1 z) (hc : ∀ C, Good L X C → CallR X (.builtin id) (lift1 L X.K z)) (hg : Gl X x) (hm : X.mg x = none) (hv : bootBuiltins x = some (.builtin id)) (ha : SA L X (e :: es) t)
    (hn : x ≠ "__name__" := by decide) (hdb : (x == ("__debug__" : Str)) = false := by decide) (he : starEach (e :: es) X.env = (false, eval e X.env) :: starEach es X.env := by rfl) (hpl : (backTo pos (starEach es X.env)).any (·.1) = false := by rfl) :
    SE L X (.Call (.Name x p) (e :: es) [] pos) (Z.blt z t) := by
  refine ⟨blt_mono mz ha, fun C g => ?_⟩
  refine impE (pe_callB (hc C g) hg hm hv (ha.run C g) hn hdb he hpl) fun σ H Q ⟨σo, Ho, r, h⟩ => ?_
  refine ⟨σo, Ho, r, ha.mono C g.mono _ _ _ _ (fun vs Ho1 h1 H1 r1 g1 => ?_) h⟩
  exact ⟨vs, Ho1, rfl, r1.hp, mz vs Ho1 _ _ (fun v Ho2 h2 H2 r2 g2 => h2 H2 (r1.heap r2 g2) (g1.trans g2)) h1⟩
theorem s_blT {T : String} {x : Str} {z : Z.B1} (mz : Mono1 z) (hc : ∀ C, Good L X C → CallR X (.type T) (lift1 L X.K z)) (hg : Gl X x) (hm : X.mg x = none) (hv : bootBuiltins x = some (.type T)) (ha : SA L X (e :: es) t)
    (hn : x ≠ "__name__" := by decide) (hdb : (x == ("__debug__" : Str)) = false := by decide) (he : starEach (e :: es) X.env = (false, eval e X.env) :: starEach es X.env := by rfl) (hpl : (backTo pos (starEach es X.env)).any (·.1) = false := by rfl) :
    SE L X (.Call (.Name x p) (e :: es) [] pos) (Z.blt z t) := by
  refine ⟨blt_mono mz ha, fun C g => ?_⟩
  refine impE (pe_callTy (hc C g) hg hm hv (ha.run C g) hn hdb he hpl) fun σ H Q ⟨σo, Ho, r, h⟩ => ?_
  refine ⟨σo, Ho, r, ha.mono C g.mono _ _ _ _ (fun vs Ho1 h1 H1 r1 g1 => ?_) h⟩
  exact ⟨vs, Ho1, rfl, r1.hp, mz vs Ho1 _ _ (fun v Ho2 h2 H2 r2 g2 => h2 H2 (r1.heap r2 g2) (g1.trans g2)) h1⟩
/-- from a rule of the layer -/
theorem callr {f : Value} {r : List V → Hp → VK → Prop} {z : Z.B1} (h : CallR X f r) (i : ∀ vo Ho H Q, RH L X.K Ho H → z vo Ho (fun v Ho' => ∀ H', RH L X.K Ho' H' → Gr Ho H Ho' H' → Q (L.v v) H') → r (L.vs vo) H Q) : CallR X f (lift1 L X.K z) := by
  intro pins s σ H vs us Q I rv q
  obtain ⟨vo, Ho, rfl, rh, q⟩ := q
  exact h pins s σ H _ us Q I rv (i vo Ho H Q rh q)
theorem m_len : Mono1 Z.bLen := fun vs H Q Q' q ⟨x, xs, e, i, h⟩ => ⟨x, xs, e, i, q _ _ h⟩
theorem c_len : CallR X (.builtin "len") (lift1 L X.K Z.bLen) := callr call_len_seq fun vo Ho H Q rh h => by
  obtain ⟨x, xs, rfl, i, h⟩ := h
  obtain ⟨p, rfl, sq⟩ := items_rel rh i
  exact ⟨p, L.vs xs, rfl, sq, by rw [vs_len]; exact h H rh (Gr.refl _ _)⟩
theorem m_abs : Mono1 Z.bAbs := fun vs H Q Q' q ⟨i, e, h⟩ => ⟨i, e, q _ _ h⟩
theorem c_abs : CallR X (.builtin "abs") (lift1 L X.K Z.bAbs) := callr call_abs fun vo Ho H Q rh h => by
  obtain ⟨i, rfl, h⟩ := h
  refine ⟨i, rfl, ?_⟩
  have e : (if i < 0 then -i else i) = (i.natAbs : Int) := by split <;> omega
  rw [e]
  exact h H rh (Gr.refl _ _)
theorem m_int : Mono1 Z.bInt := fun vs H Q Q' q h => by
  unfold Z.bInt at h ⊢
  split at h
  · exact q _ _ h
  · exact q _ _ h
  · exact h.elim
theorem c_int : CallR X (.type "int") (lift1 L X.K Z.bInt) := callr call_int1 fun vo Ho H Q rh h => by
  unfold Z.bInt at h
  split at h
  · exact .inl ⟨_, rfl, h H rh (Gr.refl _ _)⟩
  · exact .inr ⟨_, rfl, h H rh (Gr.refl _ _)⟩
  · exact h.elim
theorem m_max2 : Mono1 Z.bMax2 := fun vs H Q Q' q ⟨i, j, e, h⟩ => ⟨i, j, e, q _ _ h⟩
theorem c_max2 (hc : X.calm = true) : CallR X (.builtin "max") (lift1 L X.K Z.bMax2) := callr (call_max2 hc) fun vo Ho H Q rh h => by
  obtain ⟨i, j, rfl, h⟩ := h
  refine ⟨i, j, rfl, ?_⟩
  have e : (if j > i then j else i) = max i j := by split <;> omega
  rw [e]
  exact h H rh (Gr.refl _ _)
theorem m_min2 : Mono1 Z.bMin2 := fun vs H Q Q' q ⟨i, j, e, h⟩ => ⟨i, j, e, q _ _ h⟩
theorem c_min2 (hc : X.calm = true) : CallR X (.builtin "min") (lift1 L X.K Z.bMin2) := callr (call_min2 hc) fun vo Ho H Q rh h => by
  obtain ⟨i, j, rfl, h⟩ := h
  refine ⟨i, j, rfl, ?_⟩
  have e : (if j < i then j else i) = min i j := by split <;> omega
  rw [e]
  exact h H rh (Gr.refl _ _)
theorem m_sum : Mono1 Z.bSum := fun vs H Q Q' q ⟨x, ns, e, i, h⟩ => ⟨x, ns, e, i, q _ _ h⟩
theorem c_sum (hc : X.calm = true) : CallR X (.builtin "sum") (lift1 L X.K Z.bSum) := callr (cr_sum hc) fun vo Ho H Q rh h => by
  obtain ⟨x, ns, rfl, i, h⟩ := h
  obtain ⟨p, rfl, sq⟩ := litems_rel rh i
  rw [ints_vs] at sq
  exact ⟨p, ns, rfl, sq, h H rh (Gr.refl _ _)⟩
theorem m_max1 : Mono1 Z.bMax1 := fun vs H Q Q' q ⟨x, ns, e, i, z, h⟩ => ⟨x, ns, e, i, z, fun m h1 h2 => q _ _ (h m h1 h2)⟩
theorem c_max1 (hc : X.calm = true) : CallR X (.builtin "max") (lift1 L X.K Z.bMax1) := callr (cr_max hc) fun vo Ho H Q rh h => by
  obtain ⟨x, ns, rfl, i, z, h⟩ := h
  obtain ⟨p, rfl, sq⟩ := litems_rel rh i
  rw [ints_vs] at sq
  exact ⟨p, ns, rfl, sq, z, fun m h1 h2 => h m h1 h2 H rh (Gr.refl _ _)⟩
theorem m_min1 : Mono1 Z.bMin1 := fun vs H Q Q' q ⟨x, ns, e, i, z, h⟩ => ⟨x, ns, e, i, z, fun m h1 h2 => q _ _ (h m h1 h2)⟩
theorem c_min1 (hc : X.calm = true) : CallR X (.builtin "min") (lift1 L X.K Z.bMin1) := callr (cr_min hc) fun vo Ho H Q rh h => by
  obtain ⟨x, ns, rfl, i, z, h⟩ := h
  obtain ⟨p, rfl, sq⟩ := litems_rel rh i
  rw [ints_vs] at sq
  exact ⟨p, ns, rfl, sq, z, fun m h1 h2 => h m h1 h2 H rh (Gr.refl _ _)⟩
theorem m_all : Mono1 Z.bAll := fun vs H Q Q' q ⟨x, ns, e, i, h⟩ => ⟨x, ns, e, i, q _ _ h⟩
theorem c_all (hc : X.calm = true) : CallR X (.builtin "all") (lift1 L X.K Z.bAll) := callr (cr_all hc) fun vo Ho H Q rh h => by
  obtain ⟨x, ns, rfl, i, h⟩ := h
  obtain ⟨p, rfl, sq⟩ := litems_rel rh i
  rw [bls_vs] at sq
  exact ⟨p, ns, rfl, sq, h H rh (Gr.refl _ _)⟩
theorem m_any : Mono1 Z.bAny := fun vs H Q Q' q ⟨x, ns, e, i, h⟩ => ⟨x, ns, e, i, q _ _ h⟩
theorem c_any (hc : X.calm = true) : CallR X (.builtin "any") (lift1 L X.K Z.bAny) := callr (cr_any hc) fun vo Ho H Q rh h => by
  obtain ⟨x, ns, rfl, i, h⟩ := h
  obtain ⟨p, rfl, sq⟩ := litems_rel rh i
  rw [bls_vs] at sq
  exact ⟨p, ns, rfl, sq, h H rh (Gr.refl _ _)⟩
theorem m_list : Mono1 Z.bList := fun vs H Q Q' q ⟨x, xs, e, i, h⟩ => ⟨x, xs, e, i, fun p hp => q _ _ (h p hp)⟩
theorem c_list : CallR X (.type "list") (lift1 L X.K Z.bList) := callr call_list_of fun vo Ho H Q rh h => by
  obtain ⟨x, xs, rfl, i, h⟩ := h
  obtain ⟨p, rfl, sq⟩ := items_rel rh i
  exact ⟨p, L.vs xs, rfl, sq, fun q hq => h q (rh.free hq) _ (rh.set upd_same) (Gr.new hq)⟩
theorem m_tuple : Mono1 Z.bTuple := fun vs H Q Q' q ⟨x, xs, e, h⟩ => ⟨x, xs, e, h.elim (fun h => .inl ⟨h.1, fun p hp => q _ _ (h.2 p hp)⟩) fun h => .inr ⟨h.1, q _ _ h.2⟩⟩
theorem c_tuple : CallR X (.type "tuple") (lift1 L X.K Z.bTuple) := callr call_tuple_of fun vo Ho H Q rh h => by
  obtain ⟨x, xs, rfl, h⟩ := h
  rcases h with ⟨i, h⟩ | ⟨i, h⟩
  · obtain ⟨p, rfl, sq⟩ := litems_rel rh i
    exact ⟨p, L.vs xs, rfl, .inl ⟨sq, fun q hq => h q (rh.free hq) _ (rh.set upd_same) (Gr.new hq)⟩⟩
  · obtain ⟨p, rfl, sq⟩ := titems_rel rh i
    exact ⟨p, L.vs xs, rfl, .inr ⟨sq, h H rh (Gr.refl _ _)⟩⟩
theorem m_sortedI : Mono1 Z.bSortedI := fun vs H Q Q' q ⟨x, ns, e, i, h⟩ => ⟨x, ns, e, i, fun ns' p h1 h2 hp => q _ _ (h ns' p h1 h2 hp)⟩
theorem c_sortedI : CallR X (.builtin "sorted") (lift1 L X.K Z.bSortedI) := callr cr_sortedI fun vo Ho H Q rh h => by
  obtain ⟨x, ns, rfl, i, h⟩ := h
  obtain ⟨p, rfl, sq⟩ := litems_rel rh i
  rw [ints_vs] at sq
  refine ⟨p, ns, rfl, sq, fun ns' q h1 h2 hq => ?_⟩
  rw [← ints_vs L]
  exact h ns' q h1 h2 (rh.free hq) _ (rh.set upd_same) (Gr.new hq)
theorem s_lrng1 {p2 p3 : Pos} (hc : X.calm = true) (hgl : Gl X "list") (hml : X.mg "list" = none) (hg : Gl X "range") (hm : X.mg "range" = none) (ha : SE L X a ta)
    (n1 : starEach [a] X.env = (false, eval a X.env) :: starEach [] X.env := by rfl)
    (n2 : starEach [Expr.Call (.Name "range" p2) [a] [] p3] X.env = (false, eval (Expr.Call (.Name "range" p2) [a] [] p3) X.env) :: starEach [] X.env := by rfl) : SE L X (.Call (.Name "list" p) [.Call (.Name "range" p2) [a] [] p3] [] pos) (Z.lrng1 ta) := by
  refine ⟨fun C m σ H Q Q' q h => ha.mono C m _ _ _ _ (fun x H1 ⟨j, e, z, z2, h1⟩ => ⟨j, e, z, z2, fun p hp => q _ _ (h1 p hp)⟩) h, fun C g => ?_⟩
  refine impE (pe_listRg hc hgl hml (prg_1 hg hm (ha.run C g) n1) n2) fun σ H Q ⟨σo, Ho, r, h⟩ => ?_
  refine ⟨σo, Ho, r, ha.mono C g.mono _ _ _ _ (fun x Ho1 h1 H1 r1 g1 => ?_) h⟩
  obtain ⟨j, rfl, z, z2, h1⟩ := h1
  have z : j ≤ 16777216 := z
  refine ⟨j, rfl, ⟨by omega, by omega, by omega, by omega, by omega⟩, fun q hq => ?_⟩
  have e : rgV 0 j = L.vs ((List.range j.toNat).map fun (k : Nat) => Z.V.int k) := by
    unfold rgV
    show _ = List.map L.v _
    rw [List.map_map, Int.sub_zero]
    refine List.map_congr_left fun i _ => ?_
    show V.int (0 + (i : Int)) = V.int i
    rw [Int.zero_add]
  rw [e]
  exact h1 q (r1.hp.free hq) _ (r1.heap (r1.hp.set upd_same) (Gr.new hq)) (g1.trans (Gr.new hq))
theorem s_lrng2 {p2 p3 : Pos} (hc : X.calm = true) (hgl : Gl X "list") (hml : X.mg "list" = none) (hg : Gl X "range") (hm : X.mg "range" = none) (ha : SE L X a ta) (hb : SE L X b tb)
    (n1 : starEach [a, b] X.env = (false, eval a X.env) :: starEach [b] X.env := by rfl) (n3 : starEach [b] X.env = (false, eval b X.env) :: starEach [] X.env := by rfl) (hp : (backTo p3 (starEach [b] X.env)).any (·.1) = false := by rfl)
    (n2 : starEach [Expr.Call (.Name "range" p2) [a, b] [] p3] X.env = (false, eval (Expr.Call (.Name "range" p2) [a, b] [] p3) X.env) :: starEach [] X.env := by rfl) : SE L X (.Call (.Name "list" p) [.Call (.Name "range" p2) [a, b] [] p3] [] pos) (Z.lrng2 ta tb) := by
  refine ⟨fun C m σ H Q Q' q h => ha.mono C m _ _ _ _ (fun x H1 h1 => hb.mono C m _ _ _ _ (fun y H2 ⟨i, j, e, e2, z, h1⟩ => ⟨i, j, e, e2, z, fun p hp => q _ _ (h1 p hp)⟩) h1) h, fun C g => ?_⟩
  refine impE (pe_listRg hc hgl hml (prg_2 hg hm (ha.run C g) (hb.run C g) n1 n3 hp) n2) fun σ H Q ⟨σo, Ho, r, h⟩ => ?_
  refine ⟨σo, Ho, r, ha.mono C g.mono _ _ _ _ (fun x Ho1 h1 H1 r1 g1 => ?_) h⟩
  refine ⟨σo, Ho1, r1, hb.mono C g.mono _ _ _ _ (fun y Ho2 h2 H2 r2 g2 => ?_) h1⟩
  obtain ⟨i, j, rfl, rfl, ⟨z1, z2, z3, z4, z5⟩, h2⟩ := h2
  have z5 : (j - i).toNat ≤ 16777216 := z5
  refine ⟨i, j, rfl, rfl, ⟨z1, z2, z3, z4, by omega⟩, fun q hq => ?_⟩
  have e : rgV i j = L.vs ((List.range (j - i).toNat).map fun (k : Nat) => Z.V.int (i + k)) := by
    unfold rgV
    show _ = List.map L.v _
    rw [List.map_map]
    rfl
  rw [e]
  exact h2 q (r2.hp.free hq) _ (r2.heap (r2.hp.set upd_same) (Gr.new hq)) (g1.trans (g2.trans (Gr.new hq)))

/-! ### methods of lists -/
variable {o : Expr} {to : Z.TE} {name : Str} {apos cpos : Pos} {T id : String} {z : Z.M1}
theorem mtr {r : V → List V → Hp → VK → Prop} (h : MtR X id r) (i : ∀ xo vo Ho H Q, RH L X.K Ho H → z xo vo Ho (fun v Ho' => ∀ H', RH L X.K Ho' H' → Gr Ho H Ho' H' → Q (L.v v) H') → r (L.v xo) (L.vs vo) H Q) : MtR X id (liftM L X.K z) := by
  intro pins s σ H x vs v us Q I rx rv q
  obtain ⟨xo, vo, Ho, rfl, rfl, rh, q⟩ := q
  exact h pins s σ H _ _ v us Q I rx rv (i xo vo Ho H Q rh q)
theorem ty_list {x : Z.V} {Ho : Z.Heap} {H : Hp} (rh : RH L X.K Ho H) (h : Z.isL x Ho) : tyV X.K "list" (L.v x) H := by
  obtain ⟨xs, e⟩ := h
  obtain ⟨p, rfl, sq⟩ := litems_rel rh e
  exact .inl ⟨rfl, _, sq⟩
theorem s_bm0 {k : Z.V → Z.Heap → Prop} (hk : ∀ x Ho H, RH L X.K Ho H → k x Ho → tyV X.K T (L.v x) H) (mz : MonoM z) (pa : PlainAttrs T) (slot : Slot T name id) (hty : typeOf (.builtin id) = pure (.type "method_descriptor")) (hm : MtR X id (liftM L X.K z)) (ho : SE L X o to)
    (hbase : attributeBase o name X.env (eval o X.env) = eval o X.env := by rfl) (hline : (apos.endLine == cpos.line) = true := by rfl) : SE L X (.Call (.Attribute o name apos) [] [] cpos) (Z.bmt k z to Z.anil) := by
  refine ⟨fun C m σ H Q Q' q h => ho.mono C m _ _ _ _ (fun x H1 ⟨k1, h1⟩ => ⟨k1, mz x [] H1 Q Q' q h1⟩) h, fun C g => ?_⟩
  refine impE (pe_bm0 pa slot hty hm (ho.run C g) hbase hline) fun σ H Q ⟨σo, Ho, r, h⟩ => ?_
  refine ⟨σo, Ho, r, ho.mono C g.mono _ _ _ _ (fun x Ho1 h1 H1 r1 g1 => ?_) h⟩
  obtain ⟨k1, h1⟩ := h1
  exact ⟨hk x Ho1 H1 r1.hp k1, x, [], Ho1, rfl, rfl, r1.hp, mz x [] Ho1 _ _ (fun v Ho2 h2 H2 r2 g2 => h2 H2 (r1.heap r2 g2) (g1.trans g2)) h1⟩
theorem s_bm {k : Z.V → Z.Heap → Prop} (hk : ∀ x Ho H, RH L X.K Ho H → k x Ho → tyV X.K T (L.v x) H) (mz : MonoM z) (pa : PlainAttrs T) (slot : Slot T name id) (hty : typeOf (.builtin id) = pure (.type "method_descriptor")) (hm : MtR X id (liftM L X.K z)) (ho : SE L X o to) (ha : SA L X (e :: es) t)
    (hbase : attributeBase o name X.env (eval o X.env) = eval o X.env := by rfl)
    (hfew : ((backTo cpos (starEach (e :: es) X.env)).all (fun x => !x.1) && (backToKw cpos (keywordEach [] X.env)).all (fun x => x.1.isSome)
      && decide ((e :: es).length + ([] : List Keyword).length + (if ([] : List Keyword).isEmpty then 0 else 1) < 30)) = true := by rfl)
    (hline : (apos.endLine == cpos.line) = true := by rfl) (hs : starEach (e :: es) X.env = (false, eval e X.env) :: starEach es X.env := by rfl) (hplain : (backTo cpos (starEach es X.env)).any (·.1) = false := by rfl) :
    SE L X (.Call (.Attribute o name apos) (e :: es) [] cpos) (Z.bmt k z to t) := by
  refine ⟨fun C m σ H Q Q' q h => ho.mono C m _ _ _ _ (fun x H1 ⟨k1, h1⟩ => ⟨k1, ha.mono C m _ _ _ _ (fun vs H2 h2 => mz x vs H2 Q Q' q h2) h1⟩) h, fun C g => ?_⟩
  refine impE (pe_bm pa slot hty hm (ho.run C g) (ha.run C g) hbase hfew hline hs hplain) fun σ H Q ⟨σo, Ho, r, h⟩ => ?_
  refine ⟨σo, Ho, r, ho.mono C g.mono _ _ _ _ (fun x Ho1 h1 H1 r1 g1 => ?_) h⟩
  obtain ⟨k1, h1⟩ := h1
  refine ⟨hk x Ho1 H1 r1.hp k1, σo, Ho1, r1, ha.mono C g.mono _ _ _ _ (fun vs Ho2 h2 H2 r2 g2 => ?_) h1⟩
  exact ⟨x, vs, Ho2, rfl, rfl, r2.hp, mz x vs Ho2 _ _ (fun v Ho3 h3 H3 r3 g3 => h3 H3 (r2.heap r3 g3) (g1.trans (g2.trans g3))) h2⟩
theorem mm_append : MonoM Z.mAppend := fun x vs H Q Q' q ⟨a, xs, y, e1, e2, e3, z, h⟩ => ⟨a, xs, y, e1, e2, e3, z, q _ _ h⟩
theorem mc_append : MtR X "list.append" (liftM L X.K Z.mAppend) := mtr mt_append fun xo vo Ho H Q rh h => by
  obtain ⟨a, xs, y, rfl, rfl, e3, z, h⟩ := h
  refine ⟨a, L.vs xs, L.v y, rfl, rfl, rh a _ e3, by rw [vs_len, ← line_eq]; exact z, ?_⟩
  have e : L.vs xs ++ [L.v y] = L.vs (xs ++ [y]) := (vs_app L xs [y]).symm
  rw [e]
  exact h _ (rh.set upd_same) (Gr.chg e3)
theorem mm_extend : MonoM Z.mExtend := fun x vs H Q Q' q ⟨a, b, xs, zs, e1, e2, e3, e4, z, h⟩ => ⟨a, b, xs, zs, e1, e2, e3, e4, z, q _ _ h⟩
theorem mc_extend : MtR X "list.extend" (liftM L X.K Z.mExtend) := mtr mt_extend fun xo vo Ho H Q rh h => by
  obtain ⟨a, b, xs, zs, rfl, rfl, e3, e4, z, h⟩ := h
  refine ⟨a, b, L.vs xs, L.vs zs, rfl, rfl, rh a _ e3, rh b _ e4, by rw [vs_len, vs_len, ← line_eq]; exact z, ?_⟩
  rw [← vs_app]
  exact h _ (rh.set upd_same) (Gr.chg e3)
theorem mm_pop0 : MonoM Z.mPop0 := fun x vs H Q Q' q ⟨a, xs, y, e1, e2, e3, h⟩ => ⟨a, xs, y, e1, e2, e3, q _ _ h⟩
theorem mc_pop0 : MtR X "list.pop" (liftM L X.K Z.mPop0) := mtr mt_pop fun xo vo Ho H Q rh h => by
  obtain ⟨a, xs, y, rfl, rfl, e3, h⟩ := h
  have e : L.vs (xs ++ [y]) = L.vs xs ++ [L.v y] := vs_app L xs [y]
  refine ⟨a, L.vs (xs ++ [y]), L.v y, rfl, rfl, rh a _ e3, ?_, ?_⟩
  · rw [e]
    simp
  · rw [e, List.dropLast_concat]
    exact h _ (rh.set upd_same) (Gr.chg e3)
theorem mm_popAt : MonoM Z.mPopAt := fun x vs H Q Q' q ⟨a, xs, i, k, y, e1, e2, e3, z, e4, e5, h⟩ => ⟨a, xs, i, k, y, e1, e2, e3, z, e4, e5, q _ _ h⟩
theorem mc_popAt : MtR X "list.pop" (liftM L X.K Z.mPopAt) := mtr mt_popAt fun xo vo Ho H Q rh h => by
  obtain ⟨a, xs, i, k, y, rfl, rfl, e3, z, e4, e5, h⟩ := h
  obtain ⟨q1, q2, q3, q4⟩ := ixN_seq (show L2.ixN xs.length i = some k from e4)
  refine ⟨a, L.vs xs, i, k, L.v y, rfl, rfl, rh a _ e3, by omega, by omega, by rw [vs_len]; exact q1, ?_, ?_⟩
  · show (List.map L.v xs)[k]? = _
    rw [List.getElem?_map, e5]
    rfl
  · have e : (L.vs xs).eraseIdx k = L.vs (xs.eraseIdx k) := by
      exact erase_map L.v xs k
    rw [e]
    exact h _ (rh.set upd_same) (Gr.chg e3)
theorem mm_reverse : MonoM Z.mReverse := fun x vs H Q Q' q ⟨a, xs, e1, e2, e3, h⟩ => ⟨a, xs, e1, e2, e3, q _ _ h⟩
theorem mc_reverse : MtR X "list.reverse" (liftM L X.K Z.mReverse) := mtr mt_reverse fun xo vo Ho H Q rh h => by
  obtain ⟨a, xs, rfl, rfl, e3, h⟩ := h
  refine ⟨a, L.vs xs, rfl, rfl, rh a _ e3, ?_⟩
  have e : (L.vs xs).reverse = L.vs xs.reverse := by
    show (List.map L.v xs).reverse = List.map L.v xs.reverse
    rw [List.map_reverse]
  rw [e]
  exact h _ (rh.set upd_same) (Gr.chg e3)
/-- x.bit_length() -/
theorem s_bitl (ho : SE L X o to) (hbase : attributeBase o "bit_length" X.env (eval o X.env) = eval o X.env := by rfl) (hline : (apos.endLine == cpos.line) = true := by rfl) : SE L X (.Call (.Attribute o "bit_length" apos) [] [] cpos) (Z.bitl to) := by
  refine ⟨fun C m σ H Q Q' q h => ho.mono C m _ _ _ _ (fun x H1 ⟨i, e, h1⟩ => ⟨i, e, q _ _ h1⟩) h, fun C g => ?_⟩
  refine impE (pe_bits (ho.run C g) hbase hline) fun σ H Q ⟨σo, Ho, r, h⟩ => ?_
  refine ⟨σo, Ho, r, ho.mono C g.mono _ _ _ _ (fun x Ho1 h1 H1 r1 g1 => ?_) h⟩
  obtain ⟨i, rfl, h1⟩ := h1
  refine ⟨i, rfl, ?_⟩
  have e : Builtin.Int.intBits i = Z.bits i := by
    unfold Builtin.Int.intBits Z.bits
    by_cases z : i = 0
    · subst z
      rfl
    · rw [if_neg z, if_neg (by simpa using z)]
  rw [e]
  exact h1 H1 r1 g1
end
end ZS

/-! Z5: targets, statements, loops, comprehensions. -/
namespace ZS
open PySem PySem.Spec PyProof.Rows L2
section
variable {L : Lw} {X : Cx} {a b c e : Expr} {es : List Expr} {ta tb tc te : Z.TE} {t : Z.TA} {pos p : Pos} {g g1 g2 : Z.TG} {gs : Z.TGs} {K : PySem.W.Frag} {Ho : Z.Heap} {H : Hp}
/-! ### targets -/
theorem s_gname {i : Nat} {x : Str} (hN : X.N.Nodup) (hi : X.N[i]? = some x := by rfl) (hx : Loc X.env.scope x := by first | exact Or.inl rfl | exact Or.inr rfl) (hf : X.fn x = true ∨ X.env.scope.names.lookup x = some .local := by first | exact .inl rfl | exact .inr rfl) : SG L X (.Name x pos) (Z.gname i) [i] := by
  refine ⟨fun C m v σ H Q Q' q h => q _ _ h, fun C g => ?_⟩
  refine impG (pg_name hN hi hx hf) fun v σ H Q ⟨vo, σo, Ho, ev, r, h⟩ => ?_
  subst ev
  exact h _ _ (r.put i vo) (Gr.refl _ _) ⟨List.length_set .., fun j hj => List.getElem?_set_ne (fun z => hj (by simp [z]))⟩
theorem s_gsub (ha : SE L X a ta) (hb : SE L X b tb)
    (hs : ∀ v, assign (.Subscript a b pos) X.env v = (do
      let ov ← holding [v] (eval a X.env)
      let iv ← holding [v, ov] (eval b X.env)
      standAt pos
      holding [v, ov, iv] (setItem ov iv v)
      release [v, ov, iv] []) := by intro _; rfl) : SG L X (.Subscript a b pos) (Z.gsub ta tb) [] := by
  refine ⟨fun C m v σ H Q Q' q h => ha.mono C m _ _ _ _ (fun x H1 h1 => hb.mono C m _ _ _ _ (fun y H2 ⟨p, xs, k, j, e1, e2, e3, e4, h2⟩ => ⟨p, xs, k, j, e1, e2, e3, e4, q _ _ h2⟩) h1) h, fun C g => ?_⟩
  refine impG (pg_sub (ha.run C g) (hb.run C g) set_list hs) fun v σ H Q ⟨vo, σo, Ho, ev, r, h⟩ => ?_
  subst ev
  refine ⟨σo, Ho, r, ha.mono C g.mono _ _ _ _ (fun x Ho1 h1 H1 r1 g1 => ?_) h⟩
  refine ⟨σo, Ho1, r1, hb.mono C g.mono _ _ _ _ (fun y Ho2 h2 H2 r2 g2 => ?_) h1⟩
  obtain ⟨p, xs, k, j, rfl, rfl, e3, e4, h2⟩ := h2
  refine ⟨p, L.vs xs, k, j, rfl, rfl, r2.hp p _ e3, by rw [vs_len]; exact e4, ?_⟩
  have e : (L.vs xs).set j (L.v vo) = L.vs (xs.set j vo) := by
    show (List.map L.v xs).set j (L.v vo) = List.map L.v (xs.set j vo)
    rw [List.map_set]
  rw [e]
  exact h2 _ _ (r2.heap (r2.hp.set upd_same) (Gr.chg e3)) (g1.trans (g2.trans (Gr.chg e3))) (But.refl _ _)
theorem s_gnil : SGs L X [] Z.gnil [] := ⟨fun C m v σ H Q Q' q h => ⟨h.1, q _ _ h.2⟩, fun C g => impGs pgs_nil fun v σ H Q ⟨vo, σo, Ho, ev, r, h⟩ => by
  obtain ⟨rfl, h⟩ := h
  subst ev
  exact ⟨rfl, h _ _ r (Gr.refl _ _) (But.refl _ _)⟩⟩
theorem s_gcons {l1 l2 : List Nat} (ha : SG L X a g l1) (hr : SGs L X es gs l2) (hs : (assignEach (a :: es) X.env).map (·.2) = assign a X.env :: (assignEach es X.env).map (·.2) := by rfl) : SGs L X (a :: es) (Z.gcons g gs) (l1 ++ l2) := by
  refine ⟨fun C m v σ H Q Q' q ⟨x, ws, ev, h⟩ => ⟨x, ws, ev, ha.mono C m _ _ _ _ _ (fun σ1 H1 h1 => hr.mono C m _ _ _ _ _ q h1) h⟩, fun C gd => ?_⟩
  refine impGs (pgs_cons (ha.run C gd) (hr.run C gd) hs) fun v σ H Q ⟨vo, σo, Ho, ev, r, h⟩ => ?_
  obtain ⟨x, ws, rfl, h⟩ := h
  subst ev
  refine ⟨L.v x, L.vs ws, rfl, x, σo, Ho, rfl, r, ha.mono C gd.mono _ _ _ _ _ (fun σ1 Ho1 h1 σ2 H1 r1 g1 bt => ?_) h⟩
  exact ⟨ws, σ1, Ho1, rfl, r1, hr.mono C gd.mono _ _ _ _ _ (fun σ3 Ho2 h2 σ4 H2 r2 g2 bt2 => h2 σ4 H2 r2 (g1.trans g2) (bt.trans bt2)) h1⟩
theorem s_gtup {n k : Nat} {sl : List Nat} (hc : X.calm = true) (h : SGs L X es gs sl) (hn : (assignEach es X.env).length = n := by rfl) (hst : (assignEach es X.env).findIdx? (·.1) = none := by rfl) : SG L X (.Tuple es k pos) (Z.gtup n gs) sl := by
  refine ⟨fun C m v σ H Q Q' q ⟨xs, e, z, h1⟩ => ⟨xs, e, z, h.mono C m _ _ _ _ _ q h1⟩, fun C gd => ?_⟩
  refine impG (pg_tup hc (h.run C gd) hn hst) fun v σ H Q ⟨vo, σo, Ho, ev, r, h1⟩ => ?_
  obtain ⟨xs, e, z, h1⟩ := h1
  obtain ⟨q, rfl, sq⟩ := titems_rel r.hp e
  subst ev
  exact ⟨q, L.vs xs, rfl, sq, by rw [vs_len]; exact z, xs, σo, Ho, rfl, r, h1⟩

/-! ### plain statements -/
variable {st : Stmt} {rest b1 b2 : List Stmt} {u v u1 u2 : Z.TS}
theorem Le.seq {D D' : Z.Ends} (l : Le D D') {n n' : Z.St → Z.Heap → Prop} (h : ∀ σ H, n σ H → n' σ H) : Le { D with nx := n } { D' with nx := n' } := ⟨h, l.rt, l.bk, l.ct⟩
/-- the ends of what begins later ask no more -/
theorem ends_le {Ho Ho1 : Z.Heap} {H H1 : Hp} (g : Gr Ho H Ho1 H1) (D : Ends) : Le (ends L K Ho H D) (ends L K Ho1 H1 D) :=
  ⟨fun _ _ h => h, fun _ _ h => h, fun _ _ h => h, fun _ _ h => h⟩
theorem s_bnil : SB L X [] Z.skip := ⟨fun C m σ H D D' l h => l.nx _ _ h, fun C gd => impB pss_nil fun D σ H ⟨σo, Ho, r, h⟩ => h σ H r r.gr⟩
theorem s_bone (h : SS L X st u) : SB L X [st] u := ⟨h.mono, fun C gd => pss_one (h.run C gd)⟩
theorem s_bcons (h : SS L X st u) (hr : SB L X rest v) : SB L X (st :: rest) (Z.seq u v) := by
  refine ⟨fun C m σ H D D' l h1 => h.mono C m _ _ _ _ (l.seq fun σ1 H1 h2 => hr.mono C m _ _ _ _ l h2) h1, fun C gd => ?_⟩
  refine impB (pss_cons (h.run C gd) (hr.run C gd)) fun D σ H ⟨σo, Ho, r, h1⟩ => ?_
  refine ⟨σo, Ho, r, h.mono C gd.mono _ _ { ends L X.K Ho H D with nx := fun σ1 H1 => v C (ends L X.K Ho H D) σ1 H1 } _ ⟨fun σ1 Ho1 h2 σ2 H2 r2 g2 => ?_, fun _ _ h => h, fun _ _ h => h, fun _ _ h => h⟩ h1⟩
  exact ⟨σ1, Ho1, r2, hr.mono C gd.mono _ _ _ _ (ends_le g2 D) h2⟩
theorem s_never : SS L X st Z.never := ⟨fun C m σ H D D' l h => h.elim, fun C gd => impS ps_never fun D σ H ⟨σo, Ho, r, h⟩ => h.elim⟩
theorem s_bnever : SB L X rest Z.never := ⟨fun C m σ H D D' l h => h.elim, fun C gd => impB pss_never fun D σ H ⟨σo, Ho, r, h⟩ => h.elim⟩
theorem s_pass : SS L X (.Pass pos) Z.skip := ⟨fun C m σ H D D' l h => l.nx _ _ h, fun C gd => impS ps_pass fun D σ H ⟨σo, Ho, r, h⟩ => h σ H r r.gr⟩
theorem s_brk : SS L X (.Break pos) Z.brk := ⟨fun C m σ H D D' l h => l.bk _ _ h, fun C gd => impS ps_break fun D σ H ⟨σo, Ho, r, h⟩ => h σ H r r.gr⟩
theorem s_cnt : SS L X (.Continue pos) Z.cnt := ⟨fun C m σ H D D' l h => l.ct _ _ h, fun C gd => impS ps_continue fun D σ H ⟨σo, Ho, r, h⟩ => h σ H r r.gr⟩
theorem asg_mono {sl : List Nat} (hg : SG L X a g sl) (he : SE L X e te) : ∀ C, Cmono C → ∀ σ H D D', Le D D' → Z.asg g te C D σ H → Z.asg g te C D' σ H :=
  fun C m σ H D D' l h => he.mono C m _ _ _ _ (fun v H1 h1 => hg.mono C m _ _ _ _ _ l.nx h1) h
theorem s_asg {sl : List Nat} (hg : SG L X a g sl) (he : SE L X e te) (hs : swapsWithSole [a] e pos.line X.env = pure false := by rfl) (hw : swappedStores [a] e X.env = pure none := by rfl)
    (h1 : (assignEach [a] X.env).map (·.2) = [assign a X.env] := by rfl) : SS L X (.Assign [a] e pos) (Z.asg g te) := by
  refine ⟨asg_mono hg he, fun C gd => ?_⟩
  refine impS (ps_asg (he.run C gd) (hg.run C gd) hs hw h1) fun D σ H ⟨σo, Ho, r, h⟩ => ?_
  refine ⟨σo, Ho, r, he.mono C gd.mono _ _ _ _ (fun v Ho1 h1 H1 r1 g1 => ?_) h⟩
  exact ⟨v, σo, Ho1, rfl, r1, hg.mono C gd.mono _ _ _ _ _ (fun σ2 Ho2 h2 σ3 H3 r3 g3 _ => h2 σ3 H3 r3 r3.gr) h1⟩
/-- name = e -/
theorem s_set {i : Nat} {x : Str} {pos' : Pos} (hN : X.N.Nodup) (he : SE L X e te) (hi : X.N[i]? = some x := by rfl) (hx : Loc X.env.scope x := by first | exact Or.inl rfl | exact Or.inr rfl)
    (hs : swapsWith e (some (.Name x pos')) pos.line X.env = pure false := by rfl) (hf : X.fn x = true ∨ X.env.scope.names.lookup x = some .local := by first | exact .inl rfl | exact .inr rfl) : SS L X (.Assign [.Name x pos'] e pos) (Z.asg (Z.gname i) te) := by
  refine ⟨asg_mono (s_gname (pos := pos') hN hi hx hf) he, fun C gd => ?_⟩
  refine impS (ps_set hN hi hx (he.run C gd) hs hf) fun D σ H ⟨σo, Ho, r, h⟩ => ?_
  refine ⟨σo, Ho, r, he.mono C gd.mono _ _ _ _ (fun v Ho1 h1 H1 r1 g1 => ?_) h⟩
  exact h1 _ _ (r1.put i v) r1.gr
theorem s_asg2 {l1 l2 : List Nat} (h1 : SG L X a g1 l1) (h2 : SG L X b g2 l2) (he : SE L X e te) (ha : (assignEach [a, b] X.env).map (·.2) = [assign a X.env, assign b X.env] := by rfl) (hw : swappedStores [a, b] e X.env = pure none := by rfl) : SS L X (.Assign [a, b] e pos) (Z.asg2 g1 g2 te) := by
  refine ⟨fun C m σ H D D' l h => he.mono C m _ _ _ _ (fun v H1 k1 => h1.mono C m _ _ _ _ _ (fun σ2 H2 k2 => h2.mono C m _ _ _ _ _ l.nx k2) k1) h, fun C gd => ?_⟩
  refine impS (ps_asg2 (he.run C gd) (h1.run C gd) (h2.run C gd) ha hw) fun D σ H ⟨σo, Ho, r, h⟩ => ?_
  refine ⟨σo, Ho, r, he.mono C gd.mono _ _ _ _ (fun v Ho1 k1 H1 r1 gr1 => ?_) h⟩
  refine ⟨v, σo, Ho1, rfl, r1, h1.mono C gd.mono _ _ _ _ _ (fun σ2 Ho2 k2 σ3 H2 r2 gr2 _ => ?_) k1⟩
  exact ⟨v, σ2, Ho2, rfl, r2, h2.mono C gd.mono _ _ _ _ _ (fun σ4 Ho3 k3 σ5 H3 r3 gr3 _ => k3 σ5 H3 r3 r3.gr) k2⟩
theorem par_mono {n : Nat} {sl : List Nat} (hg : SGs L X es gs sl) {as : List Expr} (ha : SA L X as t) : ∀ C, Cmono C → ∀ σ H D D', Le D D' → Z.par n gs t C D σ H → Z.par n gs t C D' σ H :=
  fun C m σ H D D' l h => ha.mono C m _ _ _ _ (fun v H1 h1 => ⟨h1.1, hg.mono C m _ _ _ _ _ l.nx h1.2⟩) h
/-- a, b, .. = e, f, .. by way of a tuple that nobody sees -/
theorem s_par {n k k2 : Nat} {p1 p2 : Pos} {sl : List Nat} {as : List Expr} (hc : X.calm = true) (hg : SGs L X es gs sl) (ha : SA L X as t) (hn : (assignEach es X.env).length = n := by rfl) (hst : (assignEach es X.env).findIdx? (·.1) = none := by rfl) (hz : n ≤ 1000 := by decide)
    (hs : swapsWithSole [.Tuple es k p1] (.Tuple as k2 p2) pos.line X.env = pure false := by rfl) (hw : swappedStores [.Tuple es k p1] (.Tuple as k2 p2) X.env = pure none := by rfl)
    (h1 : (assignEach [.Tuple es k p1] X.env).map (·.2) = [assign (.Tuple es k p1) X.env] := by rfl) : SS L X (.Assign [.Tuple es k p1] (.Tuple as k2 p2) pos) (Z.par n gs t) := by
  refine ⟨par_mono hg ha, fun C gd => ?_⟩
  refine impS (ps_asg (pe_tup (ha.run C gd)) (pg_tup hc (hg.run C gd) hn hst) hs hw h1) fun D σ H ⟨σo, Ho, r, h⟩ => ?_
  refine ⟨σo, Ho, r, ha.mono C gd.mono _ _ _ _ (fun vs Ho1 h1 H1 r1 g1 => ?_) h⟩
  obtain ⟨hl, h1⟩ := h1
  refine ⟨by rw [vs_len, hl, sizeLine_eq]; omega, fun q hq => ?_⟩
  have g2 : Gr Ho H Ho1 (upd H1 q (.tup (L.vs vs))) := g1.trans (Gr.hid hq)
  refine ⟨q, L.vs vs, rfl, SqT.of upd_same, by rw [vs_len]; exact hl, vs, σo, Ho1, rfl, r1.heap (r1.hp.hid (r1.hp.free hq)) (Gr.hid hq), hg.mono C gd.mono _ _ _ _ _ (fun σ2 Ho2 h2 σ3 H3 r3 g3 _ => ?_) h1⟩
  exact h2 σ3 H3 r3 r3.gr
/-- a, b = e, f of two plain local names -/
theorem s_par2 {i j k k2 : Nat} {x y : Str} {px py p1 p2 : Pos} (hc : X.calm = true) (hN : X.N.Nodup) (ha : SA L X [a, b] t) (hi : X.N[i]? = some x := by rfl) (hj : X.N[j]? = some y := by rfl) (hij : i ≠ j := by decide)
    (hx : X.env.scope.names.lookup x = some .local := by rfl) (hy : X.env.scope.names.lookup y = some .local := by rfl)
    (hw : swappedStores [.Tuple [.Name x px, .Name y py] k p1] (.Tuple [a, b] k2 p2) X.env = pure (some [x, y]) := by rfl)
    (hs : swapsWithSole [.Tuple [.Name x px, .Name y py] k p1] (.Tuple [a, b] k2 p2) pos.line X.env = pure false := by rfl) :
    SS L X (.Assign [.Tuple [.Name x px, .Name y py] k p1] (.Tuple [a, b] k2 p2) pos) (Z.par 2 (Z.gcons (Z.gname i) (Z.gcons (Z.gname j) Z.gnil)) t) := by
  refine ⟨fun C m σ H D D' l h => ha.mono C m _ _ _ _ (fun v H1 h1 => ⟨h1.1, ?_⟩) h, fun C gd => ?_⟩
  · obtain ⟨_, v1, ws, e1, v2, ws2, e2, e3, h2⟩ := h1
    exact ⟨v1, ws, e1, v2, ws2, e2, e3, l.nx _ _ h2⟩
  · refine impS (ps_par hc hN hi hj hij hx hy (ha.run C gd) hw hs) fun D σ H ⟨σo, Ho, r, h⟩ => ?_
    refine ⟨σo, Ho, r, ha.mono C gd.mono _ _ _ _ (fun vs Ho1 h1 H1 r1 g1 => ?_) h⟩
    obtain ⟨_, v1, ws, rfl, v2, ws2, rfl, rfl, h2⟩ := h1
    exact ⟨L.v v1, L.v v2, rfl, h2 _ _ ((r1.put i v1).put j v2) r1.gr⟩
theorem s_par3 {i j l k k2 : Nat} {x y z : Str} {px py pz p1 p2 : Pos} (hc : X.calm = true) (hN : X.N.Nodup) (ha : SA L X [a, b, c] t) (hi : X.N[i]? = some x := by rfl) (hj : X.N[j]? = some y := by rfl) (hl : X.N[l]? = some z := by rfl) (hij : i ≠ j := by decide) (hil : i ≠ l := by decide) (hjl : j ≠ l := by decide)
    (hx : X.env.scope.names.lookup x = some .local := by rfl) (hy : X.env.scope.names.lookup y = some .local := by rfl) (hz : X.env.scope.names.lookup z = some .local := by rfl)
    (hw : swappedStores [.Tuple [.Name x px, .Name y py, .Name z pz] k p1] (.Tuple [a, b, c] k2 p2) X.env = pure (some [x, y, z]) := by rfl)
    (hs : swapsWithSole [.Tuple [.Name x px, .Name y py, .Name z pz] k p1] (.Tuple [a, b, c] k2 p2) pos.line X.env = pure false := by rfl) :
    SS L X (.Assign [.Tuple [.Name x px, .Name y py, .Name z pz] k p1] (.Tuple [a, b, c] k2 p2) pos) (Z.par 3 (Z.gcons (Z.gname i) (Z.gcons (Z.gname j) (Z.gcons (Z.gname l) Z.gnil))) t) := by
  refine ⟨fun C m σ H D D' l h => ha.mono C m _ _ _ _ (fun v H1 h1 => ⟨h1.1, ?_⟩) h, fun C gd => ?_⟩
  · obtain ⟨_, v1, ws, e1, v2, ws2, e2, v3, ws3, e3, e4, h2⟩ := h1
    exact ⟨v1, ws, e1, v2, ws2, e2, v3, ws3, e3, e4, l.nx _ _ h2⟩
  · refine impS (ps_par3 hc hN hi hj hl hij hil hjl hx hy hz (ha.run C gd) hw hs) fun D σ H ⟨σo, Ho, r, h⟩ => ?_
    refine ⟨σo, Ho, r, ha.mono C gd.mono _ _ _ _ (fun vs Ho1 h1 H1 r1 g1 => ?_) h⟩
    obtain ⟨_, v1, ws, rfl, v2, ws2, rfl, v3, ws3, rfl, rfl, h2⟩ := h1
    exact ⟨L.v v1, L.v v2, L.v v3, rfl, h2 _ _ (((r1.put i v1).put j v2).put l v3) r1.gr⟩
theorem augo_mono {k : Bool} {x y : Z.V} {Q Q' : Z.V → Prop} (q : ∀ v, Q v → Q' v) (h : Z.augo k x y Q) : Z.augo k x y Q' := by
  cases k <;> cases x <;> cases y <;> first | exact q _ h | exact h.elim
theorem s_augA {i : Nat} {x : Str} {pos' : Pos} (hN : X.N.Nodup) (he : SE L X e te) (hi : X.N[i]? = some x := by rfl) (hx : Loc X.env.scope x := by first | exact Or.inl rfl | exact Or.inr rfl)
    (hf : X.fn x = true ∨ X.env.scope.names.lookup x = some .local := by first | exact .inl rfl | exact .inr rfl) : SS L X (.AugAssign (.Name x pos') .Add e pos) (Z.aug i true te) := by
  refine ⟨fun C m σ H D D' l h => ?_, fun C gd => ?_⟩
  · unfold Z.aug at h ⊢
    split at h
    · exact he.mono C m _ _ _ _ (fun y H1 h1 => augo_mono (fun z => l.nx _ _) h1) h
    · exact h.elim
  · refine impS (ps_aug hN hi hx (he.run C gd) ip_add hf) fun D σ H ⟨σo, Ho, r, h⟩ => ?_
    unfold Z.aug at h
    split at h
    · rename_i v ev
      refine ⟨L.v v, r.sl i v ev, σo, Ho, r, he.mono C gd.mono _ _ _ _ (fun y Ho1 h1 H1 r1 g1 => ?_) h⟩
      cases v <;> cases y <;> first
        | exact h1.elim
        | exact ⟨_, _, rfl, rfl, h1 _ _ (r1.put i _) r1.gr⟩
    · exact h.elim
theorem s_augS {i : Nat} {x : Str} {pos' : Pos} (hN : X.N.Nodup) (he : SE L X e te) (hi : X.N[i]? = some x := by rfl) (hx : Loc X.env.scope x := by first | exact Or.inl rfl | exact Or.inr rfl)
    (hf : X.fn x = true ∨ X.env.scope.names.lookup x = some .local := by first | exact .inl rfl | exact .inr rfl) : SS L X (.AugAssign (.Name x pos') .Sub e pos) (Z.aug i false te) := by
  refine ⟨fun C m σ H D D' l h => ?_, fun C gd => ?_⟩
  · unfold Z.aug at h ⊢
    split at h
    · exact he.mono C m _ _ _ _ (fun y H1 h1 => augo_mono (fun z => l.nx _ _) h1) h
    · exact h.elim
  · refine impS (ps_aug hN hi hx (he.run C gd) ip_sub hf) fun D σ H ⟨σo, Ho, r, h⟩ => ?_
    unfold Z.aug at h
    split at h
    · rename_i v ev
      refine ⟨L.v v, r.sl i v ev, σo, Ho, r, he.mono C gd.mono _ _ _ _ (fun y Ho1 h1 H1 r1 g1 => ?_) h⟩
      cases v <;> cases y <;> first
        | exact h1.elim
        | exact ⟨_, _, rfl, rfl, h1 _ _ (r1.put i _) r1.gr⟩
    · exact h.elim
theorem s_drop (he : SE L X e te) (hs : swapsWith e none pos.line X.env = pure false := by rfl) : SS L X (.Expr e pos) (Z.drop te) := by
  refine ⟨fun C m σ H D D' l h => he.mono C m _ _ _ _ (fun v H1 h1 => l.nx _ _ h1) h, fun C gd => ?_⟩
  refine impS (ps_expr (he.run C gd) hs) fun D σ H ⟨σo, Ho, r, h⟩ => ?_
  exact ⟨σo, Ho, r, he.mono C gd.mono _ _ _ _ (fun v Ho1 h1 H1 r1 g1 => h1 σ H1 r1 r1.gr) h⟩
theorem s_ret (he : SE L X e te) : SS L X (.Return (some e) pos) (Z.ret te) := by
  refine ⟨fun C m σ H D D' l h => he.mono C m _ _ _ _ (fun v H1 h1 => l.rt _ _ h1) h, fun C gd => ?_⟩
  refine impS (ps_ret (he.run C gd)) fun D σ H ⟨σo, Ho, r, h⟩ => ?_
  exact ⟨σo, Ho, r, he.mono C gd.mono _ _ _ _ (fun v Ho1 h1 H1 r1 g1 => h1 H1 r1.hp r1.gr) h⟩
theorem s_retN : SS L X (.Return none pos) Z.retN := ⟨fun C m σ H D D' l h => l.rt _ _ h, fun C gd => impS ps_retN fun D σ H ⟨σo, Ho, r, h⟩ => h H r.hp r.gr⟩
variable {tq : Z.TT}
theorem s_if (hc : ST L X c tq) (ha : SB L X b1 u1) (hb : SB L X b2 u2) : SS L X (.If c b1 b2 pos) (Z.ifs tq u1 u2) := by
  refine ⟨fun C m σ H D D' l h => hc.mono C m _ _ _ _ (fun k H1 h1 => ?_) h, fun C gd => ?_⟩
  · cases k with
    | true => exact ha.mono C m _ _ _ _ l h1
    | false => exact hb.mono C m _ _ _ _ l h1
  · refine impS (ps_if (hc.run C gd) (ha.run C gd) (hb.run C gd)) fun D σ H ⟨σo, Ho, r, h⟩ => ?_
    refine ⟨σo, Ho, r, hc.mono C gd.mono _ _ _ _ (fun k Ho1 h1 H1 r1 g1 => ?_) h⟩
    cases k with
    | true => exact iteT ⟨σo, Ho1, r1, ha.mono C gd.mono _ _ _ _ (ends_le g1 D) h1⟩
    | false => exact iteF ⟨σo, Ho1, r1, hb.mono C gd.mono _ _ _ _ (ends_le g1 D) h1⟩

/-! ### while -/
theorem whn_mono (hc : ST L X c tq) (hb : SB L X b1 u1) : ∀ C, Cmono C → ∀ (n : Nat) σ H D D', Le D D' → Z.whn tq u1 C D n σ H → Z.whn tq u1 C D' n σ H := by
  intro C m n
  induction n with
  | zero => intro σ H D D' l h; exact h
  | succ n ih =>
    intro σ H D D' l h
    refine hc.mono C m _ _ _ _ (fun k H1 h1 => ?_) h
    cases k with
    | true => exact hb.mono C m _ _ { D with nx := Z.whn tq u1 C D n, ct := Z.whn tq u1 C D n, bk := D.nx } _ ⟨fun σ H h => ih σ H D D' l h, l.rt, l.nx, fun σ H h => ih σ H D D' l h⟩ h1
    | false => exact l.nx _ _ h1
theorem s_whl (hp : PassesOwn (model X.prog X.w) X.A X.env X.xe) (hc : ST L X c tq) (hb : SB L X b1 u1) : SS L X (.While c b1 [] pos) (Z.whl tq u1) := by
  refine ⟨fun C m σ H D D' l ⟨n, h⟩ => ⟨n, whn_mono hc hb C m n σ H D D' l h⟩, fun C gd => ?_⟩
  refine impS (ps_while hp (hc.run C gd) (hb.run C gd)) fun D σ H ⟨σo, Ho, r, n, h⟩ => ?_
  refine ⟨fun n σ1 H1 => ∃ σo1 Ho1, R L X.K σo1 Ho1 σ1 H1 ∧ Gr L.h0 L.H0 Ho1 H1 ∧ Z.whn tq u1 C (ends L X.K Ho H D) n σo1 Ho1, ⟨n, σo, Ho, r, r.gr, h⟩, ?_⟩
  rintro n σ1 H1 ⟨σo1, Ho1, r1, g1, h1⟩
  cases n with
  | zero => exact h1.elim
  | succ n =>
    refine ⟨σo1, Ho1, r1, hc.mono C gd.mono _ _ _ _ (fun k Ho2 h2 H2 r2 g2 => ?_) h1⟩
    have g12 := r2.gr
    cases k with
    | false => exact iteF (h2 σ1 H2 r2 g12)
    | true =>
      refine iteT ⟨fun σ' H' => ∃ σo3 Ho3, R L X.K σo3 Ho3 σ' H' ∧ Gr L.h0 L.H0 Ho3 H' ∧ Z.whn tq u1 C (ends L X.K Ho H D) n σo3 Ho3, fun σ' H' w => ⟨n, Nat.lt_succ_self n, w⟩, ?_⟩
      refine ⟨σo1, Ho2, r2, hb.mono C gd.mono _ _ { ends L X.K Ho H D with nx := Z.whn tq u1 C (ends L X.K Ho H D) n, ct := Z.whn tq u1 C (ends L X.K Ho H D) n, bk := (ends L X.K Ho H D).nx } _ ⟨fun σ3 Ho3 h3 σ' H' r3 g3 => ?_, fun v Ho3 h3 H' r3 g3 => h3 H' r3 g3, fun σ3 Ho3 h3 σ' H' r3 g3 => h3 σ' H' r3 g3, fun σ3 Ho3 h3 σ' H' r3 g3 => ?_⟩ h2⟩
      · exact ⟨σ3, Ho3, r3, g3, h3⟩
      · exact ⟨σ3, Ho3, r3, g3, h3⟩
end
end ZS

/-! Z6: what loops walk. First enumerate over a tuple, as a rule of the model. -/
namespace ZS
open PySem PySem.Spec PyProof.Rows L2
section
open AutoSeq1 (wpAny_loadPart')
theorem enum_newT (a : Addr) (its : Array Value) (n : Nat) (dd : Option Addr) (sl : Array (Option Value)) :
    Meets (Builtin.«enumerate.__new__» ⟨[.type "enumerate", .ref a], []⟩) (fun _ W s => s.heap.get? a = some { cls := .type "tuple", dict := dd, data := .seq its n, slots := sl } ∧
      W (.ok (.ret (.ref (s.heap.push { cls := .type "tuple_iterator", data := .fields #[.ref a, .int 0 0] }).objs.size)))
        { s with heap := (s.heap.push { cls := .type "tuple_iterator", data := .fields #[.ref a, .int 0 0] }).push { cls := .type "enumerate", data := .fields #[.none, .bool false, .ref s.heap.objs.size, rawInt 0, .none, .none] } }) :=
  .of_wp fun prog w A W s h => by
    obtain ⟨hp, g, d, tk, os⟩ := s
    obtain ⟨hl, h⟩ := h
    have hsub := sub_enumerate
    have hT : Heap.IsTuple (Shared.heap ⟨hp, g, d, tk, os⟩) a its := ⟨_, hl, rfl, n, rfl⟩
    wp_walk using wpAny_loadPart' hl
    refine wpAny_stack_any fun st => wpAny_pure ?_
    split
    · rename_i c _ _ _ _ _
      cases (c == Value.type "enumerate") <;> (wp_walk using wpAny_loadPart' hl, wpAny_pyIter_tuple hT; exact ⟨_, rfl, h⟩)
    · wp_walk using wpAny_loadPart' hl, wpAny_pyIter_tuple hT
      exact ⟨_, rfl, h⟩
end
section
variable {prog : Program} {w : World} {A : Around} {E : Value → Shared → Prop} {s : Shared}
theorem call_enumT {a : Addr} {its : Array Value} {Q : Value → Shared → Prop} (hT : s.heap.IsTuple a its)
    (k : ∀ h', IsEnum h' (s.heap.objs.size + 1) s.heap.objs.size 0 .none → h'.IsTupleIter s.heap.objs.size a 0 → (∀ b o, s.heap.get? b = some o → h'.get? b = some o) → Q (.ref (s.heap.objs.size + 1)) { s with heap := h' }) :
    wpAny (model prog w) A (call (.type "enumerate") [.ref a]) Q E s := by
  obtain ⟨⟨c, dd, dt, sl⟩, hl, hc, n, hd⟩ := hT
  cases (show c = .type "tuple" from hc)
  cases (show dt = .seq its n from hd)
  refine callType_new F.called_enumerate (by decide) (F.typeCall_enumerate_1 _) (F.newCall_enumerate_1 _) (fun obj => F.args_object_init_2 obj _) F.entry_enumerate_new (enum_newT a its n dd sl) ⟨hl, ?_⟩
  have hz : (s.heap.push { cls := .type "tuple_iterator", data := .fields #[.ref a, .int 0 0] }).objs.size = s.heap.objs.size + 1 := Heap.size_push ..
  have e1 := Heap.get?_push_size (s.heap.push { cls := .type "tuple_iterator", data := .fields #[.ref a, .int 0 0] }) (o := { cls := .type "enumerate", data := .fields #[.none, .bool false, .ref s.heap.objs.size, rawInt 0, .none, .none] }) rfl
  rw [hz] at e1
  show _ ∧ _
  rw [hz]
  exact ⟨⟨_, e1, rfl⟩, k _ e1 ⟨_, Heap.get?_push_of_some _ (Heap.get?_push_size _ rfl), rfl, rfl⟩ fun b o x => Heap.get?_push_of_some _ (Heap.get?_push_of_some _ x)⟩
end
/-- the items of the tuple at a, each in a new pair with its number -/
def IteT (K : PySem.W.Frag) (a : Addr) : It :=
  ⟨fun i H => ∃ (xs : List V) (x : V), SqT K H a xs ∧ xs[i]? = some x, fun i H v H' => ∃ T x, v = .ref T ∧ H T = none ∧ H' = upd H T (.tup [.int (i : Nat), x]) ∧ ∀ xs, SqT K H a xs → xs[i]? = some x, fun i H => ∃ xs : List V, SqT K H a xs ∧ xs.length = i⟩
theorem turn_enumT {P : Program} {w : World} {K : PySem.W.Frag} {elts : List Expr} {kk : Nat} {tpos : Pos} (a e it : Addr) :
    Turn P w K (.Tuple elts kk tpos) (IteT K a) [e, it] e (fun i h => (∃ old, IsEnum h e it ((i : Nat) : Int) old) ∧ h.IsTupleIter it a i ∧ e ≠ it) where
  mem := by simp
  obj := fun i h st b hb => by
    obtain ⟨⟨old, he⟩, ⟨o, ho, hc, hd⟩, _⟩ := st
    rcases (by simpa using hb : b = e ∨ b = it) with z | z
    · rw [z]
      exact ⟨_, he, fun v q => nomatch q⟩
    · rw [z]
      exact ⟨o, ho, fun v q => by rw [hd] at q; cases q⟩
  keep := fun i h h' st k => let ⟨⟨old, he⟩, hi, hne⟩ := st; ⟨⟨old, k e (by simp) _ he⟩, hi.at fun o q => k it (by simp) o q, hne⟩
  item := by
    intro X hP hw hK hc i pins s σ H E I hf st hg
    subst hP hw hK
    obtain ⟨⟨old, he⟩, hit, hne⟩ := st
    obtain ⟨xs, x, hq, hx⟩ := hg
    obtain ⟨its, rv, pt, hz⟩ := I.tuple hq
    obtain ⟨u, hu, ru⟩ := rv.get hx
    have hel : e < s.heap.objs.size := Heap.lt_size he
    have hil : it < s.heap.objs.size := by
      obtain ⟨_, q, _⟩ := hit
      exact Heap.lt_size q
    have hT : s.heap.IsTuple a its.toArray := pt
    obtain ⟨f0, f1, f2, f3, f4, f5⟩ := hf it (by simp)
    have hai : a ≠ it := fun z => by
      rw [z] at hT
      obtain ⟨o, ho, hoc, n, hod⟩ := hT
      obtain ⟨o2, ho2, hc2, hd2⟩ := hit
      rw [ho] at ho2
      cases ho2
      rw [hod] at hd2
      cases hd2
    have hae : e ≠ a := fun z => by
      rw [← z] at hT
      obtain ⟨o, ho, hoc, n, hod⟩ := hT
      rw [show s.heap.get? e = _ from he] at ho
      cases ho
      cases hod
    have D := Draws.tuple (prog := X.prog) (w := X.w) (A := X.A.in1) (I.ok.hd hc) it a hai its.toArray
    have hlt : i < its.toArray.size := by
      have := (List.getElem?_eq_some_iff.mp hu).1
      simpa using this
    refine wpAny_pyNext_enum_itemD D he ⟨hit, hT⟩ hlt hne (by simp [hae, hne]) fun x' h' tk hx' ho st' hTup hsz hk => ?_
    have ex : x' = u := by
      have hx2 : its.toArray[i]? = some x' := hx'
      rw [List.getElem?_toArray, hu] at hx2
      exact (Option.some.inj hx2).symm
    subst ex
    refine ⟨_, rfl, wpAny_letOwnedTupleGo_enum (s := { s with heap := h', toks := tk + 1 }) ho fun h'' he' sb => ?_⟩
    have hT2 : h''.get? s.heap.objs.size = some { cls := .type "tuple", data := .seq #[.int i tk, x'] } := (sb.2 _ (Nat.ne_of_gt hel)).trans hTup
    have new : ObjOk X.prog X.w (upd H s.heap.objs.size (.tup [.int (i : Nat), x])) h'' s.heap.objs.size (.tup [.int (i : Nat), x]) :=
      ⟨by show 2 ≤ sizeLine; decide, [.int i tk, x'], .cons ⟨_, rfl⟩ (.cons ru .nil), ⟨_, hT2, rfl, _, rfl⟩⟩
    have I1 : Inv X pins σ (upd H s.heap.objs.size (.tup [.int (i : Nat), x])) { s with heap := h'', toks := tk + 1 } :=
      I.turnedNew (ch := [e, it]) (fun b ob hb q => (sb.2 b (fun z => hb (by simp [z]))).trans (hk b ob (fun z => hb (by simp [z])) (fun z => hb (by simp [z])) q)) hf (Nat.le_refl _) new
    have e1 : ((i + 1 : Nat) : Int) = (i : Int) + 1 := by omega
    refine ⟨.ref s.heap.objs.size, _, I1, rfl, ⟨_, x, rfl, I.hok.fresh (Nat.le_refl _), rfl, fun ys hy => by rw [I.tuple_inj hy hq]; exact hx⟩, ⟨⟨x', by rw [e1]; exact he'⟩, st'.1.at fun o q => (sb.2 it (Ne.symm hne)).trans q, hne⟩, fun b hb => ?_⟩
    have hb' : b < s.heap.objs.size := by
      rcases (by simpa using hb : b = e ∨ b = it) with z | z
      · rw [z]; exact hel
      · rw [z]; exact hil
    rw [upd_ne (Nat.ne_of_lt hb')]
    exact (hf b hb).1
  done := by
    intro X hP hw hK hc i pins s σ H E I hf st hg
    subst hP hw hK
    obtain ⟨⟨old, he⟩, hit, hne⟩ := st
    obtain ⟨xs, hq, hx⟩ := hg
    obtain ⟨its, rv, pt, hz⟩ := I.tuple hq
    obtain ⟨f0, f1, f2, f3, f4, f5⟩ := hf it (by simp)
    have hT : s.heap.IsTuple a its.toArray := pt
    have hai : a ≠ it := fun z => by
      rw [z] at hT
      obtain ⟨o, ho, hoc, n, hod⟩ := hT
      obtain ⟨o2, ho2, hc2, hd2⟩ := hit
      rw [ho] at ho2
      cases ho2
      rw [hod] at hd2
      cases hd2
    have hl := rv.length
    have D := Draws.tuple (prog := X.prog) (w := X.w) (A := X.A.in1) (I.ok.hd hc) it a hai its.toArray
    have ei : its.toArray.size = i := by
      rw [List.size_toArray]
      omega
    exact wpAny_pyNext_enum_endD D he ⟨by rw [ei]; exact hit, hT⟩ fun h' eb => ⟨rfl, I.turned (t' := s.toks) (fun b o hb q => eb b o hb q) f0 f1 f3 f4 f5⟩
  self := fun A i s Q E st h => let ⟨⟨_, he⟩, _⟩ := st; wpAny_pyIter_enum he h
/-- enumerate of a list or a tuple -/
def iEnumS (K : PySem.W.Frag) (ta : TA) : TI := fun σ H W => ta σ H fun vs H1 => ∃ a, vs = [.ref a] ∧ ((∃ xs, SqL K H1 a xs ∧ W (Ite K a) H1) ∨ ∃ xs, SqT K H1 a xs ∧ W (IteT K a) H1)
theorem pi_enumS {X : Cx} {e : Expr} {ta : TA} {p pos tpos : Pos} {elts : List Expr} {kk : Nat} (hg : Gl X "enumerate") (hm : X.mg "enumerate" = none) (ha : PA X [e] ta) (hs : starEach [e] X.env = [(false, eval e X.env)] := by rfl) :
    PI X (.Tuple elts kk tpos) (.Call (.Name "enumerate" p) [e] [] pos) (iEnumS X.K ta) := by
  refine ⟨fun pins s σ H W I h => ?_⟩
  refine Call_ (ld_blt I hg hm boot_enumerate (PyProof.Rows.callWith_type1 (thn (ha.run pos pins s σ H _ I h) fun us s1 ⟨vs, H1, I1, r1, q1⟩ => ?_) hs rfl))
  obtain ⟨a, ex, q⟩ := q1
  subst ex
  obtain ⟨u, rfl, r⟩ := vals1 r1
  cases r
  have old : ∀ b, (b = s1.heap.objs.size + 1 ∨ b = s1.heap.objs.size) → s1.heap.objs.size ≤ b := fun b hb => by
    rcases hb with z | z
    · rw [z]; exact Nat.le_succ _
    · rw [z]; exact Nat.le_refl _
  rcases q with ⟨xs, hq, q⟩ | ⟨xs, hq, q⟩
  · obtain ⟨its, rv, pl, hz⟩ := I1.list hq
    refine call_enumerate_list pl.isList fun h' he hit hsz hk => wpAny_pyIter_enum he ?_
    have I2 : Inv X pins σ H1 { s1 with heap := h' } := I1.kept (t' := s1.toks) hk
    refine ⟨s1.heap.objs.size + 1, [s1.heap.objs.size + 1, s1.heap.objs.size], _, _, H1, rfl, I2, turn_enum a (s1.heap.objs.size + 1) s1.heap.objs.size, ⟨⟨.none, he⟩, hit, Nat.succ_ne_self _⟩, fun b hb => ?_, q⟩
    have hle := old b (by simpa using hb)
    exact I1.fpOk hle (I1.hok.fresh hle)
  · obtain ⟨its, rv, pl, hz⟩ := I1.tuple hq
    refine call_enumT (show s1.heap.IsTuple a its.toArray from pl) fun h' he hit hk => wpAny_pyIter_enum he ?_
    have I2 : Inv X pins σ H1 { s1 with heap := h' } := I1.kept (t' := s1.toks) hk
    refine ⟨s1.heap.objs.size + 1, [s1.heap.objs.size + 1, s1.heap.objs.size], _, _, H1, rfl, I2, turn_enumT a (s1.heap.objs.size + 1) s1.heap.objs.size, ⟨⟨.none, he⟩, hit, Nat.succ_ne_self _⟩, fun b hb => ?_, q⟩
    have hle := old b (by simpa using hb)
    exact I1.fpOk hle (I1.hok.fresh hle)
/-- a list or a tuple walked -/
def iSeq (K : PySem.W.Frag) (te : TE) : TI := fun σ H W => te σ H fun x H1 => ∃ a, x = .ref a ∧ ((∃ xs, SqL K H1 a xs ∧ W (Itl K a) H1) ∨ ∃ xs, SqT K H1 a xs ∧ W (Itt K a) H1)
theorem pi_seq {X : Cx} {tg e : Expr} {te : TE} (he : PE X e te) : PI X tg e (iSeq X.K te) := by
  refine ⟨fun pins s σ H W I h => ?_⟩
  refine thn (he.run pins s σ H _ I h) fun v s1 ⟨x, H1, I1, r1, q1⟩ => ?_
  obtain ⟨a, ex, q⟩ := q1
  subst ex
  cases r1
  have fp : ∀ b ∈ [s1.heap.objs.size], FpOk X pins H1 b := fun b hb => by
    rw [show b = s1.heap.objs.size by simpa using hb]
    exact I1.fpOk (Nat.le_refl _) (I1.hok.fresh (Nat.le_refl _))
  rcases q with ⟨xs, hq, q⟩ | ⟨xs, hq, q⟩
  · obtain ⟨its, rv, pl, hz⟩ := I1.list hq
    exact wpAny_pyIter_list pl.isList ⟨_, [s1.heap.objs.size], _, _, H1, rfl, I1.kept (t' := s1.toks) fun b o e => Heap.get?_push_of_some _ e, turn_list a _, ⟨_, Heap.get?_push_size _ rfl, rfl, rfl⟩, fp, q⟩
  · obtain ⟨its, rv, pl, hz⟩ := I1.tuple hq
    exact wpAny_pyIter_tuple (show s1.heap.IsTuple a its.toArray from pl) ⟨_, [s1.heap.objs.size], _, _, H1, rfl, I1.kept (t' := s1.toks) fun b o e => Heap.get?_push_of_some _ e, turn_tuple a _, ⟨_, Heap.get?_push_size _ rfl, rfl, rfl⟩, fp, q⟩

/-! ### what is walked, over the heap of Z0 -/
/-- the model's iterator gives these values in turn, while st -/
structure ItOk (L : Lw) (K : PySem.W.Frag) (J : It) (vs : List Z.V) (st : Z.Heap → Prop) : Prop where
  go : ∀ i Ho H, i < vs.length → RH L K Ho H → st Ho → J.go i H
  stop : ∀ Ho H, RH L K Ho H → st Ho → J.stop vs.length H
  yld : ∀ i Ho H x H', i < vs.length → RH L K Ho H → st Ho → J.yld i H x H' → H' = H ∧ ∃ v, vs[i]? = some v ∧ x = L.v v
/-- .. pairs, each in a new tuple that is not told of -/
structure ItOk2 (L : Lw) (K : PySem.W.Frag) (J : It) (vs : List (Z.V × Z.V)) (st : Z.Heap → Prop) : Prop where
  go : ∀ i Ho H, i < vs.length → RH L K Ho H → st Ho → J.go i H
  stop : ∀ Ho H, RH L K Ho H → st Ho → J.stop vs.length H
  yld : ∀ i Ho H x H', i < vs.length → RH L K Ho H → st Ho → J.yld i H x H' → ∃ T v, x = .ref T ∧ vs[i]? = some v ∧ H T = none ∧ H' = upd H T (.tup [L.v v.1, L.v v.2])
def liftI (L : Lw) (K : PySem.W.Frag) (C : Z.Cx) (t : Z.TI) : TI := fun σ H W => ∃ σo Ho, R L K σo Ho σ H ∧ t C σo Ho fun vs st Ho1 => ∀ J H1, R L K σo Ho1 σ H1 → Gr Ho H Ho1 H1 → ItOk L K J vs st → W J H1
def liftI2 (L : Lw) (K : PySem.W.Frag) (C : Z.Cx) (t : Z.TI2) : TI := fun σ H W => ∃ σo Ho, R L K σo Ho σ H ∧ t C σo Ho fun vs st Ho1 => ∀ J H1, R L K σo Ho1 σ H1 → Gr Ho H Ho1 H1 → ItOk2 L K J vs st → W J H1
structure SI (L : Lw) (X : Cx) (tg e : Expr) (t : Z.TI) : Prop where
  mono : ∀ C, Cmono C → ∀ σ H (Q Q' : List Z.V → (Z.Heap → Prop) → Z.Heap → Prop), (∀ v st H, Q v st H → Q' v st H) → t C σ H Q → t C σ H Q'
  run : ∀ C, Good L X C → PI X tg e (liftI L X.K C t)
structure SI2 (L : Lw) (X : Cx) (tg e : Expr) (t : Z.TI2) : Prop where
  mono : ∀ C, Cmono C → ∀ σ H (Q Q' : List (Z.V × Z.V) → (Z.Heap → Prop) → Z.Heap → Prop), (∀ v st H, Q v st H → Q' v st H) → t C σ H Q → t C σ H Q'
  run : ∀ C, Good L X C → PI X tg e (liftI2 L X.K C t)
section
variable {L : Lw} {X : Cx} {tg a b c e elt : Expr} {es : List Expr} {ta tb tc te : Z.TE} {t : Z.TA} {pos p : Pos} {g : Z.TG} {gs : Z.TGs} {K : PySem.W.Frag} {Ho : Z.Heap} {H : Hp}
theorem impI {tg e : Expr} {t t' : TI} (h : PI X tg e t) (i : ∀ σ H W, t' σ H W → t σ H W) : PI X tg e t' := ⟨fun pins s σ H W I q => h.run pins s σ H W I (i σ H W q)⟩
theorem vs_get {xs : List Z.V} {i : Nat} {x : V} (h : (L.vs xs)[i]? = some x) : ∃ v, xs[i]? = some v ∧ x = L.v v := by
  have h : (List.map L.v xs)[i]? = some x := h
  rw [List.getElem?_map] at h
  cases e : xs[i]? with
  | none => rw [e] at h; cases h
  | some v => rw [e] at h; exact ⟨v, rfl, (Option.some.inj h).symm⟩
theorem vs_at {xs : List Z.V} {i : Nat} (h : i < xs.length) : ∃ v, xs[i]? = some v ∧ (L.vs xs)[i]? = some (L.v v) := by
  refine ⟨xs[i], List.getElem?_eq_getElem h, ?_⟩
  show (List.map L.v xs)[i]? = _
  rw [List.getElem?_map, List.getElem?_eq_getElem h]
  rfl
theorem ok_l {q : Nat} {xs : List Z.V} : ItOk L K (Itl K q) xs (fun H2 => Z.litems H2 (.ref q) = some xs) := by
  have sq : ∀ {Ho H}, RH L K Ho H → Z.litems Ho (.ref q) = some xs → SqL K H q (L.vs xs) := fun r s => by
    obtain ⟨_, z, h⟩ := litems_rel r s
    cases z
    exact h
  refine ⟨fun i Ho H hi r s => ?_, fun Ho H r s => ?_, fun i Ho H x H' hi r s y => ?_⟩
  · obtain ⟨v, _, e⟩ := vs_at (L := L) hi
    exact ⟨_, _, sq r s, e⟩
  · exact ⟨_, sq r s, by rw [vs_len]; exact Nat.le_refl _⟩
  · obtain ⟨rfl, y⟩ := y
    exact ⟨rfl, vs_get (y _ (sq r s))⟩
theorem ok_t {q : Nat} {xs : List Z.V} : ItOk L K (Itt K q) xs (fun H2 => Z.titems H2 (.ref q) = some xs) := by
  have sq : ∀ {Ho H}, RH L K Ho H → Z.titems Ho (.ref q) = some xs → SqT K H q (L.vs xs) := fun r s => by
    obtain ⟨_, z, h⟩ := titems_rel r s
    cases z
    exact h
  refine ⟨fun i Ho H hi r s => ?_, fun Ho H r s => ?_, fun i Ho H x H' hi r s y => ?_⟩
  · obtain ⟨v, _, e⟩ := vs_at (L := L) hi
    exact ⟨_, _, sq r s, e⟩
  · exact ⟨_, sq r s, by rw [vs_len]; exact Nat.le_refl _⟩
  · obtain ⟨rfl, y⟩ := y
    exact ⟨rfl, vs_get (y _ (sq r s))⟩
theorem s_iseq (he : SE L X e te) : SI L X tg e (Z.iseq te) := by
  refine ⟨fun C m σ H Q Q' q h => he.mono C m _ _ _ _ (fun x H1 h1 => ?_) h, fun C gd => ?_⟩
  · rcases h1 with ⟨xs, i, h1⟩ | ⟨xs, i, h1⟩
    · exact .inl ⟨xs, i, q _ _ _ h1⟩
    · exact .inr ⟨xs, i, q _ _ _ h1⟩
  · refine impI (pi_seq (he.run C gd)) fun σ H W ⟨σo, Ho, r, h⟩ => ?_
    refine ⟨σo, Ho, r, he.mono C gd.mono _ _ _ _ (fun x Ho1 h1 H1 r1 g1 => ?_) h⟩
    rcases h1 with ⟨xs, i, h1⟩ | ⟨xs, i, h1⟩
    · obtain ⟨q, rfl, sq⟩ := litems_rel r1.hp i
      exact ⟨q, rfl, .inl ⟨_, sq, h1 _ H1 r1 g1 ok_l⟩⟩
    · obtain ⟨q, rfl, sq⟩ := titems_rel r1.hp i
      exact ⟨q, rfl, .inr ⟨_, sq, h1 _ H1 r1 g1 ok_t⟩⟩
theorem ok_r {lo : Int} {n : Nat} : ItOk L K (Itr lo n) (Z.rng lo n) (fun _ => True) := by
  have hl : (Z.rng lo n).length = n := by
    unfold Z.rng
    rw [List.length_map, List.length_range]
  refine ⟨fun i Ho H hi r s => by rw [hl] at hi; exact hi, fun Ho H r s => by rw [hl]; exact Nat.le_refl _, fun i Ho H x H' hi r s y => ?_⟩
  rw [hl] at hi
  obtain ⟨rfl, rfl⟩ := y
  refine ⟨rfl, .int (lo + i), ?_, rfl⟩
  unfold Z.rng
  rw [List.getElem?_map, List.getElem?_range hi]
  rfl
theorem s_irng1 {p2 : Pos} (hg : Gl X "range") (hm : X.mg "range" = none) (ha : SA L X [a] t) (hs : starEach [a] X.env = [(false, eval a X.env)] := by rfl) : SI L X tg (.Call (.Name "range" p2) [a] [] pos) (Z.irng1 t) := by
  refine ⟨fun C m σ H Q Q' q h => ha.mono C m _ _ _ _ (fun x H1 ⟨j, e, z, h1⟩ => ⟨j, e, z, q _ _ _ h1⟩) h, fun C gd => ?_⟩
  refine impI (pi_range1 hg hm (ha.run C gd) hs) fun σ H W ⟨σo, Ho, r, h⟩ => ?_
  refine ⟨σo, Ho, r, ha.mono C gd.mono _ _ _ _ (fun x Ho1 h1 H1 r1 g1 => ?_) h⟩
  obtain ⟨j, rfl, z, h1⟩ := h1
  exact ⟨j, rfl, z.1, z.2, h1 _ H1 r1 g1 ok_r⟩
theorem s_irng2 {p2 : Pos} (hg : Gl X "range") (hm : X.mg "range" = none) (ha : SA L X [a, b] t) (hs : starEach [a, b] X.env = [(false, eval a X.env), (false, eval b X.env)] := by rfl) (hs2 : starEach [b] X.env = [(false, eval b X.env)] := by rfl) : SI L X tg (.Call (.Name "range" p2) [a, b] [] pos) (Z.irng2 t) := by
  refine ⟨fun C m σ H Q Q' q h => ha.mono C m _ _ _ _ (fun x H1 ⟨i, j, e, z1, z2, h1⟩ => ⟨i, j, e, z1, z2, q _ _ _ h1⟩) h, fun C gd => ?_⟩
  refine impI (pi_range2 hg hm (ha.run C gd) hs hs2) fun σ H W ⟨σo, Ho, r, h⟩ => ?_
  refine ⟨σo, Ho, r, ha.mono C gd.mono _ _ _ _ (fun x Ho1 h1 H1 r1 g1 => ?_) h⟩
  obtain ⟨i, j, rfl, z1, z2, h1⟩ := h1
  exact ⟨i, j, rfl, ⟨z1.1, z1.2, z2.1, z2.2⟩, h1 _ H1 r1 g1 ok_r⟩
theorem enum_at : ∀ (xs : List Z.V) (k : Int) (i : Nat) (x : Z.V), xs[i]? = some x → (Z.enumV k xs)[i]? = some (.int (k + i), x)
  | [], _, _, _, h => by simp at h
  | y :: r, k, 0, x, h => by
    have e : y = x := by simpa using h
    subst e
    simp [Z.enumV]
  | y :: r, k, i + 1, x, h => by
    have e := enum_at r (k + 1) i x (by simpa using h)
    have e2 : k + 1 + (i : Int) = k + ((i + 1 : Nat) : Int) := by omega
    rw [e2] at e
    simpa [Z.enumV] using e
theorem enum_len : ∀ (xs : List Z.V) (k : Int), (Z.enumV k xs).length = xs.length
  | [], _ => rfl
  | y :: r, k => by
    show (Z.enumV (k + 1) r).length + 1 = r.length + 1
    rw [enum_len r]
theorem ok_el {q : Nat} {xs : List Z.V} : ItOk2 L K (Ite K q) (Z.enumV 0 xs) (fun H2 => Z.litems H2 (.ref q) = some xs) := by
  have sq : ∀ {Ho H}, RH L K Ho H → Z.litems Ho (.ref q) = some xs → SqL K H q (L.vs xs) := fun r s => by
    obtain ⟨_, z, h⟩ := litems_rel r s
    cases z
    exact h
  refine ⟨fun i Ho H hi r s => ?_, fun Ho H r s => ?_, fun i Ho H x H' hi r s y => ?_⟩
  · rw [enum_len] at hi
    obtain ⟨v, _, e⟩ := vs_at (L := L) hi
    exact ⟨_, _, sq r s, e⟩
  · exact ⟨_, sq r s, by rw [vs_len, enum_len]; exact Nat.le_refl _⟩
  · obtain ⟨T, z, rfl, hT, rfl, y⟩ := y
    obtain ⟨v, e1, rfl⟩ := vs_get (y _ (sq r s))
    exact ⟨T, _, rfl, enum_at xs 0 i v e1, hT, by rw [Int.zero_add]; rfl⟩
theorem ok_et {q : Nat} {xs : List Z.V} : ItOk2 L K (IteT K q) (Z.enumV 0 xs) (fun H2 => Z.titems H2 (.ref q) = some xs) := by
  have sq : ∀ {Ho H}, RH L K Ho H → Z.titems Ho (.ref q) = some xs → SqT K H q (L.vs xs) := fun r s => by
    obtain ⟨_, z, h⟩ := titems_rel r s
    cases z
    exact h
  refine ⟨fun i Ho H hi r s => ?_, fun Ho H r s => ?_, fun i Ho H x H' hi r s y => ?_⟩
  · rw [enum_len] at hi
    obtain ⟨v, _, e⟩ := vs_at (L := L) hi
    exact ⟨_, _, sq r s, e⟩
  · exact ⟨_, sq r s, by rw [vs_len, enum_len]⟩
  · obtain ⟨T, z, rfl, hT, rfl, y⟩ := y
    obtain ⟨v, e1, rfl⟩ := vs_get (y _ (sq r s))
    exact ⟨T, _, rfl, enum_at xs 0 i v e1, hT, by rw [Int.zero_add]; rfl⟩
theorem s_ienum {elts : List Expr} {kk : Nat} {tpos p2 : Pos} (hg : Gl X "enumerate") (hm : X.mg "enumerate" = none) (he : SE L X e te) (hs : starEach [e] X.env = (false, eval e X.env) :: starEach [] X.env := by rfl) :
    SI2 L X (.Tuple elts kk tpos) (.Call (.Name "enumerate" p2) [e] [] pos) (Z.ienum te) := by
  refine ⟨fun C m σ H Q Q' q h => he.mono C m _ _ _ _ (fun x H1 h1 => ?_) h, fun C gd => ?_⟩
  · rcases h1 with ⟨xs, i, h1⟩ | ⟨xs, i, h1⟩
    · exact .inl ⟨xs, i, q _ _ _ h1⟩
    · exact .inr ⟨xs, i, q _ _ _ h1⟩
  · refine impI (pi_enumS hg hm (pa_cons (he.run C gd) pa_nil hs) hs) fun σ H W ⟨σo, Ho, r, h⟩ => ?_
    refine ⟨σo, Ho, r, he.mono C gd.mono _ _ _ _ (fun x Ho1 h1 H1 r1 g1 => ?_) h⟩
    rcases h1 with ⟨xs, i, h1⟩ | ⟨xs, i, h1⟩
    · obtain ⟨q, rfl, sq⟩ := litems_rel r1.hp i
      exact ⟨q, rfl, .inl ⟨_, sq, h1 _ H1 r1 g1 ok_el⟩⟩
    · obtain ⟨q, rfl, sq⟩ := titems_rel r1.hp i
      exact ⟨q, rfl, .inr ⟨_, sq, h1 _ H1 r1 g1 ok_et⟩⟩

/-! ### for -/
variable {ti : Z.TI} {ti2 : Z.TI2} {b1 : List Stmt} {u1 : Z.TS} {sl : List Nat}
theorem fori_mono {st : Z.Heap → Prop} (hg : SG L X tg g sl) (hb : SB L X b1 u1) : ∀ C, Cmono C → ∀ vs σ H D D', Le D D' → Z.fori st g u1 C D vs σ H → Z.fori st g u1 C D' vs σ H := by
  intro C m vs
  induction vs with
  | nil => intro σ H D D' l h; exact ⟨h.1, l.nx _ _ h.2⟩
  | cons v r ih =>
    intro σ H D D' l h
    refine ⟨h.1, hg.mono C m _ _ _ _ _ (fun σ1 H1 h1 => ?_) h.2⟩
    exact hb.mono C m _ _ { D with nx := Z.fori st g u1 C D r, ct := Z.fori st g u1 C D r, bk := D.nx } _ ⟨fun σ H h => ih σ H D D' l h, l.rt, l.nx, fun σ H h => ih σ H D D' l h⟩ h1
theorem s_fore (hp : PassesOwn (model X.prog X.w) X.A X.env X.xe) (hc : X.calm = true) (hi : SI L X tg e ti) (hg : SG L X tg g sl) (hb : SB L X b1 u1) (hs : ∀ x, foldedSetIterable e X.env x = pure x := by intro _; rfl) : SS L X (.For tg e b1 [] pos) (Z.fore ti g u1) := by
  refine ⟨fun C m σ H D D' l h => hi.mono C m _ _ _ _ (fun vs st H1 h1 => fori_mono hg hb C m vs σ H1 D D' l h1) h, fun C gd => ?_⟩
  refine impS (ps_for hp hc (hi.run C gd) (hg.run C gd) (hb.run C gd) hs) fun D σ H ⟨σo, Ho, r, h⟩ => ?_
  refine ⟨σo, Ho, r, hi.mono C gd.mono _ _ _ _ (fun vs st Ho1 h1 J H1 r1 g1 ok => ?_) h⟩
  refine ⟨fun i m σ2 H2 => m = vs.length - i ∧ i ≤ vs.length ∧ ∃ σo2 Ho2, R L X.K σo2 Ho2 σ2 H2 ∧ Gr L.h0 L.H0 Ho2 H2 ∧ Z.fori st g u1 C (ends L X.K Ho H D) (vs.drop i) σo2 Ho2, ⟨vs.length, by simp, Nat.zero_le _, σo, Ho1, r1, r1.gr, h1⟩, ?_⟩
  rintro i m σ2 H2 ⟨rfl, hi, σo2, Ho2, r2, g2, h2⟩
  by_cases hlt : i < vs.length
  · rw [List.drop_eq_getElem_cons hlt] at h2
    obtain ⟨s2, h2⟩ := h2
    refine .inr ⟨ok.go i Ho2 H2 hlt r2.hp s2, fun σ' H' => ∃ σo3 Ho3, R L X.K σo3 Ho3 σ' H' ∧ Gr L.h0 L.H0 Ho3 H' ∧ Z.fori st g u1 C (ends L X.K Ho H D) (vs.drop (i + 1)) σo3 Ho3, fun σ' H' ⟨σo3, Ho3, w⟩ => ⟨vs.length - (i + 1), by omega, rfl, hlt, σo3, Ho3, w⟩, fun x H3 y => ?_⟩
    obtain ⟨rfl, v, ev, rfl⟩ := ok.yld i Ho2 H2 x H3 hlt r2.hp s2 y
    rw [List.getElem?_eq_getElem hlt] at ev
    cases ev
    refine ⟨_, σo2, Ho2, rfl, r2, hg.mono C gd.mono _ _ _ _ _ (fun σ4 Ho4 h4 σ5 H5 r5 g5 _ => ?_) h2⟩

    refine ⟨σ4, Ho4, r5, hb.mono C gd.mono _ _ { ends L X.K Ho H D with nx := Z.fori st g u1 C (ends L X.K Ho H D) (vs.drop (i + 1)), ct := Z.fori st g u1 C (ends L X.K Ho H D) (vs.drop (i + 1)), bk := (ends L X.K Ho H D).nx } _
      ⟨fun σ6 Ho6 h6 σ' H' r6 g6 => ⟨σ6, Ho6, r6, g6, h6⟩, fun v Ho6 h6 H' r6 g6 => h6 H' r6 g6, fun σ6 Ho6 h6 σ' H' r6 g6 => h6 σ' H' r6 g6, fun σ6 Ho6 h6 σ' H' r6 g6 => ⟨σ6, Ho6, r6, g6, h6⟩⟩ h4⟩
  · have ei : i = vs.length := by omega
    subst ei
    rw [List.drop_length] at h2
    exact .inl ⟨ok.stop Ho2 H2 r2.hp h2.1, h2.2 σ2 H2 r2 g2⟩
theorem fori2_mono {st : Z.Heap → Prop} (hg : SGs L X es gs sl) (hb : SB L X b1 u1) : ∀ C, Cmono C → ∀ vs σ H D D', Le D D' → Z.fori2 st gs u1 C D vs σ H → Z.fori2 st gs u1 C D' vs σ H := by
  intro C m vs
  induction vs with
  | nil => intro σ H D D' l h; exact ⟨h.1, l.nx _ _ h.2⟩
  | cons v r ih =>
    intro σ H D D' l h
    refine ⟨h.1, hg.mono C m _ _ _ _ _ (fun σ1 H1 h1 => ?_) h.2⟩
    exact hb.mono C m _ _ { D with nx := Z.fori2 st gs u1 C D r, ct := Z.fori2 st gs u1 C D r, bk := D.nx } _ ⟨fun σ H h => ih σ H D D' l h, l.rt, l.nx, fun σ H h => ih σ H D D' l h⟩ h1
theorem s_fore2 {k : Nat} {p2 : Pos} (hp : PassesOwn (model X.prog X.w) X.A X.env X.xe) (hc : X.calm = true) (hi : SI2 L X (.Tuple [a, b] k p2) e ti2) (hg : SGs L X [a, b] gs sl) (hb : SB L X b1 u1)
    (hn : (assignEach [a, b] X.env).length = 2 := by rfl) (hst : (assignEach [a, b] X.env).findIdx? (·.1) = none := by rfl) (hs : ∀ x, foldedSetIterable e X.env x = pure x := by intro _; rfl) : SS L X (.For (.Tuple [a, b] k p2) e b1 [] pos) (Z.fore2 ti2 gs u1) := by
  refine ⟨fun C m σ H D D' l h => hi.mono C m _ _ _ _ (fun vs st H1 h1 => fori2_mono hg hb C m vs σ H1 D D' l h1) h, fun C gd => ?_⟩
  refine impS (ps_for hp hc (hi.run C gd) (pg_tup hc (hg.run C gd) hn hst) (hb.run C gd) hs) fun D σ H ⟨σo, Ho, r, h⟩ => ?_
  refine ⟨σo, Ho, r, hi.mono C gd.mono _ _ _ _ (fun vs st Ho1 h1 J H1 r1 g1 ok => ?_) h⟩
  refine ⟨fun i m σ2 H2 => m = vs.length - i ∧ i ≤ vs.length ∧ ∃ σo2 Ho2, R L X.K σo2 Ho2 σ2 H2 ∧ Gr L.h0 L.H0 Ho2 H2 ∧ Z.fori2 st gs u1 C (ends L X.K Ho H D) (vs.drop i) σo2 Ho2, ⟨vs.length, by simp, Nat.zero_le _, σo, Ho1, r1, r1.gr, h1⟩, ?_⟩
  rintro i m σ2 H2 ⟨rfl, hi, σo2, Ho2, r2, g2, h2⟩
  by_cases hlt : i < vs.length
  · rw [List.drop_eq_getElem_cons hlt] at h2
    obtain ⟨s2, h2⟩ := h2
    refine .inr ⟨ok.go i Ho2 H2 hlt r2.hp s2, fun σ' H' => ∃ σo3 Ho3, R L X.K σo3 Ho3 σ' H' ∧ Gr L.h0 L.H0 Ho3 H' ∧ Z.fori2 st gs u1 C (ends L X.K Ho H D) (vs.drop (i + 1)) σo3 Ho3, fun σ' H' ⟨σo3, Ho3, w⟩ => ⟨vs.length - (i + 1), by omega, rfl, hlt, σo3, Ho3, w⟩, fun x H3 y => ?_⟩
    obtain ⟨T, v, rfl, ev, hT, rfl⟩ := ok.yld i Ho2 H2 x H3 hlt r2.hp s2 y
    rw [List.getElem?_eq_getElem hlt] at ev
    cases ev

    refine ⟨T, _, rfl, SqT.of upd_same, rfl, [(vs[i]).1, (vs[i]).2], σo2, Ho2, rfl, r2.heap (r2.hp.hid (r2.hp.free hT)) (Gr.hid hT), hg.mono C gd.mono _ _ _ _ _ (fun σ4 Ho4 h4 σ5 H5 r5 g5 _ => ?_) h2⟩

    refine ⟨σ4, Ho4, r5, hb.mono C gd.mono _ _ { ends L X.K Ho H D with nx := Z.fori2 st gs u1 C (ends L X.K Ho H D) (vs.drop (i + 1)), ct := Z.fori2 st gs u1 C (ends L X.K Ho H D) (vs.drop (i + 1)), bk := (ends L X.K Ho H D).nx } _
      ⟨fun σ6 Ho6 h6 σ' H' r6 g6 => ⟨σ6, Ho6, r6, g6, h6⟩, fun v Ho6 h6 H' r6 g6 => h6 H' r6 g6, fun σ6 Ho6 h6 σ' H' r6 g6 => h6 σ' H' r6 g6, fun σ6 Ho6 h6 σ' H' r6 g6 => ⟨σ6, Ho6, r6, g6, h6⟩⟩ h4⟩
  · have ei : i = vs.length := by omega
    subst ei
    rw [List.drop_length] at h2
    exact .inl ⟨ok.stop Ho2 H2 r2.hp h2.1, h2.2 σ2 H2 r2 g2⟩

/-! ### comprehensions -/
theorem get_wipe : ∀ (own : List Nat) (σo : Z.St) (i : Nat) (v : Z.V), Z.get (Z.wipe σo own) i = some v → Z.get σo i = some v ∧ i ∉ own := by
  have gs : ∀ (σo : Z.St) (i j : Nat) (v : Z.V), Z.get (σo.set i none) j = some v → Z.get σo j = some v ∧ j ≠ i := by
    intro σo
    induction σo with
    | nil => intro i j v h; cases h
    | cons o r ih =>
      intro i j v h
      cases i with
      | zero =>
        cases j with
        | zero => cases h
        | succ j => exact ⟨h, by omega⟩
      | succ i =>
        cases j with
        | zero => exact ⟨h, by omega⟩
        | succ j =>
          obtain ⟨h1, h2⟩ := ih i j v h
          exact ⟨h1, by omega⟩
  intro own
  induction own with
  | nil => intro σo i v h; exact ⟨h, by simp⟩
  | cons o r ih =>
    intro σo i v h
    obtain ⟨h1, h2⟩ := gs _ _ _ _ h
    obtain ⟨h3, h4⟩ := ih σo i v h1
    exact ⟨h3, by simp only [List.mem_cons, not_or]; exact ⟨h2, h4⟩⟩
theorem wipe_at {σ : St} {i : Nat} : ∀ {vs : List Nat}, i ∉ vs → (wipe σ vs)[i]? = σ[i]?
  | [], _ => rfl
  | v :: vs, h => by
    have h2 : i ≠ v ∧ i ∉ vs := by simpa using h
    unfold wipe
    rw [List.getElem?_set_ne (Ne.symm h2.1), wipe_at h2.2]
theorem R.wipe {σo : Z.St} {σ : St} (r : R L K σo Ho σ H) (own : List Nat) : R L K (Z.wipe σo own) Ho (wipe σ own) H := by
  refine ⟨?_, fun i v h => ?_, r.hp, r.gr⟩
  · rw [wipe_length]
    have e : ∀ own : List Nat, (Z.wipe σo own).length = σo.length := by
      intro own
      induction own with
      | nil => rfl
      | cons o l ih => show ((Z.wipe σo l).set o none).length = _; rw [List.length_set, ih]
    rw [e]
    exact r.len
  · obtain ⟨h1, h2⟩ := get_wipe own σo i v h
    rw [wipe_at h2]
    exact r.sl i v h1
/-- what agrees outside of the wiped slots is wiped to the same -/
theorem wipe_but {σ σ' : St} {own sl : List Nat} (b : But sl (wipe σ own) σ') (hs : ∀ i ∈ sl, i ∈ own) : wipe σ' own = wipe σ own := by
  have hl : σ'.length = σ.length := by rw [b.len, wipe_length]
  refine List.ext_getElem? fun i => ?_
  by_cases hi : i ∈ own
  · have key : ∀ (τ : St) (vs : List Nat), i ∈ vs → i < τ.length → (wipe τ vs)[i]? = some none := by
      intro τ vs
      induction vs with
      | nil => intro h; cases h
      | cons v vs ih =>
        intro h hlt
        unfold wipe
        by_cases e : v = i
        · subst e
          rw [List.getElem?_set_self (by rw [wipe_length]; exact hlt)]
        · rw [List.getElem?_set_ne e]
          exact ih ((List.mem_cons.mp h).resolve_left (Ne.symm e)) hlt
    by_cases hlt : i < σ.length
    · rw [key σ' own hi (by rw [hl]; exact hlt), key σ own hi hlt]
    · rw [List.getElem?_eq_none (by rw [wipe_length, hl]; omega), List.getElem?_eq_none (by rw [wipe_length]; omega)]
  · rw [wipe_at hi, b.at_ i (fun z => hi (hs i z)), wipe_at hi]
/-- the block of a comprehension -/
theorem Good.blk {C : Z.Cx} (gd : Good L X C) {s : Shared} {H : Hp} {scope : Scope} {ce : Env} {fp : List Addr} : Good L (X.blk s H scope ce fp) C.calm :=
  ⟨gd.mono, fun u s' ⟨_, _, _, _, _, _, _, _, _, _, _, _, _, _, _, _, _, _, _, _, _, _, _, z⟩ => z, gd.units, gd.call⟩
/-- a clause's tests -/
structure STs (L : Lw) (X : Cx) (ifs : List Expr) (t : Z.TT) : Prop where
  mono : ∀ C, Cmono C → ∀ σ H (Q Q' : Bool → Z.Heap → Prop), (∀ v H, Q v H → Q' v H) → t C σ H Q → t C σ H Q'
  run : ∀ C, Good L X C → PTs X ifs (liftT L X.K C t)
theorem s_ts0 : STs L X [] Z.tyes := ⟨fun C m σ H Q Q' q h => q _ _ h, fun C gd => ⟨fun pins s σ H Q I ⟨σo, Ho, r, h⟩ => (pts_nil (X := X)).run pins s σ H Q I (h H r (Gr.refl _ _))⟩⟩
theorem s_ts1 {tq : Z.TT} (h : ST L X c tq) : STs L X [c] tq := ⟨h.mono, fun C gd => pts_one (h.run C gd)⟩
variable {ifs : List Expr} {tq : Z.TT} {own : List Nat}
/-- what stands during a comprehension: the new list at D holds acc and is not told of -/
structure Dur (L : Lw) (K : PySem.W.Frag) (D : Addr) (Ho : Z.Heap) (H : Hp) (acc : List Z.V) (Ho' : Z.Heap) (H' : Hp) : Prop where
  hp : RH L K Ho' H'
  at_ : H' D = some (.lst (L.vs acc))
  no : Ho' D = none
  on : ∀ a, H a ≠ none → H' a ≠ none
  un : ∀ a o, a ≠ D → H a = some o → Ho a = none → Ho' a = none ∧ ((∀ ps, o ≠ .tbl ps) → H' a = some o)
theorem Dur.gr {D : Addr} {acc : List Z.V} {Ho1 : Z.Heap} {H1 : Hp} (d : Dur L K D Ho H acc Ho1 H1) (hD : H D = none) : Gr Ho H Ho1 H1 := ⟨d.on, fun a o e1 e2 => d.un a o (fun z => by rw [z, hD] at e1; cases e1) e1 e2⟩
theorem Dur.start {D : Addr} (r : RH L K Ho H) (hD : H D = none) : Dur L K D Ho H [] Ho (upd H D (.lst [])) :=
  ⟨r.hid (r.free hD), upd_same, r.free hD, fun a h => by
    by_cases e : a = D
    · subst e; exact absurd hD h
    · rw [upd_ne e]; exact h, fun a o n e1 e2 => ⟨e2, fun _ => by rw [upd_ne n]; exact e1⟩⟩
theorem Dur.step {D : Addr} {acc : List Z.V} {Ho1 Ho2 : Z.Heap} {H1 H2 : Hp} (d : Dur L K D Ho H acc Ho1 H1) (r : RH L K Ho2 H2) (g : Gr Ho1 H1 Ho2 H2) : Dur L K D Ho H acc Ho2 H2 := by
  obtain ⟨n, k⟩ := g.un D _ d.at_ d.no
  refine ⟨r, k (fun ps z => (nomatch z)), n, fun a h => g.on a (d.on a h), fun a o na e1 e2 => ?_⟩
  obtain ⟨n1, k1⟩ := d.un a o na e1 e2
  cases q : H1 a with
  | none => exact absurd q (d.on a (by rw [e1]; exact fun z => nomatch z))
  | some o1 =>
    obtain ⟨n2, k2⟩ := g.un a o1 q n1
    refine ⟨n2, fun nt => ?_⟩
    have e3 := k1 nt
    rw [q] at e3
    cases e3
    exact k2 nt
theorem Dur.push {D : Addr} {acc : List Z.V} {Ho1 : Z.Heap} {H1 : Hp} (d : Dur L K D Ho H acc Ho1 H1) (v : Z.V) : Dur L K D Ho H (acc ++ [v]) Ho1 (upd H1 D (.lst (L.vs acc ++ [L.v v]))) := by
  have e : L.vs acc ++ [L.v v] = L.vs (acc ++ [v]) := (vs_app L acc [v]).symm
  refine ⟨d.hp.hid d.no, by rw [upd_same, e], d.no, fun a h => ?_, fun a o n e1 e2 => ?_⟩
  · by_cases z : a = D
    · subst z; rw [upd_same]; exact fun z => nomatch z
    · rw [upd_ne z]; exact d.on a h
  · rw [upd_ne n]
    exact d.un a o n e1 e2
/-- at the end the list is told of -/
theorem Dur.told {D : Addr} {acc : List Z.V} {Ho1 : Z.Heap} {H1 : Hp} (d : Dur L K D Ho H acc Ho1 H1) (hD : H D = none) : RH L K (Z.upd Ho1 D (.lst acc)) H1 ∧ Gr Ho H (Z.upd Ho1 D (.lst acc)) H1 := by
  refine ⟨fun b w e => ?_, d.on, fun a o e1 e2 => ?_⟩
  · by_cases hb : b = D
    · subst hb
      rw [Z.upd_same] at e
      cases e
      exact d.at_
    · rw [Z.upd_ne hb] at e
      exact d.hp b w e
  · have na : a ≠ D := fun z => by rw [z, hD] at e1; cases e1
    rw [Z.upd_ne na]
    exact d.un a o na e1 e2
theorem lci_mono {X1 X2 X3 : Cx} {st : Z.Heap → Prop} (hg : SG L X1 tg g sl) (ht : STs L X2 ifs tq) (he : SE L X3 elt te) : ∀ C, Cmono C → ∀ vs σ acc H (Q Q' : List Z.V → Z.Heap → Prop), (∀ v H, Q v H → Q' v H) → Z.lci st own g tq te C σ Q vs acc H → Z.lci st own g tq te C σ Q' vs acc H := by
  intro C m vs
  induction vs with
  | nil => intro σ acc H Q Q' q h; exact ⟨h.1, q _ _ h.2⟩
  | cons v r ih =>
    intro σ acc H Q Q' q h
    refine ⟨h.1, hg.mono C m _ _ _ _ _ (fun σ1 H1 h1 => ht.mono C m _ _ _ _ (fun k H2 h2 => ?_) h1) h.2⟩
    cases k with
    | true => exact he.mono C m _ _ _ _ (fun y H3 h3 => ⟨h3.1, ih σ _ H3 Q Q' q h3.2⟩) h2
    | false => exact ih σ _ H2 Q Q' q h2
section
variable {scope : Scope} {owns : List (Str × Nat)}
/-- the reading of a comprehension -/
theorem lc_read {C : Z.Cx} (gd : Good L X C) {σ : St} {σo : Z.St} {Ho1 : Z.Heap} {H1 : Hp} {J : It} {vs : List Z.V} {st : Z.Heap → Prop} {Qd : Addr → Hp → Prop} (r1 : R L X.K σo Ho1 σ H1) (ok : ItOk L X.K J vs st)
    (hg : ∀ C, Cmono C → ∀ v σ H (Q Q' : Z.St → Z.Heap → Prop), (∀ v H, Q v H → Q' v H) → g C v σ H Q → g C v σ H Q') (ht : ∀ C, Cmono C → ∀ σ H (Q Q' : Bool → Z.Heap → Prop), (∀ v H, Q v H → Q' v H) → tq C σ H Q → tq C σ H Q')
    (he : ∀ C, Cmono C → ∀ σ H (Q Q' : Z.VK), (∀ v H, Q v H → Q' v H) → te C σ H Q → te C σ H Q') (hs : ∀ i ∈ sl, i ∈ own)
    (h1 : Z.lci st own g tq te C.calm σo (fun acc H2 => ∀ p, H2 p = none → ∀ H', RH L X.K (Z.upd H2 p (.lst acc)) H' → Gr Ho1 H1 (Z.upd H2 p (.lst acc)) H' → Qd p H') vs [] Ho1) :
    ∀ D, H1 D = none → ∃ W : Nat → Nat → Hp → Prop, (∃ m, W 0 m (upd H1 D (.lst []))) ∧ ∀ i m H, W i m H →
      (J.stop i H ∧ Qd D H) ∨ (J.go i H ∧ ∃ Nx : Hp → Prop, (∀ H', Nx H' → ∃ m', m' < m ∧ W (i + 1) m' H') ∧ ∀ x H', J.yld i H x H' → liftG L X.K C.calm g sl x (wipe σ own) H' fun σ2 H2 => wipe σ2 own = wipe σ own ∧ liftT L X.K C.calm tq σ2 H2 fun b H3 =>
        if b = true then liftE L X.K C.calm te σ2 H3 fun y H4 => ∃ acc, H4 D = some (.lst acc) ∧ acc.length < sizeLine ∧ Nx (upd H4 D (.lst (acc ++ [y]))) else Nx H3) := by
  intro D hD
  refine ⟨fun i m H2 => m = vs.length - i ∧ i ≤ vs.length ∧ ∃ acc Ho2, Dur L X.K D Ho1 H1 acc Ho2 H2 ∧ Z.lci st own g tq te C.calm σo (fun acc H2 => ∀ p, H2 p = none → ∀ H', RH L X.K (Z.upd H2 p (.lst acc)) H' → Gr Ho1 H1 (Z.upd H2 p (.lst acc)) H' → Qd p H') (vs.drop i) acc Ho2,
    ⟨vs.length, by simp, Nat.zero_le _, [], Ho1, Dur.start r1.hp hD, h1⟩, ?_⟩
  rintro i m H2 ⟨rfl, hi, acc, Ho2, d2, h2⟩
  by_cases hlt : i < vs.length
  · rw [List.drop_eq_getElem_cons hlt] at h2
    obtain ⟨s2, h2⟩ := h2
    refine .inr ⟨ok.go i Ho2 H2 hlt d2.hp s2, fun H' => ∃ acc Ho3, Dur L X.K D Ho1 H1 acc Ho3 H' ∧ Z.lci st own g tq te C.calm σo (fun acc H2 => ∀ p, H2 p = none → ∀ H', RH L X.K (Z.upd H2 p (.lst acc)) H' → Gr Ho1 H1 (Z.upd H2 p (.lst acc)) H' → Qd p H') (vs.drop (i + 1)) acc Ho3,
      fun H' w => ⟨vs.length - (i + 1), by omega, rfl, hlt, w⟩, fun x H3 y => ?_⟩
    obtain ⟨rfl, v, ev, rfl⟩ := ok.yld i Ho2 H2 x H3 hlt d2.hp s2 y
    rw [List.getElem?_eq_getElem hlt] at ev
    cases ev
    refine ⟨_, _, Ho2, rfl, (r1.wipe own).heap d2.hp (d2.gr hD), hg C.calm gd.mono _ _ _ _ _ (fun σ4 Ho4 h4 σ5 H5 r5 g5 bt => ?_) h2⟩
    have d5 := d2.step r5.hp g5
    refine ⟨wipe_but bt hs, σ4, Ho4, r5, ht C.calm gd.mono _ _ _ _ (fun k Ho6 h6 H6 r6 g6 => ?_) h4⟩
    have d6 := d5.step r6.hp g6
    cases k with
    | false => exact iteF ⟨acc, Ho6, d6, h6⟩
    | true =>
      refine iteT ⟨σ4, Ho6, r6, he C.calm gd.mono _ _ _ _ (fun w Ho7 h7 H7 r7 g7 => ?_) h6⟩
      have d7 := d6.step r7.hp g7
      exact ⟨_, d7.at_, by rw [vs_len, ← line_eq]; exact h7.1, acc ++ [w], Ho7, d7.push w, h7.2⟩
  · have ei : i = vs.length := by omega
    subst ei
    rw [List.drop_length] at h2
    obtain ⟨t1, t2⟩ := d2.told hD
    exact .inl ⟨ok.stop Ho2 H2 d2.hp h2.1, h2.2 D d2.no H2 t1 t2⟩
/-- what a comprehension asks, told over Z0 -/
theorem lc_imp {C : Z.Cx} (gd : Good L X C) (hi : SI L X tg e ti) {X1 X2 X3 : Cx} (hg : SG L X1 tg g sl) (ht : STs L X2 ifs tq) (he : SE L X3 elt te) (hsl : ∀ i ∈ sl, i ∈ own) {σ : St} {H : Hp} {Q : L2.VK} (h : liftE L X.K C (Z.lcomp ti own g tq te) σ H Q) :
    tLc (liftI L X.K C ti) (liftG L X.K C.calm g sl) (liftT L X.K C.calm tq) (liftE L X.K C.calm te) own σ H Q := by
  obtain ⟨σo, Ho, r, h⟩ := h
  refine ⟨σo, Ho, r, hi.mono C gd.mono _ _ _ _ (fun vs st Ho1 h1 J H1 r1 g1 ok => ?_) h⟩
  refine lc_read (Qd := fun p H' => Q (.ref p) H') gd r1 ok hg.mono ht.mono he.mono hsl ?_
  exact lci_mono hg ht he C.calm gd.mono vs σo [] Ho1 _ _ (fun acc H2 h p hp H' rh gr => h p hp H' (r1.heap rh gr) (g1.trans gr)) h1
theorem lcomp_mono (hi : SI L X tg e ti) {X1 X2 X3 : Cx} (hg : SG L X1 tg g sl) (ht : STs L X2 ifs tq) (he : SE L X3 elt te) : ∀ C, Cmono C → ∀ σ H (Q Q' : Z.VK), (∀ v H, Q v H → Q' v H) → Z.lcomp ti own g tq te C σ H Q → Z.lcomp ti own g tq te C σ H Q' :=
  fun C m σ H Q Q' q h => hi.mono C m _ _ _ _ (fun vs st H1 h1 => lci_mono hg ht he C.calm m vs σ [] H1 _ _ (fun v H h p hp => q _ _ (h p hp)) h1) h
theorem s_lcomp (hc : X.calm = true) (hN : X.N.Nodup) (hi : SI L X tg e ti) (bk : BlkOk X.N X.env.scope scope owns)
    (hg : ∀ (s : Shared) (H : Hp) (C : Addr) (cl : List (Str × Addr)) (fp : List Addr), SG L (X.blk s H scope (compEnvC scope cl C X.env) fp) tg g sl) (ht : ∀ (s : Shared) (H : Hp) (C : Addr) (cl : List (Str × Addr)) (fp : List Addr), STs L (X.blk s H scope (compEnvC scope cl C X.env) fp) ifs tq)
    (he : ∀ (s : Shared) (H : Hp) (C : Addr) (cl : List (Str × Addr)) (fp : List Addr), SE L (X.blk s H scope (compEnvC scope cl C X.env) fp) elt te) (hown : owns.map (·.2) = own := by rfl) (hsl : ∀ i ∈ sl, i ∈ own := by decide) (hs : ∀ x, foldedSetIterable e X.env x = pure x := by intro _; rfl) :
    SE L X (.ListComp elt [⟨tg, e, ifs, 0⟩] scope pos) (Z.lcomp ti own g tq te) := by
  subst hown
  refine ⟨lcomp_mono hi (hg X.s_0 X.H_0 0 [] []) (ht X.s_0 X.H_0 0 [] []) (he X.s_0 X.H_0 0 [] []), fun C gd => ?_⟩
  exact impE (pe_lc (g := liftG L X.K C.calm g sl) (tt := liftT L X.K C.calm tq) (te := liftE L X.K C.calm te) hc hN (hi.run C gd) bk (fun s H C' cl fp => (hg s H C' cl fp).run C.calm gd.blk) (fun s H C' cl fp => (ht s H C' cl fp).run C.calm gd.blk) (fun s H C' cl fp => (he s H C' cl fp).run C.calm gd.blk) hs) fun σ H Q h => lc_imp gd hi (hg X.s_0 X.H_0 0 [] []) (ht X.s_0 X.H_0 0 [] []) (he X.s_0 X.H_0 0 [] []) hsl h
/-- y = [..] on one line -/
theorem s_setLc {i : Nat} {y : Str} {py spos : Pos} (hc : X.calm = true) (hN : X.N.Nodup) (hi : SI L X tg e ti) (bk : BlkOk X.N X.env.scope scope owns)
    (hg : ∀ (s : Shared) (H : Hp) (C : Addr) (cl : List (Str × Addr)) (fp : List Addr), SG L (X.blk s H scope (compEnvC scope cl C X.env) fp) tg g sl) (ht : ∀ (s : Shared) (H : Hp) (C : Addr) (cl : List (Str × Addr)) (fp : List Addr), STs L (X.blk s H scope (compEnvC scope cl C X.env) fp) ifs tq)
    (he : ∀ (s : Shared) (H : Hp) (C : Addr) (cl : List (Str × Addr)) (fp : List Addr), SE L (X.blk s H scope (compEnvC scope cl C X.env) fp) elt te) (hown : owns.map (·.2) = own := by rfl) (hsl : ∀ i ∈ sl, i ∈ own := by decide) (hy : X.N[i]? = some y := by rfl) (hyl : X.env.scope.names.lookup y = some .local := by rfl)
    (hsw : swapsWith (.ListComp elt [⟨tg, e, ifs, 0⟩] scope pos) (some (.Name y py)) spos.line X.env = pure true := by exact sw_true rfl rfl rfl (by decide +kernel)) (hs : ∀ x, foldedSetIterable e X.env x = pure x := by intro _; rfl) :
    SS L X (.Assign [.Name y py] (.ListComp elt [⟨tg, e, ifs, 0⟩] scope pos) spos) (Z.asg (Z.gname i) (Z.lcomp ti own g tq te)) := by
  subst hown
  have mo := lcomp_mono (own := owns.map (·.2)) hi (hg X.s_0 X.H_0 0 [] []) (ht X.s_0 X.H_0 0 [] []) (he X.s_0 X.H_0 0 [] [])
  refine ⟨fun C m σ H D D' l h => mo C m _ _ _ _ (fun v H1 h1 => l.nx _ _ h1) h, fun C gd => ?_⟩
  refine impS (ps_setLc (g := liftG L X.K C.calm g sl) (tt := liftT L X.K C.calm tq) (te := liftE L X.K C.calm te) hc hN hy hyl hsw (hi.run C gd) bk (fun s H C' cl fp => (hg s H C' cl fp).run C.calm gd.blk) (fun s H C' cl fp => (ht s H C' cl fp).run C.calm gd.blk) (fun s H C' cl fp => (he s H C' cl fp).run C.calm gd.blk) hs) fun D σ H ⟨σo, Ho, r, h⟩ => ?_
  refine lc_imp gd hi (hg X.s_0 X.H_0 0 [] []) (ht X.s_0 X.H_0 0 [] []) (he X.s_0 X.H_0 0 [] []) hsl ⟨σo, Ho, r, mo C gd.mono _ _ _ _ (fun v Ho1 h1 H1 r1 g1 => ?_) h⟩
  exact h1 _ _ (r1.put i v) r1.gr

/-! ### .. over pairs -/
theorem lci2_mono {X1 X2 X3 : Cx} {st : Z.Heap → Prop} (hg : SGs L X1 es gs sl) (ht : STs L X2 ifs tq) (he : SE L X3 elt te) : ∀ C, Cmono C → ∀ vs σ acc H (Q Q' : List Z.V → Z.Heap → Prop), (∀ v H, Q v H → Q' v H) → Z.lci2 st own gs tq te C σ Q vs acc H → Z.lci2 st own gs tq te C σ Q' vs acc H := by
  intro C m vs
  induction vs with
  | nil => intro σ acc H Q Q' q h; exact ⟨h.1, q _ _ h.2⟩
  | cons v r ih =>
    intro σ acc H Q Q' q h
    refine ⟨h.1, hg.mono C m _ _ _ _ _ (fun σ1 H1 h1 => ht.mono C m _ _ _ _ (fun k H2 h2 => ?_) h1) h.2⟩
    cases k with
    | true => exact he.mono C m _ _ _ _ (fun y H3 h3 => ⟨h3.1, ih σ _ H3 Q Q' q h3.2⟩) h2
    | false => exact ih σ _ H2 Q Q' q h2
theorem lc_read2 {C : Z.Cx} (gd : Good L X C) {σ : St} {σo : Z.St} {Ho1 : Z.Heap} {H1 : Hp} {J : It} {vs : List (Z.V × Z.V)} {st : Z.Heap → Prop} {Qd : Addr → Hp → Prop} (r1 : R L X.K σo Ho1 σ H1) (ok : ItOk2 L X.K J vs st)
    (hg : ∀ C, Cmono C → ∀ v σ H (Q Q' : Z.St → Z.Heap → Prop), (∀ v H, Q v H → Q' v H) → gs C v σ H Q → gs C v σ H Q') (ht : ∀ C, Cmono C → ∀ σ H (Q Q' : Bool → Z.Heap → Prop), (∀ v H, Q v H → Q' v H) → tq C σ H Q → tq C σ H Q')
    (he : ∀ C, Cmono C → ∀ σ H (Q Q' : Z.VK), (∀ v H, Q v H → Q' v H) → te C σ H Q → te C σ H Q') (hs : ∀ i ∈ sl, i ∈ own)
    (h1 : Z.lci2 st own gs tq te C.calm σo (fun acc H2 => ∀ p, H2 p = none → ∀ H', RH L X.K (Z.upd H2 p (.lst acc)) H' → Gr Ho1 H1 (Z.upd H2 p (.lst acc)) H' → Qd p H') vs [] Ho1) :
    ∀ D, H1 D = none → ∃ W : Nat → Nat → Hp → Prop, (∃ m, W 0 m (upd H1 D (.lst []))) ∧ ∀ i m H, W i m H →
      (J.stop i H ∧ Qd D H) ∨ (J.go i H ∧ ∃ Nx : Hp → Prop, (∀ H', Nx H' → ∃ m', m' < m ∧ W (i + 1) m' H') ∧ ∀ x H', J.yld i H x H' → gTup X.K 2 (liftGs L X.K C.calm gs sl) x (wipe σ own) H' fun σ2 H2 => wipe σ2 own = wipe σ own ∧ liftT L X.K C.calm tq σ2 H2 fun b H3 =>
        if b = true then liftE L X.K C.calm te σ2 H3 fun y H4 => ∃ acc, H4 D = some (.lst acc) ∧ acc.length < sizeLine ∧ Nx (upd H4 D (.lst (acc ++ [y]))) else Nx H3) := by
  intro D hD
  refine ⟨fun i m H2 => m = vs.length - i ∧ i ≤ vs.length ∧ ∃ acc Ho2, Dur L X.K D Ho1 H1 acc Ho2 H2 ∧ Z.lci2 st own gs tq te C.calm σo (fun acc H2 => ∀ p, H2 p = none → ∀ H', RH L X.K (Z.upd H2 p (.lst acc)) H' → Gr Ho1 H1 (Z.upd H2 p (.lst acc)) H' → Qd p H') (vs.drop i) acc Ho2,
    ⟨vs.length, by simp, Nat.zero_le _, [], Ho1, Dur.start r1.hp hD, h1⟩, ?_⟩
  rintro i m H2 ⟨rfl, hi, acc, Ho2, d2, h2⟩
  by_cases hlt : i < vs.length
  · rw [List.drop_eq_getElem_cons hlt] at h2
    obtain ⟨s2, h2⟩ := h2
    refine .inr ⟨ok.go i Ho2 H2 hlt d2.hp s2, fun H' => ∃ acc Ho3, Dur L X.K D Ho1 H1 acc Ho3 H' ∧ Z.lci2 st own gs tq te C.calm σo (fun acc H2 => ∀ p, H2 p = none → ∀ H', RH L X.K (Z.upd H2 p (.lst acc)) H' → Gr Ho1 H1 (Z.upd H2 p (.lst acc)) H' → Qd p H') (vs.drop (i + 1)) acc Ho3,
      fun H' w => ⟨vs.length - (i + 1), by omega, rfl, hlt, w⟩, fun x H3 y => ?_⟩
    obtain ⟨T, v, rfl, ev, hT, rfl⟩ := ok.yld i Ho2 H2 x H3 hlt d2.hp s2 y
    rw [List.getElem?_eq_getElem hlt] at ev
    cases ev
    have d3 : Dur L X.K D Ho1 H1 acc Ho2 (upd H2 T (.tup [L.v (vs[i]).1, L.v (vs[i]).2])) := d2.step (d2.hp.hid (d2.hp.free hT)) (Gr.hid hT)
    refine ⟨T, _, rfl, SqT.of upd_same, rfl, [(vs[i]).1, (vs[i]).2], _, Ho2, rfl, (r1.wipe own).heap d3.hp (d3.gr hD), hg C.calm gd.mono _ _ _ _ _ (fun σ4 Ho4 h4 σ5 H5 r5 g5 bt => ?_) h2⟩
    have d5 := d3.step r5.hp g5
    refine ⟨wipe_but bt hs, σ4, Ho4, r5, ht C.calm gd.mono _ _ _ _ (fun k Ho6 h6 H6 r6 g6 => ?_) h4⟩
    have d6 := d5.step r6.hp g6
    cases k with
    | false => exact iteF ⟨acc, Ho6, d6, h6⟩
    | true =>
      refine iteT ⟨σ4, Ho6, r6, he C.calm gd.mono _ _ _ _ (fun w Ho7 h7 H7 r7 g7 => ?_) h6⟩
      have d7 := d6.step r7.hp g7
      exact ⟨_, d7.at_, by rw [vs_len, ← line_eq]; exact h7.1, acc ++ [w], Ho7, d7.push w, h7.2⟩
  · have ei : i = vs.length := by omega
    subst ei
    rw [List.drop_length] at h2
    obtain ⟨t1, t2⟩ := d2.told hD
    exact .inl ⟨ok.stop Ho2 H2 d2.hp h2.1, h2.2 D d2.no H2 t1 t2⟩
theorem lc_imp2 {C : Z.Cx} (gd : Good L X C) (hi : SI2 L X tg e ti2) {X1 X2 X3 : Cx} (hg : SGs L X1 es gs sl) (ht : STs L X2 ifs tq) (he : SE L X3 elt te) (hsl : ∀ i ∈ sl, i ∈ own) {σ : St} {H : Hp} {Q : L2.VK} (h : liftE L X.K C (Z.lcomp2 ti2 own gs tq te) σ H Q) :
    tLc (liftI2 L X.K C ti2) (gTup X.K 2 (liftGs L X.K C.calm gs sl)) (liftT L X.K C.calm tq) (liftE L X.K C.calm te) own σ H Q := by
  obtain ⟨σo, Ho, r, h⟩ := h
  refine ⟨σo, Ho, r, hi.mono C gd.mono _ _ _ _ (fun vs st Ho1 h1 J H1 r1 g1 ok => ?_) h⟩
  refine lc_read2 (Qd := fun p H' => Q (.ref p) H') gd r1 ok hg.mono ht.mono he.mono hsl ?_
  exact lci2_mono hg ht he C.calm gd.mono vs σo [] Ho1 _ _ (fun acc H2 h p hp H' rh gr => h p hp H' (r1.heap rh gr) (g1.trans gr)) h1
theorem lcomp2_mono (hi : SI2 L X tg e ti2) {X1 X2 X3 : Cx} (hg : SGs L X1 es gs sl) (ht : STs L X2 ifs tq) (he : SE L X3 elt te) : ∀ C, Cmono C → ∀ σ H (Q Q' : Z.VK), (∀ v H, Q v H → Q' v H) → Z.lcomp2 ti2 own gs tq te C σ H Q → Z.lcomp2 ti2 own gs tq te C σ H Q' :=
  fun C m σ H Q Q' q h => hi.mono C m _ _ _ _ (fun vs st H1 h1 => lci2_mono hg ht he C.calm m vs σ [] H1 _ _ (fun v H h p hp => q _ _ (h p hp)) h1) h
theorem s_lcomp2 {k : Nat} {p2 : Pos} (hc : X.calm = true) (hN : X.N.Nodup) (hi : SI2 L X (.Tuple [a, b] k p2) e ti2) (bk : BlkOk X.N X.env.scope scope owns)
    (hg : ∀ (s : Shared) (H : Hp) (C : Addr) (cl : List (Str × Addr)) (fp : List Addr), SGs L (X.blk s H scope (compEnvC scope cl C X.env) fp) [a, b] gs sl) (ht : ∀ (s : Shared) (H : Hp) (C : Addr) (cl : List (Str × Addr)) (fp : List Addr), STs L (X.blk s H scope (compEnvC scope cl C X.env) fp) ifs tq)
    (he : ∀ (s : Shared) (H : Hp) (C : Addr) (cl : List (Str × Addr)) (fp : List Addr), SE L (X.blk s H scope (compEnvC scope cl C X.env) fp) elt te) (hown : owns.map (·.2) = own := by rfl) (hsl : ∀ i ∈ sl, i ∈ own := by decide) (hs : ∀ x, foldedSetIterable e X.env x = pure x := by intro _; rfl)
    (hn : ∀ env, (assignEach [a, b] env).length = 2 := by intro _; rfl) (hst : ∀ env, (assignEach [a, b] env).findIdx? (·.1) = none := by intro _; rfl) :
    SE L X (.ListComp elt [⟨.Tuple [a, b] k p2, e, ifs, 0⟩] scope pos) (Z.lcomp2 ti2 own gs tq te) := by
  subst hown
  refine ⟨lcomp2_mono hi (hg X.s_0 X.H_0 0 [] []) (ht X.s_0 X.H_0 0 [] []) (he X.s_0 X.H_0 0 [] []), fun C gd => ?_⟩
  exact impE (pe_lc (g := gTup X.K 2 (liftGs L X.K C.calm gs sl)) (tt := liftT L X.K C.calm tq) (te := liftE L X.K C.calm te) hc hN (hi.run C gd) bk (fun s H C' cl fp => pg_tup hc ((hg s H C' cl fp).run C.calm gd.blk) (hn _) (hst _)) (fun s H C' cl fp => (ht s H C' cl fp).run C.calm gd.blk) (fun s H C' cl fp => (he s H C' cl fp).run C.calm gd.blk) hs) fun σ H Q h => lc_imp2 gd hi (hg X.s_0 X.H_0 0 [] []) (ht X.s_0 X.H_0 0 [] []) (he X.s_0 X.H_0 0 [] []) hsl h
theorem s_setLc2 {k i : Nat} {y : Str} {py spos p2 : Pos} (hc : X.calm = true) (hN : X.N.Nodup) (hi : SI2 L X (.Tuple [a, b] k p2) e ti2) (bk : BlkOk X.N X.env.scope scope owns)
    (hg : ∀ (s : Shared) (H : Hp) (C : Addr) (cl : List (Str × Addr)) (fp : List Addr), SGs L (X.blk s H scope (compEnvC scope cl C X.env) fp) [a, b] gs sl) (ht : ∀ (s : Shared) (H : Hp) (C : Addr) (cl : List (Str × Addr)) (fp : List Addr), STs L (X.blk s H scope (compEnvC scope cl C X.env) fp) ifs tq)
    (he : ∀ (s : Shared) (H : Hp) (C : Addr) (cl : List (Str × Addr)) (fp : List Addr), SE L (X.blk s H scope (compEnvC scope cl C X.env) fp) elt te) (hown : owns.map (·.2) = own := by rfl) (hsl : ∀ i ∈ sl, i ∈ own := by decide) (hy : X.N[i]? = some y := by rfl) (hyl : X.env.scope.names.lookup y = some .local := by rfl)
    (hsw : swapsWith (.ListComp elt [⟨.Tuple [a, b] k p2, e, ifs, 0⟩] scope pos) (some (.Name y py)) spos.line X.env = pure true := by exact sw_true rfl rfl rfl (by decide +kernel)) (hs : ∀ x, foldedSetIterable e X.env x = pure x := by intro _; rfl)
    (hn : ∀ env, (assignEach [a, b] env).length = 2 := by intro _; rfl) (hst : ∀ env, (assignEach [a, b] env).findIdx? (·.1) = none := by intro _; rfl) :
    SS L X (.Assign [.Name y py] (.ListComp elt [⟨.Tuple [a, b] k p2, e, ifs, 0⟩] scope pos) spos) (Z.asg (Z.gname i) (Z.lcomp2 ti2 own gs tq te)) := by
  subst hown
  have mo := lcomp2_mono (own := owns.map (·.2)) hi (hg X.s_0 X.H_0 0 [] []) (ht X.s_0 X.H_0 0 [] []) (he X.s_0 X.H_0 0 [] [])
  refine ⟨fun C m σ H D D' l h => mo C m _ _ _ _ (fun v H1 h1 => l.nx _ _ h1) h, fun C gd => ?_⟩
  refine impS (ps_setLc (g := gTup X.K 2 (liftGs L X.K C.calm gs sl)) (tt := liftT L X.K C.calm tq) (te := liftE L X.K C.calm te) hc hN hy hyl hsw (hi.run C gd) bk (fun s H C' cl fp => pg_tup hc ((hg s H C' cl fp).run C.calm gd.blk) (hn _) (hst _)) (fun s H C' cl fp => (ht s H C' cl fp).run C.calm gd.blk) (fun s H C' cl fp => (he s H C' cl fp).run C.calm gd.blk) hs) fun D σ H ⟨σo, Ho, r, h⟩ => ?_
  refine lc_imp2 gd hi (hg X.s_0 X.H_0 0 [] []) (ht X.s_0 X.H_0 0 [] []) (he X.s_0 X.H_0 0 [] []) hsl ⟨σo, Ho, r, mo C gd.mono _ _ _ _ (fun v Ho1 h1 H1 r1 g1 => ?_) h⟩
  exact h1 _ _ (r1.put i v) r1.gr
end
end
end ZS

/-! Z7: calls of defs, methods, classes; defs keep their promises. -/
namespace ZS
open PySem PySem.Spec PyProof.Rows L2

/-! ### how arguments are bound -/
def permV (pm : List (Sum Nat Value)) (us : List Value) : List Value := pm.map fun p => match p with
  | .inl i => us.getD i .none
  | .inr v => v
/-- the same places, defaults alike -/
inductive PmRel (L : Lw) : List (Sum Nat Z.V) → List (Sum Nat Value) → Prop
  | nil : PmRel L [] []
  | pos {i : Nat} {r r'} : PmRel L r r' → PmRel L (.inl i :: r) (.inl i :: r')
  | dfl {v : Z.V} {u : Value} {r r'} : RelV (L.v v) u → PmRel L r r' → PmRel L (.inr v :: r) (.inr u :: r')
theorem vals_getD {L : Lw} : ∀ {vs : List Z.V} {us : List Value} (i : Nat), Vals (L.vs vs) us → RelV (L.v (vs.getD i .non)) (us.getD i .none)
  | [], us, i, h => by cases h; exact rfl
  | v :: vs, us, 0, h => by cases h with | cons r _ => exact r
  | v :: vs, us, i + 1, h => by cases h with | cons _ r => exact vals_getD i r
theorem vals_perm {L : Lw} {pm : List (Sum Nat Z.V)} {pm' : List (Sum Nat Value)} (p : PmRel L pm pm') {vs : List Z.V} {us : List Value} (h : Vals (L.vs vs) us) : Vals (L.vs (Z.perm pm vs)) (permV pm' us) := by
  induction p with
  | nil => exact .nil
  | pos _ ih => exact .cons (vals_getD _ h) ih
  | dfl r _ ih => exact .cons r ih
/-- a way to call: n values stand by place, ks are named -/
structure Shp (L : Lw) (K : PySem.W.Frag) (fd : FuncData) (ps : List Str) (n : Nat) (ks : List Str) (pm : List (Sum Nat Z.V)) : Prop where
  len : pm.length = ps.length
  to : ∃ pm', PmRel L pm pm' ∧ ∀ (s : Shared) (us ws : List Value), K.In s.heap → us.length = n → ws.length = ks.length → BindsTo s fd ⟨us, ks.zip ws⟩ (ps.zip (permV pm' (us ++ ws)))
theorem perm_len (pm : List (Sum Nat Z.V)) (vs : List Z.V) : (Z.perm pm vs).length = pm.length := by unfold Z.perm; rw [List.length_map]
section
variable {L : Lw} {K : PySem.W.Frag} {x qual : Str} {params : Arguments} {body : List Stmt} {scope : Scope} {f : Addr} {fd : FuncData} {ps ks : List Str} {n : Nat} {pm : List (Sum Nat Z.V)}
/-- every parameter is given -/
theorem shp_all {pm' : List (Sum Nat Value)} {dV kV doc pmm cdv ct : Value} {an : Option Addr} (len : pm.length = ps.length) (p : PmRel L pm pm')
    (h : ∀ (us ws : List Value), us.length = n → ws.length = ks.length → bindArgs (PySem.W.fnOf x qual params body scope dV kV doc pmm an cdv ct) ⟨us, ks.zip ws⟩ = pure (ps.zip (permV pm' (us ++ ws)))) :
    Shp L K (PySem.W.fnOf x qual params body scope dV kV doc pmm an cdv ct) ps n ks pm := ⟨len, pm', p, fun s us ws _ l1 l2 => .of_eq (h us ws l1 l2)⟩
/-- with defaults, which stand in a tuple of the module -/
theorem shp_dfl {pm' : List (Sum Nat Value)} {kV doc pmm cdv ct : Value} {an : Option Addr} {T : Addr} {o : Obj} {its : Array Value} {m : Nat} (lT : K.lookup T = some o) (oT : o.data = .seq its m) (len : pm.length = ps.length) (p : PmRel L pm pm')
    (h : ∀ (us ws : List Value), us.length = n → ws.length = ks.length → ∃ k, bindArgs (PySem.W.fnOf x qual params body scope (.ref T) kV doc pmm an cdv ct) ⟨us, ks.zip ws⟩ = seqItems? (.ref T) >>= k ∧ k (some its) = pure (ps.zip (permV pm' (us ++ ws)))) :
    Shp L K (PySem.W.fnOf x qual params body scope (.ref T) kV doc pmm an cdv ct) ps n ks pm := ⟨len, pm', p, fun s us ws X l1 l2 => by
      obtain ⟨k, e1, e2⟩ := h us ws l1 l2
      refine L2.BindsTo.of_looks fun M => ?_
      rw [e1]
      exact looks_items X lT oT (.of_pure e2)⟩
end

/-! ### written arguments -/
section
variable {L : Lw} {X : Cx} {e o : Expr} {es : List Expr} {te to : Z.TE} {t tk : Z.TA} {pos p apos kpos : Pos} {kws : List Keyword} {nm : Option Str} {ks : List Str} {n : Nat}
structure SKw (L : Lw) (X : Cx) (kws : List Keyword) (t : Z.TA) : Prop where
  mono : ∀ C, Cmono C → ∀ σ H (Q Q' : List Z.V → Z.Heap → Prop), (∀ v H, Q v H → Q' v H) → t C σ H Q → t C σ H Q'
  run : ∀ C, Good L X C → PK X kws (liftA L X.K C t)
theorem impK {t t' : TA} (h : PK X kws t) (i : ∀ σ H Q, t' σ H Q → t σ H Q) : PK X kws t' := ⟨fun pos pins s σ H Q I q => h.run pos pins s σ H Q I (i σ H Q q)⟩
theorem s_knil : SKw L X [] Z.anil := ⟨fun C m σ H Q Q' q h => q _ _ h, fun C g => impK pk_nil fun σ H Q ⟨σo, Ho, r, h⟩ => h H r (Gr.refl _ _)⟩
theorem s_kcons (ha : SE L X e te) (hr : SKw L X kws t) : SKw L X (⟨nm, e, kpos⟩ :: kws) (Z.acons te t) := by
  refine ⟨fun C m σ H Q Q' q h => ha.mono C m _ _ _ _ (fun v H1 h1 => hr.mono C m _ _ _ _ (fun vs H2 h2 => q _ _ h2) h1) h, fun C g => ?_⟩
  refine impK (pk_cons (ha.run C g) (hr.run C g)) fun σ H Q ⟨σo, Ho, r, h⟩ => ?_
  refine ⟨σo, Ho, r, ha.mono C g.mono _ _ _ _ (fun x Ho1 h1 H1 r1 g1 => ?_) h⟩
  exact ⟨σo, Ho1, r1, hr.mono C g.mono _ _ _ _ (fun xs Ho2 h2 H2 r2 g2 => h2 H2 r2 (g1.trans g2)) h1⟩
/-- the arguments of a call -/
structure SC (L : Lw) (X : Cx) (es : List Expr) (kws : List Keyword) (n : Nat) (ks : List Str) (t : Z.TA) : Prop where
  mono : ∀ C, Cmono C → ∀ σ H (Q Q' : List Z.V → Z.Heap → Prop), (∀ v H, Q v H → Q' v H) → t C σ H Q → t C σ H Q'
  run : ∀ C, Good L X C → ∀ (pos : Pos) (f : Value) (first : List Value) pins s σ H (Q : List V → Hp → Prop) (Rq : Value → Shared → Prop), PySem.W.keepIn X.K f = true → Inv X pins σ H s → liftA L X.K C t σ H Q →
    (∀ us ws s1 vs H1, (vs.length = n + ks.length → us.length = n ∧ ws.length = ks.length) → Inv X pins σ H1 s1 → Vals vs (us ++ ws) → Q vs H1 → wpAny (model X.prog X.w) X.A (call f (first ++ us) (ks.zip ws)) Rq X.xe s1) →
    wpAny (model X.prog X.w) X.A (callWith pos f first (backTo pos (starEach es X.env)) (backToKw pos (keywordEach kws X.env))) Rq X.xe s
theorem sc_none : SC L X [] [] 0 [] Z.anil := by
  refine ⟨fun C m σ H Q Q' q h => q _ _ h, fun C g pos f first pins s σ H Q Rq hk I h k => ?_⟩
  obtain ⟨σo, Ho, r, h⟩ := h
  exact PySem.W.callWith_K0 I.kIn hk (k [] [] s [] H (fun _ => ⟨rfl, rfl⟩) I .nil (h H r (Gr.refl _ _)))
theorem sc_pos (ha : SA L X (e :: es) t) (n : Nat) (he : starEach (e :: es) X.env = (false, eval e X.env) :: starEach es X.env := by rfl) (hpl : ∀ pos, (backTo pos (starEach es X.env)).any (·.1) = false := by intro _; rfl) : SC L X (e :: es) [] n [] t := by
  refine ⟨ha.mono, fun C g pos f first pins s σ H Q Rq hk I h k => ?_⟩
  refine PySem.W.callWith_K (h₀ := X.base) I.ok.mod.kin hk (thn ((ha.run C g).run pos pins s σ H _ I h) fun us s1 ⟨vs, H1, I1, r, q⟩ => ⟨I1.kIn, ?_⟩) he (hpl pos)
  exact k us [] s1 vs H1 (fun e => ⟨by rw [← r.length]; exact e, rfl⟩) I1 (by rw [List.append_nil]; exact r) q
theorem akw_mono {ta : Z.TA} (ha : SA L X es ta) (hk : SKw L X kws tk) : ∀ C, Cmono C → ∀ σ H (Q Q' : List Z.V → Z.Heap → Prop), (∀ v H, Q v H → Q' v H) → Z.akw n ta tk C σ H Q → Z.akw n ta tk C σ H Q' :=
  fun C m σ H Q Q' q h => ha.mono C m _ _ _ _ (fun xs H1 h1 => ⟨h1.1, hk.mono C m _ _ _ _ (fun ys H2 h2 => q _ _ h2) h1.2⟩) h
theorem vs_append (L : Lw) (xs ys : List Z.V) : L.vs (xs ++ ys) = L.vs xs ++ L.vs ys := List.map_append
theorem sc_kw (ha : SA L X (e :: es) t) (hkw : SKw L X kws tk) (n : Nat) (he : starEach (e :: es) X.env = (false, eval e X.env) :: starEach es X.env := by rfl) (hall : ∀ pos, (backToKw pos (keywordEach kws X.env)).all (·.1.isSome) = true := by intro _; rfl) (hks : ∀ pos, (backToKw pos (keywordEach kws X.env)).filterMap (·.1) = ks := by intro _; rfl)
    (hpl : ∀ pos, ((backTo pos (starEach (e :: es) X.env)).any (·.1) || (backToKw pos (keywordEach kws X.env)).any (·.1.isNone)) = false := by intro _; rfl) : SC L X (e :: es) kws n ks (Z.akw n t tk) := by
  refine ⟨akw_mono ha hkw, fun C g pos f first pins s σ H Q Rq hk I h k => ?_⟩
  obtain ⟨σo, Ho, r, h⟩ := h
  refine PySem.W.callWith_KW (h₀ := X.base) I.ok.mod.kin hk (hall pos) (thn ((ha.run C g).run pos pins s σ H (fun vs H1 => ∃ xs Ho1, vs = L.vs xs ∧ xs.length = n ∧ R L X.K σo Ho1 σ H1 ∧ Gr Ho H Ho1 H1 ∧ tk C σo Ho1 fun ys Ho2 => ∀ H', R L X.K σo Ho2 σ H' → Gr Ho H Ho2 H' → Q (L.vs (xs ++ ys)) H') I ?_) fun us s1 ⟨vs, H1, I1, r1, xs, Ho1, ev, hl, rr, g1, q⟩ => ?_) (hpl pos) he
  · exact ⟨σo, Ho, r, ha.mono C g.mono _ _ _ _ (fun xs Ho1 h1 H1 r1 g1 => ⟨xs, Ho1, rfl, h1.1, r1, g1, h1.2⟩) h⟩
  · subst ev
    refine thn ((hkw.run C g).run pos pins s1 σ H1 (fun zs H2 => Q (L.vs xs ++ zs) H2) I1 ⟨σo, Ho1, rr, hkw.mono C g.mono _ _ _ _ (fun ys Ho2 h2 H2 r2 g2 => ?_) q⟩) fun ws s2 ⟨zs, H2, I2, rz, q2⟩ => ⟨I2.kIn, ?_⟩
    · show Q (L.vs xs ++ L.vs ys) H2
      rw [← vs_append]
      exact h2 H2 r2 (g1.trans g2)
    · rw [hks pos]
      refine k us ws s2 _ H2 (fun el => ?_) I2 (r1.append rz) q2
      have l1 := r1.length
      have l2 := rz.length
      rw [List.length_append] at el
      rw [vs_len] at l1 el
      omega
theorem sc_kw0 (hkw : SKw L X kws tk) (hall : ∀ pos, (backToKw pos (keywordEach kws X.env)).all (·.1.isSome) = true := by intro _; rfl) (hks : ∀ pos, (backToKw pos (keywordEach kws X.env)).filterMap (·.1) = ks := by intro _; rfl)
    (hpl : ∀ pos, ((backTo pos (starEach [] X.env)).any (·.1) || (backToKw pos (keywordEach kws X.env)).any (·.1.isNone)) = false := by intro _; rfl) : SC L X [] kws 0 ks tk := by
  refine ⟨hkw.mono, fun C g pos f first pins s σ H Q Rq hk I h k => ?_⟩
  refine PySem.W.callWith_KW0 (h₀ := X.base) I.ok.mod.kin hk (hall pos) (thn ((hkw.run C g).run pos pins s σ H _ I h) fun ws s2 ⟨zs, H2, I2, rz, q2⟩ => ⟨I2.kIn, ?_⟩) (hpl pos)
  rw [hks pos]
  refine k [] ws s2 zs H2 (fun el => ⟨rfl, ?_⟩) I2 rz q2
  rw [← rz.length]
  omega

/-! ### calls -/
variable {C : Z.Cx} {c m : String} {fd : FuncData} {f : Addr} {ps : List Str} {pm : List (Sum Nat Z.V)} {x mm : Str}
/-- what a caller says of a callee's error -/
def wishE (L : Lw) (K : PySem.W.Frag) (C : Z.Cx) (σ : St) : XK := fun cls d H' => liftW L K C cls d σ H'
theorem run_def (gd : Good L X C) (hcm : X.calm = true) {pins : List (Addr × Obj)} {σ : St} {H : Hp} {s : Shared} {us ws : List Value} {vo : List Z.V} {σo : Z.St} {Ho : Z.Heap} {Qo : Z.VK} {Q : L2.VK} (hf : L.fn c m = some (f, fd, ps)) (hs : Shp L X.K fd ps n ks pm) (I : Inv X pins σ H s) (rr : R L X.K σo Ho σ H)
    (r : Vals (L.vs vo) (us ++ ws)) (l1 : us.length = n) (l2 : ws.length = ks.length) (h : C.call c m (Z.perm pm vo) Ho Qo fun c fs Ho' => C.exc c fs σo Ho') (hQ : ∀ v Ho' H', Qo v Ho' → R L X.K σo Ho' σ H' → Gr Ho H Ho' H' → Q (L.v v) H') :
    wpAny (model X.prog X.w) X.A (call (.ref f) us (ks.zip ws)) (EP X pins σ Q) X.xe s := by
  obtain ⟨k, _, hr, F⟩ := gd.call hcm
  have F := F c m f fd ps hf
  obtain ⟨pm', hp, hb⟩ := hs.to
  refine wpAny_call (codeAny_mono (F.run X.A X.stack s H ⟨us, ks.zip ws⟩ (permV pm' (us ++ ws)) (L.vs (Z.perm pm vo)) Q (wishE L X.K C σ) (hr.mono (Nat.le_succ k)) I.env0 (hb s us ws I.kIn l1 l2) (vals_perm hp r) ?_) fun r s' hq => ?_)
  · refine ⟨Z.perm pm vo, Ho, rfl, by rw [perm_len, hs.len], rr.hp, gd.mono _ _ _ _ _ _ _ _ (fun v Ho' q H' rh g => hQ v Ho' H' q (rr.heap rh g) g) (fun c fs Ho' q cls d H' rh g re nd => ?_) h⟩
    exact ⟨c, fs, σo, Ho', rr.heap rh g, re, nd.back rr.gr, q⟩
  · cases r with
    | error e => exact gd.takes e s' (XE.of_call I (fun _ _ _ h => h) hq)
    | ok fl =>
      cases fl with
      | ret u => exact I.after hq
      | next => exact False.elim hq
      | brk => exact False.elim hq
      | cont => exact False.elim hq
theorem callf_mono {nm : String} {k : Nat} (ha : SC L X es kws n ks t) : ∀ C, Cmono C → ∀ σ H (Q Q' : Z.VK), (∀ v H, Q v H → Q' v H) → Z.callf nm k pm t C σ H Q → Z.callf nm k pm t C σ H Q' :=
  fun C mo σ H Q Q' q h => ha.mono C mo _ _ _ _ (fun vs H1 h1 => ⟨h1.1, mo _ _ _ _ _ _ _ _ q (fun _ _ _ h => h) h1.2⟩) h
/-- f(..) -/
theorem s_call (m : String) (hf : L.fn "" m = some (f, fd, ps)) (hk : PySem.W.keepIn X.K (.ref f) = true) (hm : X.mg x = some (.ref f)) (hs : Shp L X.K fd ps n ks pm) (ha : SC L X es kws n ks t) (hg : Gl X x := by rfl) (hdb : (x == ("__debug__" : Str)) = false := by decide) (hcm : X.calm = true := by rfl) :
    SE L X (.Call (.Name x p) es kws pos) (Z.callf m (n + ks.length) pm t) := by
  refine ⟨callf_mono ha, fun C gd => ⟨fun pins s σ H Q I ⟨σo, Ho, r, h⟩ => ?_⟩⟩
  refine wpAny_Call_Name_kw (ld_glob I hg hm ?_ hdb)
  refine ha.run C gd pos (.ref f) [] pins s σ H (fun vs H1 => ∃ vo Ho1, vs = L.vs vo ∧ vo.length = n + ks.length ∧ R L X.K σo Ho1 σ H1 ∧ Gr Ho H Ho1 H1 ∧ C.call "" m (Z.perm pm vo) Ho1 (fun v Ho' => ∀ H', R L X.K σo Ho' σ H' → Gr Ho H Ho' H' → Q (L.v v) H') fun c fs H' => C.exc c fs σo H') _ hk I ⟨σo, Ho, r, ha.mono C gd.mono _ _ _ _ (fun vs Ho1 h1 H1 r1 g1 => ⟨vs, Ho1, rfl, h1.1, r1, g1, h1.2⟩) h⟩ fun us ws s1 vs H1 hl I1 rv q => ?_
  obtain ⟨vo, Ho1, rfl, lv, r1, g1, q⟩ := q
  obtain ⟨l1, l2⟩ := hl (by rw [vs_len]; exact lv)
  exact run_def gd hcm hf hs I1 r1 rv l1 l2 q fun v Ho' H' h rr gg => h H' rr (g1.trans gg)
/-- o.m(..) -/
structure MethOk (L : Lw) (K : PySem.W.Frag) (c m : String) (n : Nat) (ks : List Str) (pm : List (Sum Nat Z.V)) : Prop where
  ex : ∃ f fd ps, L.fn c m = some (f, fd, ps) ∧ Meth K (L.ca c) (Str.ofString m) f ∧ Shp L K fd ps (n + 1) ks pm
theorem lookNone {fs : List (String × Z.V)} {m : String} (h : fs.lookup m = none) : (L.fs fs).lookup (Str.ofString m) = none := by rw [fs_look, h]; rfl
theorem meth_mono {cs : List String} {k : Nat} (ho : SE L X o to) (ha : SC L X es kws n ks t) : ∀ C, Cmono C → ∀ σ H (Q Q' : Z.VK), (∀ v H, Q v H → Q' v H) → Z.meth cs to m k pm t C σ H Q → Z.meth cs to m k pm t C σ H Q' :=
  fun C mo σ H Q Q' q h => ho.mono C mo _ _ _ _ (fun x H1 ⟨a, c, fs, e1, e2, e3, e4, h1⟩ => ⟨a, c, fs, e1, e2, e3, e4, ha.mono C mo _ _ _ _ (fun vs H2 h2 => ⟨h2.1, mo _ _ _ _ _ _ _ _ q (fun _ _ _ h => h) h2.2⟩) h1⟩) h
theorem s_meth {pl : Sem Bool} (cs : List String) (m : String) (hms : ∀ c ∈ cs, MethOk L X.K c m n ks pm) (ho : SE L X o to) (ha : SC L X es kws n ks t) (hmm : mm = Str.ofString m := by rfl)
    (ht : eval (.Call (.Attribute o mm apos) es kws pos) X.env = (do
      let ov ← eval o X.env
      standAt apos.atName
      let (f, first) ← holding [ov] (getMethod ov mm pl)
      callWith pos f first (backTo pos (starEach es X.env)) (backToKw pos (keywordEach kws X.env))) := by rfl) (hcm : X.calm = true := by rfl) :
    SE L X (.Call (.Attribute o mm apos) es kws pos) (Z.meth cs to m (n + ks.length) pm t) := by
  refine ⟨meth_mono ho ha, fun C gd => ⟨fun pins s σ H Q I ⟨σo, Ho, r, h⟩ => ?_⟩⟩
  refine PySem.W.methodCall_KW (pl := pl) (thn ((ho.run C gd).run pins s σ H (fun v H1 => ∃ a c fs Ho1, v = .ref a ∧ Ho1 a = some (.ins c fs) ∧ c ∈ cs ∧ fs.lookup m = none ∧ R L X.K σo Ho1 σ H1 ∧ Gr Ho H Ho1 H1 ∧ t C σo Ho1 fun vs H2 => vs.length = n + ks.length ∧
    C.call c m (Z.perm pm (.ref a :: vs)) H2 (fun v Ho' => ∀ H', R L X.K σo Ho' σ H' → Gr Ho H Ho' H' → Q (L.v v) H') fun c fs H' => C.exc c fs σo H') I ⟨σo, Ho, r, ho.mono C gd.mono _ _ _ _ (fun x Ho1 h1 H1 r1 g1 => ?_) h⟩) fun u s1 ⟨v, H1, I1, ru, a, c, fs, Ho1, ev, ea, ec, lm, r1, g1, q⟩ => ?_) ht
  · obtain ⟨a, c, fs, rfl, e2, e3, e4, h1⟩ := h1
    exact ⟨a, c, fs, Ho1, rfl, e2, e3, e4, r1, g1, h1⟩
  · subst ev
    obtain rfl : u = Value.ref a := ru
    obtain ⟨f, fd, ps, hf, hm, hs⟩ := (hms c ec).ex
    obtain ⟨dx, hi, hcl, hn⟩ := r1.hp a _ ea
    subst hmm
    refine getmeth_ok I1 hi hcl hm (lookNone lm) ?_
    refine ha.run C gd pos (.ref f) [.ref a] pins s1 σ H1 (fun vs H2 => ∃ vo Ho2, vs = L.vs vo ∧ vo.length = n + ks.length ∧ R L X.K σo Ho2 σ H2 ∧ Gr Ho H Ho2 H2 ∧ C.call c m (Z.perm pm (.ref a :: vo)) Ho2 (fun v Ho' => ∀ H', R L X.K σo Ho' σ H' → Gr Ho H Ho' H' → Q (L.v v) H') fun c fs H' => C.exc c fs σo H') _ hm.kp I1 ⟨σo, Ho1, r1, ha.mono C gd.mono _ _ _ _ (fun vs Ho2 h2 H2 r2 g2 => ⟨vs, Ho2, rfl, h2.1, r2, g1.trans g2, h2.2⟩) q⟩ fun us ws s2 vs H2 hl I2 rv q2 => ?_
    obtain ⟨vo, Ho2, rfl, lv, r2, g2, q2⟩ := q2
    obtain ⟨l1, l2⟩ := hl (by rw [vs_len]; exact lv)
    exact run_def (us := .ref a :: us) (vo := .ref a :: vo) gd hcm hf hs I2 r2 (.cons rfl rv) (by show us.length + 1 = n + 1; rw [l1]) l2 q2 fun v Ho' H' h rr gg => h H' rr (g2.trans gg)
/-- C(..) -/
structure MakeOk (L : Lw) (K : PySem.W.Frag) (c : String) (n : Nat) (ks : List Str) (pm : List (Sum Nat Z.V)) : Prop where
  ex : ∃ f fd ps, L.fn c "__init__" = some (f, fd, ps) ∧ Mk K (L.ca c) f ∧ Shp L K fd ps (n + 1) ks pm
  cls : Cls K (L.ca c)
theorem make_mono {k : Nat} (ha : SC L X es kws n ks t) : ∀ C, Cmono C → ∀ σ H (Q Q' : Z.VK), (∀ v H, Q v H → Q' v H) → Z.make c k pm t C σ H Q → Z.make c k pm t C σ H Q' :=
  fun C mo σ H Q Q' q h => ha.mono C mo _ _ _ _ (fun vs H1 h1 => ⟨h1.1, fun p hp => mo _ _ _ _ _ _ _ _ (fun v H2 h2 => ⟨h2.1, q _ _ h2.2⟩) (fun _ _ _ h => h) (h1.2 p hp)⟩) h
theorem s_make (c : String) (hc : MakeOk L X.K c n ks pm) (hm : X.mg x = some (.ref (L.ca c))) (ha : SC L X es kws n ks t) (hg : Gl X x := by rfl) (hdb : (x == ("__debug__" : Str)) = false := by decide) (hcm : X.calm = true := by rfl) : SE L X (.Call (.Name x p) es kws pos) (Z.make c (n + ks.length) pm t) := by
  refine ⟨make_mono ha, fun C gd => ⟨fun pins s σ H Q I ⟨σo, Ho, r, h⟩ => ?_⟩⟩
  obtain ⟨f, fd, ps, hf, M, hs⟩ := hc.ex
  refine wpAny_Call_Name_kw (ld_glob I hg hm ?_ hdb)
  refine ha.run C gd pos (.ref (L.ca c)) [] pins s σ H (fun vs H1 => ∃ vo Ho1, vs = L.vs vo ∧ vo.length = n + ks.length ∧ R L X.K σo Ho1 σ H1 ∧ Gr Ho H Ho1 H1 ∧ ∀ p, Ho1 p = none → C.call c "__init__" (Z.perm pm (.ref p :: vo)) (Z.upd Ho1 p (.ins c [])) (fun v Ho' => v = .non ∧ ∀ H', R L X.K σo Ho' σ H' → Gr Ho H Ho' H' → Q (.ref p) H') fun c fs H' => C.exc c fs σo H') _ M.kp I ⟨σo, Ho, r, ha.mono C gd.mono _ _ _ _ (fun vs Ho1 h1 H1 r1 g1 => ⟨vs, Ho1, rfl, h1.1, r1, g1, h1.2⟩) h⟩ fun us ws s1 vs H1 hl I1 rv q => ?_
  obtain ⟨vo, Ho1, rfl, lv, r1, g1, q⟩ := q
  obtain ⟨l1, l2⟩ := hl (by rw [vs_len]; exact lv)
  obtain ⟨k, _, hr, F⟩ := gd.call hcm
  have F := F c "__init__" f fd ps hf
  obtain ⟨pm', hp, hb⟩ := hs.to
  have n1 : H1 (s1.heap.objs.size + 1) = none := I1.hok.fresh (Nat.le_succ _)
  have n0 : H1 s1.heap.objs.size = none := I1.hok.fresh (Nat.le_refl _)
  have I2 := Inv.made (C := L.ca c) I1
  have ne : s1.heap.objs.size ≠ s1.heap.objs.size + 1 := Nat.ne_of_lt (Nat.lt_succ_self _)
  have rv2 : Vals (L.vs (.ref (s1.heap.objs.size + 1) :: vo)) ((Value.ref (s1.heap.objs.size + 1) :: us) ++ ws) := .cons rfl rv
  have rh0 : RH L X.K Ho1 (upd H1 s1.heap.objs.size (.own (s1.heap.objs.size + 1))) := r1.hp.hid (r1.hp.free n0)
  have rh : RH L X.K (Z.upd Ho1 (s1.heap.objs.size + 1) (.ins c [])) (upd (upd H1 s1.heap.objs.size (.own (s1.heap.objs.size + 1))) (s1.heap.objs.size + 1) (.ins (L.ca c) s1.heap.objs.size [])) :=
    rh0.set ⟨s1.heap.objs.size, upd_same, hc.cls, fun f hf => absurd hf (by simp)⟩
  have g2 : Gr Ho1 H1 (Z.upd Ho1 (s1.heap.objs.size + 1) (.ins c [])) (upd (upd H1 s1.heap.objs.size (.own (s1.heap.objs.size + 1))) (s1.heap.objs.size + 1) (.ins (L.ca c) s1.heap.objs.size [])) :=
    (Gr.hid n0).trans (Gr.new (by rw [upd_ne (Ne.symm ne)]; exact n1))
  refine wpAny_call (make_map (f := f) I1.kIn M.makes M.init (beq_iff_eq.mp M.fn) (codeAny_mono (F.run _ X.stack _ _ ⟨Value.ref (s1.heap.objs.size + 1) :: us, ks.zip ws⟩ (permV pm' (Value.ref (s1.heap.objs.size + 1) :: us ++ ws)) (L.vs (Z.perm pm (.ref (s1.heap.objs.size + 1) :: vo)))
    (fun v H2 => v = .non ∧ Q (.ref (s1.heap.objs.size + 1)) H2) (wishE L X.K C σ) (hr.make (L.ca c) us (ks.zip ws)) (I2.env0.make (L.ca c) us (ks.zip ws)) (hb _ (Value.ref (s1.heap.objs.size + 1) :: us) ws I2.kIn (by show us.length + 1 = n + 1; rw [l1]) l2) (vals_perm hp rv2) ?_) fun r s' hq' => ?_))
  · refine ⟨Z.perm pm (.ref (s1.heap.objs.size + 1) :: vo), _, rfl, by rw [perm_len, hs.len], rh, gd.mono _ _ _ _ _ _ _ _ (fun v Ho' q H' rh' g => ?_) (fun c fs Ho' q cls d H' rh' g re nd => ⟨c, fs, σo, Ho', r1.heap rh' (g2.trans g), re, nd.back (r1.gr.trans g2), q⟩) (q _ (r1.hp.free n1))⟩
    obtain ⟨rfl, q⟩ := q
    exact ⟨rfl, q H' (r1.heap rh' (g2.trans g)) (g1.trans (g2.trans g))⟩
  · cases r with
    | error e => exact gd.takes e s' (XE.of_call I2 (fun _ _ _ h => h) hq')
    | ok fl =>
      cases fl with
      | ret u =>
        obtain ⟨v, H', I3, rv, ev, q3⟩ := I2.after hq'
        subst ev
        exact ⟨rv, ⟨V.ref (s1.heap.objs.size + 1), H', I3, rfl, q3⟩⟩
      | next => exact False.elim hq'
      | brk => exact False.elim hq'
      | cont => exact False.elim hq'
end

/-! ### defs -/
section
variable {L : Lw} {P : Program} {w : World} {K : PySem.W.Frag} {mg : Str → Option Value} {base : Heap}
/-- the entry -/
theorem r_start {vo : List Z.V} {Ho : Z.Heap} {H : Hp} {N : List Str} {n : Nat} (hn : n = N.length) (h : RH L K Ho H) (gr : Gr L.h0 L.H0 Ho H) : R L K (Z.start n vo) Ho (L2.start N (L.vs vo)) H := by
  subst hn
  unfold Z.start L2.start
  refine ⟨by simp, fun i v e => ?_, h, gr⟩
  have key : ∀ (vo : List Z.V) (m i : Nat) (v : Z.V), Z.get (vo.map some ++ List.replicate m none) i = some v → ((L.vs vo).map some ++ List.replicate m none)[i]? = some (some (L.v v)) := by
    intro vo
    induction vo with
    | nil =>
      intro m
      induction m with
      | zero => intro i v h; cases h
      | succ m ih =>
        intro i v h
        cases i with
        | zero => cases h
        | succ i => exact ih i v h
    | cons a r ih =>
      intro m i v h
      cases i with
      | zero => cases h; rfl
      | succ i => exact ih m i v h
  have e2 := key vo (N.length - vo.length) i v e
  rw [vs_len]
  exact e2
/-- a def of the table -/
structure DefOk (L : Lw) (P : Program) (w : World) (K : PySem.W.Frag) (mg : Str → Option Value) (base : Heap) (f : Addr) (fd : FuncData) (ps : List Str) (d : Z.Def) : Prop where
  np : d.np = ps.length
  ex : ∃ (name qual : Str) (params : Arguments) (body : List Stmt) (scope : Scope) (dV kV doc pm cdv ct oc : Value) (an od : Option Addr) (osl : Array (Option Value)) (N : List Str),
    fd = PySem.W.fnOf name qual params body scope dV kV doc pm an cdv ct ∧ K.lookup f = some ⟨oc, od, .func fd, osl⟩ ∧ PySem.W.codeIn K cdv qual = true ∧ FnScope N ps scope ∧ d.n = N.length ∧
    ∀ h0 H0 A outer s H E, SB (L.at_ h0 H0) (cxOf (CX P w) P w K mg base N qual scope f cdv A outer s H E) body d.body
theorem callK_mono (T : String → String → Option Z.Def) (k : Nat) (ex : String → List (String × Z.V) → Z.St → Z.Heap → Prop) : Cmono ⟨Z.callK T k, ex⟩ := by
  intro c m vs H Q Q' E E' q e h
  show Z.callK T k c m vs H Q' E'
  have h : Z.callK T k c m vs H Q E := h
  cases k with
  | zero => exact h
  | succ k =>
    unfold Z.callK at h ⊢
    cases ht : T c m with
    | none => rw [ht] at h; exact h
    | some d =>
      rw [ht] at h
      obtain ⟨hl, Q0, E0, q0, e0, hb⟩ := h
      exact ⟨hl, Q0, E0, fun v H x => q v H (q0 v H x), fun c f H x => e c f H (e0 c f H x), hb⟩
/-- every def of the table keeps its promise -/
theorem has_all (T : String → String → Option Z.Def) (hT : ∀ c m f fd ps, L.fn c m = some (f, fd, ps) → ∃ d, T c m = some d ∧ DefOk L P w K mg base f fd ps d) : ∀ k, Has L P w K mg base (2 * k + 1) (Z.callK T k) := by
  intro k
  induction k with
  | zero =>
    intro c m f fd ps hf
    refine ⟨fun vs H Q E ⟨vo, Ho, e, hl, _⟩ => by rw [e, vs_len]; exact hl, fun A outer s H args us vs Q E hr he hb hv hs => ?_⟩
    obtain ⟨vo, Ho, e, hl, rh, h⟩ := hs
    exact False.elim h
  | succ k ih =>
    intro c m f fd ps hf
    obtain ⟨d, hd, D⟩ := hT c m f fd ps hf
    obtain ⟨name, qual, params, body, scope, dV, kV, doc, pm, cdv, ct, oc, an, od, osl, N, rfl, lk, hcd, S, hn, hsb⟩ := D.ex
    show FnOk P w K mg base (CX P w) ((2 * k + 2) + 1) f _ ps _
    refine fn_of lk hcd S (fun vs H Q E ⟨vo, Ho, e, hl, _⟩ => by rw [e, vs_len]; exact hl) fun A outer s H vs Q E hr hsp => ?_
    obtain ⟨vo, Ho, rfl, hl, rh, h⟩ := hsp
    unfold Z.callK at h
    rw [hd] at h
    obtain ⟨_, Q0, E0, q0, e0, hb⟩ := h
    have tk : Takes (cxOf (CX P w) P w K mg base N qual scope f cdv A outer s H E) (fun cls d _ H => E cls d H) := takes_of rfl rfl rfl rfl
    have gd : Good (L.at_ Ho H) (cxOf (CX P w) P w K mg base N qual scope f cdv A outer s H E) ⟨Z.callK T k, fun c fs _ H' => E0 c fs H'⟩ :=
      ⟨callK_mono T k _, tk.imp fun cls d σ H' ⟨c, fs, σo, Ho', r, re, nd, x⟩ => e0 _ _ _ x cls d H' r.hp r.gr re nd, (show (A.deeper (envOfC qual scope s.heap.objs.size f cdv)).units + 130 < cLine by have := hr.un; omega), fun _ => ⟨2 * k + 1, Nat.le_add_left 1 _, hr, ih⟩⟩
    refine ⟨_, (hsb Ho H A outer s H E).run _ gd, Z.start d.n vo, Ho, r_start (L := L.at_ Ho H) hn rh (Gr.refl _ _), ?_⟩
    refine (hsb Ho H A outer s H E).mono _ gd.mono _ _ { nx := fun _ H2 => Q0 .non H2, rt := Q0 } _ ⟨fun σ1 Ho1 x σ2 H2 r2 g2 => q0 .non _ x H2 r2.hp g2, fun v Ho1 x H2 r2 g2 => q0 _ _ x H2 r2 g2, fun _ _ (x : False) => x.elim, fun _ _ (x : False) => x.elim⟩ hb
end
end ZS

/-! Z8: isinstance, repr. -/
namespace ZS
open PySem PySem.Spec PyProof.Rows L2
section
variable {L : Lw} {X : Cx} {a b c e : Expr} {es : List Expr} {ta tb tc te : Z.TE} {t : Z.TA} {pos p q tpos : Pos} {x : Str}
def tyNames : List String := ["int", "bool", "str", "list", "tuple", "dict"]
def tyAll : List String := ["NoneType", "int", "bool", "str", "list", "tuple", "dict"]
theorem kits : ∀ T ∈ tyAll, ∀ c ∈ tyNames, kitB T c = some (Z.subT T c) := by decide +kernel
theorem tyOf_mem {H : Z.Heap} {x : Z.V} {T : String} (h : Z.tyOf H x = some T) : T ∈ tyAll := by
  unfold Z.tyOf at h
  split at h <;> first
    | (cases h <;> decide)
    | (split at h <;> cases h <;> decide)
theorem ty_rel {K : PySem.W.Frag} {Ho : Z.Heap} {H : Hp} {x : Z.V} {T : String} (r : RH L K Ho H) (h : Z.tyOf Ho x = some T) : TyX K H (L.v x) (.type T) := by
  unfold Z.tyOf at h
  split at h
  · cases h; exact .base .non
  · cases h; exact .base (.bl _)
  · cases h; exact .base (.int _)
  · cases h; exact .base (.str _)
  · rename_i a
    split at h
    · rename_i xs e; cases h; exact .base (.lst (r a _ e))
    · rename_i xs e
      cases h
      rcases r a _ e with z | ⟨o, z⟩
      · exact .base (.lst z)
      · exact .base (.frz z)
    · rename_i xs e; cases h; exact .base (.tup (r a _ e))
    · rename_i xs e; cases h; exact .base (.dK (r a _ e))
    · rename_i xs e; cases h; exact .base (.dT (r a _ e))
    · cases h
  · cases h
theorem kit_any {K : PySem.W.Frag} {T : String} (hT : T ∈ tyAll) : ∀ {ts : List String}, (∀ c ∈ ts, c ∈ tyNames) → PySem.W.kitAny K (.type T) (ts.map Value.type) = some (ts.any (Z.subT T))
  | [], _ => rfl
  | c :: r, h => by
    have e := kit_ty (K := K) (kits T hT c (h c (List.mem_cons_self ..)))
    have ih := kit_any (K := K) hT (ts := r) fun d hd => h d (List.mem_cons_of_mem _ hd)
    show _ = some (Z.subT T c || r.any (Z.subT T))
    refine kitAny_cons e (fun z => ?_) (fun z => by rw [z]; rfl)
    rw [z]
    exact ih
theorem isi_mono {ts : List String} (he : SE L X e te) : ∀ C, Cmono C → ∀ σ H (Q Q' : Z.VK), (∀ v H, Q v H → Q' v H) → Z.isi te ts C σ H Q → Z.isi te ts C σ H Q' :=
  fun C m σ H Q Q' q h => he.mono C m _ _ _ _ (fun x H1 ⟨k, e, h1⟩ => ⟨k, e, q _ _ h1⟩) h
/-- isinstance(e, T) -/
theorem s_isi1 (T : String) (he : SE L X e te) (hm : X.mg "isinstance" = none) (hmT : X.mg x = none) (hv : bootBuiltins x = some (.type T)) (hT : T ∈ tyNames := by decide) (hg : Gl X "isinstance" := by rfl) (hgT : Gl X x := by rfl) (hn : x ≠ "__name__" := by decide) (hd : (x == ("__debug__" : Str)) = false := by decide)
    (hs : starEach [e, .Name x q] X.env = (false, eval e X.env) :: starEach [.Name x q] X.env := by rfl) : SE L X (.Call (.Name "isinstance" p) [e, .Name x q] [] pos) (Z.isi te [T]) := by
  refine ⟨isi_mono he, fun C gd => ?_⟩
  refine impE (pe_callB call_isi hg hm PyProof.Rows.boot_isinstance (pa_cons (he.run C gd) (pa_cons (pe_bltn (v := .ty T) hgT hmT hv rfl hn hd) pa_nil) hs) (he := hs)) fun σ H Q ⟨σo, Ho, r, h⟩ => ?_
  refine ⟨σo, Ho, r, he.mono C gd.mono _ _ _ _ (fun v Ho1 h1 H1 r1 g1 => ?_) h⟩
  obtain ⟨k, e, h1⟩ := h1
  unfold Z.isTy at e
  cases et : Z.tyOf Ho1 v with
  | none => rw [et] at e; cases e
  | some T1 =>
    rw [et] at e
    cases e
    refine ⟨L.v v, .ty T, .type T1, .type T, _, rfl, .ty T, ty_rel r1.hp et, kit_ty (kits T1 (tyOf_mem et) T hT), ?_⟩
    have z : Q (V.bl ([T].any (Z.subT T1))) H1 := h1 H1 r1 g1
    rw [List.any_cons, List.any_nil, Bool.or_false] at z
    exact z
/-- the types of a written tuple of them -/
inductive TyNs (X : Cx) : List Expr → List String → Prop
  | nil : TyNs X [] []
  | cons {x : Str} {q : Pos} {T : String} {r : List Expr} {ts : List String} (hg : Gl X x) (hm : X.mg x = none) (hv : bootBuiltins x = some (.type T)) (hT : T ∈ tyNames) (hn : x ≠ "__name__") (hd : (x == ("__debug__" : Str)) = false) (hr : TyNs X r ts) : TyNs X (.Name x q :: r) (T :: ts)
theorem tyns_names {es : List Expr} {ts : List String} (h : TyNs X es ts) : ∀ c ∈ ts, c ∈ tyNames := by
  induction h with
  | nil => intro c hc; cases hc
  | cons _ _ _ hT _ _ _ ih =>
    intro c hc
    rcases List.mem_cons.mp hc with z | z
    · rw [z]; exact hT
    · exact ih c z
def tTys (ts : List String) : TA := fun _ H Q => Q (ts.map V.ty) H
theorem tyns_pa {es : List Expr} {ts : List String} (h : TyNs X es ts) : PA X es (tTys ts) := by
  induction h with
  | nil => exact impA pa_nil fun σ H Q h => h
  | cons hg hm hv _ hn hd _ ih => exact impA (pa_cons (pe_bltn (v := .ty _) hg hm hv rfl hn hd) ih (by rfl)) fun σ H Q h => h
theorem tyns_pair : ∀ ts : List String, Paired ClsV (ts.map V.ty) (ts.map Value.type)
  | [] => .nil
  | t :: r => .cons (.ty t) (tyns_pair r)
/-- isinstance(e, (T, T2, ..)) -/
theorem s_isiN {ts : List String} {k : Nat} (he : SE L X e te) (hm : X.mg "isinstance" = none) (hts : TyNs X es ts) (hl : ts.length ≤ 100 := by decide) (hg : Gl X "isinstance" := by rfl)
    (hs : starEach [e, .Tuple es k tpos] X.env = (false, eval e X.env) :: starEach [.Tuple es k tpos] X.env := by rfl) (hs2 : starEach [.Tuple es k tpos] X.env = (false, eval (.Tuple es k tpos) X.env) :: starEach [] X.env := by rfl)
    (hpl : (backTo pos (starEach [.Tuple es k tpos] X.env)).any (·.1) = false := by rfl) : SE L X (.Call (.Name "isinstance" p) [e, .Tuple es k tpos] [] pos) (Z.isi te ts) := by
  refine ⟨isi_mono he, fun C gd => ?_⟩
  refine impE (pe_callB call_isiT hg hm PyProof.Rows.boot_isinstance (pa_cons (he.run C gd) (pa_cons (pe_tup (tyns_pa hts)) pa_nil hs2) hs) (he := hs) (hpl := hpl)) fun σ H Q ⟨σo, Ho, r, h⟩ => ?_
  refine ⟨σo, Ho, r, he.mono C gd.mono _ _ _ _ (fun v Ho1 h1 H1 r1 g1 => ?_) h⟩
  obtain ⟨kb, e, h1⟩ := h1
  unfold Z.isTy at e
  cases et : Z.tyOf Ho1 v with
  | none => rw [et] at e; cases e
  | some T1 =>
    rw [et] at e
    cases e
    refine ⟨by rw [List.length_map]; exact Nat.le_trans hl (by decide), fun tp hp => ?_⟩
    have r2 : R L X.K σo Ho1 σ (upd H1 tp (.tup (ts.map V.ty))) := r1.heap (r1.hp.hid (r1.hp.free hp)) (Gr.hid hp)
    exact ⟨L.v v, tp, ts.map V.ty, .type T1, ts.map Value.type, _, rfl, upd_same, tyns_pair ts, ty_rel r2.hp et, kit_any (tyOf_mem et) (tyns_names hts), h1 _ r2 (g1.trans (Gr.hid hp))⟩
theorem call_repr_bool : CallR X (.builtin "repr") (fun xs H Q => ∃ b : Bool, xs = [.bl b] ∧ Q (.str (if b then "True" else "False")) H) := by
  intro pins s σ H xs us Q I r h
  obtain ⟨b, rfl, q⟩ := h
  obtain ⟨u, rfl, r1⟩ := vals1 r
  cases (show u = Value.bool b from r1)
  exact PySem.P.repr_of_bool ⟨.str _, H, I.tok _, ⟨_, rfl⟩, q⟩
theorem m_repr : Mono1 Z.bRepr := fun vs H Q Q' q h => by
  unfold Z.bRepr at h ⊢
  split at h
  · exact q _ _ h
  · exact ⟨h.1, q _ _ h.2⟩
  · exact h.elim
theorem txt_code (s : String) : code (Z.txt s) = Str.ofString s := by
  rw [Str.ofString_eq_toList]
  rfl
theorem c_repr : CallR X (.builtin "repr") (lift1 L X.K Z.bRepr) := by
  intro pins s σ H vs us Q I rv q
  obtain ⟨vo, Ho, rfl, rh, h⟩ := q
  unfold Z.bRepr at h
  split at h
  · rename_i b
    refine call_repr_bool pins s σ H _ us Q I rv ⟨b, rfl, ?_⟩
    have z := h H rh (Gr.refl _ _)
    cases b <;> exact z
  · rename_i i
    refine SkE.call_repr_int pins s σ H _ us Q I rv ⟨i, rfl, h.1, ?_⟩
    have z := h.2 H rh (Gr.refl _ _)
    rw [← txt_code]
    exact z
  · exact h.elim
end
end ZS

/-! ZP: rules for proofs over the combinators. -/
namespace Z

/-! ### heaps -/
theorem upd_old {H : Heap} {p q : Nat} {o o' : O} (h : H q = some o) (hp : H p = none) : upd H p o' q = some o := by
  rw [upd_ne fun z => by rw [z, hp] at h; cases h]
  exact h
/-- all that stood stands as it was, but for S -/
def Fr (S : List Nat) (H H' : Heap) : Prop := ∀ q o, H q = some o → q ∉ S → H' q = some o
theorem Fr.refl (S : List Nat) (H : Heap) : Fr S H H := fun _ _ h _ => h
theorem Fr.trans {S : List Nat} {H H1 H2 : Heap} (a : Fr S H H1) (b : Fr S H1 H2) : Fr S H H2 := fun q o h n => b q o (a q o h n) n
theorem Fr.new {S : List Nat} {H : Heap} {p : Nat} {o : O} (hp : H p = none) : Fr S H (upd H p o) := fun _ _ h _ => upd_old h hp
theorem Fr.chg {S : List Nat} {H : Heap} {p : Nat} {o : O} (hp : p ∈ S) : Fr S H (upd H p o) := fun q _ h n => by
  rw [upd_ne fun z => n (by rw [z]; exact hp)]
  exact h
theorem Fr.mono {S S' : List Nat} {H H' : Heap} (a : Fr S H H') (s : ∀ q ∈ S, q ∈ S') : Fr S' H H' := fun q o h n => a q o h fun z => n (s q z)
/-- what is new is new to what stood before -/
theorem Fr.fresh {S : List Nat} {H H' : Heap} {p : Nat} (a : Fr S H H') (hS : ∀ q ∈ S, ∃ o, H' q = some o) (hp : H' p = none) : H p = none := by
  cases e : H p with
  | none => rfl
  | some o =>
    by_cases m : p ∈ S
    · obtain ⟨o', e'⟩ := hS p m
      rw [hp] at e'
      cases e'
    · have := a p o e m
      rw [hp] at this
      cases this

/-! ### statements in turn -/
theorem seq_k {t u : TS} {C : Cx} {D : Ends} {σ : St} {H : Heap} (M : St → Heap → Prop) (h1 : ∀ K : St → Heap → Prop, (∀ σ1 H1, M σ1 H1 → K σ1 H1) → t C { D with nx := K } σ H) (h2 : ∀ σ1 H1, M σ1 H1 → u C D σ1 H1) : seq t u C D σ H := h1 _ h2
/-- a name is set -/
theorem asg_k {i : Nat} {e : TE} {u : TS} {C : Cx} {D : Ends} {σ : St} {H : Heap} (P : V → Heap → Prop) (h1 : ∀ K : VK, (∀ v H1, P v H1 → K v H1) → e C σ H K) (h2 : ∀ v H1, P v H1 → u C D (put σ i v) H1) : seq (asg (gname i) e) u C D σ H := h1 _ h2
theorem fori_k {st : Heap → Prop} {g : TG} {b : TS} {C : Cx} {D : Ends} (I : Nat → St → Heap → Prop) : ∀ {vs : List V} {σ : St} {H : Heap}, (h0 : I 0 σ H) →
    (step : ∀ i v σ H, vs[i]? = some v → I i σ H → st H ∧ ∀ K : St → Heap → Prop, (∀ σ2 H2, I (i + 1) σ2 H2 → K σ2 H2) → g C v σ H fun σ1 H1 => b C { D with nx := K, ct := K, bk := D.nx } σ1 H1) →
    (done : ∀ σ H, I vs.length σ H → st H ∧ D.nx σ H) → fori st g b C D vs σ H := by
  intro vs
  induction vs generalizing I with
  | nil => intro σ H h0 _ done; exact done σ H h0
  | cons v r ih =>
    intro σ H h0 step done
    obtain ⟨s, h⟩ := step 0 v σ H rfl h0
    refine ⟨s, h _ fun σ2 H2 h2 => ?_⟩
    exact ih (fun i => I (i + 1)) h2 (fun i w σ H e h => step (i + 1) w σ H e h) fun σ H h => done σ H h
theorem fori2_k {st : Heap → Prop} {g : TGs} {b : TS} {C : Cx} {D : Ends} (I : Nat → St → Heap → Prop) : ∀ {vs : List (V × V)} {σ : St} {H : Heap}, (h0 : I 0 σ H) →
    (step : ∀ i v σ H, vs[i]? = some v → I i σ H → st H ∧ ∀ K : St → Heap → Prop, (∀ σ2 H2, I (i + 1) σ2 H2 → K σ2 H2) → g C [v.1, v.2] σ H fun σ1 H1 => b C { D with nx := K, ct := K, bk := D.nx } σ1 H1) →
    (done : ∀ σ H, I vs.length σ H → st H ∧ D.nx σ H) → fori2 st g b C D vs σ H := by
  intro vs
  induction vs generalizing I with
  | nil => intro σ H h0 _ done; exact done σ H h0
  | cons v r ih =>
    intro σ H h0 step done
    obtain ⟨s, h⟩ := step 0 v σ H rfl h0
    refine ⟨s, h _ fun σ2 H2 h2 => ?_⟩
    exact ih (fun i => I (i + 1)) h2 (fun i w σ H e h => step (i + 1) w σ H e h) fun σ H h => done σ H h
theorem whl_k {c : TT} {b : TS} {C : Cx} {D : Ends} (I : Nat → St → Heap → Prop) {n : Nat} {σ : St} {H : Heap} (h0 : I n σ H)
    (step : ∀ m σ H, I m σ H → ∀ K : St → Heap → Prop, (∀ m' σ2 H2, m' < m → I m' σ2 H2 → K σ2 H2) → c C σ H fun k H1 => if k = true then b C { D with nx := K, ct := K, bk := D.nx } σ H1 else D.nx σ H1) : whl c b C D σ H := by
  refine ⟨n + 1, ?_⟩
  have key : ∀ n m σ H, m ≤ n → I m σ H → whn c b C D (n + 1) σ H := by
    intro n
    induction n with
    | zero =>
      intro m σ H hm h
      have : m = 0 := by omega
      subst this
      exact step 0 σ H h (whn c b C D 0) fun m' _ _ l => by omega
    | succ n ih =>
      intro m σ H hm h
      exact step m σ H h (whn c b C D (n + 1)) fun m' σ2 H2 l h2 => ih m' σ2 H2 (by omega) h2
  exact key n n σ H (Nat.le_refl n) h0
/-- a comprehension: I by the turn, what is made so far, the heap -/
theorem lci_k {st : Heap → Prop} {own : List Nat} {g : TG} {c : TT} {e : TE} {C : Cx} {σ : St} {Q : List V → Heap → Prop} (I : Nat → List V → Heap → Prop) : ∀ {vs acc : List V} {H : Heap}, (h0 : I 0 acc H) →
    (step : ∀ i v acc H, vs[i]? = some v → I i acc H → st H ∧ ∀ K : List V → Heap → Prop, (∀ acc2 H2, I (i + 1) acc2 H2 → K acc2 H2) → g C v (wipe σ own) H fun σ1 H1 => c C σ1 H1 fun k H2 => if k = true then e C σ1 H2 fun y H3 => acc.length < line ∧ K (acc ++ [y]) H3 else K acc H2) →
    (done : ∀ acc H, I vs.length acc H → st H ∧ Q acc H) → lci st own g c e C σ Q vs acc H := by
  intro vs
  induction vs generalizing I with
  | nil => intro acc H h0 _ done; exact done acc H h0
  | cons v r ih =>
    intro acc H h0 step done
    obtain ⟨s, h⟩ := step 0 v acc H rfl h0
    refine ⟨s, h (fun acc2 H2 => lci st own g c e C σ Q r acc2 H2) fun acc2 H2 h2 => ?_⟩
    exact ih (fun i => I (i + 1)) h2 (fun i w acc H e h => step (i + 1) w acc H e h) fun acc H h => done acc H h
theorem lci2_k {st : Heap → Prop} {own : List Nat} {g : TGs} {c : TT} {e : TE} {C : Cx} {σ : St} {Q : List V → Heap → Prop} (I : Nat → List V → Heap → Prop) : ∀ {vs : List (V × V)} {acc : List V} {H : Heap}, (h0 : I 0 acc H) →
    (step : ∀ i v acc H, vs[i]? = some v → I i acc H → st H ∧ ∀ K : List V → Heap → Prop, (∀ acc2 H2, I (i + 1) acc2 H2 → K acc2 H2) → g C [v.1, v.2] (wipe σ own) H fun σ1 H1 => c C σ1 H1 fun k H2 => if k = true then e C σ1 H2 fun y H3 => acc.length < line ∧ K (acc ++ [y]) H3 else K acc H2) →
    (done : ∀ acc H, I vs.length acc H → st H ∧ Q acc H) → lci2 st own g c e C σ Q vs acc H := by
  intro vs
  induction vs generalizing I with
  | nil => intro acc H h0 _ done; exact done acc H h0
  | cons v r ih =>
    intro acc H h0 step done
    obtain ⟨s, h⟩ := step 0 v acc H rfl h0
    refine ⟨s, h (fun acc2 H2 => lci2 st own g c e C σ Q r acc2 H2) fun acc2 H2 h2 => ?_⟩
    exact ih (fun i => I (i + 1)) h2 (fun i w acc H e h => step (i + 1) w acc H e h) fun acc H h => done acc H h
/-- a comprehension without a test that draws nothing and makes nothing else -/
theorem lci_pure {st : Heap → Prop} {own : List Nat} {g : TG} {e : TE} {C : Cx} {σ : St} {Q : List V → Heap → Prop} {H : Heap} (f : V → V) (hst : st H) : ∀ {vs acc : List V}, acc.length + vs.length ≤ line →
    (∀ v ∈ vs, ∀ K : VK, K (f v) H → g C v (wipe σ own) H fun σ1 H1 => e C σ1 H1 K) → Q (acc ++ vs.map f) H → lci st own g tyes e C σ Q vs acc H := by
  intro vs
  induction vs with
  | nil =>
    intro acc hl he q
    rw [List.map_nil, List.append_nil] at q
    exact ⟨hst, q⟩
  | cons v r ih =>
    intro acc hl he q
    have hl : acc.length + (r.length + 1) ≤ line := hl
    refine ⟨hst, he v (List.mem_cons_self ..) (fun y H3 => acc.length < line ∧ lci st own g tyes e C σ Q r (acc ++ [y]) H3) ⟨by omega, ?_⟩⟩
    refine ih (by rw [List.length_append]; show acc.length + 1 + r.length ≤ line; omega) (fun w hw => he w (List.mem_cons_of_mem _ hw)) ?_
    rw [List.append_assoc]
    exact q
abbrev ZTab := List ((String × String) × Def)
def defOf (t : ZTab) : String → String → Option Def := fun c m => t.lookup (c, m)
/-- the script alone -/
def heap0 (a : Nat) (ns : List Int) : Heap := fun b => if b = a then some (.scr (ns.map .int)) else none
/-- a script's number -/
def Fit (z : Int) : Prop := small 1048576 z
/-- the law, over the combinators -/
def LawOk (t : ZTab) (k : Nat) : Prop := ∀ a ns, List.length ns ≤ 63 → (∀ z ∈ ns, Fit z) → callK (defOf t) k "" "law" [.ref a] (heap0 a ns) (fun v _ => v = .bl true) fun _ _ _ => False
/-- a def is called -/
theorem call_k {T : String → String → Option Def} {k : Nat} {c m : String} {vs : List V} {H : Heap} {Q : VK} {E : EK} {np n : Nat} {b : TS} (h : T c m = some ⟨np, n, b⟩) (hl : vs.length = np) (hb : b ⟨callK T k, fun c fs _ H' => E c fs H'⟩ { nx := fun _ H' => Q .non H', rt := Q } (start n vs) H) : callK T (k + 1) c m vs H Q E := by
  unfold callK
  rw [h]
  exact ⟨hl, Q, E, fun _ _ h => h, fun _ _ _ h => h, hb⟩
theorem call_mono {T : String → String → Option Def} {k : Nat} {c m : String} {vs : List V} {H : Heap} {Q Q' : VK} {E E' : EK} (h : callK T k c m vs H Q E) (q : ∀ v H, Q v H → Q' v H) (e : ∀ c f H, E c f H → E' c f H) : callK T k c m vs H Q' E' := by
  cases k with
  | zero => exact h
  | succ k =>
    unfold callK at h ⊢
    cases ht : T c m with
    | none => rw [ht] at h; exact h
    | some d =>
      rw [ht] at h
      obtain ⟨hl, Q0, E0, q0, e0, hb⟩ := h
      exact ⟨hl, Q0, E0, fun v H x => q v H (q0 v H x), fun c f H x => e c f H (e0 c f H x), hb⟩

/-! ### equality of values -/
theorem rep_int {H : Heap} {i : Int} {d : D} : Rep H (.int i) d ↔ d = .int i := ⟨fun h => by cases h; rfl, fun h => by subst h; exact .int i⟩
theorem rep_bl {H : Heap} {i : Bool} {d : D} : Rep H (.bl i) d ↔ d = .bl i := ⟨fun h => by cases h; rfl, fun h => by subst h; exact .bl i⟩
theorem rep_non {H : Heap} {d : D} : Rep H .non d ↔ d = .non := ⟨fun h => by cases h; rfl, fun h => by subst h; exact .non⟩
theorem rep_str {H : Heap} {s : List Nat} {d : D} : Rep H (.str s) d ↔ (s.all (fun c => decide (c < 1114112)) = true ∧ d = .str s) := ⟨fun h => by cases h; exact ⟨by assumption, rfl⟩, fun ⟨h1, h2⟩ => by subst h2; exact .str s h1⟩
theorem eqD_int {H : Heap} {i j : Int} {Q : Bool → Prop} : eqD (.int i) (.int j) H Q ↔ Q (i == j) := by
  unfold eqD
  simp [rep_int, D.depth, D.eqv]
theorem eqD_bl {H : Heap} {i j : Bool} {Q : Bool → Prop} : eqD (.bl i) (.bl j) H Q ↔ Q (i == j) := by
  unfold eqD
  simp [rep_bl, D.depth, D.eqv]
theorem eqD_str {H : Heap} {i j : List Nat} {Q : Bool → Prop} : eqD (.str i) (.str j) H Q ↔ (i.all (fun c => decide (c < 1114112)) = true ∧ j.all (fun c => decide (c < 1114112)) = true ∧ Q (i == j)) := by
  refine ⟨fun ⟨d, e, r1, r2, _, _, q⟩ => ?_, fun ⟨a, b, q⟩ => ⟨.str i, .str j, .str i a, .str j b, Nat.zero_le _, Nat.zero_le _, q⟩⟩
  obtain ⟨a, rfl⟩ := rep_str.mp r1
  obtain ⟨b, rfl⟩ := rep_str.mp r2
  exact ⟨a, b, q⟩
/-- lists of flat values -/
theorem repL_ints {H : Heap} : ∀ ns : List Int, RepL H (ns.map V.int) (ns.map D.int)
  | [] => .nil
  | n :: r => .cons (.int n) (repL_ints r)
theorem depthL_ints : ∀ ns : List Int, D.depthL (ns.map D.int) = 0
  | [] => rfl
  | n :: r => by
    show max 0 (D.depthL (r.map D.int)) = 0
    rw [depthL_ints r]
    rfl
theorem eqvL_ints : ∀ ns ms : List Int, D.eqvL (ns.map D.int) (ms.map D.int) = (ns == ms)
  | [], [] => rfl
  | [], _ :: _ => rfl
  | _ :: _, [] => rfl
  | n :: r, m :: t => by
    show (n == m && D.eqvL (r.map D.int) (t.map D.int)) = _
    rw [eqvL_ints r t]
    rfl
/-- two lists of numbers -/
theorem eqD_ints {H : Heap} {p q : Nat} {ns ms : List Int} {Q : Bool → Prop} (hp : litems H (.ref p) = some (ns.map .int)) (hq : litems H (.ref q) = some (ms.map .int)) (h : Q (ns == ms)) : eqD (.ref p) (.ref q) H Q := by
  refine ⟨.lst (ns.map .int), .lst (ms.map .int), .lst hp (repL_ints ns), .lst hq (repL_ints ms), ?_, ?_, ?_⟩
  · show D.depthL _ + 1 ≤ 64
    rw [depthL_ints]
    decide
  · show D.depthL _ + 1 ≤ 64
    rw [depthL_ints]
    decide
  · show Q (D.eqvL _ _)
    rw [eqvL_ints]
    exact h

/-! ### steps by the kinds of the values -/
section
variable {H : Heap} {Q : VK} {P : Bool → Prop} {i j : Int} {a b p : Nat} {x y : V} {xs ys : List V}
theorem opr_add_ii : opr .add (.int i) (.int j) H Q = Q (.int (i + j)) H := rfl
theorem opr_add_rr : opr .add (.ref a) (.ref b) H Q = ((∃ xs ys, litems H (.ref a) = some xs ∧ litems H (.ref b) = some ys ∧ xs.length + ys.length ≤ line ∧ ∀ p, H p = none → Q (.ref p) (upd H p (.lst (xs ++ ys)))) ∨
      (∃ xs ys, titems H (.ref a) = some xs ∧ titems H (.ref b) = some ys ∧ xs ≠ [] ∧ ys ≠ [] ∧ xs.length + ys.length ≤ line ∧ ∀ p, H p = none → Q (.ref p) (upd H p (.tup (xs ++ ys))))) := rfl
theorem opr_sub_ii : opr .sub (.int i) (.int j) H Q = Q (.int (i - j)) H := rfl
theorem opr_mul_ii : opr .mul (.int i) (.int j) H Q = ((∃ n m, n + m ≤ 134217728 ∧ small n i ∧ small m j) ∧ Q (.int (i * j)) H) := rfl
theorem opr_mul_ri : opr .mul (.ref a) (.int i) H Q = (∃ xs, H a = some (.lst xs) ∧ -(2 ^ 63) ≤ i ∧ i < 2 ^ 63 ∧ xs.length * i.toNat ≤ line ∧ ∀ p, H p = none → Q (.ref p) (upd H p (.lst (List.replicate i.toNat xs).flatten))) := rfl
theorem opr_fdiv : opr .fdiv (.int i) (.int j) H Q = (0 < j ∧ small 9000 j ∧ Q (.int (i / j)) H) := rfl
theorem opr_mod : opr .mod (.int i) (.int j) H Q = (0 < j ∧ Q (.int (i % j)) H) := rfl
theorem opr_pow : opr .pow (.int i) (.int j) H Q = (0 ≤ j ∧ (∃ n, small n i ∧ n * j.toNat ≤ 134217728) ∧ Q (.int (i ^ j.toNat)) H) := rfl
theorem opr_shl : opr .shl (.int i) (.int j) H Q = (0 ≤ j ∧ (∃ n, small n i ∧ n + j.toNat ≤ 134217728) ∧ Q (.int (i * 2 ^ j.toNat)) H) := rfl
theorem opr_shr : opr .shr (.int i) (.int j) H Q = (0 ≤ j ∧ Q (.int (i / 2 ^ j.toNat)) H) := rfl
theorem opr_band : opr .band (.int i) (.int j) H Q = (0 ≤ i ∧ 0 ≤ j ∧ Q (.int ((i.toNat &&& j.toNat : Nat) : Int)) H) := rfl
theorem cmpr_eq : cmpr .eq x y H P = eqD x y H P := by cases x <;> cases y <;> rfl
theorem cmpr_ne : cmpr .ne x y H P = eqD x y H fun b => P (!b) := by cases x <;> cases y <;> rfl
theorem cmpr_lt : cmpr .lt (.int i) (.int j) H P = P (decide (i < j)) := rfl
theorem cmpr_ltT : cmpr .lt (.ref a) (.ref b) H P = ∃ ns ms, titems H (.ref a) = some (ns.map V.int) ∧ titems H (.ref b) = some (ms.map V.int) ∧ P (lexLt ns ms) := rfl
theorem cmpr_le : cmpr .le (.int i) (.int j) H P = P (decide (i ≤ j)) := rfl
theorem cmpr_gt : cmpr .gt (.int i) (.int j) H P = P (decide (j < i)) := rfl
theorem cmpr_ge : cmpr .ge (.int i) (.int j) H P = P (decide (j ≤ i)) := rfl
theorem cmpr_is : cmpr .is x .non H P = P (decide (x = .non)) := by cases x <;> rfl
theorem cmpr_isB {u v : Bool} : cmpr .is (.bl u) (.bl v) H P = P (u == v) := rfl
theorem cmpr_isnot : cmpr .isnot x .non H P = P (!decide (x = .non)) := by cases x <;> rfl
theorem cmpr_isnotB {u v : Bool} : cmpr .isnot (.bl u) (.bl v) H P = P (!(u == v)) := rfl
theorem cmpr_in : cmpr .isin x (.ref b) H P = ((∃ xs, items H (.ref b) = some xs ∧ flatV x = true ∧ xs.all flatV = true ∧ P (inF x xs)) ∨ (∃ r, dget H (.ref b) x r ∧ P r.isSome) ∨ inD x b H P) := by cases x <;> rfl
theorem cmpr_notin : cmpr .notin x (.ref b) H P = ((∃ xs, items H (.ref b) = some xs ∧ flatV x = true ∧ xs.all flatV = true ∧ P (!inF x xs)) ∨ (∃ r, dget H (.ref b) x r ∧ P (!r.isSome)) ∨ inD x b H fun k => P (!k)) := by cases x <;> rfl
def itemsO : Option O → Option (List V)
  | some (.lst xs) => some xs
  | some (.tup xs) => some xs
  | some (.scr xs) => some xs
  | _ => none
def litemsO : Option O → Option (List V)
  | some (.lst xs) => some xs
  | some (.scr xs) => some xs
  | _ => none
def titemsO : Option O → Option (List V)
  | some (.tup xs) => some xs
  | _ => none
def truthO : Option O → Option Bool
  | some (.lst xs) => some (!xs.isEmpty)
  | some (.tup xs) => some (!xs.isEmpty)
  | some (.scr xs) => some (!xs.isEmpty)
  | _ => none
def tyO : Option O → Option String
  | some (.lst _) => some "list"
  | some (.scr _) => some "list"
  | some (.tup _) => some "tuple"
  | some (.dct _) => some "dict"
  | some (.dctT _) => some "dict"
  | _ => none
theorem items_r : items H (.ref a) = itemsO (H a) := by
  show (match H a with | some (.lst xs) => some xs | some (.tup xs) => some xs | some (.scr xs) => some xs | _ => none) = _
  unfold itemsO
  rfl
theorem litems_r : litems H (.ref a) = litemsO (H a) := by
  show (match H a with | some (.lst xs) => some xs | some (.scr xs) => some xs | _ => none) = _
  unfold litemsO
  rfl
theorem titems_r : titems H (.ref a) = titemsO (H a) := by
  show (match H a with | some (.tup xs) => some xs | _ => none) = _
  unfold titemsO
  rfl
theorem truth_r : truth H (.ref a) = truthO (H a) := by
  show (match H a with | some (.lst xs) => some (!xs.isEmpty) | some (.tup xs) => some (!xs.isEmpty) | some (.scr xs) => some (!xs.isEmpty) | _ => none) = _
  unfold truthO
  rfl
theorem tyOf_r : tyOf H (.ref a) = tyO (H a) := by
  show (match H a with | some (.lst _) => some "list" | some (.scr _) => some "list" | some (.tup _) => some "tuple" | some (.dct _) => some "dict" | some (.dctT _) => some "dict" | _ => none) = _
  unfold tyO
  rfl
theorem itemsO_l : itemsO (some (.lst xs)) = some xs := rfl
theorem itemsO_t : itemsO (some (.tup xs)) = some xs := rfl
theorem itemsO_s : itemsO (some (.scr xs)) = some xs := rfl
theorem litemsO_l : litemsO (some (.lst xs)) = some xs := rfl
theorem litemsO_t : litemsO (some (.tup xs)) = none := rfl
theorem litemsO_s : litemsO (some (.scr xs)) = some xs := rfl
theorem titemsO_l : titemsO (some (.lst xs)) = none := rfl
theorem titemsO_t : titemsO (some (.tup xs)) = some xs := rfl
theorem titemsO_s : titemsO (some (.scr xs)) = none := rfl
theorem truthO_l : truthO (some (.lst xs)) = some (!xs.isEmpty) := rfl
theorem truthO_t : truthO (some (.tup xs)) = some (!xs.isEmpty) := rfl
theorem truthO_s : truthO (some (.scr xs)) = some (!xs.isEmpty) := rfl
theorem truth_b {u : Bool} : truth H (.bl u) = some u := rfl
theorem truth_n : truth H .non = some false := rfl
theorem truth_i : truth H (.int i) = some (i != 0) := rfl
theorem tyO_l : tyO (some (.lst xs)) = some "list" := rfl
theorem tyO_t : tyO (some (.tup xs)) = some "tuple" := rfl
theorem tyO_s : tyO (some (.scr xs)) = some "list" := rfl
theorem tyO_d {kvs} : tyO (some (.dct kvs)) = some "dict" := rfl
theorem tyOf_b {u : Bool} : tyOf H (.bl u) = some "bool" := rfl
theorem tyOf_n : tyOf H .non = some "NoneType" := rfl
theorem tyOf_i : tyOf H (.int i) = some "int" := rfl
theorem tyOf_st {s : List Nat} : tyOf H (.str s) = some "str" := rfl
theorem atI_lt (h0 : 0 ≤ i) (h1 : i < xs.length) : atI xs i = xs[i.toNat]? := by
  unfold atI ixN
  rw [if_pos h0, if_pos h1]
  rfl
theorem atI_neg (h0 : i < 0) (h1 : -(xs.length : Int) ≤ i) : atI xs i = xs[(i + xs.length).toNat]? := by
  unfold atI ixN
  rw [if_neg (by omega), if_pos h1]
  rfl
theorem ixN_lt {n : Nat} (h0 : 0 ≤ i) (h1 : i < n) : ixN n i = some i.toNat := by
  unfold ixN
  rw [if_pos h0, if_pos h1]
theorem ixN_neg {n : Nat} (h0 : i < 0) (h1 : -(n : Int) ≤ i) : ixN n i = some (i + n).toNat := by
  unfold ixN
  rw [if_neg (by omega), if_pos h1]
theorem bInt_i : bInt [.int i] H Q = Q (.int i) H := rfl
theorem bInt_b {u : Bool} : bInt [.bl u] H Q = Q (.int (if u then 1 else 0)) H := rfl
theorem bRepr_b {u : Bool} : bRepr [.bl u] H Q = Q (.str (if u then [84, 114, 117, 101] else [70, 97, 108, 115, 101])) H := rfl
theorem bRepr_i : bRepr [.int i] H Q = (i.natAbs.log2 < 1920 ∧ Q (.str (txt (toString i))) H) := rfl
theorem augo_t {P : V → Prop} : augo true (.int i) (.int j) P = P (.int (i + j)) := rfl
theorem augo_f {P : V → Prop} : augo false (.int i) (.int j) P = P (.int (i - j)) := rfl
end

/-! ### numbers -/
theorem small_of {n : Nat} {i : Int} (h1 : -(2 ^ n : Nat) < i) (h2 : i < (2 ^ n : Nat)) : small n i := by
  unfold small
  omega
theorem mul_fits {n m : Nat} {i j : Int} (h : n + m ≤ 134217728) (hi : small n i) (hj : small m j) : ∃ n m, n + m ≤ 134217728 ∧ small n i ∧ small m j := ⟨n, m, h, hi, hj⟩
theorem small_abs {n : Nat} {i : Int} {b : Nat} (h : i.natAbs ≤ b) (hb : b < 2 ^ n) : small n i := by
  unfold small
  omega
theorem small_mono {n m : Nat} {i : Int} (h : small n i) (l : n ≤ m) : small m i := Nat.lt_of_lt_of_le h (Nat.pow_le_pow_right (by decide) l)
theorem small_mul {n m : Nat} {i j : Int} (hi : small n i) (hj : small m j) : small (n + m) (i * j) := by
  unfold small at *
  rw [Int.natAbs_mul, Nat.pow_add]
  exact Nat.mul_lt_mul'' hi hj
theorem small_add {n : Nat} {i j : Int} (hi : small n i) (hj : small n j) : small (n + 1) (i + j) := by
  unfold small at *
  rw [Nat.pow_succ]
  omega
theorem small_9000 {i : Int} (h : small 200 i) : small 9000 i := small_mono h (by decide)
theorem mul_k {i j : Int} (hi : small 10000 i) (hj : small 10000 j) : ∃ n m, n + m ≤ 134217728 ∧ small n i ∧ small m j := ⟨10000, 10000, by decide, hi, hj⟩
theorem fit_b {i : Int} (h1 : -(2 ^ 200) < i) (h2 : i < 2 ^ 200) : Fit i := by
  unfold Fit
  exact small_mono (n := 200) (m := 1048576) (by unfold small; omega) (by decide)
theorem fit_zero : Fit 0 := fit_b (by decide) (by decide)
/-- small by its bounds (200 figures) -/
theorem small_b {n : Nat} {i : Int} (h1 : -(2 ^ 200) < i) (h2 : i < 2 ^ 200) (hn : 200 ≤ n) : small n i := small_mono (n := 200) (by unfold small; omega) hn
theorem mod_rng {i j : Int} (h : 0 < j) : 0 ≤ i % j ∧ i % j < j := ⟨Int.emod_nonneg _ (by omega), Int.emod_lt_of_pos _ h⟩
/-- a list of numbers stands -/
theorem items_l {H : Heap} {p : Nat} {xs : List V} (h : H p = some (.lst xs)) : items H (.ref p) = some xs := by simp [items, h]
theorem items_t {H : Heap} {p : Nat} {xs : List V} (h : H p = some (.tup xs)) : items H (.ref p) = some xs := by simp [items, h]
theorem litems_l {H : Heap} {p : Nat} {xs : List V} (h : H p = some (.lst xs)) : litems H (.ref p) = some xs := by simp [litems, h]
theorem litems_s {H : Heap} {p : Nat} {xs : List V} (h : H p = some (.scr xs)) : litems H (.ref p) = some xs := by simp [litems, h]
theorem titems_t {H : Heap} {p : Nat} {xs : List V} (h : H p = some (.tup xs)) : titems H (.ref p) = some xs := by simp [titems, h]
end Z

/-! Z9: built-ins by their names; tables of defs; the end. -/
namespace ZS
open PySem PySem.Spec PyProof.Rows L2
section
variable {L : Lw} {X : Cx} {a b c e o : Expr} {es : List Expr} {ta tb tc te to : Z.TE} {t : Z.TA} {pos p apos : Pos}
theorem b_len (hm : X.mg "len" = none) (ha : SA L X (e :: es) t) (hg : Gl X "len" := by rfl) (he : starEach (e :: es) X.env = (false, eval e X.env) :: starEach es X.env := by rfl) (hpl : (backTo pos (starEach es X.env)).any (·.1) = false := by rfl) : SE L X (.Call (.Name "len" p) (e :: es) [] pos) (Z.blt Z.bLen t) :=
  s_blt m_len (fun C g => c_len) hg hm boot_len ha (by decide) (by decide) he hpl
theorem b_abs (hm : X.mg "abs" = none) (ha : SA L X (e :: es) t) (hg : Gl X "abs" := by rfl) (he : starEach (e :: es) X.env = (false, eval e X.env) :: starEach es X.env := by rfl) (hpl : (backTo pos (starEach es X.env)).any (·.1) = false := by rfl) : SE L X (.Call (.Name "abs" p) (e :: es) [] pos) (Z.blt Z.bAbs t) :=
  s_blt m_abs (fun C g => c_abs) hg hm boot_abs ha (by decide) (by decide) he hpl
theorem b_int (hm : X.mg "int" = none) (ha : SA L X (e :: es) t) (hg : Gl X "int" := by rfl) (he : starEach (e :: es) X.env = (false, eval e X.env) :: starEach es X.env := by rfl) (hpl : (backTo pos (starEach es X.env)).any (·.1) = false := by rfl) : SE L X (.Call (.Name "int" p) (e :: es) [] pos) (Z.blt Z.bInt t) :=
  s_blT m_int (fun C g => c_int) hg hm boot_int ha (by decide) (by decide) he hpl
theorem b_max2 (hc : X.calm = true) (hm : X.mg "max" = none) (ha : SA L X (e :: es) t) (hg : Gl X "max" := by rfl) (he : starEach (e :: es) X.env = (false, eval e X.env) :: starEach es X.env := by rfl) (hpl : (backTo pos (starEach es X.env)).any (·.1) = false := by rfl) : SE L X (.Call (.Name "max" p) (e :: es) [] pos) (Z.blt Z.bMax2 t) :=
  s_blt m_max2 (fun C g => c_max2 hc) hg hm boot_max ha (by decide) (by decide) he hpl
theorem b_min2 (hc : X.calm = true) (hm : X.mg "min" = none) (ha : SA L X (e :: es) t) (hg : Gl X "min" := by rfl) (he : starEach (e :: es) X.env = (false, eval e X.env) :: starEach es X.env := by rfl) (hpl : (backTo pos (starEach es X.env)).any (·.1) = false := by rfl) : SE L X (.Call (.Name "min" p) (e :: es) [] pos) (Z.blt Z.bMin2 t) :=
  s_blt m_min2 (fun C g => c_min2 hc) hg hm boot_min ha (by decide) (by decide) he hpl
theorem b_sum (hc : X.calm = true) (hm : X.mg "sum" = none) (ha : SA L X (e :: es) t) (hg : Gl X "sum" := by rfl) (he : starEach (e :: es) X.env = (false, eval e X.env) :: starEach es X.env := by rfl) (hpl : (backTo pos (starEach es X.env)).any (·.1) = false := by rfl) : SE L X (.Call (.Name "sum" p) (e :: es) [] pos) (Z.blt Z.bSum t) :=
  s_blt m_sum (fun C g => c_sum hc) hg hm boot_sum ha (by decide) (by decide) he hpl
theorem b_max1 (hc : X.calm = true) (hm : X.mg "max" = none) (ha : SA L X (e :: es) t) (hg : Gl X "max" := by rfl) (he : starEach (e :: es) X.env = (false, eval e X.env) :: starEach es X.env := by rfl) (hpl : (backTo pos (starEach es X.env)).any (·.1) = false := by rfl) : SE L X (.Call (.Name "max" p) (e :: es) [] pos) (Z.blt Z.bMax1 t) :=
  s_blt m_max1 (fun C g => c_max1 hc) hg hm boot_max ha (by decide) (by decide) he hpl
theorem b_min1 (hc : X.calm = true) (hm : X.mg "min" = none) (ha : SA L X (e :: es) t) (hg : Gl X "min" := by rfl) (he : starEach (e :: es) X.env = (false, eval e X.env) :: starEach es X.env := by rfl) (hpl : (backTo pos (starEach es X.env)).any (·.1) = false := by rfl) : SE L X (.Call (.Name "min" p) (e :: es) [] pos) (Z.blt Z.bMin1 t) :=
  s_blt m_min1 (fun C g => c_min1 hc) hg hm boot_min ha (by decide) (by decide) he hpl
theorem b_all (hc : X.calm = true) (hm : X.mg "all" = none) (ha : SA L X (e :: es) t) (hg : Gl X "all" := by rfl) (he : starEach (e :: es) X.env = (false, eval e X.env) :: starEach es X.env := by rfl) (hpl : (backTo pos (starEach es X.env)).any (·.1) = false := by rfl) : SE L X (.Call (.Name "all" p) (e :: es) [] pos) (Z.blt Z.bAll t) :=
  s_blt m_all (fun C g => c_all hc) hg hm boot_all ha (by decide) (by decide) he hpl
theorem b_any (hc : X.calm = true) (hm : X.mg "any" = none) (ha : SA L X (e :: es) t) (hg : Gl X "any" := by rfl) (he : starEach (e :: es) X.env = (false, eval e X.env) :: starEach es X.env := by rfl) (hpl : (backTo pos (starEach es X.env)).any (·.1) = false := by rfl) : SE L X (.Call (.Name "any" p) (e :: es) [] pos) (Z.blt Z.bAny t) :=
  s_blt m_any (fun C g => c_any hc) hg hm boot_any ha (by decide) (by decide) he hpl
theorem b_list (hm : X.mg "list" = none) (ha : SA L X (e :: es) t) (hg : Gl X "list" := by rfl) (he : starEach (e :: es) X.env = (false, eval e X.env) :: starEach es X.env := by rfl) (hpl : (backTo pos (starEach es X.env)).any (·.1) = false := by rfl) : SE L X (.Call (.Name "list" p) (e :: es) [] pos) (Z.blt Z.bList t) :=
  s_blT m_list (fun C g => c_list) hg hm boot_list ha (by decide) (by decide) he hpl
theorem b_tuple (hm : X.mg "tuple" = none) (ha : SA L X (e :: es) t) (hg : Gl X "tuple" := by rfl) (he : starEach (e :: es) X.env = (false, eval e X.env) :: starEach es X.env := by rfl) (hpl : (backTo pos (starEach es X.env)).any (·.1) = false := by rfl) : SE L X (.Call (.Name "tuple" p) (e :: es) [] pos) (Z.blt Z.bTuple t) :=
  s_blT m_tuple (fun C g => c_tuple) hg hm boot_tuple ha (by decide) (by decide) he hpl
theorem b_sortedI (hm : X.mg "sorted" = none) (ha : SA L X (e :: es) t) (hg : Gl X "sorted" := by rfl) (he : starEach (e :: es) X.env = (false, eval e X.env) :: starEach es X.env := by rfl) (hpl : (backTo pos (starEach es X.env)).any (·.1) = false := by rfl) : SE L X (.Call (.Name "sorted" p) (e :: es) [] pos) (Z.blt Z.bSortedI t) :=
  s_blt m_sortedI (fun C g => c_sortedI) hg hm boot_sorted ha (by decide) (by decide) he hpl
theorem b_repr (hm : X.mg "repr" = none) (ha : SA L X (e :: es) t) (hg : Gl X "repr" := by rfl) (he : starEach (e :: es) X.env = (false, eval e X.env) :: starEach es X.env := by rfl) (hpl : (backTo pos (starEach es X.env)).any (·.1) = false := by rfl) : SE L X (.Call (.Name "repr" p) (e :: es) [] pos) (Z.blt Z.bRepr t) :=
  s_blt m_repr (fun C g => c_repr) hg hm boot_repr ha (by decide) (by decide) he hpl
theorem bm_append (ho : SE L X o to) (ha : SA L X (e :: es) t)
    (hbase : attributeBase o "append" X.env (eval o X.env) = eval o X.env := by rfl)
    (hfew : ((backTo pos (starEach (e :: es) X.env)).all (fun x => !x.1) && (backToKw pos (keywordEach [] X.env)).all (fun x => x.1.isSome)
      && decide ((e :: es).length + ([] : List Keyword).length + (if ([] : List Keyword).isEmpty then 0 else 1) < 30)) = true := by rfl)
    (hline : (apos.endLine == pos.line) = true := by rfl) (hs : starEach (e :: es) X.env = (false, eval e X.env) :: starEach es X.env := by rfl) (hplain : (backTo pos (starEach es X.env)).any (·.1) = false := by rfl) :
    SE L X (.Call (.Attribute o "append" apos) (e :: es) [] pos) (Z.bmt Z.isL Z.mAppend to t) :=
  s_bm (fun x Ho H rh h => ty_list rh h) mm_append F.plainAttrs_list F.slot_list_append rfl mc_append ho ha hbase hfew hline hs hplain
theorem bm_extend (ho : SE L X o to) (ha : SA L X (e :: es) t)
    (hbase : attributeBase o "extend" X.env (eval o X.env) = eval o X.env := by rfl)
    (hfew : ((backTo pos (starEach (e :: es) X.env)).all (fun x => !x.1) && (backToKw pos (keywordEach [] X.env)).all (fun x => x.1.isSome)
      && decide ((e :: es).length + ([] : List Keyword).length + (if ([] : List Keyword).isEmpty then 0 else 1) < 30)) = true := by rfl)
    (hline : (apos.endLine == pos.line) = true := by rfl) (hs : starEach (e :: es) X.env = (false, eval e X.env) :: starEach es X.env := by rfl) (hplain : (backTo pos (starEach es X.env)).any (·.1) = false := by rfl) :
    SE L X (.Call (.Attribute o "extend" apos) (e :: es) [] pos) (Z.bmt Z.isL Z.mExtend to t) :=
  s_bm (fun x Ho H rh h => ty_list rh h) mm_extend F.plainAttrs_list F.slot_list_extend rfl mc_extend ho ha hbase hfew hline hs hplain
theorem bm_pop0 (ho : SE L X o to) (hbase : attributeBase o "pop" X.env (eval o X.env) = eval o X.env := by rfl) (hline : (apos.endLine == pos.line) = true := by rfl) : SE L X (.Call (.Attribute o "pop" apos) [] [] pos) (Z.bmt Z.isL Z.mPop0 to Z.anil) :=
  s_bm0 (fun x Ho H rh h => ty_list rh h) mm_pop0 F.plainAttrs_list F.slot_list_pop rfl mc_pop0 ho hbase hline
theorem bm_popAt (ho : SE L X o to) (ha : SA L X (e :: es) t)
    (hbase : attributeBase o "pop" X.env (eval o X.env) = eval o X.env := by rfl)
    (hfew : ((backTo pos (starEach (e :: es) X.env)).all (fun x => !x.1) && (backToKw pos (keywordEach [] X.env)).all (fun x => x.1.isSome)
      && decide ((e :: es).length + ([] : List Keyword).length + (if ([] : List Keyword).isEmpty then 0 else 1) < 30)) = true := by rfl)
    (hline : (apos.endLine == pos.line) = true := by rfl) (hs : starEach (e :: es) X.env = (false, eval e X.env) :: starEach es X.env := by rfl) (hplain : (backTo pos (starEach es X.env)).any (·.1) = false := by rfl) :
    SE L X (.Call (.Attribute o "pop" apos) (e :: es) [] pos) (Z.bmt Z.isL Z.mPopAt to t) :=
  s_bm (fun x Ho H rh h => ty_list rh h) mm_popAt F.plainAttrs_list F.slot_list_pop rfl mc_popAt ho ha hbase hfew hline hs hplain
theorem bm_reverse (ho : SE L X o to) (hbase : attributeBase o "reverse" X.env (eval o X.env) = eval o X.env := by rfl) (hline : (apos.endLine == pos.line) = true := by rfl) : SE L X (.Call (.Attribute o "reverse" apos) [] [] pos) (Z.bmt Z.isL Z.mReverse to Z.anil) :=
  s_bm0 (fun x Ho H rh h => ty_list rh h) mm_reverse F.plainAttrs_list F.slot_list_reverse rfl mc_reverse ho hbase hline
theorem s_globN {x : Str} {i : Int} (h : ∃ t, X.mg x = some (.int i t)) (hg : Gl X x := by rfl) (hd : (x == ("__debug__" : Str)) = false := by decide) : SE L X (.Name x pos) (Z.cst (.int i)) := by
  obtain ⟨t, e⟩ := h
  exact s_globI hg e hd
end

/-! ### what the text says of a def -/
/-- the defaults: none, or a tuple of the module -/
def DflZ (L : Lw) (K : PySem.W.Frag) (dV : Value) (dvs : List Z.V) : Prop := (dvs = [] ∧ dV = .none) ∨ (dvs ≠ [] ∧ ∃ (T : Addr) (o : Obj) (its : List Value) (n : Nat), dV = .ref T ∧ K.lookup T = some o ∧ o.data = .seq its.toArray n ∧ Vals (L.vs dvs) its)
/-- a def of the module, or of the class c -/
structure DF (L : Lw) (K : PySem.W.Frag) (c m qual : String) (st : Stmt) (ps : List Str) (dvs : List Z.V) (f : Addr) : Prop where
  ex : ∃ (oc : Value) (od an : Option Addr) (dV kV doc pmm cdv ct : Value) (osl : Array (Option Value)), L.fn c m = some (f, PySem.W.fnOf (Str.ofString m) (Str.ofString qual) (defArgs st) (defBody st) (defScope st) dV kV doc pmm an cdv ct, ps) ∧
    K.lookup f = some ⟨oc, od, .func (PySem.W.fnOf (Str.ofString m) (Str.ofString qual) (defArgs st) (defBody st) (defScope st) dV kV doc pmm an cdv ct), osl⟩ ∧ PySem.W.codeIn K cdv (Str.ofString qual) = true ∧ DflZ L K dV dvs
  kp : PySem.W.keepIn K (.ref f) = true
/-- what a call of it asks -/
structure CallOk (L : Lw) (K : PySem.W.Frag) (mg : Str → Option Value) (m : String) (n : Nat) (ks : List Str) (pm : List (Sum Nat Z.V)) : Prop where
  ex : ∃ f fd ps, L.fn "" m = some (f, fd, ps) ∧ PySem.W.keepIn K (.ref f) = true ∧ mg (Str.ofString m) = some (.ref f) ∧ Shp L K fd ps n ks pm
def pmZ (dvs : List Z.V) (l : List (Sum Nat Nat)) : List (Sum Nat Z.V) := l.map fun p => match p with
  | .inl i => .inl i
  | .inr i => .inr (dvs.getD i .non)
def pmV (its : List Value) (l : List (Sum Nat Nat)) : List (Sum Nat Value) := l.map fun p => match p with
  | .inl i => .inl i
  | .inr i => .inr (its.getD i .none)
theorem pm_rel {L : Lw} {dvs : List Z.V} {its : List Value} (r : Vals (L.vs dvs) its) : ∀ l : List (Sum Nat Nat), PmRel L (pmZ dvs l) (pmV its l)
  | [] => .nil
  | .inl i :: l => .pos (pm_rel r l)
  | .inr i :: l => .dfl (vals_getD i r) (pm_rel r l)
section
variable {L : Lw} {K : PySem.W.Frag} {mg : Str → Option Value} {c m qual : String} {st : Stmt} {ps ks : List Str} {n : Nat} {dvs : List Z.V} {f : Addr}
/-- no defaults -/
theorem DF.shp (F : DF L K c m qual st ps [] f) (l : List (Sum Nat Nat)) (len : l.length = ps.length)
    (h : ∀ (kV doc pmm cdv ct : Value) (an : Option Addr) (us ws : List Value), us.length = n → ws.length = ks.length → bindArgs (PySem.W.fnOf (Str.ofString m) (Str.ofString qual) (defArgs st) (defBody st) (defScope st) .none kV doc pmm an cdv ct) ⟨us, ks.zip ws⟩ = pure (ps.zip (permV (pmV [] l) (us ++ ws)))) :
    ∃ fd, L.fn c m = some (f, fd, ps) ∧ Shp L K fd ps n ks (pmZ [] l) := by
  obtain ⟨oc, od, an, dV, kV, doc, pmm, cdv, ct, osl, h1, h2, h3, h4⟩ := F.ex
  rcases h4 with ⟨_, rfl⟩ | ⟨ne, _⟩
  · exact ⟨_, h1, shp_all (by unfold pmZ; rw [List.length_map]; exact len) (pm_rel .nil l) (h kV doc pmm cdv ct an)⟩
  · exact absurd rfl ne
/-- defaults -/
theorem DF.shpD (F : DF L K c m qual st ps dvs f) (l : List (Sum Nat Nat)) (len : l.length = ps.length) (hd : dvs ≠ [])
    (h : ∀ (T : Addr) (kV doc pmm cdv ct : Value) (an : Option Addr) (us ws its : List Value), us.length = n → ws.length = ks.length → its.length = dvs.length →
      ∃ k, bindArgs (PySem.W.fnOf (Str.ofString m) (Str.ofString qual) (defArgs st) (defBody st) (defScope st) (.ref T) kV doc pmm an cdv ct) ⟨us, ks.zip ws⟩ = seqItems? (.ref T) >>= k ∧ k (some its.toArray) = pure (ps.zip (permV (pmV its l) (us ++ ws)))) :
    ∃ fd, L.fn c m = some (f, fd, ps) ∧ Shp L K fd ps n ks (pmZ dvs l) := by
  obtain ⟨oc, od, an, dV, kV, doc, pmm, cdv, ct, osl, h1, h2, h3, h4⟩ := F.ex
  rcases h4 with ⟨e, _⟩ | ⟨_, T, o, its, k, rfl, lT, oT, r⟩
  · exact absurd e hd
  · have hl : its.length = dvs.length := by rw [← r.length, vs_len]
    exact ⟨_, h1, shp_dfl lT oT (by unfold pmZ; rw [List.length_map]; exact len) (pm_rel r l) fun us ws l1 l2 => h T kV doc pmm cdv ct an us ws its l1 l2 hl⟩
theorem DF.call {pm : List (Sum Nat Z.V)} (F : DF L K "" m m st ps dvs f) (hm : mg (Str.ofString m) = some (.ref f)) (S : ∃ fd, L.fn "" m = some (f, fd, ps) ∧ Shp L K fd ps n ks pm) : CallOk L K mg m n ks pm := by
  obtain ⟨fd, h1, h2⟩ := S
  exact ⟨f, fd, ps, h1, F.kp, hm, h2⟩
end
theorem s_callO {L : Lw} {X : Cx} {x : Str} {p pos : Pos} {es : List Expr} {kws : List Keyword} {n : Nat} {ks : List Str} {pm : List (Sum Nat Z.V)} {t : Z.TA} (m : String) (co : CallOk L X.K X.mg m n ks pm) (ha : SC L X es kws n ks t) (hx : x = Str.ofString m := by rfl) (hg : Gl X x := by rfl) (hdb : (x == ("__debug__" : Str)) = false := by decide) {k : Nat} (hk : k = n + ks.length := by rfl) (hcm : X.calm = true := by rfl) :
    SE L X (.Call (.Name x p) es kws pos) (Z.callf m k pm t) := by
  subst hk
  obtain ⟨f, fd, ps, h1, h2, h3, h4⟩ := co.ex
  subst hx
  exact s_call m h1 h2 h3 h4 ha hg hdb hcm
theorem DF.ok {L : Lw} {P : Program} {w : World} {K : PySem.W.Frag} {mg : Str → Option Value} {base : Heap} {c m qual : String} {st : Stmt} {ps N : List Str} {dvs : List Z.V} {d : Z.Def} {f : Addr} {fd : FuncData} (F : DF L K c m qual st ps dvs f) (hf : L.fn c m = some (f, fd, ps)) (np : d.np = ps.length) (S : FnScope N ps (defScope st)) (hn : d.n = N.length)
    (hb : ∀ h0 H0 (f : Addr) (cdv : Value) A outer s H E, SB (L.at_ h0 H0) (cxOf (CX P w) P w K mg base N (Str.ofString qual) (defScope st) f cdv A outer s H E) (defBody st) d.body) : DefOk L P w K mg base f fd ps d := by
  obtain ⟨oc, od, an, dV, kV, doc, pmm, cdv, ct, osl, h1, h2, h3, h4⟩ := F.ex
  rw [hf] at h1
  cases h1
  exact ⟨np, _, _, _, _, _, _, _, _, _, _, _, _, _, _, _, N, rfl, h2, h3, S, hn, fun h0 H0 A outer s H E => hb h0 H0 f cdv A outer s H E⟩

/-! ### tables -/
abbrev Tab := List ((String × String) × Addr × FuncData × List Str)
def lwOf (fa ca : String → Addr) (t : Tab) : Lw := ⟨fa, ca, fun c m => t.lookup (c, m), fun _ => none, fun _ => none⟩
inductive Tabs (L : Lw) (P : Program) (w : World) (K : PySem.W.Frag) (mg : Str → Option Value) (base : Heap) : Tab → Z.ZTab → Prop
  | nil : Tabs L P w K mg base [] []
  | cons {k : String × String} {f : Addr} {fd : FuncData} {ps : List Str} {d : Z.Def} {r : Tab} {r' : Z.ZTab} : DefOk L P w K mg base f fd ps d → Tabs L P w K mg base r r' → Tabs L P w K mg base ((k, f, fd, ps) :: r) ((k, d) :: r')
theorem Tabs.at_ {L : Lw} {P : Program} {w : World} {K : PySem.W.Frag} {mg : Str → Option Value} {base : Heap} {t : Tab} {z : Z.ZTab} (h : Tabs L P w K mg base t z) : ∀ c m f fd ps, t.lookup (c, m) = some (f, fd, ps) → ∃ d, z.lookup (c, m) = some d ∧ DefOk L P w K mg base f fd ps d := by
  induction h with
  | nil => intro c m f fd ps h; cases h
  | @cons k f1 fd1 ps1 d r r' h1 _ ih =>
    intro c m f fd ps h
    rw [List.lookup_cons] at h ⊢
    cases e : ((c, m) == k) with
    | true =>
      rw [e] at h
      cases h
      exact ⟨d, rfl, h1⟩
    | false =>
      rw [e] at h
      exact ih c m f fd ps h
/-- the law's promise -/
def spLaw : Sp := fun vs H Q _ => ∃ (a : Addr) (ns : List Int), vs = [.ref a] ∧ ns.length ≤ 63 ∧ (∀ z ∈ ns, Z.small 1048576 z) ∧ Rd H a (.lst (ns.map V.int)) ∧ ∀ H', Q (.bl true) H'
theorem fn_law {fa ca : String → Addr} {P : Program} {w : World} {K : PySem.W.Frag} {mg : Str → Option Value} {base : Heap} {t : Tab} {z : Z.ZTab} {f : Addr} {fd : FuncData} {x : Str} {k : Nat} (h : Tabs (lwOf fa ca t) P w K mg base t z) (hf : t.lookup ("", "law") = some (f, fd, [x])) (law : Z.LawOk z k) :
    FnOk P w K mg base (CX P w) (2 * k + 1) f fd [x] spLaw := by
  refine (has_all (L := lwOf fa ca t) (T := Z.defOf z) h.at_ k "" "law" f fd [x] hf).imp fun vs H Q E ⟨a, ns, ev, hl, hbits, hs, q⟩ => ?_
  subst ev
  refine ⟨[.ref a], Z.heap0 a ns, rfl, rfl, fun b o e => ?_, callK_mono (Z.defOf z) k (fun _ _ _ _ => False) _ _ _ _ _ _ _ _ (fun v Ho e H' r g => ?_) (fun _ _ _ h => h.elim) (law a ns hl hbits)⟩
  · by_cases hb : b = a
    · subst hb
      unfold Z.heap0 at e
      rw [if_pos rfl] at e
      cases e
      show Rd H b (.lst ((lwOf fa ca t).vs (ns.map Z.V.int)))
      rw [ints_vs]
      exact hs
    · unfold Z.heap0 at e
      rw [if_neg hb] at e
      cases e
  · subst e
    exact q H'
theorem spLaw_at {K : PySem.W.Frag} {H : Hp} {a : Addr} {ns : List Int} (hl : ns.length ≤ 63) (hbits : ∀ z ∈ ns, Builtin.Int.intBits z ≤ 1048576) (hS : SqL K H a (ns.map V.int)) (hK : (K.all fun p => p.2.cls != Value.type "list") = true) : spLaw [.ref a] H (fun v _ => v = .bl true) fun _ _ _ => False := by
  rcases hS with h | ⟨o, its, n, hk, hc, _⟩
  · exact ⟨a, ns, rfl, hl, fun z hz => PySem.intBits_le_iff.mp (hbits z hz), h, fun _ => rfl⟩
  · have hm : ∃ p ∈ K, p.2 = o := by
      revert hk
      clear hK hl
      induction K with
      | nil => intro hk; cases hk
      | cons q r ih =>
        intro hk
        obtain ⟨b, u⟩ := q
        unfold List.lookup at hk
        split at hk
        · cases hk
          exact ⟨_, List.mem_cons_self .., rfl⟩
        · obtain ⟨p, h1, h2⟩ := ih hk
          exact ⟨p, List.mem_cons_of_mem _ h1, h2⟩
    obtain ⟨p, h1, rfl⟩ := hm
    have z := List.all_eq_true.mp hK p h1
    rw [hc] at z
    exact absurd z (by decide)
theorem cx_none {P : Program} {w : World} {H : Hp} {s : Shared} {e : Value} {s' : Shared} (h : CX P w [] H s (fun _ _ _ => False) e s') : False := by
  obtain ⟨_, _, _, _, _, _, _, _, _, _, _, _, z⟩ := h
  exact z
end ZS

/-! ZA: stores to attributes and slices, starred items, more methods. -/
namespace ZS
open PySem PySem.Spec PyProof.Rows L2
section
variable {L : Lw} {X : Cx} {a b c e o : Expr} {es : List Expr} {ta tb tc te to : Z.TE} {t : Z.TA} {pos p apos p2 : Pos}
/-! ### o.f as a target -/
def gFldM (K : PySem.W.Frag) (ta : TE) (f : Str) : TG := fun v σ H Q => ta σ H fun x H1 => ∃ a C dx fs, x = .ref a ∧ H1 a = some (.ins C dx fs) ∧ Cls K C ∧ NoAttr K C f ∧ fs.length < 1000 ∧ Q σ (upd H1 a (.ins C dx (putF f v fs)))
theorem pg_fldM {f : Str} {t : TE} (ho : PE X o t) (ha : ∀ v, assign (.Attribute o f pos) X.env v = (do
      let ov ← holding [v] (eval o X.env)
      standAt pos.atName
      holding [v, ov] (setAttr ov f v)
      release [v, ov] []) := by intro _; rfl) : PG X (.Attribute o f pos) (gFldM X.K t f) := by
  refine ⟨fun pins s σ H v u Q I r h => ?_⟩
  rw [ha]
  refine wpAny_bind (wpAny_holding (thn (ho.run pins s σ H _ I h) fun ov s1 ⟨x, H1, I1, r1, q1⟩ => ?_))
  obtain ⟨a, C, dx, fs, ex, ea, cl, na, hl, q⟩ := q1
  subst ex
  obtain rfl : ov = Value.ref a := r1
  refine wpAny_bind (wpAny_standAt (wpAny_bind (wpAny_holding (setattr_ok I1 ea cl na hl r fun s2 I2 => ?_))))
  exact wpAny_release ⟨σ, _, I2, q⟩
theorem putF_rel (f : String) (v : Z.V) : ∀ fs : List (String × Z.V), L.fs (Z.putF f v fs) = putF (Str.ofString f) (L.v v) (L.fs fs)
  | [] => rfl
  | (g, w) :: r => by
    show L.fs (if g = f then (g, v) :: r else (g, w) :: Z.putF f v r) = (if Str.ofString g = Str.ofString f then _ else _)
    by_cases h : g = f
    · rw [if_pos h, if_pos (by rw [h])]
      rfl
    · rw [if_neg h, if_neg fun z => h (ofString_inj z)]
      show _ :: L.fs (Z.putF f v r) = _
      rw [putF_rel f v r]
theorem putF_mem {f : String} {v : Z.V} : ∀ {fs : List (String × Z.V)} {g : String}, g ∈ (Z.putF f v fs).map (·.1) → g = f ∨ g ∈ fs.map (·.1)
  | [], g, h => .inl (by simpa [Z.putF] using h)
  | (k, w) :: r, g, h => by
    have h : g ∈ (if k = f then (k, v) :: r else (k, w) :: Z.putF f v r).map (·.1) := h
    by_cases e : k = f
    · rw [if_pos e] at h
      exact .inr h
    · rw [if_neg e] at h
      rcases List.mem_cons.mp h with h | h
      · exact .inr (by simp [h])
      · rcases putF_mem h with h | h
        · exact .inl h
        · exact .inr (List.mem_cons_of_mem _ h)
theorem s_gfld (cs : List String) (f : String) {x : Str} (hn : ∀ c ∈ cs, NoAttr X.K (L.ca c) (Str.ofString f)) (ho : SE L X o to) (hx : x = Str.ofString f := by rfl) (ha : ∀ v, assign (.Attribute o x pos) X.env v = (do
      let ov ← holding [v] (eval o X.env)
      standAt pos.atName
      holding [v, ov] (setAttr ov x v)
      release [v, ov] []) := by intro _; rfl) : SG L X (.Attribute o x pos) (Z.gfld cs to f) [] := by
  subst hx
  refine ⟨fun C m v σ H Q Q' q h => ho.mono C m _ _ _ _ (fun x H1 ⟨a, c, fs, e1, e2, e3, e4, h1⟩ => ⟨a, c, fs, e1, e2, e3, e4, q _ _ h1⟩) h, fun C g => ?_⟩
  refine impG (pg_fldM (ho.run C g) ha) fun v σ H Q ⟨vo, σo, Ho, ev, r, h⟩ => ?_
  subst ev
  refine ⟨σo, Ho, r, ho.mono C g.mono _ _ _ _ (fun x Ho1 h1 H1 r1 g1 => ?_) h⟩
  obtain ⟨p, c, fs, rfl, e2, e3, e4, h1⟩ := h1
  obtain ⟨dx, hi, hc, hna⟩ := r1.hp p _ e2
  refine ⟨p, _, dx, L.fs fs, rfl, hi, hc, hn c e3, by rw [show (L.fs fs).length = fs.length from List.length_map ..]; exact e4, ?_⟩
  rw [← putF_rel]
  refine h1 _ _ (r1.heap (r1.hp.set ⟨dx, upd_same, hc, fun g hg => ?_⟩) (Gr.chg e2)) (g1.trans (Gr.chg e2)) (But.refl _ _)
  rcases putF_mem hg with z | z
  · rw [z]; exact hn c e3
  · exact hna g z

/-! ### o[l:h] as a target -/
def gSlcM (to tl th : TE) : TG := fun v σ H Q => to σ H fun x H1 => tl σ H1 fun lo H2 => th σ H2 fun hi H3 => ∃ l b xs ys i j, x = .ref l ∧ v = .ref b ∧ lo = .int i ∧ hi = .int j ∧ H3 l = some (.lst xs) ∧ H3 b = some (.lst ys) ∧ l ≠ b ∧ 0 ≤ i ∧ i ≤ j ∧ j ≤ xs.length ∧ xs.length + ys.length ≤ sizeLine ∧
  Q σ (upd H3 l (.lst (xs.take i.toNat ++ ys ++ xs.drop j.toNat)))
theorem pg_slcM {t tl th : TE} (ho : PE X o t) (hl : PE X a tl) (hh : PE X b th) (ha : ∀ v, assign (.Subscript o (.Slice (some a) (some b) none p2) pos) X.env v = (do
      let ov ← holding [v] (eval o X.env)
      let iv ← holding [v, ov] (eval (.Slice (some a) (some b) none p2) X.env)
      standAt pos
      holding [v, ov, iv] (setItem ov iv v)
      release [iv, v, ov] []) := by intro _; rfl) : PG X (.Subscript o (.Slice (some a) (some b) none p2) pos) (gSlcM t tl th) := by
  refine ⟨fun pins s σ H v u Q I r h => ?_⟩
  rw [ha]
  refine wpAny_bind (wpAny_holding (thn (ho.run pins s σ H _ I h) fun ov s1 ⟨x, H1, I1, r1, q1⟩ => ?_))
  refine wpAny_bind (wpAny_holding (wpAny_Slice (thn (hl.run pins s1 σ H1 _ I1 q1) fun vl s2 ⟨l, H2, I2, pl, q2⟩ => thn (hh.run pins s2 σ H2 _ I2 q2) fun vu s3 ⟨u2, H3, I3, pu, q3⟩ => ?_)))
  rw [evalPart_none]
  refine wpAny_pure ?_
  have I4 : Inv X pins σ H3 { s3 with heap := s3.heap.push { cls := .type "slice", data := .fields #[vl, vu, .none] } } := I3.kept (t' := s3.toks) fun b ob q => Heap.get?_push_of_some _ q
  obtain ⟨l2, b2, xs, ys, i, j, rfl, rfl, rfl, rfl, e1, e2, ne, h0, h1, h2, h3, q⟩ := q3
  obtain rfl : ov = Value.ref l2 := r1
  obtain rfl : u = Value.ref b2 := r
  refine wpAny_bind (wpAny_standAt (wpAny_bind (wpAny_holding (set_slice I4 e1 e2 ne (Heap.IsSliceOf.new ..) pl pu h0 h1 h2 h3 fun s5 I5 => ?_))))
  exact wpAny_release ⟨σ, _, I5, q⟩
theorem s_gslc (ho : SE L X o to) (hl : SE L X a ta) (hh : SE L X b tb) (hs : ∀ v, assign (.Subscript o (.Slice (some a) (some b) none p2) pos) X.env v = (do
      let ov ← holding [v] (eval o X.env)
      let iv ← holding [v, ov] (eval (.Slice (some a) (some b) none p2) X.env)
      standAt pos
      holding [v, ov, iv] (setItem ov iv v)
      release [iv, v, ov] []) := by intro _; rfl) : SG L X (.Subscript o (.Slice (some a) (some b) none p2) pos) (Z.gslc to ta tb) [] := by
  refine ⟨fun C m v σ H Q Q' q h => ho.mono C m _ _ _ _ (fun x H1 h1 => hl.mono C m _ _ _ _ (fun y H2 h2 => hh.mono C m _ _ _ _ (fun z H3 ⟨l, b, xs, ys, i, j, e1, e2, e3, e4, e5, e6, n, z1, z2, z3, z4, h3⟩ => ⟨l, b, xs, ys, i, j, e1, e2, e3, e4, e5, e6, n, z1, z2, z3, z4, q _ _ h3⟩) h2) h1) h, fun C g => ?_⟩
  refine impG (pg_slcM (ho.run C g) (hl.run C g) (hh.run C g) hs) fun v σ H Q ⟨vo, σo, Ho, ev, r, h⟩ => ?_
  subst ev
  refine ⟨σo, Ho, r, ho.mono C g.mono _ _ _ _ (fun x Ho1 h1 H1 r1 g1 => ?_) h⟩
  refine ⟨σo, Ho1, r1, hl.mono C g.mono _ _ _ _ (fun y Ho2 h2 H2 r2 g2 => ?_) h1⟩
  refine ⟨σo, Ho2, r2, hh.mono C g.mono _ _ _ _ (fun z Ho3 h3 H3 r3 g3 => ?_) h2⟩
  obtain ⟨l, b, xs, ys, i, j, rfl, rfl, rfl, rfl, e5, e6, n, z1, z2, z3, z4, h3⟩ := h3
  refine ⟨l, b, L.vs xs, L.vs ys, i, j, rfl, rfl, rfl, rfl, r3.hp l _ e5, r3.hp b _ e6, n, z1, z2, by rw [vs_len]; exact z3, by rw [vs_len, vs_len, ← line_eq]; exact z4, ?_⟩
  have e : (L.vs xs).take i.toNat ++ L.vs ys ++ (L.vs xs).drop j.toNat = L.vs (xs.take i.toNat ++ ys ++ xs.drop j.toNat) := by
    rw [vs_app, vs_app]
    show (List.map L.v xs).take i.toNat ++ _ ++ (List.map L.v xs).drop j.toNat = _
    rw [← List.map_take, ← List.map_drop]
  rw [e]
  exact h3 _ _ (r3.heap (r3.hp.set upd_same) (Gr.chg e5)) (g1.trans (g2.trans (g3.trans (Gr.chg e5)))) (But.refl _ _)

/-! ### starred items -/
theorem s_astar {tr : Z.TA} (ha : SE L X a ta) (hr : SA L X es tr) (hs : starEach (.Starred a p :: es) X.env = (true, eval a X.env) :: starEach es X.env := by rfl) : SA L X (.Starred a p :: es) (Z.astar ta tr) := by
  refine ⟨fun C m σ H Q Q' q h => ha.mono C m _ _ _ _ (fun x H1 ⟨ys, e, h1⟩ => ⟨ys, e, hr.mono C m _ _ _ _ (fun xs H2 h2 => q _ _ h2) h1⟩) h, fun C g => ?_⟩
  refine impA (StX.pa_star (ha.run C g) (hr.run C g) hs) fun σ H Q ⟨σo, Ho, r, h⟩ => ?_
  refine ⟨σo, Ho, r, ha.mono C g.mono _ _ _ _ (fun x Ho1 h1 H1 r1 g1 => ?_) h⟩
  obtain ⟨ys, e, h1⟩ := h1
  obtain ⟨q, rfl, sq⟩ := items_rel r1.hp e
  refine ⟨q, L.vs ys, rfl, sq.symm, σo, Ho1, r1, hr.mono C g.mono _ _ _ _ (fun xs Ho2 h2 H2 r2 g2 => ?_) h1⟩
  show Q (L.vs ys ++ L.vs xs) H2
  rw [← vs_app]
  exact h2 H2 r2 (g1.trans g2)

/-! ### more methods -/
theorem mm_clear : MonoM Z.mClear := fun x vs H Q Q' q ⟨a, xs, e1, e2, e3, h⟩ => ⟨a, xs, e1, e2, e3, q _ _ h⟩
theorem mc_clear : MtR X "list.clear" (liftM L X.K Z.mClear) := mtr mt_clear fun xo vo Ho H Q rh h => by
  obtain ⟨a, xs, rfl, rfl, e3, h⟩ := h
  exact ⟨a, L.vs xs, rfl, rfl, rh a _ e3, h _ (rh.set upd_same) (Gr.chg e3)⟩
theorem mm_insert : MonoM Z.mInsert := fun x vs H Q Q' q ⟨a, xs, i, y, e1, e2, e3, z1, z2, z3, h⟩ => ⟨a, xs, i, y, e1, e2, e3, z1, z2, z3, q _ _ h⟩
theorem mc_insert : MtR X "list.insert" (liftM L X.K Z.mInsert) := mtr mt_insert fun xo vo Ho H Q rh h => by
  obtain ⟨a, xs, i, y, rfl, rfl, e3, z1, z2, z3, h⟩ := h
  refine ⟨a, L.vs xs, i, L.v y, rfl, rfl, rh a _ e3, by rw [vs_len, ← line_eq]; exact z1, z2, z3, ?_⟩
  have e : (L.vs xs).take i.toNat ++ [L.v y] ++ (L.vs xs).drop i.toNat = L.vs (xs.take i.toNat ++ [y] ++ xs.drop i.toNat) := by
    rw [vs_app, vs_app]
    show (List.map L.v xs).take i.toNat ++ _ ++ (List.map L.v xs).drop i.toNat = _
    rw [← List.map_take, ← List.map_drop]
    rfl
  rw [e]
  exact h _ (rh.set upd_same) (Gr.chg e3)
theorem bm_clear (ho : SE L X o to) (hbase : attributeBase o "clear" X.env (eval o X.env) = eval o X.env := by rfl) (hline : (apos.endLine == pos.line) = true := by rfl) : SE L X (.Call (.Attribute o "clear" apos) [] [] pos) (Z.bmt Z.isL Z.mClear to Z.anil) :=
  s_bm0 (fun x Ho H rh h => ty_list rh h) mm_clear F.plainAttrs_list F.slot_list_clear rfl mc_clear ho hbase hline
theorem bm_insert (ho : SE L X o to) (ha : SA L X (e :: es) t)
    (hbase : attributeBase o "insert" X.env (eval o X.env) = eval o X.env := by rfl)
    (hfew : ((backTo pos (starEach (e :: es) X.env)).all (fun x => !x.1) && (backToKw pos (keywordEach [] X.env)).all (fun x => x.1.isSome)
      && decide ((e :: es).length + ([] : List Keyword).length + (if ([] : List Keyword).isEmpty then 0 else 1) < 30)) = true := by rfl)
    (hline : (apos.endLine == pos.line) = true := by rfl) (hs : starEach (e :: es) X.env = (false, eval e X.env) :: starEach es X.env := by rfl) (hplain : (backTo pos (starEach es X.env)).any (·.1) = false := by rfl) :
    SE L X (.Call (.Attribute o "insert" apos) (e :: es) [] pos) (Z.bmt Z.isL Z.mInsert to t) :=
  s_bm (fun x Ho H rh h => ty_list rh h) mm_insert F.plainAttrs_list F.slot_list_insert rfl mc_insert ho ha hbase hfew hline hs hplain
end
end ZS

/-! ZB: own errors are raised. -/
namespace ZS
open PySem PySem.Spec PyProof.Rows L2
/-- what the written part says of the errors' base class, which has no __init__ of its own -/
structure BaseE (K : PySem.W.Frag) (mg : Str → Option Value) (x : Str) (S : Addr) : Prop where
  ga : PySem.W.specialIn K (.ref S) "__getattribute__" = some (some (.builtin "type.__getattribute__"))
  rd : PySem.W.readsIn K S (.type "type") = true
  fc : PySem.W.findCls K (.ref S) (.type "type") "__init__" = some (.val (.builtin "ValueError.__init__"))
  mg : mg x = some (.ref S)
section
variable {X : Cx} {e : Expr} {es : List Expr} {ta : TA} {x : Str} {S : Addr} {p1 p2 pos : Pos}
/-- Base.__init__(self, ..) -/
theorem pe_binit {pl : Sem Bool} (B : BaseE X.K X.mg x S) (hg : Gl X x) (ha : PA X (e :: es) ta) (hdb : (x == ("__debug__" : Str)) = false := by decide)
    (hc : eval (.Call (.Attribute (.Name x p1) "__init__" p2) (e :: es) [] pos) X.env = (do
      let ov ← eval (.Name x p1) X.env
      standAt p2.atName
      let (f, first) ← holding [ov] (getMethod ov "__init__" pl)
      callWith pos f first (backTo pos (starEach (e :: es) X.env)) (backToKw pos (keywordEach [] X.env))) := by rfl)
    (he : starEach (e :: es) X.env = (false, eval e X.env) :: starEach es X.env := by rfl) (hpl : (backTo pos (starEach es X.env)).any (·.1) = false := by rfl) :
    PE X (.Call (.Attribute (.Name x p1) "__init__" p2) (e :: es) [] pos) (tVeI X.K ta) := by
  refine ⟨fun pins s σ H Q I h => ?_⟩
  refine PySem.W.methodCall_KW (ld_glob I hg B.mg ?_ hdb) hc
  refine PySem.W.method_cls I.kIn B.ga (PySem.W.cls_value I.kIn B.rd B.fc rfl ?_)
  show wpAny _ _ (callWith pos (Value.builtin "ValueError.__init__") [] (backTo pos (starEach (e :: es) X.env)) []) _ _ _
  refine PyProof.Rows.callWith_method1 (thn (ha.run pos pins _ σ H _ (I.tok _) h) fun us s1 ⟨vs, H1, I1, r1, a, C, ws, ev, hl, T, ea, q⟩ => ?_) he hpl
  subst ev
  cases r1 with
  | @cons _ u0 _ ur ra rw' =>
    obtain rfl : u0 = Value.ref a := ra
    have hlen : ur.length ≤ sizeLine := by
      rw [← Paired.length rw', sizeLine_eq]
      omega
    exact oinit_ok T I1 ea hlen fun s' J => ⟨.non, H1, J, rfl, q⟩
end
/-- the promise of an error's own __init__: one field is kept -/
def spErr (C : Addr) (f : Str) : Sp := fun vs H Q _ => ∃ (a : Addr) (v : V), vs = [.ref a, v] ∧ H a = some (exo a C none) ∧ ∀ dx, H dx = none → dx ≠ a → Q .non (upd (upd H dx (exd dx [(f, v)])) a (exo a C (some dx)))
section
variable {P : Program} {w : World} {K : PySem.W.Frag} {mg : Str → Option Value} {base : Heap}
/-- the reading of its body -/
def errT (K : PySem.W.Frag) (m f : Str) : TS := tSeq (tDrop (tVeI K (tCons (tVar 0) (tCons (tC (.str m)) tNil)))) (tOst K f (tVar 0) (tVar 1))
theorem err_ok {fI C : Addr} {fd : FuncData} {name qual : Str} {st : Stmt} {f y m : Str} {dV kV doc pm cdv ct oc : Value} {an od : Option Addr} {osl : Array (Option Value)}
    (hfd : fd = PySem.W.fnOf name qual (defArgs st) (defBody st) (defScope st) dV kV doc pm an cdv ct) (lk : K.lookup fI = some ⟨oc, od, .func fd, osl⟩) (hcd : PySem.W.codeIn K cdv qual = true) (Sc : FnScope ["self", y] ["self", y] (defScope st))
    (hb : ∀ A outer s H E, PSs (cxOf (CX P w) P w K mg base ["self", y] qual (defScope st) fI cdv A outer s H E) (defBody st) (errT K m f)) (T : OexC K C) (hno : PySem.W.findIn K (.ref C) f = some none) :
    FnOk P w K mg base (CX P w) 1 fI fd ["self", y] (spErr C f) := by
  subst hfd
  refine fn_of (k := 0) lk hcd Sc (fun vs H Q E ⟨a, v, e, _⟩ => by rw [e]; rfl) fun A outer s H vs Q E hr hsp => ?_
  obtain ⟨a, v, rfl, ea, hq⟩ := hsp
  refine ⟨_, hb A outer s H E, ?_⟩
  refine ⟨.ref a, rfl, a, C, [.str m], rfl, (by show 1 ≤ 1000; decide), T, ea, ?_⟩
  exact ⟨v, rfl, .ref a, rfl, a, C, rfl, T, hno, .inl ⟨ea, fun dx n ne => hq dx n ne⟩⟩
end
/-- an own error class: C(v) keeps v as f -/
structure ErrOk (L : Lw) (P : Program) (w : World) (K : PySem.W.Frag) (mg : Str → Option Value) (base : Heap) (c f : String) : Prop where
  ex : ∃ (fI : Addr) (fd : FuncData) (ps : List Str), OexC K (L.ca c) ∧ PySem.W.findIn K (.ref (L.ca c)) "__init__" = some (some (.ref fI)) ∧ PySem.W.typeIn K (.ref fI) = some (.type "function") ∧
    FnOk P w K mg base (CX P w) 1 fI fd ps (spErr (L.ca c) (Str.ofString f)) ∧ Binds K fd ps [] ∧ mg (Str.ofString c) = some (.ref (L.ca c))
section
variable {L : Lw} {X : Cx} {e : Expr} {te : Z.TE} {p p2 pos : Pos} {K : PySem.W.Frag} {Ho : Z.Heap} {H H' : Hp}
theorem RO.at_ {a : Addr} {o : Z.O} (h : RO L K H a o) (e : H' a = H a) : RO L K H' a o := by
  cases o with
  | lst xs => exact e.trans h
  | tup xs => exact e.trans h
  | scr xs =>
    rcases h with h | ⟨x, h⟩
    · exact .inl (e.trans h)
    · exact .inr ⟨x, e.trans h⟩
  | dct kvs => exact e.trans h
  | dctT kvs => exact e.trans h
  | ins c fs => obtain ⟨dx, h, r⟩ := h; exact ⟨dx, e.trans h, r⟩
  | xd fs => exact e.trans h
theorem s_rais (c f : String) {x : Str} (er : ErrOk L X.prog X.w X.K X.mg X.base c f) (hc : X.calm = true) (he : SE L X e te) (hx : x = Str.ofString c := by rfl) (hg : Gl X x := by rfl) (hdb : (x == ("__debug__" : Str)) = false := by decide)
    (hs : starEach [e] X.env = (false, eval e X.env) :: starEach [] X.env := by rfl) : SS L X (.Raise (some (.Call (.Name x p) [e] [] p2)) none pos) (Z.rais c f te) := by
  subst hx
  refine ⟨fun C m σ H D D' l h => h, fun C gd => ?_⟩
  obtain ⟨fI, fd, ps, T, iC, tI, F1, hb, hm⟩ := er.ex
  obtain ⟨k, hk, hr, _⟩ := gd.call hc
  refine impS (ps_raise hc gd.takes (pmk_oex T iC tI F1 (hr.mono (by omega)) hb .nil passL hg hm (pa_cons (he.run C gd) pa_nil hs) hdb hs)) fun D σ H ⟨σo, Ho, r, h⟩ => ?_
  refine ⟨σo, Ho, r, he.mono C gd.mono _ _ _ _ (fun v Ho1 h1 H1 r1 g1 => ?_) h⟩
  refine ⟨by show 1 ≤ 1000; decide, fun a na => ⟨a, L.v v, rfl, upd_same, fun dx nd ne => ⟨rfl, dx, [(Str.ofString f, L.v v)], upd_same, ?_, ?_, ?_⟩⟩⟩
  · rw [upd_ne ne, upd_same]
  · rw [upd_ne ne] at nd
    exact nd
  · have nd1 : H1 dx = none := by
      rw [upd_ne ne] at nd
      exact nd
    have fin : ∀ b, b ≠ a → b ≠ dx → upd (del (upd (upd (upd H1 a (exo a (L.ca c) none)) dx (exd dx [(Str.ofString f, L.v v)])) a (exo a (L.ca c) (some dx))) a) dx (.xd [(Str.ofString f, L.v v)]) b = H1 b := fun b n1 n2 => by
      rw [upd_ne n2, del_ne n1, upd_ne n1, upd_ne n2, upd_ne n1]
    refine ⟨c, [(f, v)], σo, Ho1, r1.heap (fun b o e => ?_) ⟨fun b hb => ?_, fun b o e1 e2 => ⟨e2, fun _ => ?_⟩⟩, ⟨rfl, dx, rfl, upd_same⟩, NewD.back (fun _ z => by cases z; exact nd1) r1.gr, h1⟩
    rotate_left
    · rw [fin b (fun z => hb (by rw [z]; exact na)) (fun z => hb (by rw [z]; exact nd1))]
      exact hb
    · rw [fin b (fun z => by rw [z, na] at e1; cases e1) (fun z => by rw [z, nd1] at e1; cases e1)]
      exact e1
    have hb1 := r1.hp b o e
    have n1 : b ≠ a := fun z => hb1.ne (by rw [z]; exact na)
    have n2 : b ≠ dx := fun z => hb1.ne (by rw [z]; exact nd1)
    exact hb1.at_ (fin b n1 n2)
end
/-! ### facts of classes -/
theorem all_nil {P : String → Prop} : ∀ c ∈ ([] : List String), P c := fun c h => nomatch h
theorem all_cons {P : String → Prop} {c : String} {cs : List String} (h : P c) (r : ∀ d ∈ cs, P d) : ∀ d ∈ c :: cs, P d := fun d hd => by
  rcases List.mem_cons.mp hd with z | z
  · rw [z]; exact h
  · exact r d z
section
variable {L : Lw} {K : PySem.W.Frag} {mg : Str → Option Value} {c m qual : String} {st : Stmt} {ps ks : List Str} {n : Nat} {dvs : List Z.V} {f : Addr} {pm : List (Sum Nat Z.V)}
theorem DF.meth (F : DF L K c m qual st ps dvs f) (hi : PySem.W.findIn K (.ref (L.ca c)) (Str.ofString m) = some (some (.ref f))) (hf : PySem.W.isFn K (.ref f) = true) (S : ∃ fd, L.fn c m = some (f, fd, ps) ∧ Shp L K fd ps (n + 1) ks pm) : MethOk L K c m n ks pm := by
  obtain ⟨fd, h1, h2⟩ := S
  exact ⟨f, fd, ps, h1, ⟨hi, hf, F.kp⟩, h2⟩
theorem DF.make (F : DF L K c "__init__" qual st ps dvs f) (cl : Cls K (L.ca c)) (mk : PySem.W.makesIn K (L.ca c) = true) (hi : PySem.W.findIn K (.ref (L.ca c)) "__init__" = some (some (.ref f))) (hf : PySem.W.isFn K (.ref f) = true) (kc : PySem.W.keepIn K (.ref (L.ca c)) = true)
    (S : ∃ fd, L.fn c "__init__" = some (f, fd, ps) ∧ Shp L K fd ps (n + 1) ks pm) : MakeOk L K c n ks pm := by
  obtain ⟨fd, h1, h2⟩ := S
  exact ⟨⟨f, fd, ps, h1, ⟨mk, hi, hf, kc⟩, h2⟩, cl⟩
end
section
variable {L : Lw} {X : Cx} {o : Expr} {es : List Expr} {kws : List Keyword} {to : Z.TE} {t : Z.TA} {n : Nat} {ks : List Str} {pm : List (Sum Nat Z.V)} {p pos apos : Pos} {x mm : Str}
theorem s_methO {pl : Sem Bool} (cs : List String) (m : String) (hms : ∀ c ∈ cs, MethOk L X.K c m n ks pm) (ho : SE L X o to) (ha : SC L X es kws n ks t) (hmm : mm = Str.ofString m := by rfl)
    (ht : eval (.Call (.Attribute o mm apos) es kws pos) X.env = (do
      let ov ← eval o X.env
      standAt apos.atName
      let (f, first) ← holding [ov] (getMethod ov mm pl)
      callWith pos f first (backTo pos (starEach es X.env)) (backToKw pos (keywordEach kws X.env))) := by rfl) {k : Nat} (hk : k = n + ks.length := by rfl) (hcm : X.calm = true := by rfl) :
    SE L X (.Call (.Attribute o mm apos) es kws pos) (Z.meth cs to m k pm t) := by
  subst hk
  exact s_meth cs m hms ho ha hmm ht hcm
theorem s_makeO (c : String) (hc : MakeOk L X.K c n ks pm) (hm : X.mg (Str.ofString c) = some (.ref (L.ca c))) (ha : SC L X es kws n ks t) (hx : x = Str.ofString c := by rfl) (hg : Gl X x := by rfl) (hdb : (x == ("__debug__" : Str)) = false := by decide) {k : Nat} (hk : k = n + ks.length := by rfl) (hcm : X.calm = true := by rfl) :
    SE L X (.Call (.Name x p) es kws pos) (Z.make c k pm t) := by
  subst hk hx
  exact s_make c hc hm ha hg hdb hcm
end
end ZS

/-! ZC: try with one except clause, and the fields of the caught error. -/
namespace ZS
open PySem PySem.Spec PyProof.Rows L2
section
variable {L : Lw} {X : Cx} {e : Expr} {te : Z.TE} {p p2 pos np pos' : Pos} {body st : List Stmt} {b₀ : Stmt} {n x : Str} {u : Z.TS} {h : String → Nat → Nat → Z.TS} {acc rej : List String} {cl : Value}
/-- nothing leaves a suite -/
theorem takes_false {X : Cx} {L : Lw} {K : PySem.W.Frag} {C : Z.Cx} : Takes X (liftW L K { C with exc := fun _ _ _ _ => False }) := fun u s' ⟨_, _, _, _, _, _, _, _, _, _, _, _, _, _, _, _, _, _, _, _, _, _, _, z⟩ => z.elim
theorem Good.toSuite {C : Z.Cx} (gd : Good L X C) (a : Addr) (pn : List (Addr × Obj)) : Good L (X.suite a pn) { C with exc := fun _ _ _ _ => False } :=
  ⟨gd.mono, takes_false, gd.units, fun z => absurd (show false = true from z) Bool.false_ne_true⟩
theorem Good.toTr {C : Z.Cx} (gd : Good L X C) {pn : List (Addr × Obj)} {xe : Value → Shared → Prop} {W : WX} {X0 : String → List (String × Z.V) → Z.St → Z.Heap → Prop} (tk : Takes (X.tr pn xe) W) (hW : ∀ c d σ H, liftW L X.K { C with exc := X0 } c d σ H → W c d σ H) : Good L (X.tr pn xe) { C with exc := X0 } :=
  ⟨gd.mono, tk.imp hW, gd.units, gd.call⟩
theorem R.set_none {K : PySem.W.Frag} {σo : Z.St} {Ho : Z.Heap} {σ : St} {H : Hp} (r : R L K σo Ho σ H) (i : Nat) : R L K (σo.set i none) Ho (σ.set i none) H := r.wipe [i]
theorem xd_told {K : PySem.W.Frag} {σo : Z.St} {Ho : Z.Heap} {σ : St} {H : Hp} (r : R L K σo Ho σ H) {fs : List (String × Z.V)} {dd : Addr} (e : H dd = some (.xd (L.fs fs))) (nd : L.H0 dd = none) : R L K σo (Z.upd Ho dd (.xd fs)) σ H := by
  refine ⟨r.len, r.sl, fun b o eb => ?_, r.gr.on, fun b o e1 e2 => ?_⟩
  · by_cases hb : b = dd
    · subst hb
      rw [Z.upd_same] at eb
      cases eb
      exact e
    · rw [Z.upd_ne hb] at eb
      exact r.hp b o eb
  · rw [Z.upd_ne fun z => by rw [z, nd] at e1; cases e1]
    exact r.gr.un b o e1 e2
theorem Le.wipe {D D' : Z.Ends} (l : Le D D') (i : Option Nat) : Le (D.wipe i) (D'.wipe i) := ⟨fun σ H h => l.nx _ _ h, l.rt, fun σ H h => l.bk _ _ h, fun σ H h => l.ct _ _ h⟩
theorem xfree_of {K : PySem.W.Frag} {Ho : Z.Heap} {H : Hp} {dd : Addr} {fs : List (Str × V)} (r : RH L K Ho H) (e : H dd = some (.xd fs)) : Z.xfree Ho dd := by
  cases q : Ho dd with
  | none => exact .inl q
  | some o =>
    have z := r dd o q
    cases o with
    | lst xs => rw [show H dd = _ from z] at e; cases e
    | tup xs => rw [show H dd = _ from z] at e; cases e
    | scr xs => rcases z with z | ⟨x, z⟩ <;> rw [z] at e <;> cases e
    | dct kvs => rw [show H dd = _ from z] at e; cases e
    | dctT kvs => rw [show H dd = _ from z] at e; cases e
    | ins c fs => obtain ⟨dx, z, _⟩ := z; rw [z] at e; cases e
    | xd fs => exact .inr ⟨fs, q⟩
theorem s_tryA (i : Nat) (hp : PassesOwn (model X.prog X.w) X.A X.env X.xe) (hN : X.N.Nodup) (hc : Names X x cl) (hacc : ∀ c ∈ acc, PySem.W.exmOne X.K (.ref (L.ca c)) cl = some true) (hrej : ∀ c ∈ rej, PySem.W.exmOne X.K (.ref (L.ca c)) cl = some false)
    (hb : ∀ pn xe, PassesOwn (model X.prog X.w) X.A X.env xe → SB L (X.tr pn xe) body u)
    (hsu : ∀ c ∈ acc, ∀ (a : Addr) (oe : Obj) (dd : Addr) (pn : List (Addr × Obj)), Zc (.ref (L.ca c)) (some dd) oe → (∃ vs, oe.data = .fields vs) → SB L (X.suite a ((a, oe) :: pn)) (b₀ :: st) (h c a dd))
    (hi : X.N[i]? = some n := by rfl) (hln : X.env.kindOf n = some .local := by rfl) (hs : X.stack = X.env :: X.outer := by rfl) (hf : X.env.frame = some X.env.locals := by rfl) :
    SS L X (.Try body [.ExceptHandler (some (.Name x np)) (some n) (b₀ :: st) pos'] [] [] pos) (Z.tryx acc rej (some i) u h) := by
  refine ⟨fun C m σ H D D' l ⟨X0, hX, hb0⟩ => ⟨X0, fun c fs σ' H' x => (hX c fs σ' H' x).imp (fun ⟨hc, k⟩ => ⟨hc, fun a dd n1 n2 ne => ?_⟩) id, (hb X.pn X.xe hp).mono { C with exc := X0 } m _ _ _ _ l hb0⟩, fun C gd => ?_⟩
  · exact (hsu c hc a { cls := .ref (L.ca c), dict := some dd, data := .fields #[] } dd [] ⟨rfl, rfl⟩ ⟨_, rfl⟩).mono { C with exc := fun _ _ _ _ => False } m _ _ _ _ (l.wipe _) (k a dd n1 n2 ne)
  · refine impS (ps_try_as hs hf hN hi hln hc gd.takes (tb := fun W D σ H => ∃ X0, (∀ c d σ H, liftW L X.K { C with exc := X0 } c d σ H → W c d σ H) ∧ liftS L X.K { C with exc := X0 } u D σ H)
      (ts := fun a cls d D σ H => ∃ c dd, cls = .ref (L.ca c) ∧ d = some dd ∧ c ∈ acc ∧ liftS L X.K { C with exc := fun _ _ _ _ => False } (h c a dd) D σ H)
      (fun W pn xe tk hpx => ⟨fun pins s σ H D I ⟨X0, hW, q⟩ => ((hb pn xe hpx).run { C with exc := X0 } (gd.toTr tk hW)).run pins s σ H D I q⟩)
      (fun a oe cls d pn hz hfl => ⟨fun pins s σ H D I ⟨c, dd, ec, ed, hcc, q⟩ => by
        subst ec ed
        exact ((hsu c hcc a oe dd pn hz hfl).run _ (gd.toSuite a ((a, oe) :: pn))).run pins s σ H D I q⟩)) fun D σ H ⟨σo, Ho, r, X0, hX, hb0⟩ => ?_
    refine ⟨X0, fun cls d σ' H' ⟨c, fs, σo', Ho', r', re, nd, x⟩ => ?_, σo, Ho, r, hb0⟩
    obtain ⟨rfl, dd, rfl, ex⟩ := re
    rcases hX c fs σo' Ho' x with ⟨hcA, k⟩ | ⟨hcR, kx⟩
    · refine ⟨true, hacc c hcA, fun _ a na => ⟨c, dd, rfl, rfl, hcA, Z.put σo' i (.ref a), Z.upd Ho' dd (.xd fs), xd_told (r'.put i (.ref a)) ex (nd dd rfl), ?_⟩, fun z => (nomatch z)⟩
      have nad : a ≠ dd := fun z => by rw [z, ex] at na; cases na
      exact (hsu c hcA a { cls := .ref (L.ca c), dict := some dd, data := .fields #[] } dd [] ⟨rfl, rfl⟩ ⟨_, rfl⟩).mono { C with exc := fun _ _ _ _ => False } gd.mono _ _ ((ends L X.K Ho H D).wipe (some i)) _
        ⟨fun σ1 H1 h1 σ2 H2 r2 g2 => h1 _ H2 (r2.set_none i) g2, fun v H1 h1 H2 r2 g2 => h1 H2 r2 g2, fun σ1 H1 h1 σ2 H2 r2 g2 => h1 _ H2 (r2.set_none i) g2, fun σ1 H1 h1 σ2 H2 r2 g2 => h1 _ H2 (r2.set_none i) g2⟩ (k a dd (r'.hp.free na) (xfree_of r'.hp ex) nad)
    · exact ⟨false, hrej c hcR, fun z => (nomatch z), fun _ => ⟨c, fs, σo', Ho', r', ⟨rfl, dd, rfl, ex⟩, nd, kx⟩⟩
theorem s_tryO (hp : PassesOwn (model X.prog X.w) X.A X.env X.xe) (hc : Names X x cl) (hacc : ∀ c ∈ acc, PySem.W.exmOne X.K (.ref (L.ca c)) cl = some true) (hrej : ∀ c ∈ rej, PySem.W.exmOne X.K (.ref (L.ca c)) cl = some false)
    (hb : ∀ pn xe, PassesOwn (model X.prog X.w) X.A X.env xe → SB L (X.tr pn xe) body u)
    (hsu : ∀ c ∈ acc, ∀ (a : Addr) (oe : Obj) (dd : Addr) (pn : List (Addr × Obj)), Zc (.ref (L.ca c)) (some dd) oe → (∃ vs, oe.data = .fields vs) → SB L (X.suite a ((a, oe) :: pn)) (b₀ :: st) (h c a dd))
    (hs : X.stack = X.env :: X.outer := by rfl) (hf : X.env.frame = some X.env.locals := by rfl) :
    SS L X (.Try body [.ExceptHandler (some (.Name x np)) none (b₀ :: st) pos'] [] [] pos) (Z.tryx acc rej none u h) := by
  refine ⟨fun C m σ H D D' l ⟨X0, hX, hb0⟩ => ⟨X0, fun c fs σ' H' x => (hX c fs σ' H' x).imp (fun ⟨hc, k⟩ => ⟨hc, fun a dd n1 n2 ne => ?_⟩) id, (hb X.pn X.xe hp).mono { C with exc := X0 } m _ _ _ _ l hb0⟩, fun C gd => ?_⟩
  · exact (hsu c hc a { cls := .ref (L.ca c), dict := some dd, data := .fields #[] } dd [] ⟨rfl, rfl⟩ ⟨_, rfl⟩).mono { C with exc := fun _ _ _ _ => False } m _ _ _ _ (l.wipe _) (k a dd n1 n2 ne)
  · refine impS (ps_try_only hs hf hc gd.takes (tb := fun W D σ H => ∃ X0, (∀ c d σ H, liftW L X.K { C with exc := X0 } c d σ H → W c d σ H) ∧ liftS L X.K { C with exc := X0 } u D σ H)
      (ts := fun a cls d D σ H => ∃ c dd, cls = .ref (L.ca c) ∧ d = some dd ∧ c ∈ acc ∧ liftS L X.K { C with exc := fun _ _ _ _ => False } (h c a dd) D σ H)
      (fun W pn xe tk hpx => ⟨fun pins s σ H D I ⟨X0, hW, q⟩ => ((hb pn xe hpx).run { C with exc := X0 } (gd.toTr tk hW)).run pins s σ H D I q⟩)
      (fun a oe cls d pn hz hfl => ⟨fun pins s σ H D I ⟨c, dd, ec, ed, hcc, q⟩ => by
        subst ec ed
        exact ((hsu c hcc a oe dd pn hz hfl).run _ (gd.toSuite a ((a, oe) :: pn))).run pins s σ H D I q⟩)) fun D σ H ⟨σo, Ho, r, X0, hX, hb0⟩ => ?_
    refine ⟨X0, fun cls d σ' H' ⟨c, fs, σo', Ho', r', re, nd, x⟩ => ?_, σo, Ho, r, hb0⟩
    obtain ⟨rfl, dd, rfl, ex⟩ := re
    rcases hX c fs σo' Ho' x with ⟨hcA, k⟩ | ⟨hcR, kx⟩
    · refine ⟨true, hacc c hcA, fun _ a na => ⟨c, dd, rfl, rfl, hcA, σo', Z.upd Ho' dd (.xd fs), xd_told r' ex (nd dd rfl), ?_⟩, fun z => (nomatch z)⟩
      have nad : a ≠ dd := fun z => by rw [z, ex] at na; cases na
      exact k a dd (r'.hp.free na) (xfree_of r'.hp ex) nad
    · exact ⟨false, hrej c hcR, fun z => (nomatch z), fun _ => ⟨c, fs, σo', Ho', r', ⟨rfl, dd, rfl, ex⟩, nd, kx⟩⟩
/-- what an except clause names -/
structure HdOk (L : Lw) (K : PySem.W.Frag) (mg : Str → Option Value) (hn : String) (acc rej : List String) : Prop where
  ex : ∃ C : Addr, mg (Str.ofString hn) = some (.ref C) ∧ (∀ c ∈ acc, PySem.W.exmOne K (.ref (L.ca c)) (.ref C) = some true) ∧ ∀ c ∈ rej, PySem.W.exmOne K (.ref (L.ca c)) (.ref C) = some false
theorem exm_of {K : PySem.W.Frag} {C S : Addr} {b : Bool} (h1 : PySem.W.subIn K (.ref S) (.type "BaseException") = some true) (h2 : PySem.W.isClsIn K S = true) (h3 : PySem.W.typeIn K (.ref S) = some (.type "type")) (h4 : PySem.W.subIn K (.ref C) (.ref S) = some b) : PySem.W.exmOne K (.ref C) (.ref S) = some b := by
  have e1 : (PySem.W.subIn K (.ref S) (.type "BaseException") == some true) = true := by rw [h1]; rfl
  have e2 : ((PySem.W.clsIn K S).isSome && PySem.W.typeIn K (.ref S) == some (.type "type")) = true := by
    have z : (PySem.W.clsIn K S).isSome = true := h2
    rw [z, h3]
    rfl
  show (if (PySem.W.subIn K (.ref S) (.type "BaseException") == some true) = true then (if ((PySem.W.clsIn K S).isSome && PySem.W.typeIn K (.ref S) == some (.type "type")) = true then PySem.W.subIn K (.ref C) (.ref S) else none) else none) = some b
  rw [if_pos e1, if_pos e2]
  exact h4
theorem s_tryAH (i : Nat) (hn : String) (hd : HdOk L X.K X.mg hn acc rej) (hp : PassesOwn (model X.prog X.w) X.A X.env X.xe) (hN : X.N.Nodup)
    (hb : ∀ pn xe, PassesOwn (model X.prog X.w) X.A X.env xe → SB L (X.tr pn xe) body u)
    (hsu : ∀ c ∈ acc, ∀ (a : Addr) (oe : Obj) (dd : Addr) (pn : List (Addr × Obj)), Zc (.ref (L.ca c)) (some dd) oe → (∃ vs, oe.data = .fields vs) → SB L (X.suite a ((a, oe) :: pn)) (b₀ :: st) (h c a dd))
    (hx : x = Str.ofString hn := by rfl) (hg : Gl X x := by rfl) (hdb : (x == ("__debug__" : Str)) = false := by decide) (hi : X.N[i]? = some n := by rfl) (hln : X.env.kindOf n = some .local := by rfl) (hs : X.stack = X.env :: X.outer := by rfl) (hf : X.env.frame = some X.env.locals := by rfl) :
    SS L X (.Try body [.ExceptHandler (some (.Name x np)) (some n) (b₀ :: st) pos'] [] [] pos) (Z.tryx acc rej (some i) u h) := by
  obtain ⟨C, h1, h2, h3⟩ := hd.ex
  subst hx
  exact s_tryA i hp hN ⟨hg, hdb, .inl h1⟩ h2 h3 hb hsu hi hln hs hf
theorem s_tryOH (hn : String) (hd : HdOk L X.K X.mg hn acc rej) (hp : PassesOwn (model X.prog X.w) X.A X.env X.xe)
    (hb : ∀ pn xe, PassesOwn (model X.prog X.w) X.A X.env xe → SB L (X.tr pn xe) body u)
    (hsu : ∀ c ∈ acc, ∀ (a : Addr) (oe : Obj) (dd : Addr) (pn : List (Addr × Obj)), Zc (.ref (L.ca c)) (some dd) oe → (∃ vs, oe.data = .fields vs) → SB L (X.suite a ((a, oe) :: pn)) (b₀ :: st) (h c a dd))
    (hx : x = Str.ofString hn := by rfl) (hg : Gl X x := by rfl) (hdb : (x == ("__debug__" : Str)) = false := by decide) (hs : X.stack = X.env :: X.outer := by rfl) (hf : X.env.frame = some X.env.locals := by rfl) :
    SS L X (.Try body [.ExceptHandler (some (.Name x np)) none (b₀ :: st) pos'] [] [] pos) (Z.tryx acc rej none u h) := by
  obtain ⟨C, h1, h2, h3⟩ := hd.ex
  subst hx
  exact s_tryO hp ⟨hg, hdb, .inl h1⟩ h2 h3 hb hsu hs hf
/-- a field of the caught error -/
theorem s_efld {a : Addr} {oe : Obj} {dd : Addr} {pn : List (Addr × Obj)} {c : String} (f : String) (hz : Zc (.ref (L.ca c)) (some dd) oe) (hfl : ∃ vs, oe.data = .fields vs) (T : XfC X.K (L.ca c)) (hno : PySem.W.findIn X.K (.ref (L.ca c)) (Str.ofString f) = some none)
    (he : SE L (X.suite a ((a, oe) :: pn)) e te) (hx : x = Str.ofString f := by rfl) (hbs : attributeBase e x X.env (eval e X.env) = eval e X.env := by rfl) : SE L (X.suite a ((a, oe) :: pn)) (.Attribute e x pos) (Z.efld a dd te f) := by
  subst hx
  refine ⟨fun C m σ H Q Q' q h => he.mono C m _ _ _ _ (fun x H1 ⟨e1, fs, v, e2, e3, h1⟩ => ⟨e1, fs, v, e2, e3, q _ _ h1⟩) h, fun C gd => ?_⟩
  refine impE (pe_xf T hno hz hfl (he.run C gd) hbs) fun σ H Q ⟨σo, Ho, r, h⟩ => ?_
  refine ⟨σo, Ho, r, he.mono C gd.mono _ _ _ _ (fun y Ho1 h1 H1 r1 g1 => ?_) h⟩
  obtain ⟨rfl, fs, v, e2, e3, h1⟩ := h1
  exact ⟨rfl, rfl, dd, L.fs fs, L.v v, rfl, r1.hp dd _ e2, by rw [fs_look, e3]; rfl, h1 H1 r1 g1⟩
end
end ZS

/-! ZE: zip. -/
namespace ZS
open PySem PySem.Spec PyProof.Rows L2 RZ
section
variable {L : Lw} {X : Cx} {tg a b e : Expr} {t : Z.TA} {pos p : Pos} {K : PySem.W.Frag} {Ho : Z.Heap} {H : Hp}
theorem zip_at {xs ys : List Z.V} {i : Nat} {x y : Z.V} (h1 : xs[i]? = some x) (h2 : ys[i]? = some y) : (xs.zip ys)[i]? = some (x, y) := by
  rw [List.getElem?_zip_eq_some]
  exact ⟨h1, h2⟩
theorem ok_zl {q r : Nat} {xs ys : List Z.V} : ItOk2 L K (Itz K q r) (xs.zip ys) (fun H2 => Z.litems H2 (.ref q) = some xs ∧ Z.litems H2 (.ref r) = some ys) := by
  have sq : ∀ {Ho H q xs}, RH L K Ho H → Z.litems Ho (.ref q) = some xs → SqL K H q (L.vs xs) := fun r s => by
    obtain ⟨_, z, h⟩ := litems_rel r s
    cases z
    exact h
  refine ⟨fun i Ho H hi rh s => ?_, fun Ho H rh s => ?_, fun i Ho H x H' hi rh s y => ?_⟩
  · rw [List.length_zip] at hi
    obtain ⟨v, _, e⟩ := vs_at (L := L) (xs := xs) (i := i) (by omega)
    obtain ⟨w, _, e2⟩ := vs_at (L := L) (xs := ys) (i := i) (by omega)
    exact ⟨_, _, _, _, sq rh s.1, sq rh s.2, e, e2⟩
  · refine ⟨_, _, sq rh s.1, sq rh s.2, ?_⟩
    rw [vs_len, vs_len, List.length_zip]
    omega
  · obtain ⟨T, z, w, rfl, hT, rfl, y1, y2⟩ := y
    obtain ⟨v, e1, rfl⟩ := vs_get (y1 _ (sq rh s.1))
    obtain ⟨u, e2, rfl⟩ := vs_get (y2 _ (sq rh s.2))
    exact ⟨T, _, rfl, zip_at e1 e2, hT, rfl⟩
theorem ok_zt {q r : Nat} {xs ys : List Z.V} : ItOk2 L K (ItzT K q r) (xs.zip ys) (fun H2 => Z.titems H2 (.ref q) = some xs ∧ Z.titems H2 (.ref r) = some ys) := by
  have sq : ∀ {Ho H q xs}, RH L K Ho H → Z.titems Ho (.ref q) = some xs → SqT K H q (L.vs xs) := fun r s => by
    obtain ⟨_, z, h⟩ := titems_rel r s
    cases z
    exact h
  refine ⟨fun i Ho H hi rh s => ?_, fun Ho H rh s => ?_, fun i Ho H x H' hi rh s y => ?_⟩
  · rw [List.length_zip] at hi
    obtain ⟨v, _, e⟩ := vs_at (L := L) (xs := xs) (i := i) (by omega)
    obtain ⟨w, _, e2⟩ := vs_at (L := L) (xs := ys) (i := i) (by omega)
    exact ⟨_, _, _, _, sq rh s.1, sq rh s.2, e, e2⟩
  · refine ⟨_, _, sq rh s.1, sq rh s.2, ?_⟩
    rw [vs_len, vs_len, List.length_zip]
    omega
  · obtain ⟨T, z, w, rfl, hT, rfl, y1, y2⟩ := y
    obtain ⟨v, e1, rfl⟩ := vs_get (y1 _ (sq rh s.1))
    obtain ⟨u, e2, rfl⟩ := vs_get (y2 _ (sq rh s.2))
    exact ⟨T, _, rfl, zip_at e1 e2, hT, rfl⟩
theorem s_izip {elts : List Expr} {kk : Nat} {tpos p2 : Pos} (hg : Gl X "zip") (hm : X.mg "zip" = none) (ha : SA L X [a, b] t) (hs : starEach [a, b] X.env = (false, eval a X.env) :: starEach [b] X.env := by rfl) (hpl : (backTo pos (starEach [b] X.env)).any (·.1) = false := by rfl) :
    SI2 L X (.Tuple elts kk tpos) (.Call (.Name "zip" p2) [a, b] [] pos) (Z.izip t) := by
  refine ⟨fun C m σ H Q Q' q h => ha.mono C m _ _ _ _ (fun vs H1 h1 => ?_) h, fun C gd => ?_⟩
  · obtain ⟨x, y, e, h1⟩ := h1
    refine ⟨x, y, e, ?_⟩
    rcases h1 with ⟨xs, ys, e1, e2, h1⟩ | ⟨xs, ys, e1, e2, h1⟩
    · exact .inl ⟨xs, ys, e1, e2, q _ _ _ h1⟩
    · exact .inr ⟨xs, ys, e1, e2, q _ _ _ h1⟩
  · refine impI (pi_zipA hg hm (ha.run C gd) hs hpl) fun σ H W ⟨σo, Ho, r, h⟩ => ?_
    refine ⟨σo, Ho, r, ha.mono C gd.mono _ _ _ _ (fun vs Ho1 h1 H1 r1 g1 => ?_) h⟩
    obtain ⟨x, y, rfl, h1⟩ := h1
    rcases h1 with ⟨xs, ys, e1, e2, h1⟩ | ⟨xs, ys, e1, e2, h1⟩
    · obtain ⟨q, rfl, sq⟩ := litems_rel r1.hp e1
      obtain ⟨q2, rfl, sq2⟩ := litems_rel r1.hp e2
      exact ⟨q, q2, _, _, rfl, .inl ⟨sq, sq2, h1 _ H1 r1 g1 ok_zl⟩⟩
    · obtain ⟨q, rfl, sq⟩ := titems_rel r1.hp e1
      obtain ⟨q2, rfl, sq2⟩ := titems_rel r1.hp e2
      exact ⟨q, q2, _, _, rfl, .inr ⟨sq, sq2, h1 _ H1 r1 g1 ok_zt⟩⟩
theorem nu_max3 (i j k : Int) : nuMax3 (.int i) (.int j) (.int k) = some (.int (max (max i j) k)) := by
  have two : ∀ a b : Int, nuMax2 (.int a) (.int b) = some (.int (max a b)) := fun a b => by
    show some (if decide (a < b) = true then V.int b else V.int a) = _
    by_cases h : a < b
    · rw [if_pos (by simpa using h), Int.max_eq_right (by omega)]
    · rw [if_neg (by simpa using h), Int.max_eq_left (by omega)]
  unfold nuMax3
  rw [two]
  exact two _ _
theorem m_max3 : Mono1 Z.bMax3 := fun vs H Q Q' q ⟨i, j, k, e, h⟩ => ⟨i, j, k, e, q _ _ h⟩
theorem c_max3 (hc : X.calm = true) : CallR X (.builtin "max") (lift1 L X.K Z.bMax3) := callr (call_max3Nu hc) fun vo Ho H Q rh h => by
  obtain ⟨i, j, k, rfl, h⟩ := h
  exact ⟨_, _, _, _, rfl, nu_max3 i j k, h H rh (Gr.refl _ _)⟩
theorem nu_min3 (i j k : Int) : nuMin3 (.int i) (.int j) (.int k) = some (.int (min (min i j) k)) := by
  have two : ∀ a b : Int, nuMin2 (.int a) (.int b) = some (.int (min a b)) := fun a b => by
    show some (if decide (b < a) = true then V.int b else V.int a) = _
    by_cases h : b < a
    · rw [if_pos (by simpa using h), Int.min_eq_right (by omega)]
    · rw [if_neg (by simpa using h), Int.min_eq_left (by omega)]
  unfold nuMin3
  rw [two]
  exact two _ _
theorem m_min3 : Mono1 Z.bMin3 := fun vs H Q Q' q ⟨i, j, k, e, h⟩ => ⟨i, j, k, e, q _ _ h⟩
theorem c_min3 (hc : X.calm = true) : CallR X (.builtin "min") (lift1 L X.K Z.bMin3) := callr (call_min3Nu hc) fun vo Ho H Q rh h => by
  obtain ⟨i, j, k, rfl, h⟩ := h
  exact ⟨_, _, _, _, rfl, nu_min3 i j k, h H rh (Gr.refl _ _)⟩
section
variable {es : List Expr}
theorem b_max3 (hc : X.calm = true) (hm : X.mg "max" = none) (ha : SA L X (e :: es) t) (hg : Gl X "max" := by rfl) (he : starEach (e :: es) X.env = (false, eval e X.env) :: starEach es X.env := by rfl) (hpl : (backTo pos (starEach es X.env)).any (·.1) = false := by rfl) : SE L X (.Call (.Name "max" p) (e :: es) [] pos) (Z.blt Z.bMax3 t) :=
  s_blt m_max3 (fun C g => c_max3 hc) hg hm boot_max ha (by decide) (by decide) he hpl
theorem b_min3 (hc : X.calm = true) (hm : X.mg "min" = none) (ha : SA L X (e :: es) t) (hg : Gl X "min" := by rfl) (he : starEach (e :: es) X.env = (false, eval e X.env) :: starEach es X.env := by rfl) (hpl : (backTo pos (starEach es X.env)).any (·.1) = false := by rfl) : SE L X (.Call (.Name "min" p) (e :: es) [] pos) (Z.blt Z.bMin3 t) :=
  s_blt m_min3 (fun C g => c_min3 hc) hg hm boot_min ha (by decide) (by decide) he hpl
end
end
end ZS

/-! ZF: try with several except clauses, each with a name or without. -/
namespace ZS
open PySem PySem.Spec PyProof.Rows L2
/-- a clause: its class, the slot of its name, what its suite does -/
abbrev Clause := Value × Option Nat × (Addr → Value → Option Addr → TS)
def dropSlot (i : Option Nat) (σ : St) : St := match i with | none => σ | some j => σ.set j none
def holdSlot (i : Option Nat) (a : Addr) (σ : St) : St := match i with | none => σ | some j => σ.set j (some (.ref a))
def endsBy (i : Option Nat) (D : Ends) : Ends := ⟨fun σ H => D.nx (dropSlot i σ) H, D.rt, fun σ H => D.bk (dropSlot i σ) H, fun σ H => D.ct (dropSlot i σ) H⟩
/-- what the clauses, one behind the other, ask of an error -/
def wishes (K : PySem.W.Frag) (W : WX) (D : Ends) : List Clause → WX
  | [] => W
  | (cl, i, ts) :: more => fun cls d σ H => ∃ yes, PySem.W.exmOne K cls cl = some yes ∧
      (yes = true → ∀ a, H a = none → ts a cls d (endsBy i D) (holdSlot i a σ) H) ∧ (yes = false → wishes K W D more cls d σ H)
section
variable {X : Cx}
def SuiteOk (X : Cx) (suite : List Stmt) (ts : Addr → Value → Option Addr → TS) : Prop :=
  ∀ (a : Addr) (o : Obj) (cls : Value) (d : Option Addr) (pn : List (Addr × Obj)), Zc cls d o → (∃ vs, o.data = .fields vs) → PSs (X.suite a ((a, o) :: pn)) suite (ts a cls d)
inductive Clauses (X : Cx) : List ExceptHandler → List Clause → Prop
  | nil : Clauses X [] []
  | plain {x : Str} {cl : Value} {ts : Addr → Value → Option Addr → TS} {b₀ : Stmt} {st : List Stmt} {p q : Pos} {hds : List ExceptHandler} {l : List Clause} (hc : Names X x cl) (ok : SuiteOk X (b₀ :: st) ts) (r : Clauses X hds l) :
      Clauses X (.ExceptHandler (some (.Name x p)) none (b₀ :: st) q :: hds) ((cl, none, ts) :: l)
  | named {x n : Str} {i : Nat} {cl : Value} {ts : Addr → Value → Option Addr → TS} {b₀ : Stmt} {st : List Stmt} {p q : Pos} {hds : List ExceptHandler} {l : List Clause} (hc : Names X x cl) (hi : X.N[i]? = some n) (hl : X.env.kindOf n = some .local)
      (ok : SuiteOk X (b₀ :: st) ts) (r : Clauses X hds l) : Clauses X (.ExceptHandler (some (.Name x p)) (some n) (b₀ :: st) q :: hds) ((cl, some i, ts) :: l)
variable {body : List Stmt} {h₀ : ExceptHandler} {hds : List ExceptHandler} {l : List Clause} {pos : Pos} {tb : WX → TS} {W : WX}
theorem ps_clauses (hs : X.stack = X.env :: X.outer) (hf : X.env.frame = some X.env.locals) (hN : X.N.Nodup) (tk : Takes X W)
    (hb : ∀ (V : WX) (pn : List (Addr × Obj)) (xe : Value → Shared → Prop), Takes (X.tr pn xe) V → PassesOwn (model X.prog X.w) X.A X.env xe → PSs (X.tr pn xe) body (tb V))
    (hk : Clauses X (h₀ :: hds) l) : PS X (.Try body (h₀ :: hds) [] [] pos) fun D σ H => tb (wishes X.K W D l) D σ H := by
  constructor
  intro pins s σ H D I h
  have ok := I.ok
  have frames : X.A.frames = some (X.env :: X.outer) := ok.frames.trans (congrArg some hs)
  apply wpAny_Try_except
  have run := (hb (wishes X.K W D l) (X.pn ++ pins) (fun e t => wpAny (model X.prog X.w) X.A (noteFrame e X.env)
    (fun _ t2 => wpAny (model X.prog X.w) X.A (setFlight e none) (fun _ t3 => wpAny (model X.prog X.w) X.A (handleBy e X.env (h₀ :: hds)) (SP X pins D) X.xe t3) X.xe t2) X.xe t)
    (fun u s' caught => ?_) PassesOwn.looking).run [] s σ H D (I.toTry _) h
  · refine wpAny_mono run (fun fl s1 hsp => ?_) (fun _ _ z => z)
    cases fl with
    | next => exact hsp.elim fun σ1 z => z.elim fun H1 z => wpAny_execs_nil ⟨σ1, H1, z.1.ofTry ok, z.2⟩
    | brk => exact hsp.elim fun σ1 z => z.elim fun H1 z => ⟨σ1, H1, z.1.ofTry ok, z.2⟩
    | cont => exact hsp.elim fun σ1 z => z.elim fun H1 z => ⟨σ1, H1, z.1.ofTry ok, z.2⟩
    | ret u =>
      obtain ⟨v, σ1, H1, J1, rv, q⟩ := hsp
      exact ⟨v, σ1, H1, J1.ofTry ok, rv, q⟩
  · obtain ⟨a, B, t0, pins', σ1, H1, cls, d, rfl, Jt, nb, up, sky, na, os, ag, wish⟩ := caught
    have J := Jt.ofTry ok
    have sky2 : Sky B (X.env :: X.outer) a (Zc cls d) X.env.locals s'.heap := hs ▸ sky
    show wpAny (model X.prog X.w) X.A (noteFrame (.ref a) X.env) _ _ _
    refine Sky.land Zc.steady frames hf sky2 fun hp fl up2 => ?_
    have J2 : Inv X pins σ1 H1 { s' with heap := hp } := J.landed nb fl.1 (up.trans up2) os ag
    obtain ⟨o, vs, eo, zo, dat⟩ := fl.there
    have away : a ∉ frs (X.env :: X.outer) := fun hm => by
      obtain ⟨w1, o2, e2, no⟩ := fl.2.2.1.mem hm
      have z := eo.symm.trans e2
      cases z
      exact no _ dat
    have nl : a ≠ X.env.locals := fun z => away (List.mem_filterMap.mpr ⟨X.env, List.mem_cons_self, hf.trans (by rw [z])⟩)
    have nf : a ∉ X.fs := fun hm => (List.mem_filterMap.mp hm).elim fun e z => away (List.mem_filterMap.mpr ⟨e, List.mem_cons_of_mem _ z.1, z.2⟩)
    have S2 := J2.suite eo dat na nl nf
    suffices walk : ∀ {hs2 : List ExceptHandler} {l2 : List Clause}, Clauses X hs2 l2 → wishes X.K W D l2 cls d σ1 H1 → wpAny (model X.prog X.w) X.A (handleBy (.ref a) X.env hs2) (SP X pins D) X.xe { s' with heap := hp } from walk hk wish
    have ask : ∀ {x : Str} {cl : Value} {p : Pos} {Q E : Value → Shared → Prop}, Names X x cl → Q cl { s' with heap := hp } → wpAny (model X.prog X.w) (X.A.mark (some (.ref a))) (eval (.Name x p) X.env) Q E { s' with heap := hp } := fun hc q => by
      obtain ⟨g, nd, m | ⟨m, v, nn⟩⟩ := hc
      · exact ld_glob (X := X.suite a ((a, o) :: (X.pn ++ pins))) S2 g m q nd
      · exact ld_blt (X := X.suite a ((a, o) :: (X.pn ++ pins))) S2 g m v q nn nd
    have look : PySem.W.Looks (model X.prog X.w) hp (typeOf (.ref a)) cls := fun _ _ _ _ k q => wpAny_typeOf_ref (k _ _ eo) (zo.1.symm ▸ q)
    intro hs2 l2 hk2
    induction hk2 with
    | nil =>
      intro out
      apply wpAny_handleBy_nil
      obtain ⟨_, _, _, o3, vs3, T, oT, ts3, e3, _, d3, f3, _⟩ := id fl
      unfold PySem.passOn
      apply wpAny_bind
      refine wpAny_field e3 d3 f3 ?_
      rw [if_neg (show ¬ ((Value.ref T == Value.none) = true) by simp)]
      have leave : wpAny (model X.prog X.w) X.A (setFlight (.ref a) X.env.frame) (fun _ t4 => wpAny (model X.prog X.w) X.A (throw (.ref a) : Sem Flow) (SP X pins D) X.xe t4) X.xe { s' with heap := hp } := by
        rw [hf]
        refine HandSPX.setFlight_upZ fl fun hq hz up3 => wpAny_throw (tk _ _ ⟨a, B, t0, pins, σ1, H1, cls, d, rfl, J, nb, (up.trans up2).trans up3, .inr (.inr (hs.symm ▸ hz)), na, os, ag, out⟩)
      first
        | exact wpAny_bind (wpAny_pure (wpAny_bind leave))
        | exact wpAny_bind leave
    | @plain x cl ts b₀ st p q hds l hc sok r ih =>
      rintro ⟨yes, is, hy, hn⟩
      refine wpAny_handleBy_cons (codeAny_handlers_test (ask hc ((PySem.W.exm_one (M := model X.prog X.w) J2.kIn look is).here ?_))) (fun z => nomatch z)
      cases yes with
      | false => exact ih (hn rfl)
      | true =>
        apply codeAny_handlers_suite
        refine HandSPX.lands_againZ fl fun hq fl4 up4 => ?_
        obtain ⟨o4, vs4, e4, z4, d4⟩ := fl4.there
        have J4 : Inv X pins σ1 H1 { s' with heap := hq } := J.landed nb fl4.1 ((up.trans up2).trans up4) os ag
        have S4 := J4.suite e4 d4 na nl nf
        refine wpAny_mono ((sok a o4 cls d (X.pn ++ pins) z4 ⟨_, d4⟩).run [] _ _ H1 _ S4 (hy rfl a na)) (fun fw s6 hsp => ?_) (fun _ _ z => z.elim)
        cases fw with
        | ret u =>
          obtain ⟨v6, σ6, H6, S6, r6, q6⟩ := hsp
          exact ⟨v6, σ6, H6, S6.unsuite ok, r6, q6⟩
        | next => exact hsp.elim fun σ6 z => z.elim fun H6 z => ⟨σ6, H6, z.1.unsuite ok, z.2⟩
        | brk => exact hsp.elim fun σ6 z => z.elim fun H6 z => ⟨σ6, H6, z.1.unsuite ok, z.2⟩
        | cont => exact hsp.elim fun σ6 z => z.elim fun H6 z => ⟨σ6, H6, z.1.unsuite ok, z.2⟩
    | @named x n i cl ts b₀ st p q hds l hc hi hl sok r ih =>
      rintro ⟨yes, is, hy, hn⟩
      refine wpAny_handleBy_cons (codeAny_handlers_test (ask hc ((PySem.W.exm_one (M := model X.prog X.w) J2.kIn look is).here ?_))) (fun z => nomatch z)
      cases yes with
      | false => exact ih (hn rfl)
      | true =>
        apply codeAny_handlers_suite_as
        refine HandSPX.lands_againZ fl fun hq fl4 up4 => ?_
        obtain ⟨o4, vs4, e4, z4, d4⟩ := fl4.there
        have J4 : Inv X pins σ1 H1 { s' with heap := hq } := J.landed nb fl4.1 ((up.trans up2).trans up4) os ag
        have S4 := J4.suite e4 d4 na nl nf
        refine store_ok (X := X.suite a ((a, o4) :: (X.pn ++ pins))) (v := .ref a) S4 hN hi (.inl hl) rfl (fun s5 S5 => ?_) (.inr hl)
        refine wpAny_mono ((sok a o4 cls d (X.pn ++ pins) z4 ⟨_, d4⟩).run [] s5 _ H1 _ S5 (hy rfl a na)) (fun fw s6 hsp => ?_) (fun _ _ z => z.elim)
        cases fw with
        | ret u =>
          obtain ⟨v6, σ6, H6, S6, r6, q6⟩ := hsp
          exact gone_ok (S6.unsuite ok) hN hi hl fun s7 J7 => ⟨v6, _, H6, J7, r6, q6⟩
        | next => exact hsp.elim fun σ6 z => z.elim fun H6 z => gone_ok (z.1.unsuite ok) hN hi hl fun s7 J7 => ⟨_, H6, J7, z.2⟩
        | brk => exact hsp.elim fun σ6 z => z.elim fun H6 z => gone_ok (z.1.unsuite ok) hN hi hl fun s7 J7 => ⟨_, H6, J7, z.2⟩
        | cont => exact hsp.elim fun σ6 z => z.elim fun H6 z => gone_ok (z.1.unsuite ok) hN hi hl fun s7 J7 => ⟨_, H6, J7, z.2⟩
end
section
variable {L : Lw} {X : Cx}
/-- a suite, class by class -/
def SuitesOk (L : Lw) (X : Cx) (acc : List String) (st : List Stmt) (h : String → Nat → Nat → Z.TS) : Prop :=
  ∀ c ∈ acc, ∀ (a : Addr) (oe : Obj) (dd : Addr) (pn : List (Addr × Obj)), Zc (.ref (L.ca c)) (some dd) oe → (∃ vs, oe.data = .fields vs) → SB L (X.suite a ((a, oe) :: pn)) st (h c a dd)
inductive ZCl (L : Lw) (X : Cx) : List ExceptHandler → List Z.Cl → Prop
  | nil : ZCl L X [] []
  | plain {x : Str} {acc rej : List String} {h : String → Nat → Nat → Z.TS} {b₀ : Stmt} {st : List Stmt} {p q : Pos} {hds : List ExceptHandler} {l : List Z.Cl} (hn : String) (hd : HdOk L X.K X.mg hn acc rej) (ok : SuitesOk L X acc (b₀ :: st) h) (r : ZCl L X hds l)
      (hx : x = Str.ofString hn := by rfl) (hg : Gl X x := by rfl) (hdb : (x == ("__debug__" : Str)) = false := by decide) : ZCl L X (.ExceptHandler (some (.Name x p)) none (b₀ :: st) q :: hds) (⟨acc, rej, none, h⟩ :: l)
  | named {x n : Str} {acc rej : List String} {h : String → Nat → Nat → Z.TS} {b₀ : Stmt} {st : List Stmt} {p q : Pos} {hds : List ExceptHandler} {l : List Z.Cl} (i : Nat) (hn : String) (hd : HdOk L X.K X.mg hn acc rej) (ok : SuitesOk L X acc (b₀ :: st) h) (r : ZCl L X hds l)
      (hx : x = Str.ofString hn := by rfl) (hg : Gl X x := by rfl) (hdb : (x == ("__debug__" : Str)) = false := by decide) (hi : X.N[i]? = some n := by rfl) (hl : X.env.kindOf n = some .local := by rfl) : ZCl L X (.ExceptHandler (some (.Name x p)) (some n) (b₀ :: st) q :: hds) (⟨acc, rej, some i, h⟩ :: l)
theorem Le.wipe2 {D D' : Z.Ends} (l : Le D D') (i : Option Nat) : Le (D.wipe i) (D'.wipe i) := ⟨fun σ H h => l.nx _ _ h, l.rt, fun σ H h => l.bk _ _ h, fun σ H h => l.ct _ _ h⟩
theorem disp_mono {hds : List ExceptHandler} {ks : List Z.Cl} (hk : ZCl L X hds ks) {C : Z.Cx} (m : Cmono C) {D D' : Z.Ends} (l : Le D D') : ∀ {c fs σ H}, Z.disp C D ks c fs σ H → Z.disp C D' ks c fs σ H := by
  induction hk with
  | nil => exact fun h => h
  | plain hn hd ok r hx hg hdb ih =>
    rintro c fs σ H (⟨hc, k⟩ | ⟨hc, k⟩)
    · exact .inl ⟨hc, fun a dd n1 n2 ne => (ok c hc a { cls := .ref (L.ca c), dict := some dd, data := .fields #[] } dd [] ⟨rfl, rfl⟩ ⟨_, rfl⟩).mono { C with exc := fun _ _ _ _ => False } m _ _ _ _ (l.wipe2 _) (k a dd n1 n2 ne)⟩
    · exact .inr ⟨hc, ih k⟩
  | named i hn hd ok r hx hg hdb hi hl ih =>
    rintro c fs σ H (⟨hc, k⟩ | ⟨hc, k⟩)
    · exact .inl ⟨hc, fun a dd n1 n2 ne => (ok c hc a { cls := .ref (L.ca c), dict := some dd, data := .fields #[] } dd [] ⟨rfl, rfl⟩ ⟨_, rfl⟩).mono { C with exc := fun _ _ _ _ => False } m _ _ _ _ (l.wipe2 _) (k a dd n1 n2 ne)⟩
    · exact .inr ⟨hc, ih k⟩
/-- a suite's wish -/
def suiteT (L : Lw) (K : PySem.W.Frag) (C : Z.Cx) (k : Z.Cl) : Addr → Value → Option Addr → TS := fun a cls d D σ H => ∃ c dd, cls = .ref (L.ca c) ∧ d = some dd ∧ c ∈ k.acc ∧ liftS L K { C with exc := fun _ _ _ _ => False } (k.h c a dd) D σ H
theorem suite_ok {C : Z.Cx} (gd : Good L X C) {k : Z.Cl} {st : List Stmt} (ok : SuitesOk L X k.acc st k.h) : SuiteOk X st (suiteT L X.K C k) := fun a oe cls d pn hz hfl => ⟨fun pins s σ H D I ⟨c, dd, ec, ed, hcc, q⟩ => by
  subst ec ed
  exact ((ok c hcc a oe dd pn hz hfl).run _ (gd.toSuite a ((a, oe) :: pn))).run pins s σ H D I q⟩
theorem disp_wish {hds : List ExceptHandler} {ks : List Z.Cl} (hk : ZCl L X hds ks) {C : Z.Cx} (gd : Good L X C) :
    ∃ l : List Clause, Clauses X hds l ∧ ∀ {Ho0 : Z.Heap} {H0 : Hp} {D : Ends} {c : String} {fs : List (String × Z.V)} {σo : Z.St} {Ho : Z.Heap} {σ : St} {H : Hp} {dd : Addr}, R L X.K σo Ho σ H → H dd = some (.xd (L.fs fs)) → L.H0 dd = none →
      Z.disp C (ends L X.K Ho0 H0 D) ks c fs σo Ho → wishes X.K (liftW L X.K C) D l (.ref (L.ca c)) (some dd) σ H := by
  induction hk with
  | nil => exact ⟨[], .nil, fun {_ _ _ _ _ _ _ _ _ _} r ex nd h => ⟨_, _, _, _, r, ⟨rfl, _, rfl, ex⟩, fun x e => by injection e with e; exact e ▸ nd, h⟩⟩
  | @plain x acc rej h b₀ st p q hds l hn hd ok r hx hg hdb ih =>
    obtain ⟨l2, k2, f⟩ := ih
    obtain ⟨S, h1, h2, h3⟩ := hd.ex
    subst hx
    refine ⟨(.ref S, none, suiteT L X.K C ⟨acc, rej, none, h⟩) :: l2, .plain ⟨hg, hdb, .inl h1⟩ (suite_ok gd ok) k2, fun {Ho0 H0 D c fs σo Ho σ H dd} r ex nd w => ?_⟩
    rcases w with ⟨hc, k⟩ | ⟨hc, k⟩
    · refine ⟨true, h2 c hc, fun _ a na => ⟨c, dd, rfl, rfl, hc, σo, Z.upd Ho dd (.xd fs), xd_told r ex nd, ?_⟩, fun z => (nomatch z)⟩
      have nad : a ≠ dd := fun z => by rw [z, ex] at na; cases na
      exact (ok c hc a { cls := .ref (L.ca c), dict := some dd, data := .fields #[] } dd [] ⟨rfl, rfl⟩ ⟨_, rfl⟩).mono { C with exc := fun _ _ _ _ => False } gd.mono _ _ ((ends L X.K Ho0 H0 D).wipe none) _
        ⟨fun σ1 H1 h1 => h1, fun v H1 h1 => h1, fun σ1 H1 h1 => h1, fun σ1 H1 h1 => h1⟩ (k a dd (r.hp.free na) (xfree_of r.hp ex) nad)
    · exact ⟨false, h3 c hc, fun z => (nomatch z), fun _ => f r ex nd k⟩
  | @named x n acc rej h b₀ st p q hds l i hn hd ok r hx hg hdb hi hl ih =>
    obtain ⟨l2, k2, f⟩ := ih
    obtain ⟨S, h1, h2, h3⟩ := hd.ex
    subst hx
    refine ⟨(.ref S, some i, suiteT L X.K C ⟨acc, rej, some i, h⟩) :: l2, .named ⟨hg, hdb, .inl h1⟩ hi hl (suite_ok gd ok) k2, fun {Ho0 H0 D c fs σo Ho σ H dd} r ex nd w => ?_⟩
    rcases w with ⟨hc, k⟩ | ⟨hc, k⟩
    · refine ⟨true, h2 c hc, fun _ a na => ⟨c, dd, rfl, rfl, hc, Z.put σo i (.ref a), Z.upd Ho dd (.xd fs), xd_told (r.put i (.ref a)) ex nd, ?_⟩, fun z => (nomatch z)⟩
      have nad : a ≠ dd := fun z => by rw [z, ex] at na; cases na
      exact (ok c hc a { cls := .ref (L.ca c), dict := some dd, data := .fields #[] } dd [] ⟨rfl, rfl⟩ ⟨_, rfl⟩).mono { C with exc := fun _ _ _ _ => False } gd.mono _ _ ((ends L X.K Ho0 H0 D).wipe (some i)) _
        ⟨fun σ1 H1 h1 σ2 H2 r2 g2 => h1 _ H2 (r2.set_none i) g2, fun v H1 h1 => h1, fun σ1 H1 h1 σ2 H2 r2 g2 => h1 _ H2 (r2.set_none i) g2, fun σ1 H1 h1 σ2 H2 r2 g2 => h1 _ H2 (r2.set_none i) g2⟩ (k a dd (r.hp.free na) (xfree_of r.hp ex) nad)
    · exact ⟨false, h3 c hc, fun z => (nomatch z), fun _ => f r ex nd k⟩
variable {body : List Stmt} {h₀ : ExceptHandler} {hds : List ExceptHandler} {ks : List Z.Cl} {pos : Pos} {u : Z.TS}
theorem s_trym (hp : PassesOwn (model X.prog X.w) X.A X.env X.xe) (hN : X.N.Nodup) (hb : ∀ pn xe, PassesOwn (model X.prog X.w) X.A X.env xe → SB L (X.tr pn xe) body u) (hk : ZCl L X (h₀ :: hds) ks)
    (hs : X.stack = X.env :: X.outer := by rfl) (hf : X.env.frame = some X.env.locals := by rfl) : SS L X (.Try body (h₀ :: hds) [] [] pos) (Z.trym ks u) := by
  refine ⟨fun C m σ H D D' l ⟨X0, hX, hb0⟩ => ⟨X0, fun c fs σ' H' x => disp_mono hk m l (hX c fs σ' H' x), (hb X.pn X.xe hp).mono { C with exc := X0 } m _ _ _ _ l hb0⟩, fun C gd => ?_⟩
  obtain ⟨l, k2, f⟩ := disp_wish hk gd
  refine impS (ps_clauses hs hf hN gd.takes (tb := fun W D σ H => ∃ X0, (∀ c d σ H, liftW L X.K { C with exc := X0 } c d σ H → W c d σ H) ∧ liftS L X.K { C with exc := X0 } u D σ H)
    (fun W pn xe tk hpx => ⟨fun pins s σ H D I ⟨X0, hW, q⟩ => ((hb pn xe hpx).run { C with exc := X0 } (gd.toTr tk hW)).run pins s σ H D I q⟩) k2) fun D σ H ⟨σo, Ho, r, X0, hX, hb0⟩ => ?_
  refine ⟨X0, fun cls d σ' H' ⟨c, fs, σo', Ho', r', re, nd, x⟩ => ?_, σo, Ho, r, hb0⟩
  obtain ⟨rfl, dd, rfl, ex⟩ := re
  exact f r' ex (nd dd rfl) (hX c fs σo' Ho' x)
end
end ZS

local macro_rules | `(tactic| walk_at "z") => `(tactic| simp [Z.seq, Z.skip, Z.asg, Z.asg2, Z.par, Z.gname, Z.gcons, Z.gnil, Z.gtup, Z.gsub, Z.put, Z.get, Z.var, Z.cst, Z.bin, Z.neg, Z.cmp, Z.chain, Z.ife, Z.orv, Z.andv, Z.notv, Z.tt, Z.tand, Z.tor, Z.tnot, Z.acons, Z.anil, Z.akw, Z.lstl, Z.tupl, Z.blt, Z.bLen, Z.bAbs, Z.bMax2, Z.bMin2, Z.bMax3, Z.bMin3, Z.bList, Z.bTuple, Z.callf, Z.perm, Z.ret, Z.retN, Z.ifs, Z.drop, Z.ix, Z.pno, Z.pso, Z.slc, Z.isi, Z.isTy, Z.subT, Z.brk, Z.cnt, Z.aug, Z.tyes, Z.Cx.calm, Z.wipe, Z.start, Z.opr_add_ii, Z.opr_add_rr, Z.opr_sub_ii, Z.opr_mul_ii, Z.opr_mul_ri, Z.opr_fdiv, Z.opr_mod, Z.opr_pow, Z.opr_shl, Z.opr_shr, Z.opr_band, Z.bitl, Z.dnew, Z.cmpr_eq, Z.cmpr_ne, Z.cmpr_lt, Z.cmpr_ltT, Z.cmpr_le, Z.cmpr_gt, Z.cmpr_ge, Z.cmpr_is, Z.cmpr_isB, Z.cmpr_isnot, Z.cmpr_isnotB, Z.cmpr_in, Z.cmpr_notin, Z.items_r, Z.litems_r, Z.titems_r, Z.truth_r, Z.tyOf_r, Z.itemsO_l, Z.itemsO_t, Z.itemsO_s, Z.litemsO_l, Z.litemsO_t, Z.litemsO_s, Z.titemsO_l, Z.titemsO_t, Z.titemsO_s, Z.truthO_l, Z.truthO_t, Z.truthO_s, Z.truth_b, Z.truth_n, Z.truth_i, Z.tyO_l, Z.tyO_t, Z.tyO_s, Z.tyO_d, Z.tyOf_b, Z.tyOf_n, Z.tyOf_i, Z.tyOf_st, Z.bInt_i, Z.bInt_b, Z.bRepr_b, Z.bRepr_i, Z.augo_t, Z.augo_f, Z.upd_same, Z.eqD_int, Z.eqD_bl, Z.eqD_str, and_assoc, Z.atI_lt, Z.atI_neg, Z.ixN_lt, Z.ixN_neg, Z.upd_ne, *])
local macro_rules | `(tactic| walk_at "z0") => `(tactic| simp [Z.seq, Z.skip, Z.asg, Z.asg2, Z.par, Z.gname, Z.gcons, Z.gnil, Z.gtup, Z.gsub, Z.put, Z.get, Z.var, Z.cst, Z.bin, Z.neg, Z.cmp, Z.chain, Z.ife, Z.orv, Z.andv, Z.notv, Z.tt, Z.tand, Z.tor, Z.tnot, Z.acons, Z.anil, Z.akw, Z.lstl, Z.tupl, Z.blt, Z.bLen, Z.bAbs, Z.bMax2, Z.bMin2, Z.bMax3, Z.bMin3, Z.bList, Z.bTuple, Z.callf, Z.perm, Z.ret, Z.retN, Z.ifs, Z.drop, Z.ix, Z.pno, Z.pso, Z.slc, Z.isi, Z.isTy, Z.subT, Z.brk, Z.cnt, Z.aug, Z.tyes, Z.Cx.calm, Z.wipe, Z.start, Z.opr_add_ii, Z.opr_add_rr, Z.opr_sub_ii, Z.opr_mul_ii, Z.opr_mul_ri, Z.opr_fdiv, Z.opr_mod, Z.opr_pow, Z.opr_shl, Z.opr_shr, Z.opr_band, Z.bitl, Z.dnew, Z.cmpr_eq, Z.cmpr_ne, Z.cmpr_lt, Z.cmpr_ltT, Z.cmpr_le, Z.cmpr_gt, Z.cmpr_ge, Z.cmpr_is, Z.cmpr_isB, Z.cmpr_isnot, Z.cmpr_isnotB, Z.cmpr_in, Z.cmpr_notin, Z.items_r, Z.litems_r, Z.titems_r, Z.truth_r, Z.tyOf_r, Z.itemsO_l, Z.itemsO_t, Z.itemsO_s, Z.litemsO_l, Z.litemsO_t, Z.litemsO_s, Z.titemsO_l, Z.titemsO_t, Z.titemsO_s, Z.truthO_l, Z.truthO_t, Z.truthO_s, Z.truth_b, Z.truth_n, Z.truth_i, Z.tyO_l, Z.tyO_t, Z.tyO_s, Z.tyO_d, Z.tyOf_b, Z.tyOf_n, Z.tyOf_i, Z.tyOf_st, Z.bInt_i, Z.bInt_b, Z.bRepr_b, Z.bRepr_i, Z.augo_t, Z.augo_f, Z.upd_same, Z.eqD_int, Z.eqD_bl, Z.eqD_str, and_assoc])

/-! ZD: the laws' own draws. -/
namespace Z
/-! ### family one: a list of three -/
def d_mixed : TS :=
  (Z.seq (Z.asg (Z.gname 2) (Z.bin .mod (Z.blt Z.bInt (Z.acons (Z.bin .mul (Z.bin .add (Z.bin .mod (Z.blt Z.bInt (Z.acons (Z.var 0) Z.anil)) (Z.cst (.int 2147483646))) (Z.cst (.int 1))) (Z.bin .add (Z.bin .mul (Z.var 1) (Z.cst (.int 7919))) (Z.cst (.int 104729)))) Z.anil)) (Z.cst (.int 2147483647))))
  (Z.seq (Z.asg (Z.gname 2) (Z.bin .mod (Z.blt Z.bInt (Z.acons (Z.bin .mul (Z.bin .add (Z.var 2) (Z.bin .mul (Z.bin .mod (Z.blt Z.bInt (Z.acons (Z.bin .fdiv (Z.var 0) (Z.cst (.int 2147483646))) Z.anil)) (Z.cst (.int 1000003))) (Z.bin .add (Z.var 1) (Z.cst (.int 31))))) (Z.cst (.int 48271))) Z.anil)) (Z.cst (.int 2147483629))))
  (Z.seq (Z.asg (Z.gname 2) (Z.bin .mod (Z.blt Z.bInt (Z.acons (Z.bin .mul (Z.var 2) (Z.bin .add (Z.bin .add (Z.bin .fdiv (Z.var 2) (Z.cst (.int 1013))) (Z.cst (.int 69621))) (Z.var 1))) Z.anil)) (Z.cst (.int 2147483587))))
  (Z.ret (Z.bin .mod (Z.blt Z.bInt (Z.acons (Z.bin .mul (Z.var 2) (Z.bin .add (Z.bin .fdiv (Z.var 2) (Z.cst (.int 2003))) (Z.cst (.int 40692)))) Z.anil)) (Z.cst (.int 2147483563)))))))
def d_source : TS :=
  (Z.seq (Z.ifs (Z.tt (Z.cmp .ge (Z.blt Z.bAbs (Z.acons (Z.var 0) Z.anil)) (Z.bin .pow (Z.cst (.int 10)) (Z.cst (.int 18))))) (Z.ret (Z.lstl (Z.acons (Z.blt Z.bAbs (Z.acons (Z.var 0) Z.anil)) (Z.acons (Z.blt Z.bAbs (Z.acons (Z.var 0) Z.anil)) (Z.acons (Z.cst (.int 0)) Z.anil)))))
  Z.skip)
  (Z.ret (Z.lstl (Z.acons (Z.cst (.int 0)) (Z.acons (Z.blt Z.bAbs (Z.acons (Z.var 0) Z.anil)) (Z.acons (Z.cst (.int 0)) Z.anil))))))
def d_take : TS :=
  (Z.seq (Z.ifs (Z.tt (Z.cmp .gt (Z.ix (Z.var 0) (Z.cst (.int 0))) (Z.cst (.int 0)))) (Z.seq (Z.asg (Z.gname 2) (Z.bin .mod (Z.blt Z.bInt (Z.acons (Z.ix (Z.var 0) (Z.cst (.int 0))) Z.anil)) (Z.var 1)))
  (Z.seq (Z.asg (Z.gsub (Z.var 0) (Z.cst (.int 0))) (Z.bin .fdiv (Z.ix (Z.var 0) (Z.cst (.int 0))) (Z.var 1)))
  (Z.ret (Z.var 2))))
  Z.skip)
  (Z.seq (Z.asg (Z.gsub (Z.var 0) (Z.cst (.int 2))) (Z.bin .add (Z.ix (Z.var 0) (Z.cst (.int 2))) (Z.cst (.int 1))))
  (Z.ret (Z.bin .mod (Z.blt Z.bInt (Z.acons (Z.callf "_law_mixed" 2 [.inl 0, .inl 1] (Z.acons (Z.ix (Z.var 0) (Z.cst (.int 1))) (Z.acons (Z.ix (Z.var 0) (Z.cst (.int 2))) Z.anil))) Z.anil)) (Z.var 1)))))
def d_pick : TS :=
  (Z.ret (Z.ix (Z.var 1) (Z.callf "_law_take" 2 [.inl 0, .inl 1] (Z.acons (Z.var 0) (Z.acons (Z.blt Z.bLen (Z.acons (Z.var 1) Z.anil)) Z.anil)))))
def d_part : TS :=
  (Z.seq (Z.par 3 (Z.gcons (Z.gname 2) (Z.gcons (Z.gname 3) (Z.gcons (Z.gname 4) Z.gnil))) (Z.acons (Z.callf "_law_take" 2 [.inl 0, .inl 1] (Z.acons (Z.var 0) (Z.acons (Z.cst (.int 7)) Z.anil))) (Z.acons (Z.bin .sub (Z.callf "_law_take" 2 [.inl 0, .inl 1] (Z.acons (Z.var 0) (Z.acons (Z.cst (.int 60)) Z.anil))) (Z.cst (.int 30))) (Z.acons (Z.bin .add (Z.cst (.int 1)) (Z.callf "_law_take" 2 [.inl 0, .inl 1] (Z.acons (Z.var 0) (Z.acons (Z.cst (.int 3)) Z.anil)))) Z.anil))))
  (Z.seq (Z.ifs (Z.tt (Z.cmp .eq (Z.var 2) (Z.cst (.int 0)))) (Z.ret (Z.lcomp (Z.irng1 (Z.acons (Z.var 1) Z.anil)) [5] (Z.gname 5) Z.tyes (Z.bin .add (Z.var 3) (Z.bin .mul (Z.var 4) (Z.var 5)))))
  Z.skip)
  (Z.seq (Z.ifs (Z.tt (Z.cmp .eq (Z.var 2) (Z.cst (.int 1)))) (Z.ret (Z.lcomp (Z.irng1 (Z.acons (Z.var 1) Z.anil)) [5] (Z.gname 5) Z.tyes (Z.bin .sub (Z.var 3) (Z.bin .mul (Z.var 4) (Z.var 5)))))
  Z.skip)
  (Z.seq (Z.ifs (Z.tt (Z.cmp .eq (Z.var 2) (Z.cst (.int 2)))) (Z.ret (Z.bin .mul (Z.lstl (Z.acons (Z.var 3) Z.anil)) (Z.var 1)))
  Z.skip)
  (Z.seq (Z.ifs (Z.tt (Z.cmp .eq (Z.var 2) (Z.cst (.int 3)))) (Z.ret (Z.lcomp (Z.irng1 (Z.acons (Z.var 1) Z.anil)) [5] (Z.gname 5) Z.tyes (Z.bin .add (Z.var 3) (Z.bin .fdiv (Z.var 5) (Z.bin .add (Z.cst (.int 1)) (Z.var 4))))))
  Z.skip)
  (Z.seq (Z.ifs (Z.tt (Z.cmp .eq (Z.var 2) (Z.cst (.int 4)))) (Z.ret (Z.lcomp (Z.irng1 (Z.acons (Z.var 1) Z.anil)) [5] (Z.gname 5) Z.tyes (Z.bin .sub (Z.var 3) (Z.bin .fdiv (Z.var 5) (Z.bin .add (Z.cst (.int 1)) (Z.var 4))))))
  Z.skip)
  (Z.seq (Z.ifs (Z.tt (Z.cmp .eq (Z.var 2) (Z.cst (.int 5)))) (Z.ret (Z.lcomp (Z.irng1 (Z.acons (Z.var 1) Z.anil)) [5] (Z.gname 5) Z.tyes (Z.bin .add (Z.var 3) (Z.callf "_law_take" 2 [.inl 0, .inl 1] (Z.acons (Z.var 0) (Z.acons (Z.bin .add (Z.cst (.int 1)) (Z.var 4)) Z.anil))))))
  Z.skip)
  (Z.ret (Z.lcomp (Z.irng1 (Z.acons (Z.var 1) Z.anil)) [5] (Z.gname 5) Z.tyes (Z.bin .sub (Z.callf "_law_take" 2 [.inl 0, .inl 1] (Z.acons (Z.var 0) (Z.acons (Z.cst (.int 200)) Z.anil))) (Z.cst (.int 100))))))))))))
def d_keys : TS :=
  (Z.seq (Z.par 2 (Z.gcons (Z.gname 2) (Z.gcons (Z.gname 3) Z.gnil)) (Z.acons (Z.callf "_law_take" 2 [.inl 0, .inl 1] (Z.acons (Z.var 0) (Z.acons (Z.bin .add (Z.var 1) (Z.cst (.int 1))) Z.anil))) (Z.acons (Z.lstl Z.anil) Z.anil)))
  (Z.seq (Z.whl (Z.tt (Z.cmp .lt (Z.blt Z.bLen (Z.acons (Z.var 3) Z.anil)) (Z.var 2))) (Z.seq (Z.asg (Z.gname 4) (Z.bin .sub (Z.var 2) (Z.blt Z.bLen (Z.acons (Z.var 3) Z.anil))))
  (Z.seq (Z.asg (Z.gname 5) (Z.bin .add (Z.cst (.int 1)) (Z.callf "_law_take" 2 [.inl 0, .inl 1] (Z.acons (Z.var 0) (Z.acons (Z.ix (Z.lstl (Z.acons (Z.cst (.int 3)) (Z.acons (Z.cst (.int 9)) (Z.acons (Z.cst (.int 40)) (Z.acons (Z.cst (.int 130)) Z.anil))))) (Z.callf "_law_take" 2 [.inl 0, .inl 1] (Z.acons (Z.var 0) (Z.acons (Z.cst (.int 4)) Z.anil)))) Z.anil)))))
  (Z.asg (Z.gname 3) (Z.bin .add (Z.var 3) (Z.callf "_law_part" 2 [.inl 0, .inl 1] (Z.acons (Z.var 0) (Z.acons (Z.ife (Z.tt (Z.cmp .lt (Z.var 5) (Z.var 4))) (Z.var 5) (Z.var 4)) Z.anil))))))))
  (Z.ret (Z.var 3))))
section
variable {T : String → String → Option Def} {k : Nat} {H : Heap} {Q : VK} {E : EK}
theorem mixed_k (h : T "" "_law_mixed" = some ⟨2, 3, d_mixed⟩) {a c : Int} (hc : 0 ≤ c) (hc2 : c < 2 ^ 100) (q : ∀ d : Int, 0 ≤ d → Q (.int d) H) : callK T (k + 1) "" "_law_mixed" [.int a, .int c] H Q E := by
  refine call_k h rfl ?_
  unfold d_mixed
  refine asg_k (fun v H1 => H = H1 ∧ ∃ d : Int, v = .int d ∧ 0 ≤ d ∧ d < 2147483647) (fun K hK => ?_) ?_
  · walk_at "z0"
    exact ⟨mul_k (small_b (by omega) (by omega) (by decide)) (small_b (by omega) (by omega) (by decide)), mul_k (small_b (by omega) (by omega) (by decide)) (small_b (by omega) (by omega) (by decide)), hK _ _ ⟨rfl, _, rfl, mod_rng (by decide)⟩⟩
  rintro _ _ ⟨rfl, d, rfl, d1, d2⟩
  refine asg_k (fun v H1 => H = H1 ∧ ∃ d : Int, v = .int d ∧ 0 ≤ d ∧ d < 2147483647) (fun K hK => ?_) ?_
  · have m2 := mod_rng (i := a / 2147483646) (j := 1000003) (by decide)
    have s1 : small 200 (a / 2147483646 % 1000003) := small_b (by omega) (by omega) (by decide)
    have s2 : small 200 (c + 31) := small_b (by omega) (by omega) (by decide)
    have s3 : small 401 (d + a / 2147483646 % 1000003 * (c + 31)) := small_add (n := 400) (small_b (by omega) (by omega) (by decide)) (small_mul s1 s2)
    walk_at "z0"
    refine ⟨small_b (by omega) (by omega) (by decide), mul_k (small_mono s1 (by decide)) (small_mono s2 (by decide)), mul_k (small_mono s3 (by decide)) (small_b (by omega) (by omega) (by decide)), hK _ _ ⟨rfl, _, rfl, ?_⟩⟩
    have m3 := mod_rng (i := (d + a / 2147483646 % 1000003 * (c + 31)) * 48271) (j := 2147483629) (by decide)
    omega
  rintro _ _ ⟨rfl, e, rfl, e1, e2⟩
  refine asg_k (fun v H1 => H = H1 ∧ ∃ d : Int, v = .int d ∧ 0 ≤ d ∧ d < 2147483647) (fun K hK => ?_) ?_
  · walk_at "z0"
    refine ⟨small_b (by omega) (by omega) (by decide), mul_k (small_b (by omega) (by omega) (by decide)) (small_b (by omega) (by omega) (by decide)), hK _ _ ⟨rfl, _, rfl, ?_⟩⟩
    have m3 := mod_rng (i := e * (e / 1013 + 69621 + c)) (j := 2147483587) (by decide)
    omega
  rintro _ _ ⟨rfl, f, rfl, f1, f2⟩
  walk_at "z0"
  exact ⟨small_b (by omega) (by omega) (by decide), mul_k (small_b (by omega) (by omega) (by decide)) (small_b (by omega) (by omega) (by decide)), q _ (mod_rng (j := 2147483563) (by decide)).1⟩
/-- a source stands at s, from which at most n values were drawn -/
def Src (H : Heap) (s n : Nat) : Prop := ∃ a b c : Int, H s = some (.lst [.int a, .int b, .int c]) ∧ 0 ≤ c ∧ c ≤ n
theorem source_k (h : T "" "_law_source" = some ⟨1, 1, d_source⟩) {a : Int} (q : ∀ s, H s = none → ∀ o, Src (upd H s o) s 0 → Q (.ref s) (upd H s o)) : callK T (k + 1) "" "_law_source" [.int a] H Q E := by
  refine call_k h rfl ?_
  unfold d_source
  walk_at "z0"
  refine ⟨⟨4, by unfold small; decide, by decide⟩, ?_⟩
  split
  · exact ⟨by decide, fun p hp => q p hp _ ⟨_, _, 0, upd_same, by decide, by decide⟩⟩
  · exact ⟨by decide, fun p hp => q p hp _ ⟨_, _, 0, upd_same, by decide, by decide⟩⟩
theorem take_k (h : T "" "_law_take" = some ⟨2, 3, d_take⟩) (hm : T "" "_law_mixed" = some ⟨2, 3, d_mixed⟩) {s n : Nat} {b : Int} (hs : Src H s n) (hn : n < 2 ^ 90) (hb : 0 < b) (hb2 : b < 2 ^ 100) (q : ∀ (d : Int) o, 0 ≤ d → d < b → Src (upd H s o) s (n + 1) → Q (.int d) (upd H s o)) : callK T (k + 2) "" "_law_take" [.ref s, .int b] H Q E := by
  refine call_k h rfl ?_
  unfold d_take
  obtain ⟨a, x, c, hs, hc, hc2⟩ := hs
  walk_at "z"
  split
  · exact ⟨small_b (by omega) (by omega) (by decide), q _ _ (mod_rng hb).1 (mod_rng hb).2 ⟨_, _, c, upd_same, hc, by omega⟩⟩
  · refine mixed_k hm (by omega) (by omega) fun d hd => ?_
    walk_at "z0"
    refine ⟨hb, ?_⟩
    exact q _ _ (mod_rng hb).1 (mod_rng hb).2 ⟨_, _, c + 1, upd_same, by omega, by omega⟩
theorem Src.mono {s n m : Nat} (h : Src H s n) (l : n ≤ m) : Src H s m := by
  obtain ⟨a, b, c, h1, h2, h3⟩ := h
  exact ⟨a, b, c, h1, h2, by omega⟩
theorem pick_k (h : T "" "_law_pick" = some ⟨2, 2, d_pick⟩) (ht : T "" "_law_take" = some ⟨2, 3, d_take⟩) (hm : T "" "_law_mixed" = some ⟨2, 3, d_mixed⟩) {s n p : Nat} {xs : List V} (hs : Src H s n) (hn : n < 2 ^ 90) (hp : H p = some (.lst xs)) (ne : p ≠ s) (h0 : 0 < xs.length) (h1 : xs.length < 2 ^ 90)
    (q : ∀ v o, v ∈ xs → Src (upd H s o) s (n + 1) → Q v (upd H s o)) : callK T (k + 3) "" "_law_pick" [.ref s, .ref p] H Q E := by
  refine call_k h rfl ?_
  unfold d_pick
  walk_at "z"
  refine take_k ht hm hs hn (by omega) (by omega) fun d o d0 d1 hs2 => ?_
  have hd : d.toNat < xs.length := by omega
  walk_at "z"
theorem take_in {C : Cx} (hC : C.call = callK T (k + 2)) (ht : T "" "_law_take" = some ⟨2, 3, d_take⟩) (hm : T "" "_law_mixed" = some ⟨2, 3, d_mixed⟩) {s n : Nat} {b : Int} (hs : Src H s n) (hn : n < 2 ^ 90) (hb : 0 < b) (hb2 : b < 2 ^ 100) (q : ∀ (d : Int) o, 0 ≤ d → d < b → Src (upd H s o) s (n + 1) → Q (.int d) (upd H s o)) : C.call "" "_law_take" [.ref s, .int b] H Q E := by
  rw [hC]
  exact take_k ht hm hs hn hb hb2 q
/-- a list of whole numbers is made, and a source drawn from -/
def Made (H : Heap) (s n : Nat) (m : Nat) (b : Nat) (size : Nat) (Q : VK) : Prop := ∀ (H' : Heap) (p : Nat) (ns : List Int), Fr [s] H H' → Src H' s (n + m) → H p = none → p ≠ s → H' p = some (.lst (ns.map .int)) → ns.length = size → (∀ x ∈ ns, x.natAbs ≤ b) → Q (.ref p) H'
theorem Src.new {s n p : Nat} {o : O} (h : Src H s n) (hp : H p = none) : Src (upd H p o) s n := by
  obtain ⟨a, b, c, h1, h2, h3⟩ := h
  exact ⟨a, b, c, upd_old h1 hp, h2, h3⟩
theorem Src.fr {s n : Nat} {H' : Heap} {S : List Nat} (h : Src H s n) (f : Fr S H H') (hn : s ∉ S) : Src H' s n := by
  obtain ⟨a, b, c, h1, h2, h3⟩ := h
  exact ⟨a, b, c, f s _ h1 hn, h2, h3⟩
theorem Src.ne {s n p : Nat} (h : Src H s n) (hp : H p = none) : p ≠ s := fun z => by
  obtain ⟨a, b, c, h1, h2, h3⟩ := h
  rw [z, h1] at hp
  cases hp
theorem Src.some {s n : Nat} (h : Src H s n) : ∃ o, H s = some o := by
  obtain ⟨a, b, c, e, _⟩ := h
  exact ⟨_, e⟩
theorem rng_get {lo : Int} {n i : Nat} {v : V} (h : (rng lo n)[i]? = some v) : i < n ∧ v = .int (lo + i) := by
  unfold rng at h
  rw [List.getElem?_map] at h
  cases e : (List.range n)[i]? with
  | none => rw [e] at h; cases h
  | some j =>
    rw [e] at h
    obtain ⟨hl, hj⟩ := List.getElem?_eq_some_iff.mp e
    rw [List.length_range] at hl
    rw [List.getElem_range] at hj
    subst hj
    exact ⟨hl, (Option.some.inj h).symm⟩
theorem rng_mem {lo : Int} {n : Nat} {v : V} (h : v ∈ rng lo n) : ∃ i : Nat, i < n ∧ v = .int (lo + i) := by
  obtain ⟨i, e⟩ := List.mem_iff_getElem?.mp h
  obtain ⟨a, b⟩ := rng_get e
  exact ⟨i, a, b⟩
theorem rng_len {lo : Int} {n : Nat} : (rng lo n).length = n := by unfold rng; simp
/-- numbers made by a function of the turn -/
theorem made_f {s n m b size : Nat} {H1 : Heap} (f : Nat → Int) (hQ : Made H s n m b size Q) (fr : Fr [s] H H1) (hs : Src H1 s (n + m)) (hf : ∀ i < size, (f i).natAbs ≤ b) {p : Nat} (hp : H1 p = none) (hSn : ∀ q ∈ [s], ∃ o, H1 q = some o) :
    Q (.ref p) (upd H1 p (.lst ((List.range size).map fun i => .int (f i)))) := by
  have e : ((List.range size).map fun i => V.int (f i)) = ((List.range size).map f).map V.int := by rw [List.map_map]; rfl
  have ne : p ≠ s := fun z => by
    obtain ⟨o, e⟩ := hSn s (by simp)
    rw [z, e] at hp
    cases hp
  rw [e]
  refine hQ _ p ((List.range size).map f) (fr.trans (Fr.new hp)) ?_ (fr.fresh hSn hp) ne upd_same (by simp) fun x hx => ?_
  · obtain ⟨a, b, c, h1, h2, h3⟩ := hs
    exact ⟨a, b, c, upd_old h1 hp, h2, h3⟩
  · obtain ⟨i, hi, rfl⟩ := List.mem_map.mp hx
    exact hf i (List.mem_range.mp hi)
theorem rng_map {n : Nat} (g : V → V) (f : Nat → Int) (h : ∀ i : Nat, g (.int i) = .int (f i)) : (rng 0 n).map g = (List.range n).map fun i => .int (f i) := by
  unfold rng
  rw [List.map_map]
  refine List.map_congr_left fun i _ => ?_
  show g (.int (0 + i)) = _
  rw [Int.zero_add, h]
theorem part_k (h : T "" "_law_part" = some ⟨2, 6, d_part⟩) (ht : T "" "_law_take" = some ⟨2, 3, d_take⟩) (hm : T "" "_law_mixed" = some ⟨2, 3, d_mixed⟩) {s n size : Nat} (hs : Src H s n) (hn : n < 2 ^ 80) (hz : size < 2 ^ 20) (hQ : Made H s n (size + 3) (300 + 4 * size) size Q) :
    callK T (k + 3) "" "_law_part" [.ref s, .int size] H Q E := by
  refine call_k h rfl ?_
  unfold d_part
  refine seq_k (fun σ1 H1 => ∃ sort base step : Int, Fr [s] H H1 ∧ Src H1 s (n + 3) ∧ 0 ≤ sort ∧ sort < 7 ∧ -30 ≤ base ∧ base < 30 ∧ 1 ≤ step ∧ step < 4 ∧ σ1 = [some (.ref s), some (.int size), some (.int sort), some (.int base), some (.int step), none]) (fun K hK => ?_) ?_
  · walk_at "z0"
    refine take_k ht hm hs (by omega) (by omega) (by omega) fun d1 o1 a1 b1 hs1 => ?_
    refine take_k ht hm hs1 (by omega) (by omega) (by omega) fun d2 o2 a2 b2 hs2 => ?_
    refine take_k ht hm hs2 (by omega) (by omega) (by omega) fun d3 o3 a3 b3 hs3 => ?_
    walk_at "z0"
    exact hK _ _ ⟨d1, d2 - 30, 1 + d3, ((Fr.chg (by simp)).trans (Fr.chg (by simp))).trans (Fr.chg (by simp)), hs3, a1, b1, by omega, by omega, by omega, by omega, rfl⟩
  rintro σ1 H1 ⟨sort, base, step, fr, hs1, s1, s2, b1, b2, t1, t2, rfl⟩
  have hS : ∀ q ∈ [s], ∃ o, H1 q = some o := fun q hq => by
    rw [show q = s by simpa using hq]
    exact hs1.some
  have hl : size ≤ line := by unfold line; omega
  have big_ : big size := by unfold big; omega
  have nd : ∀ p, H1 p = none → p ≠ s := fun p hp z => by
    obtain ⟨o, e⟩ := hs1.some
    rw [z, e] at hp
    cases hp
  have hs3 : Src H1 s (n + (size + 3)) := hs1.mono (by omega)
  have pr := fun (f : Nat → Int) (hf : ∀ i < size, (f i).natAbs ≤ 300 + 4 * size) (p : Nat) (hp : H1 p = none) => made_f f hQ fr hs3 hf hp hS
  walk_at "z0"
  have comp : ∀ (e : TE) (C : Cx) (f : Nat → Int), (∀ i < size, (f i).natAbs ≤ 300 + 4 * size) → (∀ (i : Nat), i < size → ∀ K : VK, K (.int (f i)) H1 → e C.calm [some (V.ref s), some (V.int ↑size), some (V.int sort), some (V.int base), some (V.int step), some (V.int i)] H1 K) →
      lcomp (irng1 (acons (var 1) anil)) [5] (gname 5) tyes e C [some (V.ref s), some (V.int ↑size), some (V.int sort), some (V.int base), some (V.int step), none] H1 Q := by
    intro e C f hf he
    refine ⟨size, rfl, big_, lci_pure (fun v => match v with | .int i => .int (f i.toNat) | v => v) trivial (by rw [rng_len]; simp; exact hl) (fun v hv K hK => ?_) fun p hp => ?_⟩
    · obtain ⟨i, hi, rfl⟩ := rng_mem hv
      rw [Int.toNat_natCast] at hi
      rw [Int.zero_add] at hK ⊢
      exact he i hi K (by simpa using hK)
    · rw [List.nil_append, Int.toNat_natCast, rng_map _ f fun i => by simp]
      exact pr f hf p hp
  split
  · refine comp _ _ (fun i => base + step * i) (fun i hi => ?_) fun i hi K hK => ?_
    · have : step * (i : Int) ≤ 3 * i := Int.mul_le_mul_of_nonneg_right (by omega) (by omega)
      have : 0 ≤ step * (i : Int) := Int.mul_nonneg (by omega) (by omega)
      omega
    · walk_at "z0"
      exact ⟨mul_k (small_b (by omega) (by omega) (by decide)) (small_b (by omega) (by omega) (by decide)), hK⟩
  split
  · refine comp _ _ (fun i => base - step * i) (fun i hi => ?_) fun i hi K hK => ?_
    · have : step * (i : Int) ≤ 3 * i := Int.mul_le_mul_of_nonneg_right (by omega) (by omega)
      have : 0 ≤ step * (i : Int) := Int.mul_nonneg (by omega) (by omega)
      omega
    · walk_at "z0"
      exact ⟨mul_k (small_b (by omega) (by omega) (by decide)) (small_b (by omega) (by omega) (by decide)), hK⟩
  split
  · refine ⟨by decide, fun p hp => ⟨by omega, hl, fun p1 hp1 => ?_⟩⟩
    have e : List.replicate size (V.int base) = (List.range size).map fun i => V.int base := by
      rw [List.map_const', List.length_range]
    have f0 : H1 p1 = none := by
      have z := (Fr.new hp : Fr [] H1 (upd H1 p (O.lst [V.int base])))
      exact z.fresh (by simp) hp1
    rw [e]
    obtain ⟨x1, x2, x3, x4, x5, x6⟩ := hs3
    refine made_f (fun _ => base) hQ (fr.trans (Fr.new hp)) ⟨x1, x2, x3, upd_old x4 hp, x5, x6⟩ (fun i hi => by omega) hp1 fun q hq => ?_
    obtain ⟨o, e⟩ := hS q hq
    exact ⟨o, upd_old e hp⟩
  split
  · refine comp _ _ (fun i => base + i / (1 + step)) (fun i hi => ?_) fun i hi K hK => ?_
    · have : (i : Int) / (1 + step) ≤ i := Int.ediv_le_self _ (by omega)
      have : 0 ≤ (i : Int) / (1 + step) := Int.ediv_nonneg (by omega) (by omega)
      omega
    · walk_at "z0"
      exact ⟨by omega, small_b (by omega) (by omega) (by decide), hK⟩
  split
  · refine comp _ _ (fun i => base - i / (1 + step)) (fun i hi => ?_) fun i hi K hK => ?_
    · have : (i : Int) / (1 + step) ≤ i := Int.ediv_le_self _ (by omega)
      have : 0 ≤ (i : Int) / (1 + step) := Int.ediv_nonneg (by omega) (by omega)
      omega
    · walk_at "z0"
      exact ⟨by omega, small_b (by omega) (by omega) (by decide), hK⟩
  -- drawn ones
  have draws : ∀ (e : TE) (C : Cx), (∀ (i : Nat) (H2 : Heap) (K : VK) (m : Nat), i < size → Src H2 s m → m < 2 ^ 81 → (∀ (d : Int) o, d.natAbs ≤ 300 → Src (upd H2 s o) s (m + 1) → K (.int d) (upd H2 s o)) → e C.calm [some (V.ref s), some (V.int ↑size), some (V.int sort), some (V.int base), some (V.int step), some (V.int i)] H2 K) →
      lcomp (irng1 (acons (var 1) anil)) [5] (gname 5) tyes e C [some (V.ref s), some (V.int ↑size), some (V.int sort), some (V.int base), some (V.int step), none] H1 Q := by
    intro e C he
    refine ⟨size, rfl, big_, lci_k (fun i acc H2 => acc.length = i ∧ i ≤ size ∧ Fr [s] H H2 ∧ Src H2 s (n + 3 + i) ∧ ∃ ns : List Int, acc = ns.map .int ∧ ∀ x ∈ ns, x.natAbs ≤ 300) ⟨rfl, Nat.zero_le _, fr, hs1, [], rfl, fun x hx => nomatch hx⟩ (fun i v acc H2 hv h2 => ⟨trivial, fun K hK => ?_⟩) fun acc H2 h2 => ⟨trivial, fun p hp => ?_⟩⟩
    · obtain ⟨hi, rfl⟩ := rng_get hv
      obtain ⟨l2, _, f2, s2, ns, rfl, b2⟩ := h2
      rw [Int.toNat_natCast] at hi
      rw [Int.zero_add]
      show (if true = true then e C.calm [some (V.ref s), some (V.int ↑size), some (V.int sort), some (V.int base), some (V.int step), some (V.int i)] H2 (fun y H3 => (ns.map V.int).length < line ∧ K (ns.map V.int ++ [y]) H3) else K (ns.map V.int) H2)
      rw [if_pos rfl]
      refine he i H2 _ _ hi s2 (by omega) fun d o hd hs4 => ⟨by rw [l2]; omega, hK _ _ ⟨?_, by omega, f2.trans (Fr.chg (by simp)), hs4, ns ++ [d], by simp, fun x hx => ?_⟩⟩
      · rw [List.length_append, l2]; rfl
      · rcases List.mem_append.mp hx with z | z
        · exact b2 x z
        · rw [show x = d by simpa using z]; exact hd
    · obtain ⟨l2, _, f2, s2, ns, rfl, b2⟩ := h2
      rw [rng_len, Int.toNat_natCast, List.length_map] at l2
      have hS2 : ∀ q ∈ [s], ∃ o, H2 q = some o := fun q hq => by
        rw [show q = s by simpa using hq]
        exact s2.some
      refine hQ _ p ns (f2.trans (Fr.new hp)) ?_ (f2.fresh hS2 hp) (fun z => ?_) upd_same l2 fun x hx => Nat.le_trans (b2 x hx) (by omega)
      · rw [rng_len, Int.toNat_natCast] at s2
        obtain ⟨x1, x2, x3, x4, x5, x6⟩ := s2
        exact ⟨x1, x2, x3, upd_old x4 hp, x5, by omega⟩
      · obtain ⟨o, e⟩ := s2.some
        rw [z, e] at hp
        cases hp
  split
  · refine draws _ _ fun i H2 K m hi s2 hm2 hK => ?_
    walk_at "z0"
    refine take_k ht hm s2 (by omega) (by omega) (by omega) fun d o d0 d1 hs4 => ?_
    walk_at "z0"
    exact hK _ _ (by omega) hs4
  · refine draws _ _ fun i H2 K m hi s2 hm2 hK => ?_
    walk_at "z0"
    refine take_k ht hm s2 (by omega) (by omega) (by omega) fun d o d0 d1 hs4 => ?_
    walk_at "z0"
    exact hK _ _ (by omega) hs4
theorem keys_k (h : T "" "_law_keys" = some ⟨2, 6, d_keys⟩) (hp : T "" "_law_part" = some ⟨2, 6, d_part⟩) (ht : T "" "_law_take" = some ⟨2, 3, d_take⟩) (hm : T "" "_law_mixed" = some ⟨2, 3, d_mixed⟩) {s n bound : Nat} (hs : Src H s n) (hn : n < 2 ^ 60) (hz : bound < 2 ^ 18)
    (hQ : ∀ many : Nat, many ≤ bound → Made H s n (6 * bound + 1) (300 + 4 * bound) many Q) :
    callK T (k + 4) "" "_law_keys" [.ref s, .int bound] H Q E := by
  refine call_k h rfl ?_
  unfold d_keys
  refine seq_k (fun σ1 H1 => ∃ (many p : Nat), many ≤ bound ∧ Fr [s] H H1 ∧ Src H1 s (n + 1) ∧ H p = none ∧ H1 p = some (.lst []) ∧ σ1 = [some (.ref s), some (.int bound), some (.int many), some (.ref p), none, none]) (fun K hK => ?_) ?_
  · walk_at "z0"
    refine take_k ht hm hs (by omega) (by omega) (by omega) fun d o d0 d1 hs1 => ?_
    intro p hp
    have e : ((d.toNat : Nat) : Int) = d := Int.toNat_of_nonneg d0
    have f1 : Fr [s] H (upd H s o) := Fr.chg (by simp)
    refine hK _ _ ⟨d.toNat, p, by omega, f1.trans (Fr.new hp), ?_, f1.fresh (fun q hq => ?_) hp, upd_same, by rw [e]⟩
    · obtain ⟨x1, x2, x3, x4, x5, x6⟩ := hs1
      exact ⟨x1, x2, x3, upd_old x4 hp, x5, x6⟩
    · rw [show q = s by simpa using hq]
      exact ⟨o, upd_same⟩
  rintro σ1 H1 ⟨many, p, hmb, f1, hs1, hp0, hp1, rfl⟩
  refine seq_k (fun σ2 H2 => ∃ (p : Nat) (ns : List Int) (x y : Option V), Fr [s] H H2 ∧ Src H2 s (n + 1 + 6 * ns.length) ∧ H p = none ∧ p ≠ s ∧ H2 p = some (.lst (ns.map .int)) ∧ ns.length = many ∧ (∀ z ∈ ns, z.natAbs ≤ 300 + 4 * bound) ∧ σ2 = [some (.ref s), some (.int bound), some (.int many), some (.ref p), x, y]) (fun K hK => ?_) ?_
  · have nes : p ≠ s := fun z => by
      obtain ⟨a, b, c, e, _⟩ := hs1
      rw [← z, hp1] at e
      cases e
    refine whl_k (n := many) (fun m σ2 H2 => ∃ (p : Nat) (ns : List Int) (x y : Option V), Fr [s] H H2 ∧ Src H2 s (n + 1 + 6 * ns.length) ∧ H p = none ∧ p ≠ s ∧ H2 p = some (.lst (ns.map .int)) ∧ ns.length + m = many ∧ (∀ z ∈ ns, z.natAbs ≤ 300 + 4 * bound) ∧ σ2 = [some (.ref s), some (.int bound), some (.int many), some (.ref p), x, y])
      ⟨p, [], none, none, f1, hs1, hp0, nes, hp1, by simp, fun z hz => (nomatch hz), rfl⟩ ?_
    rintro m σ2 H2 ⟨p, ns, x, y, f2, hs2, q0, qs, q1, hl, hb, rfl⟩ L hL
    walk_at "z"
    split
    · rename_i hlt
      refine ⟨by decide, fun p1 n1 => ?_⟩
      have ne1 : p1 ≠ s := hs2.ne n1
      refine take_k ht hm (hs2.new n1) (by omega) (by omega) (by omega) fun d o d0 d1 hs3 => ?_
      have f3 : Fr [s] H (upd (upd H2 p1 (O.lst [V.int 3, V.int 9, V.int 40, V.int 130])) s o) := (f2.trans (Fr.new n1)).trans (Fr.chg (by simp))
      have q3 : upd (upd H2 p1 (O.lst [V.int 3, V.int 9, V.int 40, V.int 130])) s o p = Option.some (.lst (ns.map .int)) := by
        rw [upd_ne qs]
        exact upd_old q1 n1
      have q4 : upd (upd H2 p1 (O.lst [V.int 3, V.int 9, V.int 40, V.int 130])) s o p1 = Option.some (O.lst [V.int 3, V.int 9, V.int 40, V.int 130]) := by
        rw [upd_ne ne1, upd_same]
      generalize upd (upd H2 p1 (O.lst [V.int 3, V.int 9, V.int 40, V.int 130])) s o = H3 at *
      refine ⟨[V.int 3, V.int 9, V.int 40, V.int 130], by rw [q4]; rfl, d, rfl, ?_⟩
      obtain ⟨b, eb, b0, b1⟩ : ∃ b : Int, atI [V.int 3, V.int 9, V.int 40, V.int 130] d = Option.some (.int b) ∧ 0 < b ∧ b ≤ 130 := by
        rcases (by omega : d = 0 ∨ d = 1 ∨ d = 2 ∨ d = 3) with rfl | rfl | rfl | rfl
        · exact ⟨3, rfl, by decide, by decide⟩
        · exact ⟨9, rfl, by decide, by decide⟩
        · exact ⟨40, rfl, by decide, by decide⟩
        · exact ⟨130, rfl, by decide, by decide⟩
      refine ⟨.int b, eb, ?_⟩
      refine take_k ht hm hs3 (by omega) b0 (by omega) fun e o2 e0 e1 hs4 => ?_
      have tail : ∀ z : Nat, 0 < z → z ≤ m → z ≤ 200 + m → callK T (k + 3) "" "_law_part" [V.ref s, .int z] (upd H3 s o2) (fun y H2 => opr Op.add (V.ref p) y H2 fun v_1 H1 => L [some (V.ref s), some (V.int ↑bound), some (V.int ↑many), some v_1, some (V.int (↑many - ↑ns.length)), some (V.int (1 + e))] H1) fun c fs H' => E c fs H' := by
        intro z z0 zm _
        refine part_k hp ht hm hs4 (by omega) (by omega) fun H5 p5 ns5 fr5 s5 n5 ne5 l5 len5 bd5 => ?_
        have q6 : H5 p = Option.some (.lst (ns.map .int)) := fr5 p _ (by rw [upd_ne qs]; exact q3) (by simpa using qs)
        have f5 : Fr [s] H H5 := (f3.trans (Fr.chg (by simp))).trans fr5
        walk_at "z"
        refine ⟨by unfold line; omega, fun p6 hp6 => ?_⟩
        have hS5 : ∀ q ∈ [s], ∃ o, H5 q = Option.some o := fun q hq => by
          rw [show q = s by simpa using hq]
          exact s5.some
        refine hL (m - z) _ _ (by omega) ⟨p6, ns ++ ns5, _, _, f5.trans (Fr.new hp6), (s5.new hp6).mono ?_, f5.fresh hS5 hp6, s5.ne hp6, by rw [upd_same, List.map_append], ?_, fun w hw => ?_, rfl⟩
        · rw [List.length_append]
          omega
        · rw [List.length_append]
          omega
        · rcases List.mem_append.mp hw with hw | hw
          · exact hb w hw
          · have := bd5 w hw
            omega
      walk_at "z0"
      split
      · have t := tail (1 + e.toNat) (by omega) (by omega) (by omega)
        rw [show ((1 + e.toNat : Nat) : Int) = 1 + e by omega] at t
        exact t
      · have t := tail m (by omega) (by omega) (by omega)
        rw [show ((m : Nat) : Int) = (many : Int) - ns.length by omega] at t
        exact t
    · rename_i hge
      have e0 : m = 0 := by omega
      exact hK _ _ ⟨p, ns, x, y, f2, hs2, q0, qs, q1, by omega, hb, rfl⟩
  rintro σ2 H2 ⟨p, ns, x, y, f2, hs2, q0, qs, q1, hl, hb, rfl⟩
  walk_at "z0"
  exact hQ many hmb H2 p ns f2 (hs2.mono (by omega)) q0 qs q1 hl hb
/-! ### family two: the cell itself, drawn from while it is great -/
def d_source2 : TS :=
  (Z.ret (Z.lstl (Z.acons (Z.var 0) (Z.acons (Z.var 0) (Z.acons (Z.cst (.int 0)) Z.anil)))))
def d_take2 : TS :=
  (Z.seq (Z.ifs (Z.tt (Z.cmp .ge (Z.ix (Z.var 0) (Z.cst (.int 0))) (Z.bin .pow (Z.cst (.int 10)) (Z.cst (.int 18))))) (Z.seq (Z.asg (Z.gname 2) (Z.bin .mod (Z.blt Z.bInt (Z.acons (Z.ix (Z.var 0) (Z.cst (.int 0))) Z.anil)) (Z.var 1)))
  (Z.seq (Z.asg (Z.gsub (Z.var 0) (Z.cst (.int 0))) (Z.bin .fdiv (Z.ix (Z.var 0) (Z.cst (.int 0))) (Z.var 1)))
  (Z.ret (Z.var 2))))
  Z.skip)
  (Z.seq (Z.asg (Z.gsub (Z.var 0) (Z.cst (.int 2))) (Z.bin .add (Z.ix (Z.var 0) (Z.cst (.int 2))) (Z.cst (.int 1))))
  (Z.ret (Z.bin .mod (Z.blt Z.bInt (Z.acons (Z.callf "_law_mixed" 2 [.inl 0, .inl 1] (Z.acons (Z.ix (Z.var 0) (Z.cst (.int 1))) (Z.acons (Z.ix (Z.var 0) (Z.cst (.int 2))) Z.anil))) Z.anil)) (Z.var 1)))))
theorem source2_k (h : T "" "_law_source" = Option.some ⟨1, 1, d_source2⟩) {a : Int} (q : ∀ s, H s = none → ∀ o, Src (upd H s o) s 0 → Q (.ref s) (upd H s o)) : callK T (k + 1) "" "_law_source" [.int a] H Q E := by
  refine call_k h rfl ?_
  unfold d_source2
  walk_at "z0"
  exact ⟨by decide, fun p hp => q p hp _ ⟨_, _, 0, upd_same, by decide, by decide⟩⟩
theorem take2_k (h : T "" "_law_take" = Option.some ⟨2, 3, d_take2⟩) (hm : T "" "_law_mixed" = Option.some ⟨2, 3, d_mixed⟩) {s n : Nat} {b : Int} (hs : Src H s n) (hn : n < 2 ^ 90) (hb : 0 < b) (hb2 : b < 2 ^ 100) (q : ∀ (d : Int) o, 0 ≤ d → d < b → Src (upd H s o) s (n + 1) → Q (.int d) (upd H s o)) : callK T (k + 2) "" "_law_take" [.ref s, .int b] H Q E := by
  refine call_k h rfl ?_
  unfold d_take2
  obtain ⟨a, x, c, hs, hc, hc2⟩ := hs
  walk_at "z"
  refine ⟨⟨4, by unfold small; decide, by decide⟩, ?_⟩
  split
  · exact ⟨small_b (by omega) (by omega) (by decide), q _ _ (mod_rng hb).1 (mod_rng hb).2 ⟨_, _, c, upd_same, hc, by omega⟩⟩
  · refine mixed_k hm (by omega) (by omega) fun d hd => ?_
    walk_at "z0"
    refine ⟨hb, ?_⟩
    exact q _ _ (mod_rng hb).1 (mod_rng hb).2 ⟨_, _, c + 1, upd_same, by omega, by omega⟩
/-! ### family three: a great cell's figures, then mixed numbers -/
def d_source3 : TS :=
  (Z.ret (Z.lstl (Z.acons (Z.bin .mul (Z.blt Z.bAbs (Z.acons (Z.var 0) Z.anil)) (Z.blt Z.bInt (Z.acons (Z.cmp .ge (Z.blt Z.bAbs (Z.acons (Z.var 0) Z.anil)) (Z.bin .pow (Z.cst (.int 10)) (Z.cst (.int 18)))) Z.anil))) (Z.acons (Z.bin .mod (Z.blt Z.bInt (Z.acons (Z.var 0) Z.anil)) (Z.cst (.int 2147483587))) (Z.acons (Z.cst (.int 0)) Z.anil)))))
def d_draw3 : TS :=
  (Z.seq (Z.ifs (Z.tt (Z.cmp .gt (Z.ix (Z.var 0) (Z.cst (.int 0))) (Z.cst (.int 0)))) (Z.seq (Z.asg (Z.gname 2) (Z.bin .mod (Z.blt Z.bInt (Z.acons (Z.ix (Z.var 0) (Z.cst (.int 0))) Z.anil)) (Z.var 1)))
  (Z.seq (Z.asg (Z.gsub (Z.var 0) (Z.cst (.int 0))) (Z.bin .fdiv (Z.ix (Z.var 0) (Z.cst (.int 0))) (Z.var 1)))
  (Z.ret (Z.var 2))))
  Z.skip)
  (Z.seq (Z.asg (Z.gsub (Z.var 0) (Z.cst (.int 2))) (Z.bin .add (Z.ix (Z.var 0) (Z.cst (.int 2))) (Z.cst (.int 1))))
  (Z.seq (Z.asg (Z.gname 3) (Z.bin .mod (Z.blt Z.bInt (Z.acons (Z.bin .mul (Z.bin .add (Z.bin .add (Z.ix (Z.var 0) (Z.cst (.int 1))) (Z.bin .mul (Z.cst (.int 52711)) (Z.ix (Z.var 0) (Z.cst (.int 2))))) (Z.cst (.int 13))) (Z.cst (.int 48271))) Z.anil)) (Z.cst (.int 2147483629))))
  (Z.seq (Z.asg (Z.gname 3) (Z.bin .mod (Z.blt Z.bInt (Z.acons (Z.bin .mul (Z.var 3) (Z.bin .add (Z.bin .add (Z.bin .fdiv (Z.var 3) (Z.cst (.int 1021))) (Z.cst (.int 69621))) (Z.ix (Z.var 0) (Z.cst (.int 2))))) Z.anil)) (Z.cst (.int 2147483579))))
  (Z.ret (Z.bin .mod (Z.blt Z.bInt (Z.acons (Z.bin .fdiv (Z.bin .mod (Z.blt Z.bInt (Z.acons (Z.bin .mul (Z.var 3) (Z.bin .add (Z.bin .fdiv (Z.var 3) (Z.cst (.int 2011))) (Z.cst (.int 40692)))) Z.anil)) (Z.cst (.int 2147483549))) (Z.cst (.int 3))) Z.anil)) (Z.var 1)))))))
def d_pick3 : TS :=
  (Z.ret (Z.ix (Z.var 1) (Z.callf "_law_draw" 2 [.inl 0, .inl 1] (Z.acons (Z.var 0) (Z.acons (Z.blt Z.bLen (Z.acons (Z.var 1) Z.anil)) Z.anil)))))
/-- a source of family three -/
def Srd (H : Heap) (s n : Nat) : Prop := ∃ a b c : Int, H s = Option.some (.lst [.int a, .int b, .int c]) ∧ (0 ≤ b ∧ b < 2147483587) ∧ 0 ≤ c ∧ c ≤ n
theorem Srd.mono {s n m : Nat} (h : Srd H s n) (l : n ≤ m) : Srd H s m := by
  obtain ⟨a, b, c, h1, h2, h3, h4⟩ := h
  exact ⟨a, b, c, h1, h2, h3, by omega⟩
theorem Srd.new {s n p : Nat} {o : O} (h : Srd H s n) (hp : H p = none) : Srd (upd H p o) s n := by
  obtain ⟨a, b, c, h1, h2⟩ := h
  exact ⟨a, b, c, upd_old h1 hp, h2⟩
theorem Srd.other {s n p : Nat} {o : O} (h : Srd H s n) (hp : p ≠ s) : Srd (upd H p o) s n := by
  obtain ⟨a, b, c, h1, h2⟩ := h
  exact ⟨a, b, c, by rw [upd_ne (Ne.symm hp)]; exact h1, h2⟩
theorem Srd.fr {s n : Nat} {H' : Heap} {S : List Nat} (h : Srd H s n) (f : Fr S H H') (hn : s ∉ S) : Srd H' s n := by
  obtain ⟨a, b, c, h1, h2⟩ := h
  exact ⟨a, b, c, f s _ h1 hn, h2⟩
theorem Srd.ne {s n p : Nat} (h : Srd H s n) (hp : H p = none) : p ≠ s := fun z => by
  obtain ⟨a, b, c, h1, h2⟩ := h
  rw [z, h1] at hp
  cases hp
theorem Srd.some {s n : Nat} (h : Srd H s n) : ∃ o, H s = Option.some o := by
  obtain ⟨a, b, c, e, _⟩ := h
  exact ⟨_, e⟩
theorem source3_k (h : T "" "_law_source" = Option.some ⟨1, 1, d_source3⟩) {a : Int} (ha : Fit a) (q : ∀ s, H s = none → ∀ o, Srd (upd H s o) s 0 → Q (.ref s) (upd H s o)) : callK T (k + 1) "" "_law_source" [.int a] H Q E := by
  refine call_k h rfl ?_
  unfold d_source3
  walk_at "z0"
  have hb : small 1048576 ((a.natAbs : Nat) : Int) := by unfold Fit small at *; rw [Int.natAbs_natCast]; exact ha
  have m := mod_rng (i := a) (j := 2147483587) (by decide)
  refine ⟨⟨4, by unfold small; decide, by decide⟩, ⟨1048576, 2, by decide, hb, ?_⟩, by decide, fun p hp => q p hp _ ⟨_, _, 0, upd_same, m, by decide, by decide⟩⟩
  split <;> (unfold small; decide)
theorem draw3_k (h : T "" "_law_draw" = Option.some ⟨2, 4, d_draw3⟩) {s n : Nat} {b : Int} (hs : Srd H s n) (hn : n < 2 ^ 90) (hb : 0 < b) (hb2 : b < 2 ^ 100) (q : ∀ (d : Int) o, 0 ≤ d → d < b → Srd (upd H s o) s (n + 1) → Q (.int d) (upd H s o)) : callK T (k + 1) "" "_law_draw" [.ref s, .int b] H Q E := by
  refine call_k h rfl ?_
  unfold d_draw3
  obtain ⟨a, x, c, hs, ⟨hx, hx2⟩, hc, hc2⟩ := hs
  refine seq_k (fun σ1 H1 => H = H1 ∧ σ1 = [Option.some (.ref s), Option.some (.int b), none, none]) (fun K hK => ?_) ?_
  · walk_at "z"
    exact fun _ => ⟨small_b (by omega) (by omega) (by decide), q _ _ (mod_rng hb).1 (mod_rng hb).2 ⟨_, _, c, upd_same, ⟨hx, hx2⟩, hc, by omega⟩⟩
  rintro _ _ ⟨rfl, rfl⟩
  refine seq_k (fun σ1 H1 => H1 = upd H s (.lst [.int a, .int x, .int (c + 1)]) ∧ σ1 = [Option.some (.ref s), Option.some (.int b), none, none]) (fun K hK => ?_) ?_
  · walk_at "z"
  rintro _ _ ⟨rfl, rfl⟩
  have q2 : ∀ d : Int, 0 ≤ d → d < b → Q (.int d) (upd H s (.lst [.int a, .int x, .int (c + 1)])) := fun d h1 h2 => q d _ h1 h2 ⟨_, _, c + 1, upd_same, ⟨hx, hx2⟩, by omega, by omega⟩
  have e2 : upd H s (.lst [.int a, .int x, .int (c + 1)]) s = Option.some (.lst [.int a, .int x, .int (c + 1)]) := upd_same
  generalize upd H s (.lst [.int a, .int x, .int (c + 1)]) = H2 at *
  refine asg_k (fun v H1 => H2 = H1 ∧ ∃ d : Int, v = .int d ∧ 0 ≤ d ∧ d < 2147483647) (fun K hK => ?_) ?_
  · walk_at "z"
    have m := mod_rng (i := (x + 52711 * (c + 1) + 13) * 48271) (j := 2147483629) (by decide)
    exact ⟨mul_k (small_b (by omega) (by omega) (by decide)) (small_b (by omega) (by omega) (by decide)), mul_k (small_b (by omega) (by omega) (by decide)) (small_b (by omega) (by omega) (by decide)), hK _ _ ⟨rfl, _, rfl, m.1, by omega⟩⟩
  rintro _ _ ⟨rfl, d, rfl, d1, d2⟩
  refine asg_k (fun v H1 => H2 = H1 ∧ ∃ d : Int, v = .int d ∧ 0 ≤ d ∧ d < 2147483647) (fun K hK => ?_) ?_
  · walk_at "z"
    have m := mod_rng (i := d * (d / 1021 + 69621 + (c + 1))) (j := 2147483579) (by decide)
    exact ⟨small_b (by omega) (by omega) (by decide), mul_k (small_b (by omega) (by omega) (by decide)) (small_b (by omega) (by omega) (by decide)), hK _ _ ⟨rfl, _, rfl, m.1, by omega⟩⟩
  rintro _ _ ⟨rfl, e, rfl, e1, e2⟩
  walk_at "z0"
  exact ⟨small_b (by omega) (by omega) (by decide), mul_k (small_b (by omega) (by omega) (by decide)) (small_b (by omega) (by omega) (by decide)), small_b (by omega) (by omega) (by decide), hb, q2 _ (mod_rng hb).1 (mod_rng hb).2⟩
theorem pick3_k (h : T "" "_law_pick" = Option.some ⟨2, 2, d_pick3⟩) (ht : T "" "_law_draw" = Option.some ⟨2, 4, d_draw3⟩) {s n p : Nat} {xs : List V} (hs : Srd H s n) (hn : n < 2 ^ 90) (hp : items H (.ref p) = Option.some xs) (ne : p ≠ s) (h0 : 0 < xs.length) (h1 : xs.length < 2 ^ 90)
    (q : ∀ v o, v ∈ xs → Srd (upd H s o) s (n + 1) → Q v (upd H s o)) : callK T (k + 2) "" "_law_pick" [.ref s, .ref p] H Q E := by
  refine call_k h rfl ?_
  unfold d_pick3
  walk_at "z0"
  refine ⟨_, by rw [← items_r]; exact hp, ?_⟩
  refine draw3_k ht hs hn (by omega) (by omega) fun d o d0 d1 hs2 => ?_
  have hd : d.toNat < xs.length := by omega
  rw [items_r] at hp
  have : itemsO (upd H s o p) = Option.some xs := by rw [upd_ne ne]; exact hp
  rw [this]
  walk_at "z"
end
end Z

/-! ZR: contracts of the program's own checks (text with raises). -/
namespace Z
def r_is_integer : TS :=
  (Z.ret (Z.andv (Z.isi (Z.var 0) ["int"]) (Z.notv (Z.isi (Z.var 0) ["bool"]))))
def r_is_between : TS :=
  (Z.ret (Z.andv (Z.callf "is_integer" 1 [.inl 0] (Z.acons (Z.var 0) Z.anil)) (Z.chain .le .le (Z.var 1) (Z.var 0) (Z.var 2))))
def r_require_keys : TS :=
  (Z.seq (Z.ifs (Z.tor (Z.tnot (Z.tt (Z.isi (Z.var 0) ["list", "tuple"]))) (Z.tt (Z.cmp .gt (Z.blt Z.bLen (Z.acons (Z.var 0) Z.anil)) (Z.var 1)))) (Z.rais "InvalidKeys" "index" (Z.neg (Z.cst (.int 1))))
  Z.skip)
  (Z.fore2 (Z.ienum (Z.var 0)) (Z.gcons (Z.gname 2) (Z.gcons (Z.gname 3) Z.gnil)) (Z.ifs (Z.tnot (Z.tt (Z.callf "is_integer" 1 [.inl 0] (Z.acons (Z.var 3) Z.anil)))) (Z.rais "InvalidKeys" "index" (Z.var 2))
  Z.skip)))
def r_require_number : TS :=
  (Z.ifs (Z.tnot (Z.tt (Z.callf "is_between" 3 [.inl 0, .inl 1, .inl 2] (Z.acons (Z.var 1) (Z.acons (Z.var 2) (Z.acons (Z.var 3) Z.anil)))))) (Z.rais "InvalidNumber" "name" (Z.var 0))
  Z.skip)
section
variable {T : String → String → Option Def} {k : Nat} {H : Heap} {Q : VK} {E : EK}
/-- all stands, but for errors' fields -/
def FrX (H H' : Heap) : Prop := ∀ q o, H q = some o → (∀ fs, o ≠ .xd fs) → H' q = some o
theorem FrX.refl (H : Heap) : FrX H H := fun _ _ h _ => h
theorem FrX.trans {H H1 H2 : Heap} (a : FrX H H1) (b : FrX H1 H2) : FrX H H2 := fun q o h n => b q o (a q o h n) n
theorem FrX.xd {H : Heap} {dd : Nat} {fs : List (String × V)} (h : xfree H dd) : FrX H (upd H dd (.xd fs)) := fun q o e n => by
  rw [upd_ne fun z => ?_]
  · exact e
  · subst z
    rcases h with h | ⟨gs, h⟩
    · rw [h] at e; cases e
    · rw [h] at e
      cases e
      exact n _ rfl
theorem FrX.of {H H' : Heap} (f : Fr [] H H') : FrX H H' := fun q o e _ => f q o e (by simp)
/-- is the value a whole number -/
def isI : V → Bool
  | .int _ => true
  | _ => false
theorem isInt_k (h : T "" "is_integer" = some ⟨1, 1, r_is_integer⟩) {v : V} (hv : (tyOf H v).isSome = true) (q : Q (.bl (isI v)) H) : callK T (k + 1) "" "is_integer" [v] H Q E := by
  refine call_k h rfl ?_
  unfold r_is_integer
  cases v with
  | int i => walk_at "z"; exact q
  | bl b => walk_at "z"; exact q
  | non => walk_at "z"; exact q
  | str s => walk_at "z"; exact q
  | fn x => cases hv
  | cls x => cases hv
  | ty x => cases hv
  | ref a =>
    have e : isI (.ref a) = false := rfl
    rw [e] at q
    obtain ⟨t, ht⟩ := Option.isSome_iff_exists.mp hv
    have hn : subT t "int" = false := by
      rw [tyOf_r] at ht
      unfold tyO at ht
      split at ht <;> cases ht <;> decide
    have hi : isTy H ["int"] (.ref a) = some false := by
      unfold isTy
      rw [ht]
      show some (subT t "int" || false) = _
      rw [hn]
      rfl
    exact ⟨false, hi, false, rfl, q⟩
def inR (lo hi : Int) : V → Bool
  | .int i => decide (lo ≤ i) && decide (i ≤ hi)
  | _ => false
theorem between_k (h : T "" "is_between" = some ⟨3, 3, r_is_between⟩) (hi : T "" "is_integer" = some ⟨1, 1, r_is_integer⟩) {v : V} {lo hi : Int} (hv : (tyOf H v).isSome = true) (q : Q (.bl (inR lo hi v)) H) : callK T (k + 2) "" "is_between" [v, .int lo, .int hi] H Q E := by
  refine call_k h rfl ?_
  unfold r_is_between
  walk_at "z0"
  refine isInt_k (by assumption) hv ?_
  cases v with
  | int i =>
    have e : isI (.int i) = true := rfl
    rw [e]
    walk_at "z0"
    have q : Q (.bl (decide (lo ≤ i) && decide (i ≤ hi))) H := q
    by_cases h1 : lo ≤ i
    · simpa [h1] using q
    · simpa [h1] using q
  | bl b => exact .inl ⟨rfl, q⟩
  | non => exact .inl ⟨rfl, q⟩
  | str s => exact .inl ⟨rfl, q⟩
  | fn x => exact .inl ⟨rfl, q⟩
  | cls x => exact .inl ⟨rfl, q⟩
  | ty x => exact .inl ⟨rfl, q⟩
  | ref a => exact .inl ⟨rfl, q⟩
/-- in its bounds it is let by, else it is told of by its name -/
theorem number_k (h : T "" "require_number" = some ⟨4, 4, r_require_number⟩) (hb : T "" "is_between" = some ⟨3, 3, r_is_between⟩) (hi : T "" "is_integer" = some ⟨1, 1, r_is_integer⟩) {nm v : V} {lo hi : Int} (hv : (tyOf H v).isSome = true)
    (q : inR lo hi v = true → Q .non H) (e : inR lo hi v = false → E "InvalidNumber" [("name", nm)] H) : callK T (k + 3) "" "require_number" [nm, v, .int lo, .int hi] H Q E := by
  refine call_k h rfl ?_
  unfold r_require_number
  walk_at "z0"
  refine between_k hb (by assumption) hv ?_
  cases z : inR lo hi v with
  | true =>
    walk_at "z0"
    exact q z
  | false =>
    walk_at "z0"
    exact e z
end
end Z

/-! ZH: the honest asker, and items put into their places. -/
namespace Z
def h_init (cs : List String) : TS :=
  (Z.par 2 (Z.gcons (Z.gfld cs (Z.var 0) "marks") (Z.gcons (Z.gfld cs (Z.var 0) "log") Z.gnil)) (Z.acons (Z.blt Z.bList (Z.acons (Z.var 1) Z.anil)) (Z.acons (Z.lstl Z.anil) Z.anil)))
def h_less : TS :=
  (Z.seq (Z.asg (Z.gname 3) (Z.cmp .lt (Z.ix (Z.fld (Z.var 0) "marks") (Z.var 1)) (Z.ix (Z.fld (Z.var 0) "marks") (Z.var 2))))
  (Z.seq (Z.drop (Z.bmt Z.isL Z.mAppend (Z.fld (Z.var 0) "log") (Z.acons (Z.tupl (Z.acons (Z.tupl (Z.acons (Z.var 1) (Z.acons (Z.var 2) Z.anil))) (Z.acons (Z.var 3) Z.anil))) Z.anil)))
  (Z.ret (Z.var 3))))
def h_place_one (cs : List String) : TS :=
  (Z.seq (Z.par 3 (Z.gcons (Z.gname 4) (Z.gcons (Z.gname 5) (Z.gcons (Z.gname 6) Z.gnil))) (Z.acons (Z.ix (Z.var 0) (Z.bin .add (Z.var 1) (Z.var 2))) (Z.acons (Z.cst (.int 0)) (Z.acons (Z.var 2) Z.anil))))
  (Z.seq (Z.whl (Z.tt (Z.cmp .lt (Z.var 5) (Z.var 6))) (Z.seq (Z.asg (Z.gname 7) (Z.bin .fdiv (Z.bin .add (Z.var 5) (Z.var 6)) (Z.cst (.int 2))))
  (Z.ifs (Z.tt (Z.meth cs (Z.var 3) "less" 2 [.inl 0, .inl 1, .inl 2] (Z.acons (Z.var 4) (Z.acons (Z.ix (Z.var 0) (Z.bin .add (Z.var 1) (Z.var 7))) Z.anil)))) (Z.asg (Z.gname 6) (Z.var 7))
  (Z.asg (Z.gname 5) (Z.bin .add (Z.var 7) (Z.cst (.int 1)))))))
  (Z.asg (Z.gslc (Z.var 0) (Z.bin .add (Z.var 1) (Z.var 5)) (Z.bin .add (Z.bin .add (Z.var 1) (Z.var 2)) (Z.cst (.int 1)))) (Z.lstl (Z.acons (Z.var 4) (Z.astar (Z.slc (Z.var 0) (Z.pso (Z.bin .add (Z.var 1) (Z.var 5))) (Z.pso (Z.bin .add (Z.var 1) (Z.var 2)))) Z.anil))))))
def h_place_all : TS :=
  (Z.fore (Z.irng2 (Z.acons (Z.blt Z.bMax2 (Z.acons (Z.cst (.int 1)) (Z.acons (Z.var 3) Z.anil))) (Z.acons (Z.bin .sub (Z.var 2) (Z.var 1)) Z.anil))) (Z.gname 5) (Z.drop (Z.callf "place_one" 4 [.inl 0, .inl 1, .inl 2, .inl 3] (Z.acons (Z.var 0) (Z.acons (Z.var 1) (Z.acons (Z.var 5) (Z.acons (Z.var 4) Z.anil)))))))
def h_placed : TS :=
  (Z.seq (Z.drop (Z.callf "require_keys" 2 [.inl 0, .inl 1] (Z.acons (Z.var 0) (Z.acons (Z.cst (.int 64)) Z.anil))))
  (Z.seq (Z.drop (Z.callf "require_number" 4 [.inl 0, .inl 1, .inl 2, .inl 3] (Z.acons (Z.cst (.str [114, 101, 97, 100, 121])) (Z.acons (Z.var 1) (Z.acons (Z.cst (.int 0)) (Z.acons (Z.blt Z.bLen (Z.acons (Z.var 0) Z.anil)) Z.anil))))))
  (Z.seq (Z.par 2 (Z.gcons (Z.gname 2) (Z.gcons (Z.gname 3) Z.gnil)) (Z.acons (Z.lrng1 (Z.blt Z.bLen (Z.acons (Z.var 0) Z.anil))) (Z.acons (Z.make "Honest" 1 [.inl 0, .inl 1] (Z.acons (Z.var 0) Z.anil)) Z.anil)))
  (Z.seq (Z.drop (Z.callf "place_all" 5 [.inl 0, .inl 1, .inl 2, .inl 3, .inl 4] (Z.acons (Z.var 2) (Z.acons (Z.cst (.int 0)) (Z.acons (Z.blt Z.bLen (Z.acons (Z.var 2) Z.anil)) (Z.acons (Z.var 1) (Z.acons (Z.var 3) Z.anil)))))))
  (Z.ret (Z.tupl (Z.acons (Z.var 2) (Z.acons (Z.lcomp (Z.iseq (Z.fld (Z.var 3) "log")) [4, 5] (Z.gtup 2 (Z.gcons (Z.gname 4) (Z.gcons (Z.gname 5) Z.gnil))) Z.tyes (Z.var 4)) Z.anil))))))))
/-! ### what is put where, in plain terms -/
/-- a search by halves: the place that is found, the places that were looked at -/
def probe (ls : Nat → Bool) : Nat → Nat → Nat → Nat × List Nat
  | 0, lo, _ => (lo, [])
  | f + 1, lo, hi => if lo < hi then (if ls ((lo + hi) / 2) = true then ((probe ls f lo ((lo + hi) / 2)).1, (lo + hi) / 2 :: (probe ls f lo ((lo + hi) / 2)).2) else ((probe ls f ((lo + hi) / 2 + 1) hi).1, (lo + hi) / 2 :: (probe ls f ((lo + hi) / 2 + 1) hi).2)) else (lo, [])
/-- one item put into a row -/
def put1 (ls : Nat → Nat → Bool) (A : List Nat) (x : Nat) : List Nat × List (Nat × Nat) :=
  (A.take (probe (fun m => ls x (A.getD m 0)) A.length 0 A.length).1 ++ x :: A.drop (probe (fun m => ls x (A.getD m 0)) A.length 0 A.length).1, (probe (fun m => ls x (A.getD m 0)) A.length 0 A.length).2.map fun m => (x, A.getD m 0))
def putL (ls : Nat → Nat → Bool) : List Nat → List Nat → List Nat × List (Nat × Nat)
  | A, [] => (A, [])
  | A, x :: B => ((putL ls (put1 ls A x).1 B).1, (put1 ls A x).2 ++ (putL ls (put1 ls A x).1 B).2)
theorem probe_rng (ls : Nat → Bool) : ∀ (f lo hi : Nat), lo ≤ hi → lo ≤ (probe ls f lo hi).1 ∧ (probe ls f lo hi).1 ≤ hi ∧ ∀ m ∈ (probe ls f lo hi).2, lo ≤ m ∧ m < hi := by
  intro f
  induction f with
  | zero => intro lo hi h; exact ⟨Nat.le_refl _, h, fun m hm => nomatch hm⟩
  | succ f ih =>
    intro lo hi h
    unfold probe
    by_cases l : lo < hi
    · rw [if_pos l]
      by_cases t : ls ((lo + hi) / 2) = true
      · rw [if_pos t]
        obtain ⟨a, b, c⟩ := ih lo ((lo + hi) / 2) (by omega)
        refine ⟨a, by simp only; omega, fun m hm => ?_⟩
        rcases List.mem_cons.mp hm with rfl | hm
        · omega
        · have := c m hm; omega
      · rw [if_neg t]
        obtain ⟨a, b, c⟩ := ih ((lo + hi) / 2 + 1) hi (by omega)
        refine ⟨by simp only; omega, b, fun m hm => ?_⟩
        rcases List.mem_cons.mp hm with rfl | hm
        · omega
        · have := c m hm; omega
    · rw [if_neg l]
      exact ⟨Nat.le_refl _, h, fun m hm => nomatch hm⟩
theorem probe_succ {ls : Nat → Bool} {f lo hi : Nat} (l : lo < hi) : probe ls (f + 1) lo hi = (if ls ((lo + hi) / 2) = true then ((probe ls f lo ((lo + hi) / 2)).1, (lo + hi) / 2 :: (probe ls f lo ((lo + hi) / 2)).2) else ((probe ls f ((lo + hi) / 2 + 1) hi).1, (lo + hi) / 2 :: (probe ls f ((lo + hi) / 2 + 1) hi).2)) := by
  show (if lo < hi then _ else _) = _
  rw [if_pos l]
theorem probe_end {ls : Nat → Bool} {f lo hi : Nat} (l : ¬ lo < hi) : probe ls f lo hi = (lo, []) := by
  cases f with
  | zero => rfl
  | succ f =>
    show (if lo < hi then _ else _) = _
    rw [if_neg l]
theorem put1_len (ls : Nat → Nat → Bool) (A : List Nat) (x : Nat) : (put1 ls A x).1.length = A.length + 1 := by
  have := probe_rng (fun m => ls x (A.getD m 0)) A.length 0 A.length (Nat.zero_le _)
  unfold put1
  simp only [List.length_append, List.length_take, List.length_cons, List.length_drop]
  omega
theorem put1_mem {ls : Nat → Nat → Bool} {A : List Nat} {x y : Nat} (h : y ∈ (put1 ls A x).1) : y = x ∨ y ∈ A := by
  unfold put1 at h
  rcases List.mem_append.mp h with h | h
  · exact .inr (List.mem_of_mem_take h)
  · rcases List.mem_cons.mp h with h | h
    · exact .inl h
    · exact .inr (List.mem_of_mem_drop h)
/-! ### slices within a list -/
theorem sIx_in {n d v : Nat} (h : v ≤ n) : sIx n d (some (v : Int)) = v := by
  show (if (v : Int) < 0 then ((v : Int) + (n : Int)).toNat else min (v : Int).toNat n) = v
  rw [if_neg (by omega)]
  omega
theorem cut_in {xs : List V} {l h : Nat} (a : l ≤ h) (b : h ≤ xs.length) : cutV xs (some (l : Int)) (some (h : Int)) = (xs.drop l).take (h - l) := by
  unfold cutV
  rw [sIx_in (Nat.le_trans a b), sIx_in b]
/-! ### the log -/
/-- questions with their answers, as they stand in a log -/
def LogE (H : Heap) : List Nat → List ((Nat × Nat) × Bool) → Prop
  | [], [] => True
  | e :: es, q :: qs => (∃ t, H e = some (.tup [.ref t, .bl q.2]) ∧ H t = some (.tup [.int q.1.1, .int q.1.2])) ∧ LogE H es qs
  | _, _ => False
/-- all tuples stay -/
def FrT (H H' : Heap) : Prop := ∀ p ys, H p = some (.tup ys) → H' p = some (.tup ys)
theorem FrT.refl (H : Heap) : FrT H H := fun _ _ h => h
theorem FrT.trans {H H1 H2 : Heap} (a : FrT H H1) (b : FrT H1 H2) : FrT H H2 := fun p ys h => b p ys (a p ys h)
theorem FrT.new {H : Heap} {p : Nat} {o : O} (h : H p = none) : FrT H (upd H p o) := fun _ _ e => upd_old e h
theorem FrT.chg {H : Heap} {p : Nat} {o : O} {xs : List V} (h : H p = some (.lst xs)) : FrT H (upd H p o) := fun q ys e => by
  rw [upd_ne fun z => by rw [z, h] at e; cases e]
  exact e
theorem FrT.of {H H' : Heap} (f : Fr [] H H') : FrT H H' := fun p ys h => f p _ h (by simp)
theorem LogE.fr {H H' : Heap} (f : FrT H H') : ∀ {es : List Nat} {qs : List ((Nat × Nat) × Bool)}, LogE H es qs → LogE H' es qs
  | [], [], _ => trivial
  | e :: es, q :: qs, ⟨⟨t, a, b⟩, r⟩ => ⟨⟨t, f _ _ a, f _ _ b⟩, LogE.fr f r⟩
  | [], _ :: _, h => nomatch h
  | _ :: _, [], h => nomatch h
theorem LogE.app {H : Heap} {e t : Nat} {q : (Nat × Nat) × Bool} (a : H e = some (.tup [.ref t, .bl q.2])) (b : H t = some (.tup [.int q.1.1, .int q.1.2])) : ∀ {es : List Nat} {qs : List ((Nat × Nat) × Bool)}, LogE H es qs → LogE H (es ++ [e]) (qs ++ [q])
  | [], [], _ => ⟨⟨t, a, b⟩, trivial⟩
  | x :: es, y :: qs, ⟨h, r⟩ => ⟨h, LogE.app a b r⟩
  | [], _ :: _, h => nomatch h
  | _ :: _, [], h => nomatch h
theorem LogE.len {H : Heap} : ∀ {es : List Nat} {qs : List ((Nat × Nat) × Bool)}, LogE H es qs → es.length = qs.length
  | [], [], _ => rfl
  | _ :: _, _ :: _, ⟨_, r⟩ => congrArg Nat.succ r.len
  | [], _ :: _, h => nomatch h
  | _ :: _, [], h => nomatch h
/-- an honest asker stands at a: its keys at mk, its log at lg -/
structure Hon (H : Heap) (a mk lg : Nat) (ns : List Int) (qs : List ((Nat × Nat) × Bool)) : Prop where
  at_ : H a = some (.ins "Honest" [("marks", .ref mk), ("log", .ref lg)])
  marks : H mk = some (.lst (ns.map .int))
  ne : mk ≠ lg
  log : ∃ es : List Nat, H lg = some (.lst (es.map V.ref)) ∧ LogE H es qs
theorem Hon.new {H : Heap} {a mk lg p : Nat} {ns : List Int} {qs : List ((Nat × Nat) × Bool)} {o : O} (h : Hon H a mk lg ns qs) (hp : H p = none) : Hon (upd H p o) a mk lg ns qs := by
  obtain ⟨h1, h2, h3, es, h4, h5⟩ := h
  exact ⟨upd_old h1 hp, upd_old h2 hp, h3, es, upd_old h4 hp, h5.fr (.new hp)⟩
/-- another list changes -/
theorem Hon.chg {H : Heap} {a mk lg p : Nat} {ns : List Int} {qs : List ((Nat × Nat) × Bool)} {o : O} {xs : List V} (h : Hon H a mk lg ns qs) (hp : H p = some (.lst xs)) (n1 : mk ≠ p) (n2 : lg ≠ p) : Hon (upd H p o) a mk lg ns qs := by
  obtain ⟨h1, h2, h3, es, h4, h5⟩ := h
  refine ⟨?_, ?_, h3, es, ?_, h5.fr (.chg hp)⟩
  · rw [upd_ne fun z => by rw [z, hp] at h1; cases h1]
    exact h1
  · rw [upd_ne n1]
    exact h2
  · rw [upd_ne n2]
    exact h4
/-- which key is less -/
def lsN (ns : List Int) (i j : Nat) : Bool := decide (ns.getD i 0 < ns.getD j 0)
section
variable {T : String → String → Option Def} {k : Nat} {H : Heap} {Q : VK} {E : EK}
theorem hon_less {a mk lg : Nat} {ns : List Int} {qs : List ((Nat × Nat) × Bool)} (h : T "Honest" "less" = some ⟨3, 4, h_less⟩) (hh : Hon H a mk lg ns qs) {i j : Nat} (hi : i < ns.length) (hj : j < ns.length) (hq : qs.length < line)
    (q : ∀ H', Hon H' a mk lg ns (qs ++ [((i, j), lsN ns i j)]) → Fr [lg] H H' → FrT H H' → Q (.bl (lsN ns i j)) H') : callK T (k + 1) "Honest" "less" [.ref a, .int i, .int j] H Q E := by
  refine call_k h rfl ?_
  unfold h_less
  obtain ⟨h1, h2, h3, es, h4, h5⟩ := hh
  have ei : (ns.map V.int)[i]? = some (.int (ns.getD i 0)) := by
    rw [List.getElem?_map, List.getElem?_eq_getElem hi]
    simp [List.getD, List.getElem?_eq_getElem hi]
  have ej : (ns.map V.int)[j]? = some (.int (ns.getD j 0)) := by
    rw [List.getElem?_map, List.getElem?_eq_getElem hj]
    simp [List.getD, List.getElem?_eq_getElem hj]
  refine asg_k (fun v H1 => H = H1 ∧ v = .bl (lsN ns i j)) (fun K hK => ?_) ?_
  · simp only [cmp, ix, fld, var, start, Z.get]
    refine ⟨a, _, _, _, rfl, h1, rfl, _, i, .int (ns.getD i 0), items_l h2, rfl, ?_, a, _, _, _, rfl, h1, rfl, _, j, .int (ns.getD j 0), items_l h2, rfl, ?_, ?_⟩
    · rw [atI_lt (by omega) (by simp; omega)]
      exact ei
    · rw [atI_lt (by omega) (by simp; omega)]
      exact ej
    · exact hK _ _ ⟨rfl, rfl⟩
  rintro _ _ ⟨rfl, rfl⟩
  generalize hb : lsN ns i j = b at *
  refine seq_k (fun σ1 H' => σ1 = [some (.ref a), some (.int i), some (.int j), some (.bl b)] ∧ Hon H' a mk lg ns (qs ++ [((i, j), b)]) ∧ Fr [lg] H H' ∧ FrT H H') (fun K hK => ?_) ?_
  · simp only [drop, bmt, fld, acons, anil, tupl, var, start, put, Z.get]
    refine ⟨a, _, _, .ref lg, rfl, h1, rfl, ⟨_, litems_l h4⟩, (by show 2 ≤ line; decide), fun p np => ⟨(by show 2 ≤ line; decide), fun e ne => ?_⟩⟩
    have g1 := upd_old (o' := .tup [.ref p, .bl b]) (upd_old (o' := .tup [.int i, .int j]) h4 np) ne
    refine ⟨lg, es.map V.ref, .ref e, rfl, rfl, g1, by rw [List.length_map, h5.len]; exact hq, hK _ _ ⟨rfl, ?_, ?_, ?_⟩⟩
    · have f : FrT H (upd (upd H p (.tup [.int i, .int j])) e (.tup [.ref p, .bl b])) := (FrT.new np).trans (FrT.new ne)
      refine ⟨?_, ?_, h3, es ++ [e], ?_, ?_⟩
      · rw [upd_ne fun z => by rw [z, h4] at h1; cases h1]
        exact upd_old (upd_old h1 np) ne
      · rw [upd_ne h3]
        exact upd_old (upd_old h2 np) ne
      · rw [upd_same]
        simp
      · refine LogE.app (t := p) ?_ ?_ ((h5.fr f).fr (.chg g1))
        · rw [upd_ne fun z => by rw [← z] at g1; rw [upd_same] at g1; cases g1]
          exact upd_same
        · have gp : upd (upd H p (.tup [.int i, .int j])) e (.tup [.ref p, .bl b]) p = some (.tup [.int i, .int j]) := upd_old upd_same ne
          rw [upd_ne fun z => by rw [← z, gp] at g1; cases g1]
          exact gp
    · exact ((Fr.new np).trans (Fr.new ne)).trans (Fr.chg (by simp))
    · exact ((FrT.new np).trans (FrT.new ne)).trans (FrT.chg g1)
  rintro _ H' ⟨rfl, a1, a2, a3⟩
  walk_at "z0"
  exact q H' a1 a2 a3
/-- a list of places -/
abbrev nats (xs : List Nat) : List V := xs.map fun n : Nat => V.int n
theorem nats_get {xs : List Nat} {i : Nat} (h : i < xs.length) : (nats xs)[i]? = some (.int (xs.getD i 0)) := by
  show (xs.map _)[i]? = _
  rw [List.getElem?_map, List.getElem?_eq_getElem h]
  simp [List.getD, List.getElem?_eq_getElem h]
theorem getD_app {A B : List Nat} {m : Nat} (h : m < A.length) : (A ++ B).getD m 0 = A.getD m 0 := by
  simp [List.getD, List.getElem?_append_left h]
theorem getD_mem {A : List Nat} {m : Nat} (h : m < A.length) : A.getD m 0 ∈ A := by
  rw [List.getD, List.getElem?_eq_getElem h]
  exact List.getElem_mem h
/-- questions with their honest answers -/
abbrev ans (ns : List Int) (ps : List (Nat × Nat)) : List ((Nat × Nat) × Bool) := ps.map fun p => (p, lsN ns p.1 p.2)
theorem place_one_k {cs : List String} (hc : "Honest" ∈ cs) (h : T "" "place_one" = some ⟨4, 8, h_place_one cs⟩) (hl : T "Honest" "less" = some ⟨3, 4, h_less⟩) {a mk lg r : Nat} {ns : List Int} {qs : List ((Nat × Nat) × Bool)} {A B : List Nat} {x : Nat} (hh : Hon H a mk lg ns qs)
    (hr : H r = some (.lst (nats (A ++ x :: B)))) (n1 : mk ≠ r) (n2 : lg ≠ r) (bd : ∀ y ∈ A ++ x :: B, y < ns.length) (hq : qs.length + A.length < line) (hll : (A ++ x :: B).length + A.length + 1 ≤ line)
    (q : ∀ H', Hon H' a mk lg ns (qs ++ ans ns (put1 (lsN ns) A x).2) → H' r = some (.lst (nats ((put1 (lsN ns) A x).1 ++ B))) → Fr [r, lg] H H' → FrT H H' → Q .non H') : callK T (k + 2) "" "place_one" [.ref r, .int 0, .int A.length, .ref a] H Q E := by
  refine call_k h rfl ?_
  unfold h_place_one
  have lr : A.length < (A ++ x :: B).length := by simp
  have gx : (A ++ x :: B).getD A.length 0 = x := by simp [List.getD]
  refine seq_k (fun σ1 H1 => H = H1 ∧ σ1 = [some (.ref r), some (.int 0), some (.int A.length), some (.ref a), some (.int x), some (.int 0), some (.int A.length), none]) (fun K hK => ?_) ?_
  · simp only [par, acons, anil, ix, bin, var, cst, start, Z.get, gcons, gnil, gname]
    simp [Z.get, opr_add_ii]
    refine ⟨_, items_l hr, .int x, ?_, _, _, ⟨rfl, rfl⟩, _, _, rfl, _, _, rfl, rfl, hK _ _ ⟨rfl, rfl⟩⟩
    rw [atI_lt (by omega) (by simp; omega), Int.toNat_natCast, nats_get lr, gx]
  rintro _ _ ⟨rfl, rfl⟩
  generalize eL : (fun m => lsN ns x (A.getD m 0)) = L
  have eP : ∀ P2, put1 (lsN ns) A x = P2 → P2 = (A.take (probe L A.length 0 A.length).1 ++ x :: A.drop (probe L A.length 0 A.length).1, (probe L A.length 0 A.length).2.map fun m => (x, A.getD m 0)) := by
    intro P2 e
    rw [← e, ← eL]
    rfl
  refine seq_k (fun σ1 H1 => ∃ y6 y7 : Option V, σ1 = [some (.ref r), some (.int 0), some (.int A.length), some (.ref a), some (.int x), some (.int (probe L A.length 0 A.length).1), y6, y7] ∧ Hon H1 a mk lg ns (qs ++ ans ns ((probe L A.length 0 A.length).2.map fun m => (x, A.getD m 0))) ∧ H1 r = some (.lst (nats (A ++ x :: B))) ∧ Fr [lg] H H1 ∧ FrT H H1) (fun K hK => ?_) ?_
  · refine whl_k (n := A.length) (fun f σ2 H2 => ∃ (lo hi : Nat) (done : List Nat) (y7 : Option V), hi - lo ≤ f ∧ lo ≤ hi ∧ hi ≤ A.length ∧ done.length + f ≤ A.length ∧ probe L A.length 0 A.length = ((probe L f lo hi).1, done ++ (probe L f lo hi).2) ∧ σ2 = [some (.ref r), some (.int 0), some (.int A.length), some (.ref a), some (.int x), some (.int (lo : Nat)), some (.int (hi : Nat)), y7] ∧
      Hon H2 a mk lg ns (qs ++ ans ns (done.map fun m => (x, A.getD m 0))) ∧ H2 r = some (.lst (nats (A ++ x :: B))) ∧ Fr [lg] H H2 ∧ FrT H H2)
      ⟨0, A.length, [], none, by omega, by omega, by omega, by simp, rfl, rfl, by simpa using hh, hr, .refl _ _, .refl _⟩ ?_
    rintro f σ2 H2 ⟨lo, hi, done, y7, h1, h2, h3, h4, h5, rfl, hh2, hr2, f2, t2⟩ M hM
    simp only [tt, cmp, var, Z.get, cmpr_lt, truth_b]
    refine ⟨_, rfl, ?_⟩
    by_cases l : lo < hi
    · rw [if_pos (by simpa using l)]
      obtain ⟨f', rfl⟩ : ∃ f', f = f' + 1 := ⟨f - 1, by omega⟩
      obtain ⟨mid, em⟩ : ∃ mid, (lo + hi) / 2 = mid := ⟨_, rfl⟩
      have m1 : lo ≤ mid := by omega
      have m2 : mid < hi := by omega
      have em2 : ((lo : Int) + hi) / 2 = (mid : Int) := by omega
      refine asg_k (fun v H3 => H2 = H3 ∧ v = .int mid) (fun K hK => ?_) ?_
      · simp only [bin, var, cst, Z.get, opr_add_ii, opr_fdiv]
        exact ⟨by decide, small_b (by decide) (by decide) (by decide), by rw [em2]; exact hK _ _ ⟨rfl, rfl⟩⟩
      rintro _ _ ⟨rfl, rfl⟩
      simp only [put, ifs, tt, meth, var, Z.get, acons, anil, ix, bin, opr_add_ii]
      refine ⟨a, "Honest", _, rfl, hh2.at_, hc, rfl, _, (mid : Int), .int (A.getD mid 0 : Nat), items_l hr2, by simp, ?_, rfl, ?_⟩
      · rw [atI_lt (by omega) (by simp; omega), Int.toNat_natCast, nats_get (by omega), getD_app (by omega)]
      · have mx : x < ns.length := bd x (by simp)
        have my : A.getD mid 0 < ns.length := bd _ (List.mem_append_left _ (getD_mem (by omega)))
        refine hon_less hl hh2 mx my (by simp; omega) fun H3 hh3 f3 t3 => ?_
        have hr3 := f3 r _ hr2 (by simpa using Ne.symm n2)
        have eb : L mid = lsN ns x (A.getD mid 0) := by rw [← eL]
        have hh4 : Hon H3 a mk lg ns (qs ++ ans ns ((done ++ [mid]).map fun m => (x, A.getD m 0))) := by
          simpa using hh3
        rw [probe_succ l, em] at h5
        refine ⟨_, rfl, ?_⟩
        rw [← eb]
        by_cases lb : L mid = true
        · rw [if_pos lb]
          rw [if_pos lb] at h5
          simp only [asg, var, Z.get, gname, put]
          exact hM f' _ _ (by omega) ⟨lo, mid, done ++ [mid], _, by omega, by omega, by omega, by simp; omega, by rw [h5]; simp, rfl, hh4, hr3, f2.trans f3, t2.trans t3⟩
        · rw [if_neg lb]
          rw [if_neg lb] at h5
          simp only [asg, bin, cst, var, Z.get, gname, put, opr_add_ii]
          exact hM f' _ _ (by omega) ⟨mid + 1, hi, done ++ [mid], _, by omega, by omega, by omega, by simp; omega, by rw [h5]; simp, rfl, hh4, hr3, f2.trans f3, t2.trans t3⟩
    · rw [if_neg (by simpa using l)]
      rw [probe_end l] at h5
      have e1 : (probe L A.length 0 A.length).1 = lo := by rw [h5]
      have e2 : (probe L A.length 0 A.length).2 = done := by rw [h5]; simp
      exact hK _ _ ⟨some (.int hi), y7, by rw [e1], by rw [e2]; exact hh2, hr2, f2, t2⟩
  rintro _ H1 ⟨y6, y7, rfl, hh1, hr1, f1, t1⟩
  have pr := probe_rng L A.length 0 A.length (Nat.zero_le _)
  have eP2 := eP _ rfl
  have pr2 := pr.2.1
  generalize hp : (probe L A.length 0 A.length).1 = p at *
  generalize (probe L A.length 0 A.length).2 = ms at *
  simp only [asg, lstl, acons, anil, astar, slc, pso, bin, var, cst, Z.get, opr_add_ii]
  refine ⟨(p : Int), by simp, (A.length : Int), by simp, .inl ⟨_, litems_l hr1, fun u nu => ?_⟩⟩
  have ec : cutV (nats (A ++ x :: B)) (some (p : Int)) (some (A.length : Int)) = nats (A.drop p) := by
    rw [cut_in pr.2.1 (by simp)]
    show ((List.map _ (A ++ x :: B)).drop p).take _ = _
    rw [← List.map_drop, ← List.map_take, List.drop_append_of_le_length pr.2.1, List.take_append_of_le_length (by simp), List.take_of_length_le (by simp)]
  rw [ec]
  refine ⟨_, items_l upd_same, ?_, fun w nw => ?_⟩
  · simp only [List.length_cons, List.length_append, List.length_map, List.length_drop, List.length_nil] at hll ⊢
    omega
  · have hr2 := upd_old (o' := .lst (V.int x :: (nats (A.drop p) ++ []))) (upd_old (o' := .lst (nats (A.drop p))) hr1 nu) nw
    have hw : upd (upd H1 u (.lst (nats (A.drop p)))) w (.lst (V.int x :: (nats (A.drop p) ++ []))) w = some (.lst (V.int x :: (nats (A.drop p) ++ []))) := upd_same
    have hh2 := (hh1.new (o := .lst (nats (A.drop p))) nu).new (o := .lst (V.int x :: (nats (A.drop p) ++ []))) nw
    have f2 : Fr [r, lg] H (upd (upd H1 u (.lst (nats (A.drop p)))) w (.lst (V.int x :: (nats (A.drop p) ++ [])))) := ((f1.mono (by simp)).trans (Fr.new nu)).trans (Fr.new nw)
    have t2 : FrT H (upd (upd H1 u (.lst (nats (A.drop p)))) w (.lst (V.int x :: (nats (A.drop p) ++ [])))) := (t1.trans (FrT.new nu)).trans (FrT.new nw)
    have rw' : r ≠ w := fun z => by
      have e := upd_old (o' := .lst (nats (A.drop p))) hr1 nu
      rw [z, nw] at e
      cases e
    generalize upd (upd H1 u (.lst (nats (A.drop p)))) w (.lst (V.int x :: (nats (A.drop p) ++ []))) = H3 at *
    simp only [gslc, bin, var, cst, Z.get, opr_add_ii]
    refine ⟨r, w, _, _, (p : Int), (A.length : Int) + 1, rfl, rfl, by simp, by simp, hr2, hw, rw', by omega, by omega, by simp; omega, ?_, ?_⟩
    · simp only [List.length_cons, List.length_append, List.length_map, List.length_drop, List.length_nil] at hll ⊢
      omega
    · have e1 : (nats (A ++ x :: B)).take (p : Int).toNat ++ (V.int x :: (nats (A.drop p) ++ [])) ++ (nats (A ++ x :: B)).drop ((A.length : Int) + 1).toNat = nats (A.take p ++ x :: A.drop p ++ B) := by
        rw [show ((A.length : Int) + 1).toNat = A.length + 1 by omega, Int.toNat_natCast]
        simp only [nats, List.append_nil, ← List.map_drop, ← List.map_take]
        have e2 : (A ++ x :: B).drop (A.length + 1) = B := by simp [List.drop_append]
        rw [List.take_append_of_le_length pr.2.1, e2]
        simp
      rw [e1]
      rw [eP2] at q
      refine q _ (hh2.chg hr2 n1 n2) (by rw [upd_same]) (f2.trans (Fr.chg (by simp))) (t2.trans (FrT.chg hr2))
theorem put_len (ls : Nat → Nat → Bool) : ∀ (B A : List Nat), (putL ls A B).1.length = A.length + B.length
  | [], A => rfl
  | x :: B, A => by
    show (putL ls (put1 ls A x).1 B).1.length = _
    rw [put_len ls B, put1_len]
    simp only [List.length_cons]
    omega
theorem probe_cnt (ls : Nat → Bool) : ∀ (f lo hi : Nat), (probe ls f lo hi).2.length ≤ f
  | 0, lo, hi => Nat.le_refl _
  | f + 1, lo, hi => by
    by_cases l : lo < hi
    · rw [probe_succ l]
      split
      · exact Nat.succ_le_succ (probe_cnt ls f _ _)
      · exact Nat.succ_le_succ (probe_cnt ls f _ _)
    · rw [probe_end l]
      exact Nat.zero_le _
theorem put1_cnt (ls : Nat → Nat → Bool) (A : List Nat) (x : Nat) : (put1 ls A x).2.length ≤ A.length := by
  unfold put1
  rw [List.length_map]
  exact probe_cnt _ _ _ _
theorem place_all_k {cs : List String} (hc : "Honest" ∈ cs) (h : T "" "place_all" = some ⟨5, 6, h_place_all⟩) (ho : T "" "place_one" = some ⟨4, 8, h_place_one cs⟩) (hl : T "Honest" "less" = some ⟨3, 4, h_less⟩) {a mk lg r rd : Nat} {ns : List Int} {qs : List ((Nat × Nat) × Bool)} {A B : List Nat} (hh : Hon H a mk lg ns qs)
    (hr : H r = some (.lst (nats (A ++ B)))) (n1 : mk ≠ r) (n2 : lg ≠ r) (bd : ∀ y ∈ A ++ B, y < ns.length) (hq : qs.length ≤ 10000) (hll : (A ++ B).length ≤ 2000) (hA : A.length = max 1 rd ∨ (B = [] ∧ (A ++ B).length ≤ max 1 rd)) (hrd : rd ≤ 2000)
    (q : ∀ H', Hon H' a mk lg ns (qs ++ ans ns (putL (lsN ns) A B).2) → H' r = some (.lst (nats (putL (lsN ns) A B).1)) → Fr [r, lg] H H' → FrT H H' → Q .non H') : callK T (k + 3) "" "place_all" [.ref r, .int 0, .int ((A ++ B).length : Nat), .int rd, .ref a] H Q E := by
  refine call_k h rfl ?_
  unfold h_place_all
  simp only [fore, irng2, acons, anil, blt, bMax2, bin, cst, var, start, Z.get, opr_sub_ii]
  refine ⟨1, rd, rfl, _, _, rfl, ?_, ?_, ?_⟩
  · unfold big
    omega
  · unfold big
    simp only [List.length_append] at hll ⊢
    omega
  have eB : (((A ++ B).length : Nat) - 0 - max (1 : Int) rd).toNat = B.length := by
    rcases hA with hA | ⟨rfl, hA⟩
    · simp only [List.length_append]
      omega
    · simp only [List.length_append, List.length_nil] at hA ⊢
      omega
  rw [eB]
  refine fori_k (fun j σ H2 => ∃ (A' : List Nat) (done : List (Nat × Nat)) (x : Option V), A'.length = A.length + j ∧ (∀ y ∈ A' ++ B.drop j, y < ns.length) ∧ putL (lsN ns) A B = ((putL (lsN ns) A' (B.drop j)).1, done ++ (putL (lsN ns) A' (B.drop j)).2) ∧ done.length ≤ j * 2000 ∧
    σ = [some (.ref r), some (.int 0), some (.int ((A ++ B).length : Nat)), some (.int rd), some (.ref a), x] ∧ Hon H2 a mk lg ns (qs ++ ans ns done) ∧ H2 r = some (.lst (nats (A' ++ B.drop j))) ∧ Fr [r, lg] H H2 ∧ FrT H H2)
    ⟨A, [], none, rfl, by simpa using bd, by simp, by simp, rfl, by simpa using hh, by simpa using hr, .refl _ _, .refl _⟩ (fun j v σ H2 hv g => ⟨trivial, fun K hK => ?_⟩) fun σ H2 g => ⟨trivial, ?_⟩
  · obtain ⟨A', done, y, e1, bd2, e2, e3, rfl, hh2, hr2, f2, t2⟩ := g
    obtain ⟨hk, rfl⟩ := rng_get hv
    have hA2 : A.length = max 1 rd := by
      rcases hA with hA | ⟨rfl, _⟩
      · exact hA
      · simp at hk
    obtain ⟨x, ex⟩ : ∃ x, B[j]? = some x := ⟨_, List.getElem?_eq_getElem hk⟩
    have ed : B.drop j = x :: B.drop (j + 1) := by
      rw [List.drop_eq_getElem_cons hk]
      rw [List.getElem?_eq_getElem hk] at ex
      injection ex with ex
      rw [ex]
    rw [ed] at e2 hr2 bd2
    simp only [gname, put, drop, callf, acons, anil, var, Z.get, perm]
    refine ⟨rfl, ?_⟩
    have ei : ((max (1 : Int) rd + j) : Int) = (A'.length : Nat) := by omega
    have lA : (A ++ B).length = A.length + B.length := by simp
    have lB : (B.drop (j + 1)).length = B.length - (j + 1) := by simp
    have ll : A'.length ≤ 2000 := by omega
    rw [ei]
    refine place_one_k hc ho hl hh2 hr2 n1 n2 bd2 ?_ ?_ fun H3 hh3 hr3 f3 t3 => hK _ _ ⟨(put1 (lsN ns) A' x).1, done ++ (put1 (lsN ns) A' x).2, _, ?_, ?_, ?_, ?_, rfl, ?_, hr3, f2.trans f3, t2.trans t3⟩
    · rw [List.length_append, List.length_map]
      have : j ≤ 2000 := by omega
      have : done.length ≤ 4000000 := Nat.le_trans e3 (Nat.mul_le_mul_right 2000 this)
      unfold line
      omega
    · rw [List.length_append, List.length_cons, lB]
      unfold line
      omega
    · rw [put1_len]
      omega
    · intro y hy
      rcases List.mem_append.mp hy with hy | hy
      · rcases put1_mem hy with rfl | hy
        · exact bd2 _ (by simp)
        · exact bd2 _ (List.mem_append_left _ hy)
      · exact bd2 _ (List.mem_append_right _ (List.mem_cons_of_mem _ hy))
    · rw [e2]
      show _ = ((putL (lsN ns) (put1 (lsN ns) A' x).1 _).1, _)
      simp [putL]
    · have := put1_cnt (lsN ns) A' x
      rw [List.length_append]
      omega
    · simpa using hh3
  · obtain ⟨A', done, y, e1, bd2, e2, e3, rfl, hh2, hr2, f2, t2⟩ := g
    rw [rng_len, List.drop_length] at e2 hr2
    have z : putL (lsN ns) A' [] = (A', []) := rfl
    rw [z] at e2
    refine q _ ?_ ?_ f2 t2
    · rw [e2, List.append_nil]
      exact hh2
    · rw [e2]
      simpa using hr2
theorem Fr.shut {S : List Nat} {H H1 H2 : Heap} (a : Fr [] H H1) (b : Fr S H1 H2) (n : ∀ q ∈ S, H q = none) : Fr [] H H2 := fun q o h _ => b q o (a q o h (by simp)) fun hq => by
  rw [n q hq] at h
  cases h
theorem init_k {cs : List String} (hc : "Honest" ∈ cs) (h : T "Honest" "__init__" = some ⟨2, 2, h_init cs⟩) {a kp : Nat} {ns : List Int} (ha : H a = some (.ins "Honest" [])) (hk : items H (.ref kp) = some (ns.map .int))
    (q : ∀ H' mk lg, Hon H' a mk lg ns [] → Fr [a] H H' → FrT H H' → H mk = none → H lg = none → Q .non H') : callK T (k + 1) "Honest" "__init__" [.ref a, .ref kp] H Q E := by
  refine call_k h rfl ?_
  unfold h_init
  simp only [par, acons, anil, blt, bList, lstl, var, start, Z.get]
  refine ⟨_, _, rfl, hk, fun mk nm => ⟨by decide, fun lg nl => ⟨rfl, ?_⟩⟩⟩
  have em := upd_old (o' := .lst []) (upd_same (H := H) (a := mk) (o := .lst (ns.map V.int))) nl
  have el : upd (upd H mk (.lst (ns.map V.int))) lg (.lst []) lg = some (.lst []) := upd_same
  have ea := upd_old (o' := .lst []) (upd_old (o' := .lst (ns.map V.int)) ha nm) nl
  have ne : mk ≠ lg := fun z => by rw [← z, upd_same] at nl; cases nl
  have nl2 : H lg = none := by
    rw [upd_ne (Ne.symm ne)] at nl
    exact nl
  have f : Fr [a] H (upd (upd H mk (.lst (ns.map V.int))) lg (.lst [])) := (Fr.new nm).trans (Fr.new nl)
  have t : FrT H (upd (upd H mk (.lst (ns.map V.int))) lg (.lst [])) := (FrT.new nm).trans (FrT.new nl)
  generalize upd (upd H mk (.lst (ns.map V.int))) lg (.lst []) = H2 at *
  simp only [gcons, gnil, gfld, var, Z.get]
  refine ⟨_, _, rfl, a, _, _, rfl, ea, hc, by simp, _, _, rfl, a, _, _, rfl, upd_same, hc, by simp [putF], rfl, ?_⟩
  have am : mk ≠ a := fun z => by rw [z, ha] at nm; cases nm
  have al : lg ≠ a := fun z => by rw [z, ha] at nl2; cases nl2
  have ft : ∀ (H3 : Heap) (fs fs' : List (String × V)), H3 a = some (.ins "Honest" fs) → FrT H3 (upd H3 a (.ins "Honest" fs')) := fun H3 fs fs' e q ys e2 => by
    rw [upd_ne fun z => by rw [z, e] at e2; cases e2]
    exact e2
  refine q _ mk lg ⟨upd_same, ?_, ne, [], ?_, trivial⟩ ((f.trans (Fr.chg (by simp))).trans (Fr.chg (by simp))) ((t.trans (ft _ _ _ ea)).trans (ft _ _ _ upd_same)) nm nl2
  · rw [upd_ne am, upd_ne am]
    exact em
  · rw [upd_ne al, upd_ne al]
    exact el
/-- questions, as tuples -/
def PairE (H : Heap) : List Nat → List (Nat × Nat) → Prop
  | [], [] => True
  | t :: ts, q :: qs => H t = some (.tup [.int q.1, .int q.2]) ∧ PairE H ts qs
  | _, _ => False
theorem PairE.fr {H H' : Heap} (f : FrT H H') : ∀ {es : List Nat} {qs : List (Nat × Nat)}, PairE H es qs → PairE H' es qs
  | [], [], _ => trivial
  | e :: es, q :: qs, ⟨a, r⟩ => ⟨f _ _ a, PairE.fr f r⟩
  | [], _ :: _, h => nomatch h
  | _ :: _, [], h => nomatch h
theorem PairE.len {H : Heap} : ∀ {es : List Nat} {qs : List (Nat × Nat)}, PairE H es qs → es.length = qs.length
  | [], [], _ => rfl
  | _ :: _, _ :: _, ⟨_, r⟩ => congrArg Nat.succ r.len
  | [], _ :: _, h => nomatch h
  | _ :: _, [], h => nomatch h
/-- [question for question, answer in log] -/
theorem questions_k {C : Cx} {σ : St} {R : List V → Heap → Prop} {st : Heap → Prop} {i j : Nat} (hst : st H) (hg : ∀ q b, Z.get (put (put (wipe σ [i, j]) i q) j b) i = some q) : ∀ {es : List Nat} {qs : List ((Nat × Nat) × Bool)} {acc : List V}, LogE H es qs → acc.length + es.length ≤ line →
    (∀ ts : List Nat, PairE H ts (qs.map (·.1)) → R (acc ++ ts.map V.ref) H) → lci st [i, j] (gtup 2 (gcons (gname i) (gcons (gname j) gnil))) tyes (var i) C σ R (es.map V.ref) acc H := by
  intro es
  induction es with
  | nil =>
    intro qs acc h _ r
    cases qs with
    | nil => exact ⟨hst, by simpa using r [] trivial⟩
    | cons => exact nomatch h
  | cons e es ih =>
    intro qs acc h hl r
    cases qs with
    | nil => exact nomatch h
    | cons q qs =>
      obtain ⟨⟨t, h1, h2⟩, h3⟩ := h
      have hl : acc.length + (es.length + 1) ≤ line := hl
      refine ⟨hst, _, titems_t h1, rfl, _, _, rfl, _, _, rfl, rfl, ?_⟩
      show (match Z.get (put (put (wipe σ [i, j]) i (V.ref t)) j (.bl q.2)) i with | some v => _ | none => False)
      rw [hg]
      refine ⟨by omega, ih h3 (by rw [List.length_append]; show acc.length + 1 + es.length ≤ line; omega) fun ts hp => ?_⟩
      have := r (t :: ts) ⟨h2, hp⟩
      simpa using this
/-- keys that are handed in -/
def KeysAt (H : Heap) (p : Nat) (ns : List Int) : Prop := H p = some (.lst (ns.map .int)) ∨ H p = some (.tup (ns.map .int))
theorem KeysAt.items {H : Heap} {p : Nat} {ns : List Int} (h : KeysAt H p ns) : items H (.ref p) = some (ns.map .int) := h.elim items_l items_t
theorem KeysAt.fr {H H' : Heap} {p : Nat} {ns : List Int} (h : KeysAt H p ns) {S : List Nat} (f : Fr S H H') (n : p ∉ S) : KeysAt H' p ns := h.elim (fun h => .inl (f p _ h n)) fun h => .inr (f p _ h n)
theorem enumV_get : ∀ (xs : List V) (j : Int) (i : Nat) (v : V × V), (enumV j xs)[i]? = some v → v.1 = .int (j + i) ∧ xs[i]? = some v.2
  | [], _, _, _, h => by cases h
  | x :: r, j, 0, v, h => by
    cases h
    exact ⟨by simp, rfl⟩
  | x :: r, j, i + 1, v, h => by
    obtain ⟨a, b⟩ := enumV_get r (j + 1) i v h
    refine ⟨?_, b⟩
    rw [a]
    congr 1
    omega
theorem upd_old' {H : Heap} {p a b : Nat} {o o' : O} {ns : List Int} (h : KeysAt H p ns) (ha : H a = none) (hb : upd H a o b = none) : KeysAt (upd (upd H a o) b o') p ns := h.elim (fun h => .inl (upd_old (upd_old h ha) hb)) fun h => .inr (upd_old (upd_old h ha) hb)
theorem keysOk_k (h : T "" "require_keys" = some ⟨2, 4, r_require_keys⟩) (hi : T "" "is_integer" = some ⟨1, 1, r_is_integer⟩) {p : Nat} {ns : List Int} {most : Int} (hp : KeysAt H p ns) (hl : ns.length ≤ most) (q : Q .non H) : callK T (k + 2) "" "require_keys" [.ref p, .int most] H Q E := by
  refine call_k h rfl ?_
  unfold r_require_keys
  have body : ∀ (C : Cx) (D : Ends) (st : Heap → Prop), C.call = callK T (k + 1) → st H → D.nx = (fun _ H' => Q .non H') → fori2 st (gcons (gname 2) (gcons (gname 3) gnil)) (ifs (tnot (tt (callf "is_integer" 1 [Sum.inl 0] (acons (var 3) anil)))) (rais "InvalidKeys" "index" (var 2)) skip) C D (enumV 0 (ns.map V.int)) [some (V.ref p), some (V.int most), none, none] H := by
    intro C D st hC hst hD
    refine fori2_k (fun i σ H2 => H = H2 ∧ ∃ x y, σ = [some (V.ref p), some (V.int most), x, y]) ⟨rfl, _, _, rfl⟩ (fun i v σ H2 hv h2 => ?_) fun σ H2 h2 => ?_
    · obtain ⟨rfl, x, y, rfl⟩ := h2
      refine ⟨hst, fun K hK => ?_⟩
      obtain ⟨e1, e2⟩ := enumV_get _ _ _ _ hv
      rw [List.getElem?_map] at e2
      obtain ⟨w, ew, e3⟩ := Option.map_eq_some_iff.mp e2
      obtain ⟨v1, v2⟩ := v
      simp only at e1 e2 e3
      subst e1 e3
      walk_at "z0"
      rw [hC]
      refine isInt_k hi rfl ?_
      exact .inr ⟨rfl, hK _ _ ⟨rfl, _, _, rfl⟩⟩
    · obtain ⟨rfl, _⟩ := h2
      rw [hD]
      exact ⟨hst, q⟩
  rcases hp with hp | hp
  · walk_at "z"
    rw [if_neg (by omega)]
    refine .inl ⟨ns.map .int, by rw [litems_l hp], body _ _ _ rfl (litems_l hp) rfl⟩
  · walk_at "z"
    rw [if_neg (by omega)]
    refine .inr ⟨ns.map .int, by rw [titems_t hp], body _ _ _ rfl (titems_t hp) rfl⟩
/-- what placed tells: the row, and the questions -/
def placedN (ns : List Int) (rd : Nat) : List Nat × List (Nat × Nat) := putL (lsN ns) ((List.range ns.length).take (max 1 rd)) ((List.range ns.length).drop (max 1 rd))
theorem put_cnt (ls : Nat → Nat → Bool) : ∀ (B A : List Nat), (putL ls A B).2.length ≤ B.length * (A.length + B.length)
  | [], A => Nat.zero_le _
  | x :: B, A => by
    have h1 := put1_cnt ls A x
    have h2 := put_cnt ls B (put1 ls A x).1
    rw [put1_len] at h2
    show ((put1 ls A x).2 ++ (putL ls (put1 ls A x).1 B).2).length ≤ _
    rw [List.length_append, List.length_cons, Nat.succ_mul]
    have e : A.length + 1 + B.length = A.length + (B.length + 1) := by omega
    rw [e] at h2
    omega
theorem placed_k {cs : List String} (hc : "Honest" ∈ cs) (h : T "" "placed" = some ⟨2, 6, h_placed⟩) (hrk : T "" "require_keys" = some ⟨2, 4, r_require_keys⟩) (hrn : T "" "require_number" = some ⟨4, 4, r_require_number⟩) (hib : T "" "is_between" = some ⟨3, 3, r_is_between⟩) (hii : T "" "is_integer" = some ⟨1, 1, r_is_integer⟩)
    (hin : T "Honest" "__init__" = some ⟨2, 2, h_init ["Honest"]⟩) (hpa : T "" "place_all" = some ⟨5, 6, h_place_all⟩) (ho : T "" "place_one" = some ⟨4, 8, h_place_one cs⟩) (hl : T "Honest" "less" = some ⟨3, 4, h_less⟩) {p rd : Nat} {ns : List Int} (hp : KeysAt H p ns) (h64 : ns.length ≤ 64) (hrd : rd ≤ ns.length)
    (q : ∀ H' t r ql ts, Fr [] H H' → H' t = some (.tup [.ref r, .ref ql]) → H' r = some (.lst (nats (placedN ns rd).1)) → H' ql = some (.lst (ts.map V.ref)) → PairE H' ts (placedN ns rd).2 → H t = none → H r = none → H ql = none → Q (.ref t) H') : callK T (k + 4) "" "placed" [.ref p, .int rd] H Q E := by
  refine call_k h rfl ?_
  unfold h_placed
  have it := hp.items
  refine seq_k (fun σ1 H1 => H = H1 ∧ σ1 = start 6 [.ref p, .int rd]) (fun K hK => ?_) ?_
  · simp only [drop, callf, acons, anil, var, cst, start, Z.get, perm]
    exact ⟨rfl, keysOk_k hrk hii hp (by omega) (hK _ _ ⟨rfl, rfl⟩)⟩
  rintro _ _ ⟨rfl, rfl⟩
  refine seq_k (fun σ1 H1 => H = H1 ∧ σ1 = start 6 [.ref p, .int rd]) (fun K hK => ?_) ?_
  · simp only [drop, callf, acons, anil, var, cst, start, Z.get, perm, blt, bLen]
    refine ⟨_, _, rfl, it, rfl, number_k hrn hib hii rfl (fun _ => hK _ _ ⟨rfl, rfl⟩) fun z => ?_⟩
    have z : (decide ((0 : Int) ≤ rd) && decide ((rd : Int) ≤ ((ns.map V.int).length : Nat))) = false := z
    simp at z
    omega
  rintro _ _ ⟨rfl, rfl⟩
  refine seq_k (fun σ1 H1 => ∃ r a mk lg, σ1 = [some (.ref p), some (.int rd), some (.ref r), some (.ref a), none, none] ∧ Hon H1 a mk lg ns [] ∧ H1 r = some (.lst (nats (List.range ns.length))) ∧ Fr [] H H1 ∧ H r = none ∧ H lg = none ∧ mk ≠ r ∧ lg ≠ r) (fun K hK => ?_) ?_
  · simp only [par, acons, anil, lrng1, blt, bLen, make, var, start, Z.get, perm]
    refine ⟨_, _, rfl, it, _, rfl, ?_, ?_, fun r nr => ⟨rfl, fun a na => ?_⟩⟩
    · simp only [List.length_map]
      unfold line
      omega
    · simp only [List.length_map]
      omega
    have er : ((List.range ((ns.map V.int).length : Int).toNat).map fun (k : Nat) => V.int k) = nats (List.range ns.length) := by simp
    rw [er] at na ⊢
    refine init_k (by simp) hin upd_same ((upd_old' hp nr na).items) fun H' mk lg hh f t nm nl => ⟨rfl, rfl, ?_⟩
    have h1 := upd_old (o' := .ins "Honest" []) (upd_same (H := H) (a := r) (o := .lst (nats (List.range ns.length)))) na
    have ra : r ≠ a := fun z => by rw [← z, upd_same] at na; cases na
    have na2 : H a = none := by rw [upd_ne (Ne.symm ra)] at na; exact na
    have rm : mk ≠ r := fun z => by rw [z, h1] at nm; cases nm
    have rl : lg ≠ r := fun z => by rw [z, h1] at nl; cases nl
    have nl2 : H lg = none := by
      have la : lg ≠ a := fun z => by rw [z, upd_same] at nl; cases nl
      rw [upd_ne la, upd_ne rl] at nl
      exact nl
    simp only [gcons, gnil, gname]
    refine ⟨_, _, rfl, _, _, rfl, rfl, hK _ _ ⟨r, a, mk, lg, rfl, hh, f r _ h1 (by simpa using ra), Fr.shut ((Fr.new nr).trans (Fr.new na)) f (by simpa using na2), nr, nl2, rm, rl⟩⟩
  rintro _ H1 ⟨r, a, mk, lg, rfl, hh, hr, f1, nr, nl, rm, rl⟩
  refine seq_k (fun σ1 H2 => σ1 = [some (.ref p), some (.int rd), some (.ref r), some (.ref a), none, none] ∧ Hon H2 a mk lg ns (ans ns (placedN ns rd).2) ∧ H2 r = some (.lst (nats (placedN ns rd).1)) ∧ Fr [] H H2) (fun K hK => ?_) ?_
  · simp only [drop, callf, acons, anil, var, cst, Z.get, perm, blt, bLen]
    refine ⟨_, _, rfl, items_l hr, rfl, ?_⟩
    have eAB : List.range ns.length = (List.range ns.length).take (max 1 rd) ++ (List.range ns.length).drop (max 1 rd) := (List.take_append_drop _ _).symm
    have hr2 := hr
    rw [eAB] at hr2
    have pa := place_all_k (E := E) (Q := fun _ H2 => K [some (.ref p), some (.int rd), some (.ref r), some (.ref a), none, none] H2) (k := k) hc hpa ho hl hh hr2 rm rl (rd := rd) (by rw [← eAB]; intro y hy; exact List.mem_range.mp hy) (by simp) (by rw [← eAB]; simp; omega)
      (by
        by_cases z : max 1 rd ≤ ns.length
        · left
          simp
          omega
        · right
          refine ⟨List.drop_of_length_le (by simp; omega), ?_⟩
          rw [← eAB]
          simp
          omega) (by omega)
      fun H2 hh2 hr2 f2 t2 => hK _ _ ⟨rfl, by rw [List.nil_append] at hh2; exact hh2, hr2, Fr.shut f1 f2 (by simp [nr, nl])⟩
    rw [← eAB] at pa
    have e : (nats (List.range ns.length)).length = (List.range ns.length).length := by simp
    rw [e]
    exact pa
  rintro _ H2 ⟨rfl, hh2, hr2, f2⟩
  obtain ⟨h1, h2, h3, es, h4, h5⟩ := hh2
  simp only [ret, tupl, acons, anil, lcomp, iseq, fld, var, Z.get]
  refine ⟨a, _, _, .ref lg, rfl, h1, rfl, .inl ⟨_, litems_l h4, questions_k (litems_l h4) (fun _ _ => rfl) h5 ?_ fun ts hts ql nql => ⟨(by show 2 ≤ line; decide), fun t nt => ?_⟩⟩⟩
  · have e := put_cnt (lsN ns) ((List.range ns.length).drop (max 1 rd)) ((List.range ns.length).take (max 1 rd))
    have l1 := h5.len
    rw [List.length_map] at l1
    rw [l1]
    have l2 : (placedN ns rd).2.length ≤ 64 * 64 := by
      refine Nat.le_trans e (Nat.mul_le_mul ?_ ?_)
      · simp; omega
      · simp; omega
    unfold line
    simp
    omega
  · have ee : ([] : List V) ++ ts.map V.ref = ts.map V.ref := rfl
    rw [ee] at nt ⊢
    have em : (ans ns (placedN ns rd).2).map (·.1) = (placedN ns rd).2 := by
      unfold ans
      rw [List.map_map]
      exact List.map_id _
    rw [em] at hts
    have tq : t ≠ ql := fun z => by rw [z, upd_same] at nt; cases nt
    have nt2 : H2 t = none := by rw [upd_ne tq] at nt; exact nt
    exact q _ t r ql ts ((f2.trans (Fr.new nql)).trans (Fr.new nt)) upd_same (upd_old (upd_old hr2 nql) nt) (upd_old upd_same nt) ((hts.fr (.new nql)).fr (.new nt)) (f2.fresh (by simp) nt2) nr (f2.fresh (by simp) nql)
/-! ### how many questions -/
theorem probe_lo (ls : Nat → Bool) : ∀ (f lo hi : Nat), hi - lo ≤ f → hi - lo + 1 < 2 ^ ((probe ls f lo hi).2.length + 1) := by
  intro f
  induction f with
  | zero =>
    intro lo hi h
    have : hi - lo = 0 := by omega
    rw [this]
    exact (by decide : 0 + 1 < 2 ^ (0 + 1))
  | succ f ih =>
    intro lo hi h
    by_cases l : lo < hi
    · rw [probe_succ l]
      split
      · have := ih lo ((lo + hi) / 2) (by omega)
        rw [List.length_cons, Nat.pow_succ]
        omega
      · have := ih ((lo + hi) / 2 + 1) hi (by omega)
        rw [List.length_cons, Nat.pow_succ]
        omega
    · rw [probe_end l]
      have : hi - lo = 0 := by omega
      rw [this]
      exact (by decide : 0 + 1 < 2 ^ (0 + 1))
theorem probe_hi (ls : Nat → Bool) : ∀ (f lo hi : Nat), (probe ls f lo hi).2.length = 0 ∨ 2 ^ ((probe ls f lo hi).2.length - 1) ≤ hi - lo := by
  intro f
  induction f with
  | zero => intro lo hi; exact .inl rfl
  | succ f ih =>
    intro lo hi
    have key : ∀ (n n' m : Nat), n' ≤ n / 2 → 0 < n → (m = 0 ∨ 2 ^ (m - 1) ≤ n') → 2 ^ (m + 1 - 1) ≤ n := by
      intro n n' m h1 h0 h2
      rcases h2 with h2 | h2
      · rw [h2]
        show 1 ≤ n
        omega
      · rcases Nat.eq_zero_or_pos m with z | z
        · rw [z]
          show 1 ≤ n
          omega
        · obtain ⟨m', rfl⟩ : ∃ m', m = m' + 1 := ⟨m - 1, by omega⟩
          rw [Nat.add_sub_cancel] at h2 ⊢
          rw [Nat.pow_succ]
          omega
    by_cases l : lo < hi
    · right
      rw [probe_succ l]
      split
      · exact key _ _ _ (by omega) (by omega) (ih lo ((lo + hi) / 2))
      · exact key _ _ _ (by omega) (by omega) (ih ((lo + hi) / 2 + 1) hi)
    · rw [probe_end l]
      exact .inl rfl
theorem probe_ff (ls : Nat → Bool) : ∀ (f lo hi : Nat), (∀ m, lo ≤ m → m < hi → ls m = false) → 2 ^ (probe ls f lo hi).2.length ≤ hi - lo + 1 := by
  intro f
  induction f with
  | zero => intro lo hi h; show 1 ≤ _; omega
  | succ f ih =>
    intro lo hi h
    by_cases l : lo < hi
    · rw [probe_succ l, if_neg (by rw [h _ (by omega) (by omega)]; decide)]
      have := ih ((lo + hi) / 2 + 1) hi (fun m h1 h2 => h m (by omega) h2)
      rw [List.length_cons, Nat.pow_succ]
      omega
    · rw [probe_end l]
      show 1 ≤ _
      omega
theorem probe_tt (ls : Nat → Bool) : ∀ (f lo hi : Nat), hi - lo ≤ f → (∀ m, lo ≤ m → m < hi → ls m = true) → hi - lo < 2 ^ (probe ls f lo hi).2.length := by
  intro f
  induction f with
  | zero =>
    intro lo hi hf h
    show _ < 1
    omega
  | succ f ih =>
    intro lo hi hf h
    by_cases l : lo < hi
    · rw [probe_succ l, if_pos (h _ (by omega) (by omega))]
      have := ih lo ((lo + hi) / 2) (by omega) (fun m h1 h2 => h m h1 (by omega))
      rw [List.length_cons, Nat.pow_succ]
      omega
    · rw [probe_end l]
      show _ < 1
      omega
/-- the fewest, and the most, questions for one of i + 1 places -/
def few (i : Nat) : Nat := (i + 1).log2
def top (i : Nat) : Nat := if i = 0 then 0 else i.log2 + 1
theorem len_few (ls : Nat → Bool) (i : Nat) : few i ≤ (probe ls i 0 i).2.length := by
  have h := probe_lo ls i 0 i (by omega)
  have := (Nat.log2_lt (show i + 1 ≠ 0 by omega)).mpr h
  unfold few
  omega
theorem len_top (ls : Nat → Bool) (i : Nat) : (probe ls i 0 i).2.length ≤ top i := by
  unfold top
  rcases probe_hi ls i 0 i with h | h
  · omega
  · have h0 : i ≠ 0 := by
      have := Nat.two_pow_pos ((probe ls i 0 i).2.length - 1)
      omega
    have := (Nat.le_log2 h0).mpr h
    rw [if_neg h0]
    omega
theorem len_ff {ls : Nat → Bool} {i : Nat} (h : ∀ m, m < i → ls m = false) : (probe ls i 0 i).2.length = few i := by
  have a := len_few ls i
  have b := probe_ff ls i 0 i fun m _ l => h m l
  have := (Nat.le_log2 (show i + 1 ≠ 0 by omega)).mpr b
  unfold few at *
  omega
theorem len_tt {ls : Nat → Bool} {i : Nat} (h : ∀ m, m < i → ls m = true) : (probe ls i 0 i).2.length = top i := by
  have a := len_top ls i
  have b := probe_tt ls i 0 i (by omega) fun m _ l => h m l
  unfold top at *
  by_cases z : i = 0
  · rw [if_pos z] at a ⊢
    omega
  · rw [if_neg z] at a ⊢
    have := (Nat.log2_lt z).mpr b
    omega
def sumFrom (g : Nat → Nat) : Nat → Nat → Nat
  | _, 0 => 0
  | a, n + 1 => g a + sumFrom g (a + 1) n
theorem put1_len2 (ls : Nat → Nat → Bool) (A : List Nat) (x : Nat) : (put1 ls A x).2.length = (probe (fun m => ls x (A.getD m 0)) A.length 0 A.length).2.length := by
  unfold put1
  rw [List.length_map]
theorem put_bounds (ls : Nat → Nat → Bool) : ∀ (B A : List Nat), sumFrom few A.length B.length ≤ (putL ls A B).2.length ∧ (putL ls A B).2.length ≤ sumFrom top A.length B.length
  | [], A => ⟨Nat.le_refl _, Nat.le_refl _⟩
  | x :: B, A => by
    have h := put_bounds ls B (put1 ls A x).1
    rw [put1_len] at h
    have h1 := len_few (fun m => ls x (A.getD m 0)) A.length
    have h2 := len_top (fun m => ls x (A.getD m 0)) A.length
    rw [← put1_len2] at h1 h2
    have e : (putL ls A (x :: B)).2.length = (put1 ls A x).2.length + (putL ls (put1 ls A x).1 B).2.length := List.length_append
    have e1 : sumFrom few A.length (x :: B).length = few A.length + sumFrom few (A.length + 1) B.length := rfl
    have e2 : sumFrom top A.length (x :: B).length = top A.length + sumFrom top (A.length + 1) B.length := rfl
    omega
/-- all questions answered alike -/
theorem put_alike {ls : Nat → Nat → Bool} {b : Bool} {g : Nat → Nat} (hg : ∀ (L : Nat → Bool) (i : Nat), (∀ m, m < i → L m = b) → (probe L i 0 i).2.length = g i) : ∀ (B A : List Nat), (∀ x ∈ B, ∀ y ∈ A, ls x y = b) → B.Pairwise (fun y x => ls x y = b) → (putL ls A B).2.length = sumFrom g A.length B.length
  | [], A, _, _ => rfl
  | x :: B, A, h1, h2 => by
    obtain ⟨h3, h4⟩ := List.pairwise_cons.mp h2
    have e1 : (put1 ls A x).2.length = g A.length := by
      rw [put1_len2]
      refine hg _ _ fun m hm => h1 x (List.mem_cons_self ..) _ (getD_mem hm)
    have e2 := put_alike hg B (put1 ls A x).1 (fun z hz y hy => by
      rcases put1_mem hy with rfl | hy
      · exact h3 z hz
      · exact h1 z (List.mem_cons_of_mem _ hz) y hy) h4
    rw [put1_len] at e2
    have e : (putL ls A (x :: B)).2.length = (put1 ls A x).2.length + (putL ls (put1 ls A x).1 B).2.length := List.length_append
    have e3 : sumFrom g A.length (x :: B).length = g A.length + sumFrom g (A.length + 1) B.length := rfl
    omega
theorem sumFrom_eq (g : Nat → Nat) : ∀ (n a : Nat), ((List.range n).map fun i => ((g (a + i) : Nat) : Int)).sum = ((sumFrom g a n : Nat) : Int)
  | 0, a => rfl
  | n + 1, a => by
    rw [List.range_succ_eq_map, List.map_cons, List.sum_cons, List.map_map]
    have e := sumFrom_eq g n (a + 1)
    have e2 : ((fun i => ((g (a + i) : Nat) : Int)) ∘ Nat.succ) = fun i => ((g (a + 1 + i) : Nat) : Int) := by
      funext i
      show ((g (a + (i + 1)) : Nat) : Int) = _
      rw [show a + (i + 1) = a + 1 + i by omega]
    rw [e2, e]
    show ((g (a + 0) : Nat) : Int) + _ = ((g a + sumFrom g (a + 1) n : Nat) : Int)
    rw [Nat.add_zero]
    omega
/-- a comprehension over a range: numbers -/
theorem lci_rng {st : Heap → Prop} {own : List Nat} {g : TG} {e : TE} {C : Cx} {σ : St} {R : List V → Heap → Prop} (F : Nat → Int) {lo : Int} {n : Nat} (hst : st H) (hn : n ≤ line) (he : ∀ i, i < n → ∀ K : VK, K (.int (F i)) H → g C (.int (lo + i)) (wipe σ own) H fun σ1 H1 => e C σ1 H1 K)
    (q : R ((List.range n).map fun i => V.int (F i)) H) : lci st own g tyes e C σ R (rng lo n) [] H := by
  refine lci_k (fun i acc H2 => H = H2 ∧ acc = (List.range i).map fun i => V.int (F i)) ⟨rfl, rfl⟩ (fun i v acc H2 hv h => ?_) fun acc H2 h => ?_
  · obtain ⟨rfl, rfl⟩ := h
    obtain ⟨hi, rfl⟩ := rng_get hv
    refine ⟨hst, fun K hK => ?_⟩
    refine he i hi (fun y H3 => ((List.range i).map fun i => V.int (F i)).length < line ∧ K (((List.range i).map fun i => V.int (F i)) ++ [y]) H3) ⟨by rw [List.length_map, List.length_range]; omega, hK _ _ ⟨rfl, ?_⟩⟩
    rw [List.range_succ, List.map_append]
    rfl
  · obtain ⟨rfl, rfl⟩ := h
    rw [rng_len]
    exact ⟨hst, q⟩
/-- (script + [0])[:m] -/
theorem cells_k {C : Cx} {σ : St} {a m : Nat} {ns : List Int} {R : List V → (Heap → Prop) → Heap → Prop} (hs : H a = some (.scr (ns.map V.int))) (hl : ns.length ≤ 63) (hb : ∀ z ∈ ns, Fit z) (h0 : Z.get σ 0 = some (.ref a))
    (q : ∀ (H' : Heap) (p : Nat) (zs : List Int), Fr [] H H' → H' p = some (.lst (zs.map V.int)) → (∀ z ∈ zs, Fit z) → H p = none → R (zs.map V.int) (fun H2 => litems H2 (.ref p) = some (zs.map V.int)) H') :
    iseq (slc (bin .add (var 0) (lstl (acons (cst (.int 0)) anil))) pno (pso (cst (.int m)))) C σ H R := by
  simp only [iseq, slc, bin, var, h0, lstl, acons, anil, cst, pno, pso]
  refine ⟨by decide, fun p1 n1 => ?_⟩
  rw [opr_add_rr]
  have h1 := upd_old (o' := .lst [V.int 0]) hs n1
  refine .inl ⟨_, _, litems_s h1, litems_l upd_same, ?_, fun p2 n2 => ⟨_, rfl, .inl ⟨_, litems_l upd_same, fun p3 n3 => ?_⟩⟩⟩
  · rw [List.length_map]
    unfold line
    simp
    omega
  · obtain ⟨zs, ez, hz⟩ : ∃ zs : List Int, cutV (ns.map V.int ++ [V.int 0]) none (some (m : Int)) = zs.map .int ∧ ∀ z ∈ zs, Fit z := by
      refine ⟨((ns ++ [0]).drop 0).take (sIx (ns.map V.int ++ [V.int 0]).length (ns.map V.int ++ [V.int 0]).length (some (m : Int)) - 0), ?_, fun z hz => ?_⟩
      · rw [List.map_take, List.map_drop, List.map_append]
        rfl
      · rcases List.mem_append.mp (List.mem_of_mem_take hz) with h | h
        · exact hb z h
        · rw [List.mem_singleton.mp h]
          exact fit_zero
    rw [ez]
    have f : Fr [] H (upd (upd H p1 (.lst [V.int 0])) p2 (.lst (ns.map V.int ++ [V.int 0]))) := (Fr.new n1).trans (Fr.new n2)
    exact .inl ⟨_, litems_l upd_same, q _ p3 zs (f.trans (Fr.new n3)) upd_same hz (f.fresh (by simp) n3)⟩
end
end Z

namespace Q_k16
/-- 0 self, 1 keys -/
def z_Honest_init : Z.TS :=
  (Z.par 2 (Z.gcons (Z.gfld ["Honest"] (Z.var 0) "marks") (Z.gcons (Z.gfld ["Honest"] (Z.var 0) "log") Z.gnil)) (Z.acons (Z.blt Z.bList (Z.acons (Z.var 1) Z.anil)) (Z.acons (Z.lstl Z.anil) Z.anil)))
/-- 0 self, 1 one, 2 other, 3 is_less -/
def z_Honest_less : Z.TS :=
  (Z.seq (Z.asg (Z.gname 3) (Z.cmp .lt (Z.ix (Z.fld (Z.var 0) "marks") (Z.var 1)) (Z.ix (Z.fld (Z.var 0) "marks") (Z.var 2))))
  (Z.seq (Z.drop (Z.bmt Z.isL Z.mAppend (Z.fld (Z.var 0) "log") (Z.acons (Z.tupl (Z.acons (Z.tupl (Z.acons (Z.var 1) (Z.acons (Z.var 2) Z.anil))) (Z.acons (Z.var 3) Z.anil))) Z.anil)))
  (Z.ret (Z.var 3))))
/-- 0 value -/
def z_is_integer : Z.TS :=
  (Z.ret (Z.andv (Z.isi (Z.var 0) ["int"]) (Z.notv (Z.isi (Z.var 0) ["bool"]))))
/-- 0 value, 1 low, 2 high -/
def z_is_between : Z.TS :=
  (Z.ret (Z.andv (Z.callf "is_integer" 1 [.inl 0] (Z.acons (Z.var 0) Z.anil)) (Z.chain .le .le (Z.var 1) (Z.var 0) (Z.var 2))))
/-- 0 keys, 1 most, 2 index, 3 key -/
def z_require_keys : Z.TS :=
  (Z.seq (Z.ifs (Z.tor (Z.tnot (Z.tt (Z.isi (Z.var 0) ["list", "tuple"]))) (Z.tt (Z.cmp .gt (Z.blt Z.bLen (Z.acons (Z.var 0) Z.anil)) (Z.var 1)))) (Z.rais "InvalidKeys" "index" (Z.neg (Z.cst (.int 1))))
  Z.skip)
  (Z.fore2 (Z.ienum (Z.var 0)) (Z.gcons (Z.gname 2) (Z.gcons (Z.gname 3) Z.gnil)) (Z.ifs (Z.tnot (Z.tt (Z.callf "is_integer" 1 [.inl 0] (Z.acons (Z.var 3) Z.anil)))) (Z.rais "InvalidKeys" "index" (Z.var 2))
  Z.skip)))
/-- 0 name, 1 value, 2 low, 3 high -/
def z_require_number : Z.TS :=
  (Z.ifs (Z.tnot (Z.tt (Z.callf "is_between" 3 [.inl 0, .inl 1, .inl 2] (Z.acons (Z.var 1) (Z.acons (Z.var 2) (Z.acons (Z.var 3) Z.anil)))))) (Z.rais "InvalidNumber" "name" (Z.var 0))
  Z.skip)
/-- 0 row, 1 start, 2 index, 3 asker, 4 item, 5 low, 6 high, 7 middle -/
def z_place_one : Z.TS :=
  (Z.seq (Z.par 3 (Z.gcons (Z.gname 4) (Z.gcons (Z.gname 5) (Z.gcons (Z.gname 6) Z.gnil))) (Z.acons (Z.ix (Z.var 0) (Z.bin .add (Z.var 1) (Z.var 2))) (Z.acons (Z.cst (.int 0)) (Z.acons (Z.var 2) Z.anil))))
  (Z.seq (Z.whl (Z.tt (Z.cmp .lt (Z.var 5) (Z.var 6))) (Z.seq (Z.asg (Z.gname 7) (Z.bin .fdiv (Z.bin .add (Z.var 5) (Z.var 6)) (Z.cst (.int 2))))
  (Z.ifs (Z.tt (Z.meth ["Honest"] (Z.var 3) "less" 2 [.inl 0, .inl 1, .inl 2] (Z.acons (Z.var 4) (Z.acons (Z.ix (Z.var 0) (Z.bin .add (Z.var 1) (Z.var 7))) Z.anil)))) (Z.asg (Z.gname 6) (Z.var 7))
  (Z.asg (Z.gname 5) (Z.bin .add (Z.var 7) (Z.cst (.int 1)))))))
  (Z.asg (Z.gslc (Z.var 0) (Z.bin .add (Z.var 1) (Z.var 5)) (Z.bin .add (Z.bin .add (Z.var 1) (Z.var 2)) (Z.cst (.int 1)))) (Z.lstl (Z.acons (Z.var 4) (Z.astar (Z.slc (Z.var 0) (Z.pso (Z.bin .add (Z.var 1) (Z.var 5))) (Z.pso (Z.bin .add (Z.var 1) (Z.var 2)))) Z.anil))))))
/-- 0 row, 1 start, 2 end, 3 ready, 4 asker, 5 index -/
def z_place_all : Z.TS :=
  (Z.fore (Z.irng2 (Z.acons (Z.blt Z.bMax2 (Z.acons (Z.cst (.int 1)) (Z.acons (Z.var 3) Z.anil))) (Z.acons (Z.bin .sub (Z.var 2) (Z.var 1)) Z.anil))) (Z.gname 5) (Z.drop (Z.callf "place_one" 4 [.inl 0, .inl 1, .inl 2, .inl 3] (Z.acons (Z.var 0) (Z.acons (Z.var 1) (Z.acons (Z.var 5) (Z.acons (Z.var 4) Z.anil)))))))
/-- 0 keys, 1 ready, 2 row, 3 asker, 4 question, 5 answer -/
def z_placed : Z.TS :=
  (Z.seq (Z.drop (Z.callf "require_keys" 2 [.inl 0, .inl 1] (Z.acons (Z.var 0) (Z.acons (Z.cst (.int 64)) Z.anil))))
  (Z.seq (Z.drop (Z.callf "require_number" 4 [.inl 0, .inl 1, .inl 2, .inl 3] (Z.acons (Z.cst (.str [114, 101, 97, 100, 121])) (Z.acons (Z.var 1) (Z.acons (Z.cst (.int 0)) (Z.acons (Z.blt Z.bLen (Z.acons (Z.var 0) Z.anil)) Z.anil))))))
  (Z.seq (Z.par 2 (Z.gcons (Z.gname 2) (Z.gcons (Z.gname 3) Z.gnil)) (Z.acons (Z.lrng1 (Z.blt Z.bLen (Z.acons (Z.var 0) Z.anil))) (Z.acons (Z.make "Honest" 1 [.inl 0, .inl 1] (Z.acons (Z.var 0) Z.anil)) Z.anil)))
  (Z.seq (Z.drop (Z.callf "place_all" 5 [.inl 0, .inl 1, .inl 2, .inl 3, .inl 4] (Z.acons (Z.var 2) (Z.acons (Z.cst (.int 0)) (Z.acons (Z.blt Z.bLen (Z.acons (Z.var 2) Z.anil)) (Z.acons (Z.var 1) (Z.acons (Z.var 3) Z.anil)))))))
  (Z.ret (Z.tupl (Z.acons (Z.var 2) (Z.acons (Z.lcomp (Z.iseq (Z.fld (Z.var 3) "log")) [4, 5] (Z.gtup 2 (Z.gcons (Z.gname 4) (Z.gcons (Z.gname 5) Z.gnil))) Z.tyes (Z.var 4)) Z.anil))))))))
/-- 0 many, 1 ready -/
def z_require_counts : Z.TS :=
  (Z.seq (Z.drop (Z.callf "require_number" 4 [.inl 0, .inl 1, .inl 2, .inl 3] (Z.acons (Z.cst (.str [109, 97, 110, 121])) (Z.acons (Z.var 0) (Z.acons (Z.cst (.int 0)) (Z.acons (Z.cst (.int 64)) Z.anil))))))
  (Z.drop (Z.callf "require_number" 4 [.inl 0, .inl 1, .inl 2, .inl 3] (Z.acons (Z.cst (.str [114, 101, 97, 100, 121])) (Z.acons (Z.var 1) (Z.acons (Z.cst (.int 0)) (Z.acons (Z.var 0) Z.anil)))))))
/-- 0 index -/
def z_fewest_of : Z.TS :=
  (Z.ret (Z.bin .sub (Z.bitl (Z.bin .add (Z.var 0) (Z.cst (.int 1)))) (Z.cst (.int 1))))
/-- 0 index -/
def z_most_of : Z.TS :=
  (Z.ret (Z.bitl (Z.var 0)))
/-- 0 many, 1 ready, 2 index -/
def z_fewest_placing : Z.TS :=
  (Z.seq (Z.drop (Z.callf "require_counts" 2 [.inl 0, .inl 1] (Z.acons (Z.var 0) (Z.acons (Z.var 1) Z.anil))))
  (Z.ret (Z.blt Z.bSum (Z.acons (Z.lcomp (Z.irng2 (Z.acons (Z.blt Z.bMax2 (Z.acons (Z.cst (.int 1)) (Z.acons (Z.var 1) Z.anil))) (Z.acons (Z.var 0) Z.anil))) [2] (Z.gname 2) Z.tyes (Z.callf "fewest_of" 1 [.inl 0] (Z.acons (Z.var 2) Z.anil))) Z.anil))))
/-- 0 many, 1 ready, 2 index -/
def z_most_placing : Z.TS :=
  (Z.seq (Z.drop (Z.callf "require_counts" 2 [.inl 0, .inl 1] (Z.acons (Z.var 0) (Z.acons (Z.var 1) Z.anil))))
  (Z.ret (Z.blt Z.bSum (Z.acons (Z.lcomp (Z.irng2 (Z.acons (Z.blt Z.bMax2 (Z.acons (Z.cst (.int 1)) (Z.acons (Z.var 1) Z.anil))) (Z.acons (Z.var 0) Z.anil))) [2] (Z.gname 2) Z.tyes (Z.callf "most_of" 1 [.inl 0] (Z.acons (Z.var 2) Z.anil))) Z.anil))))
/-- 0 row, 1 found, 2 key, 3 item -/
def z_keys_of : Z.TS :=
  (Z.seq (Z.asg (Z.gname 1) (Z.bin .mul (Z.lstl (Z.acons (Z.cst (.int 0)) Z.anil)) (Z.blt Z.bLen (Z.acons (Z.var 0) Z.anil))))
  (Z.seq (Z.fore2 (Z.ienum (Z.var 0)) (Z.gcons (Z.gname 2) (Z.gcons (Z.gname 3) Z.gnil)) (Z.asg (Z.gsub (Z.var 1) (Z.var 3)) (Z.var 2)))
  (Z.ret (Z.var 1))))
/-- 0 many, 1 ready -/
def z_easy_keys : Z.TS :=
  (Z.seq (Z.drop (Z.callf "require_counts" 2 [.inl 0, .inl 1] (Z.acons (Z.var 0) (Z.acons (Z.var 1) Z.anil))))
  (Z.ret (Z.lrng1 (Z.var 0))))
/-- 0 many, 1 ready, 2 row, 3 item -/
def z_hard_keys : Z.TS :=
  (Z.seq (Z.drop (Z.callf "require_counts" 2 [.inl 0, .inl 1] (Z.acons (Z.var 0) (Z.acons (Z.var 1) Z.anil))))
  (Z.seq (Z.asg (Z.gname 2) (Z.slc (Z.lrng1 (Z.blt Z.bMax2 (Z.acons (Z.cst (.int 1)) (Z.acons (Z.var 1) Z.anil)))) Z.pno (Z.pso (Z.var 0))))
  (Z.seq (Z.fore (Z.irng2 (Z.acons (Z.blt Z.bLen (Z.acons (Z.var 2) Z.anil)) (Z.acons (Z.var 0) Z.anil))) (Z.gname 3) (Z.asg (Z.gname 2) (Z.lstl (Z.acons (Z.var 3) (Z.astar (Z.var 2) Z.anil)))))
  (Z.ret (Z.callf "keys_of" 1 [.inl 0] (Z.acons (Z.var 2) Z.anil))))))
/-- 0 cell -/
def z__law_source : Z.TS :=
  (Z.ret (Z.lstl (Z.acons (Z.bin .mul (Z.blt Z.bAbs (Z.acons (Z.var 0) Z.anil)) (Z.blt Z.bInt (Z.acons (Z.cmp .ge (Z.blt Z.bAbs (Z.acons (Z.var 0) Z.anil)) (Z.bin .pow (Z.cst (.int 10)) (Z.cst (.int 18)))) Z.anil))) (Z.acons (Z.bin .mod (Z.blt Z.bInt (Z.acons (Z.var 0) Z.anil)) (Z.cst (.int 2147483587))) (Z.acons (Z.cst (.int 0)) Z.anil)))))
/-- 0 source, 1 size, 2 digit, 3 mixed -/
def z__law_draw : Z.TS :=
  (Z.seq (Z.ifs (Z.tt (Z.cmp .gt (Z.ix (Z.var 0) (Z.cst (.int 0))) (Z.cst (.int 0)))) (Z.seq (Z.asg (Z.gname 2) (Z.bin .mod (Z.blt Z.bInt (Z.acons (Z.ix (Z.var 0) (Z.cst (.int 0))) Z.anil)) (Z.var 1)))
  (Z.seq (Z.asg (Z.gsub (Z.var 0) (Z.cst (.int 0))) (Z.bin .fdiv (Z.ix (Z.var 0) (Z.cst (.int 0))) (Z.var 1)))
  (Z.ret (Z.var 2))))
  Z.skip)
  (Z.seq (Z.asg (Z.gsub (Z.var 0) (Z.cst (.int 2))) (Z.bin .add (Z.ix (Z.var 0) (Z.cst (.int 2))) (Z.cst (.int 1))))
  (Z.seq (Z.asg (Z.gname 3) (Z.bin .mod (Z.blt Z.bInt (Z.acons (Z.bin .mul (Z.bin .add (Z.bin .add (Z.ix (Z.var 0) (Z.cst (.int 1))) (Z.bin .mul (Z.cst (.int 52711)) (Z.ix (Z.var 0) (Z.cst (.int 2))))) (Z.cst (.int 13))) (Z.cst (.int 48271))) Z.anil)) (Z.cst (.int 2147483629))))
  (Z.seq (Z.asg (Z.gname 3) (Z.bin .mod (Z.blt Z.bInt (Z.acons (Z.bin .mul (Z.var 3) (Z.bin .add (Z.bin .add (Z.bin .fdiv (Z.var 3) (Z.cst (.int 1021))) (Z.cst (.int 69621))) (Z.ix (Z.var 0) (Z.cst (.int 2))))) Z.anil)) (Z.cst (.int 2147483579))))
  (Z.ret (Z.bin .mod (Z.blt Z.bInt (Z.acons (Z.bin .fdiv (Z.bin .mod (Z.blt Z.bInt (Z.acons (Z.bin .mul (Z.var 3) (Z.bin .add (Z.bin .fdiv (Z.var 3) (Z.cst (.int 2011))) (Z.cst (.int 40692)))) Z.anil)) (Z.cst (.int 2147483549))) (Z.cst (.int 3))) Z.anil)) (Z.var 1)))))))
/-- 0 source, 1 items -/
def z__law_pick : Z.TS :=
  (Z.ret (Z.ix (Z.var 1) (Z.callf "_law_draw" 2 [.inl 0, .inl 1] (Z.acons (Z.var 0) (Z.acons (Z.blt Z.bLen (Z.acons (Z.var 1) Z.anil)) Z.anil)))))
/-- 0 source, 1 size, 2 wide, 3 way, 4 given, 5 index, 6 step -/
def z__law_keys : Z.TS :=
  (Z.seq (Z.asg (Z.gname 2) (Z.callf "_law_pick" 2 [.inl 0, .inl 1] (Z.acons (Z.var 0) (Z.acons (Z.lstl (Z.acons (Z.cst (.int 1)) (Z.acons (Z.cst (.int 2)) (Z.acons (Z.cst (.int 3)) (Z.acons (Z.cst (.int 5)) (Z.acons (Z.cst (.int 40)) (Z.acons (Z.bin .pow (Z.cst (.int 10)) (Z.cst (.int 20))) Z.anil))))))) Z.anil))))
  (Z.seq (Z.par 2 (Z.gcons (Z.gname 3) (Z.gcons (Z.gname 4) Z.gnil)) (Z.acons (Z.callf "_law_draw" 2 [.inl 0, .inl 1] (Z.acons (Z.var 0) (Z.acons (Z.cst (.int 4)) Z.anil))) (Z.acons (Z.lstl Z.anil) Z.anil)))
  (Z.seq (Z.fore (Z.irng1 (Z.acons (Z.var 1) Z.anil)) (Z.gname 5) (Z.ifs (Z.tor (Z.tt (Z.cmp .eq (Z.var 3) (Z.cst (.int 0)))) (Z.tt (Z.cmp .eq (Z.var 4) (Z.lstl Z.anil)))) (Z.drop (Z.bmt Z.isL Z.mAppend (Z.var 4) (Z.acons (Z.bin .sub (Z.callf "_law_draw" 2 [.inl 0, .inl 1] (Z.acons (Z.var 0) (Z.acons (Z.var 2) Z.anil))) (Z.bin .fdiv (Z.var 2) (Z.cst (.int 2)))) Z.anil)))
  (Z.ifs (Z.tt (Z.cmp .eq (Z.var 3) (Z.cst (.int 1)))) (Z.drop (Z.bmt Z.isL Z.mAppend (Z.var 4) (Z.acons (Z.bin .add (Z.ix (Z.var 4) (Z.neg (Z.cst (.int 1)))) (Z.callf "_law_pick" 2 [.inl 0, .inl 1] (Z.acons (Z.var 0) (Z.acons (Z.lstl (Z.acons (Z.cst (.int 0)) (Z.acons (Z.cst (.int 1)) (Z.acons (Z.cst (.int 1)) (Z.acons (Z.cst (.int 2)) (Z.acons (Z.cst (.int 0)) (Z.acons (Z.neg (Z.cst (.int 1))) Z.anil))))))) Z.anil)))) Z.anil)))
  (Z.ifs (Z.tt (Z.cmp .eq (Z.var 3) (Z.cst (.int 2)))) (Z.drop (Z.bmt Z.isL Z.mAppend (Z.var 4) (Z.acons (Z.bin .sub (Z.ix (Z.var 4) (Z.neg (Z.cst (.int 1)))) (Z.callf "_law_pick" 2 [.inl 0, .inl 1] (Z.acons (Z.var 0) (Z.acons (Z.lstl (Z.acons (Z.cst (.int 0)) (Z.acons (Z.cst (.int 1)) (Z.acons (Z.cst (.int 1)) (Z.acons (Z.cst (.int 2)) (Z.acons (Z.cst (.int 0)) (Z.acons (Z.cst (.int 0)) (Z.acons (Z.neg (Z.cst (.int 1))) Z.anil)))))))) Z.anil)))) Z.anil)))
  (Z.seq (Z.asg (Z.gname 6) (Z.callf "_law_pick" 2 [.inl 0, .inl 1] (Z.acons (Z.var 0) (Z.acons (Z.lstl (Z.acons (Z.cst (.int 1)) (Z.acons (Z.cst (.int 1)) (Z.acons (Z.cst (.int 0)) (Z.acons (Z.neg (Z.cst (.int 1))) (Z.acons (Z.neg (Z.cst (.int 1))) Z.anil)))))) Z.anil))))
  (Z.drop (Z.bmt Z.isL Z.mAppend (Z.var 4) (Z.acons (Z.bin .add (Z.ix (Z.var 4) (Z.neg (Z.cst (.int 1)))) (Z.bin .mul (Z.var 6) (Z.bin .add (Z.cst (.int 1)) (Z.callf "_law_draw" 2 [.inl 0, .inl 1] (Z.acons (Z.var 0) (Z.acons (Z.cst (.int 2)) Z.anil)))))) Z.anil))))))))
  (Z.ret (Z.var 4)))))
/-- 0 index, 1 place, 2 low, 3 high, 4 found, 5 middle -/
def z__law_spots : Z.TS :=
  (Z.seq (Z.par 3 (Z.gcons (Z.gname 2) (Z.gcons (Z.gname 3) (Z.gcons (Z.gname 4) Z.gnil))) (Z.acons (Z.cst (.int 0)) (Z.acons (Z.var 0) (Z.acons (Z.lstl Z.anil) Z.anil))))
  (Z.seq (Z.whl (Z.tt (Z.cmp .lt (Z.var 2) (Z.var 3))) (Z.seq (Z.asg (Z.gname 5) (Z.bin .add (Z.var 2) (Z.bin .fdiv (Z.bin .sub (Z.var 3) (Z.var 2)) (Z.cst (.int 2)))))
  (Z.seq (Z.drop (Z.bmt Z.isL Z.mAppend (Z.var 4) (Z.acons (Z.var 5) Z.anil)))
  (Z.ifs (Z.tt (Z.cmp .le (Z.var 1) (Z.var 5))) (Z.asg (Z.gname 3) (Z.var 5))
  (Z.asg (Z.gname 2) (Z.bin .add (Z.var 5) (Z.cst (.int 1))))))))
  (Z.ret (Z.var 4))))
/-- 0 index, 1 ways, 2 place -/
def z__law_ways : Z.TS :=
  (Z.seq (Z.asg (Z.gname 1) (Z.lcomp (Z.irng1 (Z.acons (Z.bin .add (Z.var 0) (Z.cst (.int 1))) Z.anil)) [2] (Z.gname 2) Z.tyes (Z.blt Z.bLen (Z.acons (Z.callf "_law_spots" 2 [.inl 0, .inl 1] (Z.acons (Z.var 0) (Z.acons (Z.var 2) Z.anil))) Z.anil))))
  (Z.seq (Z.ifs (Z.tor (Z.tt (Z.cmp .ne (Z.ix (Z.var 1) (Z.cst (.int 0))) (Z.blt Z.bMax1 (Z.acons (Z.var 1) Z.anil)))) (Z.tor (Z.tt (Z.cmp .ne (Z.ix (Z.var 1) (Z.cst (.int 1))) (Z.blt Z.bMax1 (Z.acons (Z.var 1) Z.anil)))) (Z.tt (Z.cmp .ne (Z.ix (Z.var 1) (Z.var 0)) (Z.blt Z.bMin1 (Z.acons (Z.var 1) Z.anil)))))) (Z.ret (Z.cst .non))
  Z.skip)
  (Z.ret (Z.tupl (Z.acons (Z.blt Z.bMin1 (Z.acons (Z.var 1) Z.anil)) (Z.acons (Z.blt Z.bMax1 (Z.acons (Z.var 1) Z.anil)) Z.anil))))))
/-- 0 given, 1 first, 2 k -/
def z__law_is_rising : Z.TS :=
  (Z.ret (Z.cmp .eq (Z.lcomp (Z.irng2 (Z.acons (Z.cst (.int 1)) (Z.acons (Z.var 1) Z.anil))) [2] (Z.gname 2) (Z.tnot (Z.tt (Z.cmp .lt (Z.ix (Z.var 0) (Z.bin .sub (Z.var 2) (Z.cst (.int 1)))) (Z.ix (Z.var 0) (Z.var 2))))) (Z.var 2)) (Z.lstl Z.anil)))
/-- 0 size, 1 first, 2 ways, 3 few, 4 top, 5 easy, 6 hard, 7 given, 8 due, 9 index -/
def z__law_right : Z.TS :=
  (Z.seq (Z.asg (Z.gname 3) (Z.blt Z.bSum (Z.acons (Z.lcomp (Z.irng2 (Z.acons (Z.blt Z.bMax2 (Z.acons (Z.cst (.int 1)) (Z.acons (Z.var 1) Z.anil))) (Z.acons (Z.var 0) Z.anil))) [9] (Z.gname 9) Z.tyes (Z.ix (Z.ix (Z.var 2) (Z.var 9)) (Z.cst (.int 0)))) Z.anil)))
  (Z.seq (Z.asg (Z.gname 4) (Z.blt Z.bSum (Z.acons (Z.lcomp (Z.irng2 (Z.acons (Z.blt Z.bMax2 (Z.acons (Z.cst (.int 1)) (Z.acons (Z.var 1) Z.anil))) (Z.acons (Z.var 0) Z.anil))) [9] (Z.gname 9) Z.tyes (Z.ix (Z.ix (Z.var 2) (Z.var 9)) (Z.cst (.int 1)))) Z.anil)))
  (Z.seq (Z.ifs (Z.tor (Z.tt (Z.cmp .ne (Z.callf "fewest_placing" 2 [.inl 0, .inl 1] (Z.acons (Z.var 0) (Z.acons (Z.var 1) Z.anil))) (Z.var 3))) (Z.tt (Z.cmp .ne (Z.callf "most_placing" 2 [.inl 1, .inl 0] (Z.acons (Z.var 1) (Z.acons (Z.var 0) Z.anil))) (Z.var 4)))) (Z.ret (Z.cst (.bl false)))
  Z.skip)
  (Z.seq (Z.ifs (Z.tor (Z.tt (Z.cmp .ne (Z.callf "fewest_placing" 2 [.inl 1, .inl 0] (Z.acons (Z.var 1) (Z.acons (Z.var 0) Z.anil))) (Z.var 3))) (Z.tt (Z.cmp .ne (Z.callf "most_placing" 2 [.inl 0, .inl 1] (Z.acons (Z.var 0) (Z.acons (Z.var 1) Z.anil))) (Z.var 4)))) (Z.ret (Z.cst (.bl false)))
  Z.skip)
  (Z.seq (Z.par 2 (Z.gcons (Z.gname 5) (Z.gcons (Z.gname 6) Z.gnil)) (Z.acons (Z.callf "easy_keys" 2 [.inl 0, .inl 1] (Z.acons (Z.var 0) (Z.acons (Z.var 1) Z.anil))) (Z.acons (Z.callf "hard_keys" 2 [.inl 0, .inl 1] (Z.acons (Z.var 0) (Z.acons (Z.var 1) Z.anil))) Z.anil)))
  (Z.seq (Z.fore (Z.iseq (Z.lstl (Z.acons (Z.tupl (Z.acons (Z.var 5) (Z.acons (Z.var 3) Z.anil))) (Z.acons (Z.tupl (Z.acons (Z.var 6) (Z.acons (Z.var 4) Z.anil))) Z.anil)))) (Z.gtup 2 (Z.gcons (Z.gname 7) (Z.gcons (Z.gname 8) Z.gnil))) (Z.ifs (Z.tor (Z.tt (Z.cmp .ne (Z.blt Z.bLen (Z.acons (Z.var 7) Z.anil)) (Z.var 0))) (Z.tor (Z.tnot (Z.tt (Z.callf "_law_is_rising" 2 [.inl 0, .inl 1] (Z.acons (Z.var 7) (Z.acons (Z.var 1) Z.anil))))) (Z.tt (Z.cmp .ne (Z.blt Z.bLen (Z.acons (Z.ix (Z.callf "placed" 2 [.inl 0, .inl 1] (Z.acons (Z.var 7) (Z.acons (Z.var 1) Z.anil))) (Z.cst (.int 1))) Z.anil)) (Z.var 8))))) (Z.ret (Z.cst (.bl false)))
  Z.skip))
  (Z.seq (Z.drop (Z.bmt Z.isL Z.mAppend (Z.var 5) (Z.acons (Z.cst (.int 0)) Z.anil)))
  (Z.ret (Z.andv (Z.cmp .eq (Z.blt Z.bLen (Z.acons (Z.callf "easy_keys" 2 [.inl 0, .inl 1] (Z.acons (Z.var 0) (Z.acons (Z.var 1) Z.anil))) Z.anil)) (Z.var 0)) (Z.cmp .eq (Z.callf "hard_keys" 2 [.inl 1, .inl 0] (Z.acons (Z.var 1) (Z.acons (Z.var 0) Z.anil))) (Z.var 6)))))))))))
/-- 0 script, 1 ways, 2 size, 3 cell, 4 source, 5 go, 6 first, 7 given, 8 index -/
def z_law : Z.TS :=
  (Z.seq (Z.asg (Z.gname 1) (Z.bin .add (Z.lstl (Z.acons (Z.cst .non) Z.anil)) (Z.lcomp (Z.irng2 (Z.acons (Z.cst (.int 1)) (Z.acons (Z.cst (.int 64)) Z.anil))) [8] (Z.gname 8) Z.tyes (Z.callf "_law_ways" 1 [.inl 0] (Z.acons (Z.var 8) Z.anil)))))
  (Z.seq (Z.ifs (Z.tt (Z.cmp .isin (Z.cst .non) (Z.slc (Z.var 1) (Z.pso (Z.cst (.int 1))) Z.pno))) (Z.ret (Z.cst (.bl false)))
  Z.skip)
  (Z.seq (Z.fore (Z.irng1 (Z.acons (Z.cst (.int 65)) Z.anil)) (Z.gname 2) (Z.ifs (Z.tor (Z.tnot (Z.tt (Z.callf "_law_right" 3 [.inl 0, .inl 1, .inl 2] (Z.acons (Z.var 2) (Z.acons (Z.cst (.int 0)) (Z.acons (Z.var 1) Z.anil)))))) (Z.tor (Z.tnot (Z.tt (Z.callf "_law_right" 3 [.inl 0, .inl 1, .inl 2] (Z.acons (Z.var 2) (Z.acons (Z.var 2) (Z.acons (Z.var 1) Z.anil)))))) (Z.tnot (Z.tt (Z.callf "_law_right" 3 [.inl 0, .inl 1, .inl 2] (Z.acons (Z.var 2) (Z.acons (Z.bin .fdiv (Z.var 2) (Z.cst (.int 2))) (Z.acons (Z.var 1) Z.anil)))))))) (Z.ret (Z.cst (.bl false)))
  Z.skip))
  (Z.seq (Z.fore (Z.iseq (Z.slc (Z.bin .add (Z.var 0) (Z.lstl (Z.acons (Z.cst (.int 0)) Z.anil))) Z.pno (Z.pso (Z.cst (.int 4))))) (Z.gname 3) (Z.seq (Z.asg (Z.gname 4) (Z.callf "_law_source" 1 [.inl 0] (Z.acons (Z.var 3) Z.anil)))
  (Z.fore (Z.irng1 (Z.acons (Z.cst (.int 4)) Z.anil)) (Z.gname 5) (Z.seq (Z.asg (Z.gname 2) (Z.bin .add (Z.cst (.int 1)) (Z.callf "_law_draw" 2 [.inl 0, .inl 1] (Z.acons (Z.var 4) (Z.acons (Z.cst (.int 64)) Z.anil)))))
  (Z.seq (Z.asg (Z.gname 6) (Z.callf "_law_draw" 2 [.inl 0, .inl 1] (Z.acons (Z.var 4) (Z.acons (Z.bin .add (Z.var 2) (Z.cst (.int 1))) Z.anil))))
  (Z.seq (Z.ifs (Z.tnot (Z.tt (Z.callf "_law_right" 3 [.inl 0, .inl 1, .inl 2] (Z.acons (Z.var 2) (Z.acons (Z.var 6) (Z.acons (Z.var 1) Z.anil)))))) (Z.ret (Z.cst (.bl false)))
  Z.skip)
  (Z.seq (Z.asg (Z.gname 7) (Z.callf "_law_keys" 2 [.inl 0, .inl 1] (Z.acons (Z.var 4) (Z.acons (Z.var 2) Z.anil))))
  (Z.seq (Z.asg (Z.gname 7) (Z.bin .add (Z.blt Z.bSortedI (Z.acons (Z.slc (Z.var 7) Z.pno (Z.pso (Z.var 6))) Z.anil)) (Z.slc (Z.var 7) (Z.pso (Z.var 6)) Z.pno)))
  (Z.ifs (Z.tnot (Z.tt (Z.chain .le .le (Z.callf "fewest_placing" 2 [.inl 0, .inl 1] (Z.acons (Z.var 2) (Z.acons (Z.var 6) Z.anil))) (Z.blt Z.bLen (Z.acons (Z.ix (Z.callf "placed" 2 [.inl 0, .inl 1] (Z.acons (Z.var 7) (Z.acons (Z.var 6) Z.anil))) (Z.cst (.int 1))) Z.anil)) (Z.callf "most_placing" 2 [.inl 0, .inl 1] (Z.acons (Z.var 2) (Z.acons (Z.var 6) Z.anil)))))) (Z.ret (Z.cst (.bl false)))
  Z.skip)))))))))
  (Z.ret (Z.cst (.bl true)))))))
def ztab : List ((String × String) × Z.Def) := [(("Honest", "__init__"), ⟨2, 2, z_Honest_init⟩), (("Honest", "less"), ⟨3, 4, z_Honest_less⟩), (("", "is_integer"), ⟨1, 1, z_is_integer⟩), (("", "is_between"), ⟨3, 3, z_is_between⟩), (("", "require_keys"), ⟨2, 4, z_require_keys⟩), (("", "require_number"), ⟨4, 4, z_require_number⟩), (("", "place_one"), ⟨4, 8, z_place_one⟩), (("", "place_all"), ⟨5, 6, z_place_all⟩), (("", "placed"), ⟨2, 6, z_placed⟩), (("", "require_counts"), ⟨2, 2, z_require_counts⟩), (("", "fewest_of"), ⟨1, 1, z_fewest_of⟩), (("", "most_of"), ⟨1, 1, z_most_of⟩), (("", "fewest_placing"), ⟨2, 3, z_fewest_placing⟩), (("", "most_placing"), ⟨2, 3, z_most_placing⟩), (("", "keys_of"), ⟨1, 4, z_keys_of⟩), (("", "easy_keys"), ⟨2, 2, z_easy_keys⟩), (("", "hard_keys"), ⟨2, 4, z_hard_keys⟩), (("", "_law_source"), ⟨1, 1, z__law_source⟩), (("", "_law_draw"), ⟨2, 4, z__law_draw⟩), (("", "_law_pick"), ⟨2, 2, z__law_pick⟩), (("", "_law_keys"), ⟨2, 7, z__law_keys⟩), (("", "_law_spots"), ⟨2, 6, z__law_spots⟩), (("", "_law_ways"), ⟨1, 3, z__law_ways⟩), (("", "_law_is_rising"), ⟨2, 3, z__law_is_rising⟩), (("", "_law_right"), ⟨3, 10, z__law_right⟩), (("", "law"), ⟨1, 9, z_law⟩)]
end Q_k16


namespace Q_k16
open Z
def depth : Nat := 12
section
variable {k : Nat} {H : Heap} {Q : VK} {E : EK}
abbrev T := defOf ztab
theorem rc_k {many rd : Nat} (h1 : many ≤ 64) (h2 : rd ≤ many) (q : Q .non H) : callK T (k + 4) "" "require_counts" [.int many, .int rd] H Q E := by
  refine call_k (np := 2) (n := 2) rfl rfl ?_
  unfold z_require_counts
  simp only [Z.seq, drop, callf, acons, anil, var, cst, start, Z.get, perm]
  refine ⟨rfl, number_k rfl rfl rfl rfl (fun _ => ⟨rfl, number_k rfl rfl rfl rfl (fun _ => q) fun z => ?_⟩) fun z => ?_⟩
  · have z : (decide ((0 : Int) ≤ rd) && decide ((rd : Int) ≤ many)) = false := z
    simp at z
    omega
  · have z : (decide ((0 : Int) ≤ many) && decide ((many : Int) ≤ 64)) = false := z
    simp at z
    omega
theorem bits_few (i : Nat) : ((bits ((i : Int) + 1) : Nat) : Int) - 1 = (few i : Nat) := by
  unfold bits few
  rw [if_neg (by omega)]
  rw [show ((i : Int) + 1).natAbs = i + 1 by omega]
  omega
theorem bits_top (i : Nat) : bits (i : Int) = top i := by
  unfold bits top
  by_cases z : i = 0
  · rw [if_pos z, if_pos (by omega)]
  · rw [if_neg z, if_neg (by omega), Int.natAbs_natCast]
theorem fo_k {i : Nat} (q : Q (.int (few i)) H) : callK T (k + 1) "" "fewest_of" [.int i] H Q E := by
  refine call_k (np := 1) (n := 1) rfl rfl ?_
  unfold z_fewest_of
  simp only [ret, bin, bitl, var, cst, start, Z.get, opr_add_ii]
  refine ⟨_, rfl, ?_⟩
  rw [opr_sub_ii, bits_few]
  exact q
theorem mo_k {i : Nat} (q : Q (.int (top i)) H) : callK T (k + 1) "" "most_of" [.int i] H Q E := by
  refine call_k (np := 1) (n := 1) rfl rfl ?_
  unfold z_most_of
  simp only [ret, bitl, var, start, Z.get]
  refine ⟨_, rfl, ?_⟩
  rw [bits_top]
  exact q
theorem fp_k {many rd : Nat} (h1 : many ≤ 64) (h2 : rd ≤ many) (q : ∀ H', Fr [] H H' → Q (.int (sumFrom few (max 1 rd) (many - max 1 rd) : Nat)) H') : callK T (k + 5) "" "fewest_placing" [.int many, .int rd] H Q E := by
  refine call_k (np := 2) (n := 3) rfl rfl ?_
  unfold z_fewest_placing
  refine seq_k (fun σ1 H1 => H = H1 ∧ σ1 = [some (.int many), some (.int rd), none]) (fun K hK => ?_) ?_
  · simp only [drop, callf, acons, anil, var, start, Z.get, perm]
    exact ⟨rfl, rc_k h1 h2 (hK _ _ ⟨rfl, rfl⟩)⟩
  rintro _ _ ⟨rfl, rfl⟩
  simp only [ret, blt, acons, anil, lcomp, irng2, bMax2, var, cst, Z.get]
  refine ⟨1, rd, rfl, _, _, rfl, by unfold big; omega, by unfold big; omega, ?_⟩
  have e1 : ((many : Int) - max (1 : Int) rd).toNat = many - max 1 rd := by omega
  have e2 : max (1 : Int) rd = ((max 1 rd : Nat) : Int) := by omega
  rw [e1, e2]
  refine lci_rng (fun i => (few (max 1 rd + i) : Nat)) trivial (by unfold line; omega) (fun i hi K hK => ?_) fun p np => ?_
  · simp only [gname, callf, acons, anil, var, wipe, perm]
    refine ⟨rfl, ?_⟩
    have e3 : (((max 1 rd : Nat) : Int) + (i : Int)) = ((max 1 rd + i : Nat) : Int) := by omega
    rw [e3]
    exact fo_k hK
  · refine ⟨_, (List.range (many - max 1 rd)).map fun i => ((few (max 1 rd + i) : Nat) : Int), rfl, litems_l (by rw [upd_same, List.map_map]; rfl), ?_⟩
    rw [sumFrom_eq]
    exact q _ (Fr.new np)
theorem mp_k {many rd : Nat} (h1 : many ≤ 64) (h2 : rd ≤ many) (q : ∀ H', Fr [] H H' → Q (.int (sumFrom top (max 1 rd) (many - max 1 rd) : Nat)) H') : callK T (k + 5) "" "most_placing" [.int many, .int rd] H Q E := by
  refine call_k (np := 2) (n := 3) rfl rfl ?_
  unfold z_most_placing
  refine seq_k (fun σ1 H1 => H = H1 ∧ σ1 = [some (.int many), some (.int rd), none]) (fun K hK => ?_) ?_
  · simp only [drop, callf, acons, anil, var, start, Z.get, perm]
    exact ⟨rfl, rc_k h1 h2 (hK _ _ ⟨rfl, rfl⟩)⟩
  rintro _ _ ⟨rfl, rfl⟩
  simp only [ret, blt, acons, anil, lcomp, irng2, bMax2, var, cst, Z.get]
  refine ⟨1, rd, rfl, _, _, rfl, by unfold big; omega, by unfold big; omega, ?_⟩
  have e1 : ((many : Int) - max (1 : Int) rd).toNat = many - max 1 rd := by omega
  have e2 : max (1 : Int) rd = ((max 1 rd : Nat) : Int) := by omega
  rw [e1, e2]
  refine lci_rng (fun i => (top (max 1 rd + i) : Nat)) trivial (by unfold line; omega) (fun i hi K hK => ?_) fun p np => ?_
  · simp only [gname, callf, acons, anil, var, wipe, perm]
    refine ⟨rfl, ?_⟩
    have e3 : (((max 1 rd : Nat) : Int) + (i : Int)) = ((max 1 rd + i : Nat) : Int) := by omega
    rw [e3]
    exact mo_k hK
  · refine ⟨_, (List.range (many - max 1 rd)).map fun i => ((top (max 1 rd + i) : Nat) : Int), rfl, litems_l (by rw [upd_same, List.map_map]; rfl), ?_⟩
    rw [sumFrom_eq]
    exact q _ (Fr.new np)
theorem ek_k {many rd : Nat} (h1 : many ≤ 64) (h2 : rd ≤ many) (q : ∀ p, H p = none → Q (.ref p) (upd H p (.lst (nats (List.range many))))) : callK T (k + 5) "" "easy_keys" [.int many, .int rd] H Q E := by
  refine call_k (np := 2) (n := 2) rfl rfl ?_
  unfold z_easy_keys
  refine seq_k (fun σ1 H1 => H = H1 ∧ σ1 = [some (.int many), some (.int rd)]) (fun K hK => ?_) ?_
  · simp only [drop, callf, acons, anil, var, start, Z.get, perm]
    exact ⟨rfl, rc_k h1 h2 (hK _ _ ⟨rfl, rfl⟩)⟩
  rintro _ _ ⟨rfl, rfl⟩
  simp only [ret, lrng1, var, Z.get]
  refine ⟨_, rfl, by unfold line; omega, by omega, fun p np => ?_⟩
  rw [Int.toNat_natCast]
  exact q p np
/-- the row in which all later items come first -/
def rowN (r0 : Nat) : Nat → List Nat
  | 0 => List.range r0
  | k + 1 => (r0 + k) :: rowN r0 k
theorem rowN_len (r0 : Nat) : ∀ k, (rowN r0 k).length = r0 + k
  | 0 => by simp [rowN]
  | k + 1 => by simp [rowN, rowN_len r0 k]; omega
/-- where an item stands in it -/
def posN (r0 k j : Nat) : Nat := if j < r0 then k + j else r0 + k - 1 - j
theorem rowN_get (r0 : Nat) : ∀ (k i : Nat), i < r0 + k → (rowN r0 k)[i]? = some (if i < k then r0 + k - 1 - i else i - k)
  | 0, i, h => by
    rw [if_neg (by omega)]
    show (List.range r0)[i]? = _
    rw [List.getElem?_range (by omega)]
    rfl
  | k + 1, 0, h => by
    rw [if_pos (by omega)]
    simp [rowN]
  | k + 1, i + 1, h => by
    have e := rowN_get r0 k i (by omega)
    show (rowN r0 k)[i]? = _
    rw [e]
    by_cases z : i < k
    · rw [if_pos z, if_pos (by omega)]
      congr 1
      omega
    · rw [if_neg z, if_neg (by omega)]
      congr 1
      omega
def hardN (r0 k : Nat) : List Nat := (List.range (r0 + k)).map (posN r0 k)
theorem ko_k {p r0 m : Nat} (hp : H p = some (.lst (nats (rowN r0 m)))) (hl : r0 + m ≤ 64) (q : ∀ H' u, Fr [] H H' → H u = none → H' u = some (.lst (nats (hardN r0 m))) → Q (.ref u) H') : callK T (k + 1) "" "keys_of" [.ref p] H Q E := by
  refine call_k (np := 1) (n := 4) rfl rfl ?_
  unfold z_keys_of
  refine asg_k (fun v H1 => ∃ u, v = .ref u ∧ H u = none ∧ Fr [] H H1 ∧ H1 u = some (.lst (List.replicate (r0 + m) (V.int 0)))) (fun K hK => ?_) ?_
  · simp only [bin, lstl, acons, anil, cst, blt, bLen, var, start, Z.get]
    refine ⟨by decide, fun a na => ⟨_, _, rfl, items_l (upd_old hp na), ?_⟩⟩
    rw [opr_mul_ri]
    have el : (nats (rowN r0 m)).length = r0 + m := by rw [List.length_map, rowN_len]
    rw [el]
    refine ⟨_, upd_same, by omega, by omega, ?_, fun u nu => hK _ _ ⟨u, rfl, ?_, (Fr.new na).trans (Fr.new nu), ?_⟩⟩
    · rw [Int.toNat_natCast]
      show 1 * (r0 + m) ≤ line
      unfold line
      omega
    · exact (Fr.new na : Fr [] H _).fresh (by simp) nu
    · rw [upd_same, Int.toNat_natCast]
      congr 2
      have : ∀ n : Nat, (List.replicate n [V.int 0]).flatten = List.replicate n (V.int 0) := by
        intro n
        induction n with
        | zero => rfl
        | succ n ih => rw [List.replicate_succ, List.replicate_succ, List.flatten_cons, ih]; rfl
      exact this _
  rintro _ H1 ⟨u, rfl, nu, f1, hu⟩
  have hp1 := f1 p _ hp (by simp)
  have pu : p ≠ u := fun z => by rw [z, nu] at hp; cases hp
  refine seq_k (fun σ1 H2 => ∃ x y, σ1 = [some (.ref p), some (.ref u), x, y] ∧ H2 u = some (.lst (nats (hardN r0 m))) ∧ Fr [] H H2) (fun K hK => ?_) ?_
  · simp only [fore2, ienum, var, Z.get, put, start]
    left
    refine ⟨_, litems_l hp1, ?_⟩
    refine fori2_k (fun i σ H2 => ∃ x y, σ = [some (.ref p), some (.ref u), x, y] ∧ H2 u = some (.lst (nats ((List.range (r0 + m)).map fun j => if posN r0 m j < i then posN r0 m j else 0))) ∧ Fr [] H H2 ∧ H2 p = some (.lst (nats (rowN r0 m)))) ⟨_, _, rfl, ?_, f1, hp1⟩ (fun i v σ H2 hv g => ?_) fun σ H2 g => ?_
    · rw [hu]
      congr 2
      refine List.ext_getElem (by simp) fun i h1 h2 => ?_
      simp
    · obtain ⟨x, y, rfl, hu2, f2, hp2⟩ := g
      refine ⟨litems_l hp2, fun K hK => ?_⟩
      obtain ⟨e1, e2⟩ := enumV_get _ _ _ _ hv
      have hi : i < r0 + m := by
        have := (List.getElem?_eq_some_iff.mp e2).1
        rw [List.length_map, rowN_len] at this
        exact this
      rw [List.getElem?_map, rowN_get r0 m i hi] at e2
      obtain ⟨v1, v2⟩ := v
      obtain ⟨j, ej⟩ : ∃ j, (if i < m then r0 + m - 1 - i else i - m) = j := ⟨_, rfl⟩
      rw [ej] at e2
      have e4 : V.int (j : Nat) = v2 := Option.some.inj e2
      simp only at e1
      subst e1
      have hj : j < r0 + m := by
        split at ej <;> omega
      have pj : posN r0 m j = i := by
        unfold posN
        split at ej <;> split <;> omega
      subst e4
      simp only [gcons, gnil, gname, asg, gsub, var, Z.get, put]
      refine ⟨_, _, rfl, _, _, rfl, rfl, u, _, (j : Int), j, rfl, rfl, hu2, ?_, hK _ _ ⟨_, _, rfl, ?_, Fr.shut (S := [u]) f2 (Fr.chg (by simp)) (by simpa using nu), ?_⟩⟩
      · rw [ixN_lt (by omega) (by simp; omega)]
        simp
      · rw [upd_same]
        congr 2
        refine List.ext_getElem (by simp) fun n h1 h2 => ?_
        simp only [List.length_set, List.length_map, List.length_range] at h1
        have pn : posN r0 m n = i ↔ n = j := by
          constructor
          · intro h
            unfold posN at h
            split at ej <;> split at h <;> omega
          · rintro rfl
            exact pj
        rw [List.getElem_set]
        by_cases z : j = n
        · subst z
          rw [if_pos rfl]
          simp only [List.getElem_map, List.getElem_range]
          rw [pj, if_pos (by omega)]
          simp
        · rw [if_neg z]
          simp only [List.getElem_map, List.getElem_range]
          have : posN r0 m n ≠ i := fun h => z (pn.mp h).symm
          by_cases w : posN r0 m n < i
          · rw [if_pos w, if_pos (by omega)]
          · rw [if_neg w, if_neg (by omega)]
      · rw [upd_ne pu]
        exact hp2
    · obtain ⟨x, y, rfl, hu2, f2, hp2⟩ := g
      refine ⟨litems_l hp2, hK _ _ ⟨_, _, rfl, ?_, f2⟩⟩
      rw [hu2]
      congr 2
      have el : (enumV 0 (nats (rowN r0 m))).length = r0 + m := by
        have : ∀ (j : Int) (xs : List V), (enumV j xs).length = xs.length := by
          intro j xs
          induction xs generalizing j with
          | nil => rfl
          | cons x r ih => exact congrArg Nat.succ (ih (j + 1))
        rw [this, List.length_map, rowN_len]
      rw [el]
      unfold hardN
      show (List.map _ _).map _ = (List.map _ _).map _
      congr 1
      refine List.map_congr_left fun j hj => ?_
      rw [if_pos]
      have := List.mem_range.mp hj
      unfold posN
      split <;> omega
  rintro _ H2 ⟨x, y, rfl, hu2, f2⟩
  simp only [ret, var, Z.get]
  exact q H2 u f2 nu hu2
theorem hk_k {many rd : Nat} (h1 : many ≤ 64) (h2 : rd ≤ many) (q : ∀ H' u, Fr [] H H' → H u = none → H' u = some (.lst (nats (hardN (min many (max 1 rd)) (many - max 1 rd)))) → Q (.ref u) H') : callK T (k + 5) "" "hard_keys" [.int many, .int rd] H Q E := by
  refine call_k (np := 2) (n := 4) rfl rfl ?_
  unfold z_hard_keys
  refine seq_k (fun σ1 H1 => H = H1 ∧ σ1 = [some (.int many), some (.int rd), none, none]) (fun K hK => ?_) ?_
  · simp only [drop, callf, acons, anil, var, start, Z.get, perm]
    exact ⟨rfl, rc_k h1 h2 (hK _ _ ⟨rfl, rfl⟩)⟩
  rintro _ _ ⟨rfl, rfl⟩
  generalize er : min many (max 1 rd) = r0 at q ⊢
  refine asg_k (fun v H1 => ∃ u, v = .ref u ∧ Fr [] H H1 ∧ H1 u = some (.lst (nats (rowN r0 0)))) (fun K hK => ?_) ?_
  · simp only [slc, lrng1, blt, bMax2, acons, anil, pno, pso, cst, var, Z.get]
    refine ⟨1, rd, rfl, _, rfl, ?_, by omega, fun a na => ⟨_, rfl, .inl ⟨_, litems_l upd_same, fun u nu => hK _ _ ⟨u, rfl, (Fr.new na).trans (Fr.new nu), ?_⟩⟩⟩⟩
    · unfold line
      omega
    · rw [upd_same]
      congr 2
      unfold cutV
      have e1 : sIx ((List.range (max (1 : Int) rd).toNat).map fun (k : Nat) => V.int k).length ((List.range (max (1 : Int) rd).toNat).map fun (k : Nat) => V.int k).length (some (many : Int)) = min many (max 1 rd) := by
        show (if (many : Int) < 0 then ((many : Int) + (((List.range (max (1 : Int) rd).toNat).map fun (k : Nat) => V.int k).length : Nat)).toNat else min (many : Int).toNat ((List.range (max (1 : Int) rd).toNat).map fun (k : Nat) => V.int k).length) = _
        rw [if_neg (by omega)]
        simp only [List.length_map, List.length_range]
        omega
      rw [e1, er]
      show ((List.map _ _).drop 0).take (r0 - 0) = _
      rw [List.drop_zero, ← List.map_take, List.take_range]
      have e2 : min (r0 - 0) (max (1 : Int) rd).toNat = r0 := by omega
      rw [e2]
      rfl
  rintro _ H1 ⟨u, rfl, f1, hu⟩
  refine seq_k (fun σ1 H2 => ∃ u x, σ1 = [some (.int many), some (.int rd), some (.ref u), x] ∧ H2 u = some (.lst (nats (rowN r0 (many - max 1 rd)))) ∧ Fr [] H H2) (fun K hK => ?_) ?_
  · simp only [fore, irng2, acons, anil, blt, bLen, var, Z.get, put]
    refine ⟨_, _, rfl, items_l hu, _, _, rfl, ?_, ?_, ?_⟩
    · unfold big
      simp only [List.length_map, rowN_len]
      omega
    · unfold big
      omega
    have el : (nats (rowN r0 0)).length = r0 := by rw [List.length_map, rowN_len]; rfl
    rw [el]
    have e1 : ((many : Int) - (r0 : Int)).toNat = many - max 1 rd := by omega
    rw [e1]
    refine fori_k (fun i σ H2 => ∃ u x, σ = [some (.int many), some (.int rd), some (.ref u), x] ∧ H2 u = some (.lst (nats (rowN r0 i))) ∧ Fr [] H H2) ⟨_, _, rfl, hu, f1⟩ (fun i v σ H2 hv g => ⟨trivial, fun K hK => ?_⟩) fun σ H2 g => ⟨trivial, ?_⟩
    · obtain ⟨u, x, rfl, hu2, f2⟩ := g
      obtain ⟨hi, rfl⟩ := rng_get hv
      simp only [gname, put, asg, lstl, acons, anil, astar, var, Z.get]
      refine ⟨_, items_l hu2, ?_, fun w nw => hK _ _ ⟨_, _, rfl, ?_, f2.trans (Fr.new nw)⟩⟩
      · simp only [List.length_cons, List.length_append, List.length_map, rowN_len, List.length_nil]
        unfold line
        omega
      · rw [upd_same]
        congr 2
        rw [List.append_nil]
        show _ = V.int (r0 + i : Nat) :: nats (rowN r0 i)
        rw [show ((r0 + i : Nat) : Int) = (r0 : Int) + i by omega]
    · obtain ⟨u, x, rfl, hu2, f2⟩ := g
      rw [rng_len] at hu2
      exact hK _ _ ⟨_, _, rfl, hu2, f2⟩
  rintro _ H2 ⟨u2, x, rfl, hu2, f2⟩
  simp only [ret, callf, acons, anil, var, Z.get, perm]
  refine ⟨rfl, ko_k hu2 (by omega) fun H' w f n e => q H' w (f2.trans f) ?_ e⟩
  exact f2.fresh (by simp) n
/-- the length of the way to a place -/
def wayN (i p : Nat) : Nat := (probe (fun m => decide (p ≤ m)) i 0 i).2.length
theorem way_zero (i : Nat) : wayN i 0 = top i := len_tt fun m _ => by simp
theorem way_last (i : Nat) : wayN i i = few i := len_ff fun m h => by simp; omega
theorem way_one : ∀ i, i < 64 → 0 < i → wayN i 1 = wayN i 0 := by decide +kernel
theorem sp_k {i pl : Nat} (hi : i ≤ 64) (q : ∀ H' u, Fr [] H H' → H u = none → H' u = some (.lst (nats (probe (fun m => decide (pl ≤ m)) i 0 i).2)) → Q (.ref u) H') : callK T (k + 1) "" "_law_spots" [.int i, .int pl] H Q E := by
  refine call_k (np := 2) (n := 6) rfl rfl ?_
  unfold z__law_spots
  refine seq_k (fun σ1 H1 => ∃ u, H u = none ∧ Fr [] H H1 ∧ H1 u = some (.lst []) ∧ σ1 = [some (.int i), some (.int pl), some (.int 0), some (.int i), some (.ref u), none]) (fun K hK => ?_) ?_
  · simp only [par, acons, anil, cst, var, lstl, start, Z.get]
    refine ⟨by decide, fun u nu => ⟨rfl, ?_⟩⟩
    simp only [gcons, gnil, gname]
    exact ⟨_, _, rfl, _, _, rfl, _, _, rfl, rfl, hK _ _ ⟨u, nu, Fr.new nu, upd_same, rfl⟩⟩
  rintro _ H1 ⟨u, nu, f1, hu, rfl⟩
  generalize eL : (fun m => decide (pl ≤ m)) = L at q
  refine seq_k (fun σ1 H2 => ∃ x y z, Fr [] H H2 ∧ H2 u = some (.lst (nats (probe L i 0 i).2)) ∧ σ1 = [some (.int i), some (.int pl), x, y, some (.ref u), z]) (fun K hK => ?_) ?_
  · refine whl_k (n := i) (fun f σ2 H2 => ∃ (lo hi : Nat) (done : List Nat) (z : Option V), hi - lo ≤ f ∧ lo ≤ hi ∧ hi ≤ i ∧ done.length + f ≤ i ∧ probe L i 0 i = ((probe L f lo hi).1, done ++ (probe L f lo hi).2) ∧ σ2 = [some (.int i), some (.int pl), some (.int (lo : Nat)), some (.int (hi : Nat)), some (.ref u), z] ∧ Fr [] H H2 ∧ H2 u = some (.lst (nats done)))
      ⟨0, i, [], none, by omega, by omega, by omega, by simp, rfl, rfl, f1, hu⟩ ?_
    rintro f σ2 H2 ⟨lo, hi, done, z, h1, h2, h3, h4, h5, rfl, f2, hu2⟩ M hM
    simp only [tt, cmp, var, Z.get, cmpr_lt, truth_b]
    refine ⟨_, rfl, ?_⟩
    by_cases l : lo < hi
    · rw [if_pos (by simpa using l)]
      obtain ⟨f', rfl⟩ : ∃ f', f = f' + 1 := ⟨f - 1, by omega⟩
      obtain ⟨mid, em⟩ : ∃ mid, (lo + hi) / 2 = mid := ⟨_, rfl⟩
      have m1 : lo ≤ mid := by omega
      have m2 : mid < hi := by omega
      have em2 : (lo : Int) + ((hi : Int) - lo) / 2 = (mid : Int) := by omega
      refine asg_k (fun v H3 => H2 = H3 ∧ v = .int mid) (fun K hK => ?_) ?_
      · simp only [bin, var, cst, Z.get, opr_add_ii, opr_sub_ii, opr_fdiv]
        exact ⟨by decide, small_b (by decide) (by decide) (by decide), by rw [em2]; exact hK _ _ ⟨rfl, rfl⟩⟩
      rintro _ _ ⟨rfl, rfl⟩
      refine seq_k (fun σ3 H3 => σ3 = [some (.int i), some (.int pl), some (.int (lo : Nat)), some (.int (hi : Nat)), some (.ref u), some (.int (mid : Nat))] ∧ Fr [] H H3 ∧ H3 u = some (.lst (nats (done ++ [mid])))) (fun K hK => ?_) ?_
      · simp only [drop, bmt, acons, anil, var, put, Z.get]
        refine ⟨⟨_, litems_l hu2⟩, u, _, _, rfl, rfl, hu2, ?_, hK _ _ ⟨rfl, Fr.shut (S := [u]) f2 (Fr.chg (by simp)) (by simpa using nu), ?_⟩⟩
        · rw [List.length_map]
          unfold line
          omega
        · rw [upd_same]
          congr 2
          simp
      rintro _ H3 ⟨rfl, f3, hu3⟩
      rw [probe_succ l, em] at h5
      simp only [ifs, tt, cmp, var, Z.get, cmpr_le, truth_b]
      refine ⟨_, rfl, ?_⟩
      have eb : L mid = decide ((pl : Int) ≤ mid) := by
        rw [← eL]
        simp
      rw [← eb]
      by_cases lb : L mid = true
      · rw [if_pos lb]
        rw [if_pos lb] at h5
        simp only [asg, var, Z.get, gname, put]
        exact hM f' _ _ (by omega) ⟨lo, mid, done ++ [mid], _, by omega, by omega, by omega, by simp; omega, by rw [h5]; simp, rfl, f3, hu3⟩
      · rw [if_neg lb]
        rw [if_neg lb] at h5
        simp only [asg, bin, cst, var, Z.get, gname, put, opr_add_ii]
        exact hM f' _ _ (by omega) ⟨mid + 1, hi, done ++ [mid], _, by omega, by omega, by omega, by simp; omega, by rw [h5]; simp, rfl, f3, hu3⟩
    · rw [if_neg (by simpa using l)]
      rw [probe_end l] at h5
      have e2 : (probe L i 0 i).2 = done := by rw [h5]; simp
      exact hK _ _ ⟨_, _, _, f2, by rw [e2]; exact hu2, rfl⟩
  rintro _ H2 ⟨x, y, z, f2, hu2, rfl⟩
  simp only [ret, var, Z.get]
  exact q H2 u f2 nu hu2
theorem max_k {i : Nat} (hi : 0 < i) {H : Heap} {p : Nat} (hp : H p = some (.lst ((List.range (i + 1)).map fun p => V.int (wayN i p : Nat)))) {Q : VK} (q : Q (.int (top i : Nat)) H) : bMax1 [.ref p] H Q := by
  refine ⟨_, (List.range (i + 1)).map fun p => ((wayN i p : Nat) : Int), rfl, litems_l (by rw [hp, List.map_map]; rfl), by simp, fun m hm hy => ?_⟩
  obtain ⟨p, hp1, rfl⟩ := List.mem_map.mp hm
  have a := hy (wayN i 0 : Nat) (List.mem_map.mpr ⟨0, by simp, rfl⟩)
  have b := len_top (fun m => decide (p ≤ m)) i
  rw [way_zero] at a
  have e : wayN i p = top i := by
    have b : wayN i p ≤ top i := b
    omega
  rw [e]
  exact q
theorem min_k {i : Nat} (hi : 0 < i) {H : Heap} {p : Nat} (hp : H p = some (.lst ((List.range (i + 1)).map fun p => V.int (wayN i p : Nat)))) {Q : VK} (q : Q (.int (few i : Nat)) H) : bMin1 [.ref p] H Q := by
  refine ⟨_, (List.range (i + 1)).map fun p => ((wayN i p : Nat) : Int), rfl, litems_l (by rw [hp, List.map_map]; rfl), by simp, fun m hm hy => ?_⟩
  obtain ⟨p, hp1, rfl⟩ := List.mem_map.mp hm
  have a := hy (wayN i i : Nat) (List.mem_map.mpr ⟨i, by simp, rfl⟩)
  have b := len_few (fun m => decide (p ≤ m)) i
  rw [way_last] at a
  have e : wayN i p = few i := by
    have b : few i ≤ wayN i p := b
    omega
  rw [e]
  exact q
theorem lw_k {i : Nat} (h1 : 0 < i) (h2 : i < 64) (q : ∀ H' t, Fr [] H H' → H' t = some (.tup [.int (few i : Nat), .int (top i : Nat)]) → H t = none → Q (.ref t) H') : callK T (k + 2) "" "_law_ways" [.int i] H Q E := by
  refine call_k (np := 1) (n := 3) rfl rfl ?_
  unfold z__law_ways
  refine asg_k (fun v H1 => ∃ p, v = .ref p ∧ Fr [] H H1 ∧ H1 p = some (.lst ((List.range (i + 1)).map fun p => V.int (wayN i p : Nat)))) (fun K hK => ?_) ?_
  · simp only [lcomp, irng1, acons, anil, bin, var, cst, start, Z.get, opr_add_ii]
    refine ⟨_, rfl, by unfold big; omega, ?_⟩
    rw [show ((i : Int) + 1).toNat = i + 1 by omega]
    refine lci_k (fun j acc H2 => acc = ((List.range j).map fun p => V.int (wayN i p : Nat)) ∧ Fr [] H H2) ⟨rfl, .refl _ _⟩ (fun j v acc H2 hv g => ⟨trivial, fun L hL => ?_⟩) fun acc H2 g => ⟨trivial, fun p np => ?_⟩
    · obtain ⟨rfl, f2⟩ := g
      obtain ⟨hj, rfl⟩ := rng_get hv
      simp only [gname, tyes, if_true, blt, callf, acons, anil, var, wipe, Z.get, put, perm]
      refine ⟨rfl, ?_⟩
      show callK T (k + 1) "" "_law_spots" [.int i, .int (0 + (j : Int))] H2 _ _
      rw [Int.zero_add]
      refine sp_k (by omega) fun H3 u f3 nu hu => ⟨_, _, rfl, items_l hu, ?_, hL _ _ ⟨?_, f2.trans f3⟩⟩
      · rw [List.length_map, List.length_range]
        unfold line
        omega
      · rw [List.range_succ, List.map_append, List.length_map]
        rfl
    · obtain ⟨rfl, f2⟩ := g
      rw [rng_len]
      exact hK _ _ ⟨p, rfl, f2.trans (Fr.new np), upd_same⟩
  rintro _ H1 ⟨p, rfl, f1, hp⟩
  have get : ∀ j, j < i + 1 → atI ((List.range (i + 1)).map fun p => V.int (wayN i p : Nat)) (j : Int) = some (.int (wayN i j : Nat)) := by
    intro j hj
    rw [atI_lt (by omega) (by simp; omega), List.getElem?_map, Int.toNat_natCast, List.getElem?_range hj]
    rfl
  refine seq_k (fun σ2 H2 => H1 = H2 ∧ σ2 = [some (.int i), some (.ref p), none]) (fun K hK => ?_) ?_
  · simp only [ifs, tor, tt, cmp, ix, blt, acons, anil, var, cst, start, put, Z.get, cmpr_ne]
    refine ⟨_, 0, .int (wayN i 0 : Nat), items_l hp, rfl, get 0 (by omega), max_k h1 hp ?_⟩
    rw [way_zero, eqD_int]
    refine ⟨false, by simp [truth_b], ?_⟩
    simp only [Bool.false_eq_true, if_false]
    refine ⟨_, 1, .int (wayN i 1 : Nat), items_l hp, rfl, get 1 (by omega), max_k h1 hp ?_⟩
    rw [way_one i h2 h1, way_zero, eqD_int]
    refine ⟨false, by simp [truth_b], ?_⟩
    simp only [Bool.false_eq_true, if_false]
    refine ⟨_, i, .int (wayN i i : Nat), items_l hp, rfl, get i (by omega), min_k h1 hp ?_⟩
    rw [way_last, eqD_int]
    refine ⟨false, by simp [truth_b], ?_⟩
    simp only [Bool.false_eq_true, if_false]
    exact hK _ _ ⟨rfl, rfl⟩
  rintro _ _ ⟨rfl, rfl⟩
  simp only [ret, tupl, acons, anil, blt, var, Z.get]
  refine min_k h1 hp (max_k h1 hp ⟨(by show 2 ≤ line; decide), fun t nt => q _ t (f1.trans (Fr.new nt)) upd_same (f1.fresh (by simp) nt)⟩)
theorem ir_k {p first : Nat} {ns : List Int} (hp : H p = some (.lst (ns.map .int))) (h1 : first ≤ ns.length) (h64 : first ≤ 64) (hr : ∀ j, j + 1 < first → ns.getD j 0 < ns.getD (j + 1) 0) (q : ∀ H', Fr [] H H' → Q (.bl true) H') : callK T (k + 1) "" "_law_is_rising" [.ref p, .int first] H Q E := by
  refine call_k (np := 2) (n := 3) rfl rfl ?_
  unfold z__law_is_rising
  simp only [ret, cmp, lcomp, irng2, acons, anil, var, cst, start, Z.get]
  refine ⟨1, _, rfl, by unfold big; omega, by unfold big; omega, ?_⟩
  refine lci_k (fun j acc H2 => H = H2 ∧ acc = []) ⟨rfl, rfl⟩ (fun j v acc H2 hv g => ⟨trivial, fun L hL => ?_⟩) fun acc H2 g => ⟨trivial, fun u nu => ?_⟩
  · obtain ⟨rfl, rfl⟩ := g
    obtain ⟨hj, rfl⟩ := rng_get hv
    have hj2 : j + 1 < first := by omega
    simp only [gname, tnot, tt, bin, ix, var, cst, wipe, Z.get, put, opr_sub_ii, cmpr_lt, truth_b]
    have get : ∀ i : Nat, i < ns.length → atI (ns.map V.int) (i : Int) = some (.int (ns.getD i 0)) := by
      intro i hi
      rw [atI_lt (by omega) (by simp; omega), List.getElem?_map, Int.toNat_natCast, List.getElem?_eq_getElem hi]
      simp [List.getD, List.getElem?_eq_getElem hi]
    refine ⟨_, _, .int (ns.getD j 0), items_l hp, rfl, ?_, _, _, .int (ns.getD (j + 1) 0), items_l hp, rfl, ?_, true, ?_, ?_⟩
    · rw [show (1 : Int) + (j : Int) - 1 = (j : Int) by omega]
      exact get j (by omega)
    · rw [show (1 : Int) + (j : Int) = ((j + 1 : Nat) : Int) by omega]
      exact get (j + 1) (by omega)
    · rw [decide_eq_true (hr j hj2)]
      rfl
    · simp only [Bool.not_true, Bool.false_eq_true, if_false]
      exact hL _ _ ⟨rfl, rfl⟩
  · obtain ⟨rfl, rfl⟩ := g
    simp only [lstl, acons, anil, cmpr_eq]
    refine ⟨by decide, fun w nw => ?_⟩
    exact eqD_ints (ns := []) (ms := []) (litems_l (upd_old upd_same nw)) (litems_l upd_same) (q _ ((Fr.new nu).trans (Fr.new nw)))
theorem Fr.shutS {S S' : List Nat} {H H1 H2 : Heap} (a : Fr S H H1) (b : Fr S' H1 H2) (n : ∀ q ∈ S', q ∈ S ∨ H q = none) : Fr S H H2 := fun q o h hq => b q o (a q o h hq) fun hq2 => by
  rcases n q hq2 with z | z
  · exact hq z
  · rw [z] at h; cases h
theorem last_in {xs : List Int} (h : xs ≠ []) : ∃ y, atI (xs.map V.int) (-1) = some (.int y) := by
  have l : 0 < xs.length := List.length_pos_iff.mpr h
  refine ⟨xs[xs.length - 1], ?_⟩
  rw [atI_neg (by decide) (by simp; omega), List.length_map, show ((-1 : Int) + (xs.length : Int)).toNat = xs.length - 1 by omega, List.getElem?_map, List.getElem?_eq_getElem (by omega)]
  rfl
/-- numbers are drawn -/
theorem lk_k {s n size : Nat} (hs : Srd H s n) (hn : n ≤ 10000) (hz : size ≤ 100) (q : ∀ (H' : Heap) (g : Nat) (xs : List Int), Fr [s] H H' → Srd H' s (n + 2 + 2 * size) → H g = none → H' g = some (.lst (xs.map V.int)) → xs.length = size → Q (.ref g) H') : callK T (k + 3) "" "_law_keys" [.ref s, .int size] H Q E := by
  refine call_k (np := 2) (n := 7) rfl rfl ?_
  unfold z__law_keys
  refine asg_k (fun v H1 => ∃ w : Int, v = .int w ∧ 0 < w ∧ w ≤ 10 ^ 20 ∧ Srd H1 s (n + 1) ∧ Fr [s] H H1) (fun K hK => ?_) ?_
  · simp only [callf, acons, anil, lstl, bin, cst, var, start, Z.get, opr_pow, perm]
    refine ⟨by decide, ⟨4, by unfold small; decide, by decide⟩, by decide, fun p np => ⟨rfl, ?_⟩⟩
    refine pick3_k (k := k) rfl rfl (hs.new np) (by omega) (items_l upd_same) (hs.ne np) (by simp) (by simp) fun v o hv hs2 => ?_
    have e20 : (10 : Int) ^ Int.toNat 20 = 10 ^ 20 := rfl
    have f : Fr [s] H (upd (upd H p (.lst [.int 1, .int 2, .int 3, .int 5, .int 40, .int (10 ^ Int.toNat 20)])) s o) := (Fr.new np).trans (Fr.chg (by simp))
    simp only [List.mem_cons, List.not_mem_nil, or_false] at hv
    rcases hv with rfl | rfl | rfl | rfl | rfl | rfl
    · exact hK _ _ ⟨_, rfl, by decide, by decide, hs2, f⟩
    · exact hK _ _ ⟨_, rfl, by decide, by decide, hs2, f⟩
    · exact hK _ _ ⟨_, rfl, by decide, by decide, hs2, f⟩
    · exact hK _ _ ⟨_, rfl, by decide, by decide, hs2, f⟩
    · exact hK _ _ ⟨_, rfl, by decide, by decide, hs2, f⟩
    · exact hK _ _ ⟨_, rfl, by decide, by decide, hs2, f⟩
  rintro _ H1 ⟨w, rfl, w0, w1, hs1, f1⟩
  have srd0 : ∀ {H2 : Heap} {g : Nat}, Fr [s] H H2 → (∃ m, Srd H2 s m) → H2 g = none → H g = none := fun f ⟨m, h⟩ e => f.fresh (fun q hq => by rw [show q = s by simpa using hq]; exact h.some) e
  refine seq_k (fun σ1 H2 => ∃ (way : Int) (g : Nat), 0 ≤ way ∧ Srd H2 s (n + 2) ∧ Fr [s] H H2 ∧ H g = none ∧ H2 g = some (.lst []) ∧ σ1 = [some (.ref s), some (.int size), some (.int w), some (.int way), some (.ref g), none, none]) (fun K hK => ?_) ?_
  · simp only [par, callf, acons, anil, lstl, cst, var, start, put, Z.get, perm]
    refine ⟨rfl, draw3_k rfl hs1 (by omega) (by decide) (by decide) fun d o d0 d1 hs2 => ⟨by decide, fun g ng => ⟨rfl, ?_⟩⟩⟩
    simp only [gcons, gnil, gname]
    exact ⟨_, _, rfl, _, _, rfl, rfl, hK _ _ ⟨d, g, d0, hs2.new ng, (f1.trans (Fr.chg (by simp))).trans (Fr.new ng), srd0 (f1.trans (Fr.chg (by simp))) ⟨_, hs2⟩ ng, upd_same, rfl⟩⟩
  rintro _ H2 ⟨way, g, wy0, hs2, f2, ng, hg, rfl⟩
  have gs : g ≠ s := hs.ne ng
  refine seq_k (fun σ1 H3 => ∃ (x5 x6 : Option V) (xs : List Int), σ1 = [some (.ref s), some (.int size), some (.int w), some (.int way), some (.ref g), x5, x6] ∧ Srd H3 s (n + 2 + 2 * size) ∧ Fr [s] H H3 ∧ H3 g = some (.lst (xs.map V.int)) ∧ xs.length = size) (fun K hK => ?_) ?_
  · simp only [fore, irng1, acons, anil, var, Z.get]
    refine ⟨_, rfl, by unfold big; omega, ?_⟩
    rw [Int.toNat_natCast]
    refine fori_k (fun i σ H3 => ∃ (x5 x6 : Option V) (xs : List Int), σ = [some (.ref s), some (.int size), some (.int w), some (.int way), some (.ref g), x5, x6] ∧ Srd H3 s (n + 2 + 2 * i) ∧ Fr [s] H H3 ∧ H3 g = some (.lst (xs.map V.int)) ∧ xs.length = i) ⟨_, _, [], rfl, hs2, f2, hg, rfl⟩ (fun i v σ H3 hv gg => ⟨trivial, fun L hL => ?_⟩) fun σ H3 gg => ⟨trivial, ?_⟩
    · obtain ⟨x5, x6, xs, rfl, hs3, f3, hg3, lx⟩ := gg
      obtain ⟨hi, rfl⟩ := rng_get hv
      -- a number is put behind
      have app : ∀ (H4 : Heap) (y : Int) (x6 : Option V), Srd H4 s (n + 2 + 2 * (i + 1)) → Fr [s] H H4 → H4 g = some (.lst (xs.map V.int)) → ∃ a ys z, V.ref g = .ref a ∧ [V.int y] = [z] ∧ H4 a = some (.lst ys) ∧ ys.length < line ∧
          L [some (.ref s), some (.int size), some (.int w), some (.int way), some (.ref g), some (.int (0 + (i : Int))), x6] (upd H4 a (.lst (ys ++ [z]))) := fun H4 y x6 h4 f4 g4 =>
        ⟨g, _, _, rfl, rfl, g4, by rw [List.length_map]; unfold line; omega, hL _ _ ⟨_, _, xs ++ [y], rfl, h4.other gs, Fr.shutS (S' := [g]) f4 (Fr.chg (by simp)) (by simp [ng]), by rw [upd_same, List.map_append]; rfl, by simp [lx]⟩⟩
      have g5 : ∀ {H4 : Heap} {o : O}, H4 g = some (.lst (xs.map V.int)) → upd H4 s o g = some (.lst (xs.map V.int)) := fun h => by
        rw [upd_ne gs]
        exact h
      -- a step drawn from some
      have pk : ∀ (H4 : Heap) (vs : List V) (R : VK), Srd H4 s (n + 2 + 2 * i) → Fr [s] H H4 → H4 g = some (.lst (xs.map V.int)) → vs.length ≤ line → 0 < vs.length → vs.length < 2 ^ 90 → (∀ v ∈ vs, v ∈ [V.int 0, V.int 1, V.int 2, V.int (-1)]) →
          (∀ (H5 : Heap) (z : Int), -1 ≤ z → z ≤ 2 → Srd H5 s (n + 2 + 2 * i + 1) → Fr [s] H H5 → H5 g = some (.lst (xs.map V.int)) → R (.int z) H5) → ∀ p, H4 p = none → callK T (k + 2) "" "_law_pick" [.ref s, .ref p] (upd H4 p (.lst vs)) R fun c fs H' => E c fs H' := by
        intro H4 vs R h4 f4 g4 l0 l1 l2 hv r p np
        refine pick3_k (k := k) rfl rfl (h4.new np) (by omega) (items_l upd_same) (h4.ne np) l1 l2 fun v o hm h5 => ?_
        have f5 : Fr [s] H (upd (upd H4 p (.lst vs)) s o) := (f4.trans (Fr.new np)).trans (Fr.chg (by simp))
        have := hv v hm
        simp only [List.mem_cons, List.not_mem_nil, or_false] at this
        rcases this with rfl | rfl | rfl | rfl
        · exact r _ 0 (by decide) (by decide) h5 f5 (g5 (upd_old g4 np))
        · exact r _ 1 (by decide) (by decide) h5 f5 (g5 (upd_old g4 np))
        · exact r _ 2 (by decide) (by decide) h5 f5 (g5 (upd_old g4 np))
        · exact r _ (-1) (by decide) (by decide) h5 f5 (g5 (upd_old g4 np))
      have brA : ∀ (H4 : Heap), Srd H4 s (n + 2 + 2 * i) → Fr [s] H H4 → H4 g = some (.lst (xs.map V.int)) → callK T (k + 2) "" "_law_draw" [.ref s, .int w] H4 (fun x H5 => (0 < (2 : Int) ∧ small 9000 2 ∧ opr .sub x (.int (w / 2)) H5 fun x H6 => ∃ a ys z, V.ref g = .ref a ∧ [x] = [z] ∧ H6 a = some (.lst ys) ∧ ys.length < line ∧
          L [some (.ref s), some (.int size), some (.int w), some (.int way), some (.ref g), some (.int (0 + (i : Int))), x6] (upd H6 a (.lst (ys ++ [z]))))) fun c fs H' => E c fs H' := by
        intro H4 h4 f4 g4
        refine draw3_k (k := k + 1) rfl h4 (by omega) w0 (by omega) fun d o d0 d1 h5 => ⟨by decide, small_b (by decide) (by decide) (by decide), ?_⟩
        exact app _ _ _ (h5.mono (by omega)) (f4.trans (Fr.chg (by simp))) (g5 g4)
      simp only [gname, put]
      simp only [ifs, tor, tt, cmp, cst, var, Z.get, lstl, acons, anil, cmpr_eq]
      rw [eqD_int]
      refine ⟨_, rfl, ?_⟩
      by_cases hw : way = 0
      · simp only [hw, beq_self_eq_true, if_true]
        simp only [drop, bmt, acons, anil, bin, callf, var, cst, Z.get, perm, opr_fdiv]
        rw [hw] at brA
        exact ⟨⟨_, litems_l hg3⟩, rfl, brA _ hs3 f3 hg3⟩
      · have e0 : (way == 0) = false := by simpa using hw
        rw [e0]
        simp only [Bool.false_eq_true, if_false]
        refine ⟨by decide, fun p np => ?_⟩
        have hs4 : Srd (upd H3 p (.lst [])) s (n + 2 + 2 * i) := hs3.new np
        have hg4 := upd_old (o' := .lst []) hg3 np
        have f4 : Fr [s] H (upd H3 p (.lst [])) := f3.trans (Fr.new np)
        refine eqD_ints (ms := []) (litems_l hg4) (litems_l upd_same) ⟨_, rfl, ?_⟩
        generalize upd H3 p (.lst []) = H4 at *
        by_cases hx : xs = []
        · have : (xs == []) = true := by rw [hx]; rfl
          rw [this]
          simp only [if_true]
          simp only [drop, bmt, acons, anil, bin, callf, var, cst, Z.get, perm, opr_fdiv]
          exact ⟨⟨_, litems_l hg4⟩, rfl, brA _ hs4 f4 hg4⟩
        · have : (xs == []) = false := by
            cases xs with
            | nil => exact absurd rfl hx
            | cons => rfl
          rw [this]
          simp only [Bool.false_eq_true, if_false]
          obtain ⟨y0, hy0⟩ := last_in hx
          rw [eqD_int]
          refine ⟨_, rfl, ?_⟩
          by_cases hw1 : way = 1
          · simp only [hw1, beq_self_eq_true, if_true]
            rw [hw1] at app
            simp only [drop, bmt, acons, anil, bin, callf, var, cst, Z.get, perm, ix, neg, lstl]
            refine ⟨⟨_, litems_l hg4⟩, _, _, .int y0, items_l hg4, rfl, hy0, by decide, fun p2 np2 => ⟨rfl, ?_⟩⟩
            refine pk H4 _ _ hs4 f4 hg4 (by decide) (by decide) (by decide) (by simp) (fun H5 z z1 z2 h5 f5 g5 => ?_) p2 np2
            exact app _ _ _ (h5.mono (by omega)) f5 g5
          · have e1 : (way == 1) = false := by simpa using hw1
            rw [e1]
            simp only [Bool.false_eq_true, if_false]
            rw [eqD_int]
            refine ⟨_, rfl, ?_⟩
            by_cases hw2 : way = 2
            · simp only [hw2, beq_self_eq_true, if_true]
              rw [hw2] at app
              simp only [drop, bmt, acons, anil, bin, callf, var, cst, Z.get, perm, ix, neg, lstl]
              refine ⟨⟨_, litems_l hg4⟩, _, _, .int y0, items_l hg4, rfl, hy0, by decide, fun p2 np2 => ⟨rfl, ?_⟩⟩
              refine pk H4 _ _ hs4 f4 hg4 (by decide) (by decide) (by decide) (by simp) (fun H5 z z1 z2 h5 f5 g5 => ?_) p2 np2
              exact app _ _ _ (h5.mono (by omega)) f5 g5
            · have e2 : (way == 2) = false := by simpa using hw2
              rw [e2]
              simp only [Bool.false_eq_true, if_false]
              refine asg_k (fun v H5 => ∃ z : Int, v = .int z ∧ -1 ≤ z ∧ z ≤ 2 ∧ Srd H5 s (n + 2 + 2 * i + 1) ∧ Fr [s] H H5 ∧ H5 g = some (.lst (xs.map V.int))) (fun K hK => ?_) ?_
              · simp only [acons, anil, callf, var, cst, Z.get, perm, neg, lstl]
                refine ⟨by decide, fun p2 np2 => ⟨rfl, ?_⟩⟩
                exact pk H4 _ _ hs4 f4 hg4 (by decide) (by decide) (by decide) (by simp) (fun H5 z z1 z2 h5 f5 g5 => hK _ _ ⟨z, rfl, z1, z2, h5, f5, g5⟩) p2 np2
              rintro _ H5 ⟨z, rfl, z1, z2, h5, f5, g5'⟩
              simp only [drop, bmt, acons, anil, bin, callf, var, cst, Z.get, put, perm, ix, neg]
              refine ⟨⟨_, litems_l g5'⟩, _, _, .int y0, items_l g5', rfl, hy0, rfl, ?_⟩
              refine draw3_k (k := k + 1) rfl h5 (by omega) (by decide) (by decide) fun d o d0 d1 h6 => ?_
              rw [opr_add_ii, opr_mul_ii]
              refine ⟨mul_k (small_b (by omega) (by omega) (by decide)) (small_b (by omega) (by omega) (by decide)), ?_⟩
              exact app _ _ _ (h6.mono (by omega)) (f5.trans (Fr.chg (by simp))) (g5 g5')
    · obtain ⟨x5, x6, xs, rfl, hs3, f3, hg3, lx⟩ := gg
      rw [rng_len] at hs3 lx
      exact hK _ _ ⟨_, _, _, rfl, hs3, f3, hg3, lx⟩
  rintro _ H3 ⟨x5, x6, xs, rfl, hs3, f3, hg3, lx⟩
  simp only [ret, var, Z.get]
  exact q H3 g xs f3 hs3 ng hg3 lx
/-- the table of ways -/
structure WaysAt (H : Heap) (w : Nat) : Prop where
  ex : ∃ ts : List Nat, H w = some (.lst (.non :: ts.map V.ref)) ∧ ts.length = 63 ∧ ∀ i t, ts[i]? = some t → H t = some (.tup [.int (few (i + 1) : Nat), .int (top (i + 1) : Nat)])
theorem WaysAt.fr {H H' : Heap} {w : Nat} (h : WaysAt H w) (f : Fr [] H H') : WaysAt H' w := by
  obtain ⟨ts, h1, h2, h3⟩ := h
  exact ⟨ts, f _ _ h1 (by simp), h2, fun i t e => f _ _ (h3 i t e) (by simp)⟩
theorem WaysAt.get {H : Heap} {w i : Nat} (h : WaysAt H w) (h1 : 0 < i) (h2 : i < 64) : ∃ xs t, items H (.ref w) = some xs ∧ atI xs (i : Int) = some (.ref t) ∧ H t = some (.tup [.int (few i : Nat), .int (top i : Nat)]) := by
  obtain ⟨ts, e1, e2, e3⟩ := h
  obtain ⟨j, rfl⟩ : ∃ j, i = j + 1 := ⟨i - 1, by omega⟩
  refine ⟨_, ts[j], items_l e1, ?_, e3 j _ (List.getElem?_eq_getElem (by omega))⟩
  rw [atI_lt (by omega) (by simp; omega), Int.toNat_natCast]
  show (ts.map V.ref)[j]? = _
  rw [List.getElem?_map, List.getElem?_eq_getElem (by omega)]
  rfl
abbrev intsN (xs : List Nat) : List Int := xs.map fun n : Nat => (n : Int)
theorem intsN_v (xs : List Nat) : (intsN xs).map V.int = nats xs := by
  show List.map _ (List.map _ _) = _
  rw [List.map_map]
  rfl
theorem intsN_get {xs : List Nat} {i : Nat} (h : i < xs.length) : (intsN xs).getD i 0 = (xs[i] : Nat) := by
  simp [intsN, List.getD, List.getElem?_map, List.getElem?_eq_getElem h]
theorem mem_dropR {n m x : Nat} (h : x ∈ (List.range n).drop m) : m ≤ x ∧ x < n := by
  obtain ⟨i, hi, e⟩ := List.mem_drop_iff_getElem.mp h
  rw [List.getElem_range] at e
  rw [List.length_range] at hi
  omega
theorem mem_takeR {n m x : Nat} (h : x ∈ (List.range n).take m) : x < m ∧ x < n := by
  obtain ⟨i, hi, e⟩ := List.mem_take_iff_getElem.mp h
  rw [List.getElem_range] at e
  rw [List.length_range] at hi
  omega
theorem pair_dropR (n m : Nat) : ((List.range n).drop m).Pairwise (· < ·) := List.Pairwise.sublist (List.drop_sublist _ _) List.pairwise_lt_range
theorem sum_fit (g : Nat → Nat) {n m : Nat} : sumFrom g ((List.range n).take m).length ((List.range n).drop m).length = sumFrom g m (n - m) := by
  rw [List.length_take, List.length_drop, List.length_range]
  by_cases h : m ≤ n
  · rw [Nat.min_eq_left h]
  · rw [show n - m = 0 by omega]
    rfl
theorem cnt_easy (n rd : Nat) : (placedN (intsN (List.range n)) rd).2.length = sumFrom few (max 1 rd) (n - max 1 rd) := by
  unfold placedN
  have el : (intsN (List.range n)).length = n := by simp [intsN]
  rw [el, ← sum_fit]
  have less : ∀ x y, x < n → y < x → lsN (intsN (List.range n)) x y = false := by
    intro x y h1 h2
    unfold lsN
    rw [intsN_get (by simp; omega), intsN_get (by simp; omega)]
    simp
    omega
  refine put_alike (b := false) (fun L i h => len_ff h) _ _ (fun x hx y hy => ?_) ?_
  · have a := mem_dropR hx
    have b := mem_takeR hy
    exact less x y a.2 (by omega)
  · refine List.Pairwise.imp_of_mem ?_ (pair_dropR n (max 1 rd))
    intro y x hy hx h
    exact less x y (mem_dropR hx).2 h
theorem cnt_hard (n rd : Nat) : (placedN (intsN (hardN (min n (max 1 rd)) (n - max 1 rd))) rd).2.length = sumFrom top (max 1 rd) (n - max 1 rd) := by
  unfold placedN
  generalize er : min n (max 1 rd) = r0
  have en : r0 + (n - max 1 rd) = n := by omega
  have el : (intsN (hardN r0 (n - max 1 rd))).length = n := by simp [intsN, hardN, en]
  rw [el, ← sum_fit]
  have get : ∀ x, x < n → (intsN (hardN r0 (n - max 1 rd))).getD x 0 = (posN r0 (n - max 1 rd) x : Nat) := by
    intro x h
    rw [intsN_get (by simp [hardN, en]; omega)]
    simp [hardN]
  have less : ∀ x y, max 1 rd ≤ x → x < n → y < x → lsN (intsN (hardN r0 (n - max 1 rd))) x y = true := by
    intro x y h0 h1 h2
    unfold lsN
    rw [get x h1, get y (by omega)]
    unfold posN
    rw [if_neg (by omega)]
    apply decide_eq_true
    split <;> omega
  refine put_alike (b := true) (fun L i h => len_tt h) _ _ (fun x hx y hy => ?_) ?_
  · have a := mem_dropR hx
    have b := mem_takeR hy
    exact less x y a.1 a.2 (by omega)
  · refine List.Pairwise.imp_of_mem ?_ (pair_dropR n (max 1 rd))
    intro y x hy hx h
    exact less x y (mem_dropR hx).1 (mem_dropR hx).2 h
theorem cnt_any (ns : List Int) (rd : Nat) : sumFrom few (max 1 rd) (ns.length - max 1 rd) ≤ (placedN ns rd).2.length ∧ (placedN ns rd).2.length ≤ sumFrom top (max 1 rd) (ns.length - max 1 rd) := by
  rw [← sum_fit, ← sum_fit]
  exact put_bounds _ _ _
theorem pl_k {p rd : Nat} {ns : List Int} (hp : H p = some (.lst (ns.map .int))) (h64 : ns.length ≤ 64) (hrd : rd ≤ ns.length)
    (q : ∀ H' t r ql ts, Fr [] H H' → H' t = some (.tup [.ref r, .ref ql]) → H' r = some (.lst (nats (placedN ns rd).1)) → H' ql = some (.lst (ts.map V.ref)) → PairE H' ts (placedN ns rd).2 → H t = none → H r = none → H ql = none → Q (.ref t) H') : callK T (k + 4) "" "placed" [.ref p, .int rd] H Q E :=
  placed_k (cs := ["Honest"]) (by simp) rfl rfl rfl rfl rfl rfl rfl rfl rfl (.inl hp) h64 hrd q
theorem turn_k {C : Cx} {rt : VK} {bk ct : St → Heap → Prop} {L : St → Heap → Prop} {size first w F P e h p d : Nat} {xs : List Nat} {H6 : Heap} (hC : C.call = callK T (k + 7)) (h1 : size ≤ 64) (h2 : first ≤ size) (hp : H6 p = some (.lst (nats xs))) (lx : xs.length = size) (hr : ∀ j, j + 1 < first → (intsN xs).getD j 0 < (intsN xs).getD (j + 1) 0) (hd : (placedN (intsN xs) first).2.length = d)
    (hL : ∀ H7, Fr [] H6 H7 → L [some (.int size), some (.int first), some (.ref w), some (.int F), some (.int P), some (.ref e), some (.ref h), some (.ref p), some (.int d), none] H7) :
        (Z.ifs (Z.tor (Z.tt (Z.cmp .ne (Z.blt Z.bLen (Z.acons (Z.var 7) Z.anil)) (Z.var 0))) (Z.tor (Z.tnot (Z.tt (Z.callf "_law_is_rising" 2 [.inl 0, .inl 1] (Z.acons (Z.var 7) (Z.acons (Z.var 1) Z.anil))))) (Z.tt (Z.cmp .ne (Z.blt Z.bLen (Z.acons (Z.ix (Z.callf "placed" 2 [.inl 0, .inl 1] (Z.acons (Z.var 7) (Z.acons (Z.var 1) Z.anil))) (Z.cst (.int 1))) Z.anil)) (Z.var 8))))) (Z.ret (Z.cst (.bl false)))
  Z.skip) C ⟨L, rt, bk, ct⟩ [some (.int size), some (.int first), some (.ref w), some (.int F), some (.int P), some (.ref e), some (.ref h), some (.ref p), some (.int d), none] H6 := by
  have hp2 : H6 p = some (.lst ((intsN xs).map V.int)) := by rw [intsN_v]; exact hp
  have lx2 : (intsN xs).length = size := by rw [List.length_map]; exact lx
  simp only [ifs, tor, tnot, tt, cmp, blt, bLen, callf, acons, anil, ix, var, cst, Z.get, perm, cmpr_ne]
  refine ⟨_, _, rfl, items_l hp, ?_⟩
  rw [eqD_int, List.length_map, lx]
  refine ⟨false, by simp [truth_b], ?_⟩
  simp only [Bool.false_eq_true, if_false]
  rw [hC]
  refine ⟨rfl, ir_k hp2 (by omega) (by omega) hr fun H7 f7 => ⟨true, rfl, ?_⟩⟩
  simp only [Bool.not_true, Bool.false_eq_true, if_false]
  refine ⟨rfl, pl_k (f7 p _ hp2 (by simp)) (by omega) (by omega) fun H8 t r ql ts f8 ht _ hql hpe _ _ _ => ?_⟩
  refine ⟨_, 1, .ref ql, items_t ht, rfl, rfl, _, _, rfl, items_l hql, ?_⟩
  rw [eqD_int, List.length_map, hpe.len, hd]
  refine ⟨false, by simp [truth_b], ?_⟩
  simp only [Bool.false_eq_true, if_false]
  exact hL _ (f7.trans f8)
theorem lr_k {w size first : Nat} (hw : WaysAt H w) (h1 : size ≤ 64) (h2 : first ≤ size) (q : ∀ H', Fr [] H H' → Q (.bl true) H') : callK T (k + 8) "" "_law_right" [.int size, .int first, .ref w] H Q E := by
  refine call_k (np := 3) (n := 10) rfl rfl ?_
  unfold z__law_right
  have sums : ∀ (C : Cx) (σ : St) (c : Int) (g : Nat → Nat) (H1 : Heap) (R : VK), WaysAt H1 w → Z.get σ 0 = some (.int size) → Z.get σ 1 = some (.int first) → Z.get σ 2 = some (.ref w) → 9 < σ.length →
      (∀ i, ([V.int (few i : Nat), V.int (top i : Nat)] : List V)[c.toNat]? = some (.int (g i : Nat))) → 0 ≤ c → c < 2 → (∀ H2, Fr [] H1 H2 → R (.int (sumFrom g (max 1 first) (size - max 1 first) : Nat)) H2) →
      blt bSum (acons (lcomp (irng2 (acons (blt bMax2 (acons (cst (.int 1)) (acons (var 1) anil))) (acons (var 0) anil))) [9] (gname 9) tyes (ix (ix (var 2) (var 9)) (cst (.int c)))) anil) C σ H1 R := by
    intro C σ c g H1 R hw1 g0 g1 g2 l9 hc c0 c1 r
    simp only [blt, acons, anil, lcomp, irng2, bMax2, cst, var, g0, g1]
    refine ⟨1, first, rfl, _, _, rfl, by unfold big; omega, by unfold big; omega, ?_⟩
    have e1 : ((size : Int) - max (1 : Int) first).toNat = size - max 1 first := by omega
    have e2 : max (1 : Int) first = ((max 1 first : Nat) : Int) := by omega
    rw [e1, e2]
    refine lci_rng (fun i => (g (max 1 first + i) : Nat)) trivial (by unfold line; omega) (fun i hi K hK => ?_) fun p np => ?_
    · have gp : ∀ (σ : St) (i j : Nat) (v : V), i ≠ j → Z.get (put σ i v) j = Z.get σ j := by
        intro σ
        induction σ with
        | nil => intros; rfl
        | cons o r ih =>
          intro i j v ne
          cases i with
          | zero =>
            cases j with
            | zero => exact absurd rfl ne
            | succ j => rfl
          | succ i =>
            cases j with
            | zero => rfl
            | succ j => exact ih i j v (by omega)
      have gs : ∀ (σ : St) (i : Nat) (v : V), i < σ.length → Z.get (put σ i v) i = some v := by
        intro σ
        induction σ with
        | nil => intro i v h; simp at h
        | cons o r ih =>
          intro i v h
          cases i with
          | zero => rfl
          | succ i => exact ih i v (by simpa using h)
      have gw : ∀ (σ : St) (i j : Nat), i ≠ j → Z.get (σ.set i none) j = Z.get σ j := by
        intro σ
        induction σ with
        | nil => intros; rfl
        | cons o r ih =>
          intro i j ne
          cases i with
          | zero =>
            cases j with
            | zero => exact absurd rfl ne
            | succ j => rfl
          | succ i =>
            cases j with
            | zero => rfl
            | succ j => exact ih i j (by omega)
      have h9 : Z.get (put (wipe σ [9]) 9 (V.int (((max 1 first : Nat) : Int) + (i : Int)))) 9 = some (V.int (((max 1 first : Nat) : Int) + (i : Int))) := gs _ _ _ (by simpa [wipe] using l9)
      have h2' : Z.get (put (wipe σ [9]) 9 (V.int (((max 1 first : Nat) : Int) + (i : Int)))) 2 = some (V.ref w) := by
        rw [gp _ _ _ _ (by decide)]
        show Z.get (σ.set 9 none) 2 = _
        rw [gw _ _ _ (by decide)]
        exact g2
      simp only [gname, ix, var, cst, h9, h2']
      have e3 : (((max 1 first : Nat) : Int) + (i : Int)) = ((max 1 first + i : Nat) : Int) := by omega
      rw [e3]
      obtain ⟨xs, t, w1, w2, w3⟩ := hw1.get (i := max 1 first + i) (by omega) (by omega)
      refine ⟨xs, _, .ref t, w1, rfl, w2, _, c, _, items_t w3, rfl, ?_, hK⟩
      rw [atI_lt c0 (by show c < (2 : Nat); omega)]
      exact hc _
    · refine ⟨_, (List.range (size - max 1 first)).map fun i => ((g (max 1 first + i) : Nat) : Int), rfl, litems_l (by rw [upd_same, List.map_map]; rfl), ?_⟩
      rw [sumFrom_eq]
      exact r _ (Fr.new np)
  refine asg_k (fun v H1 => v = .int (sumFrom few (max 1 first) (size - max 1 first) : Nat) ∧ Fr [] H H1) (fun K hK => ?_) ?_
  · exact sums _ _ 0 few H _ hw rfl rfl rfl (by simp [start]) (fun i => rfl) (by decide) (by decide) fun H2 f => hK _ _ ⟨rfl, f⟩
  rintro _ H1 ⟨rfl, f1⟩
  refine asg_k (fun v H2 => v = .int (sumFrom top (max 1 first) (size - max 1 first) : Nat) ∧ Fr [] H H2) (fun K hK => ?_) ?_
  · exact sums _ _ 1 top H1 _ (hw.fr f1) rfl rfl rfl (by simp [start, put]) (fun i => rfl) (by decide) (by decide) fun H2 f => hK _ _ ⟨rfl, f1.trans f⟩
  rintro _ H2 ⟨rfl, f2⟩
  clear sums
  generalize eF : sumFrom few (max 1 first) (size - max 1 first) = F at *
  generalize eT : sumFrom top (max 1 first) (size - max 1 first) = P at *
  have es : put (put (start 10 [V.int size, V.int first, V.ref w]) 3 (.int F)) 4 (.int P) = [some (.int size), some (.int first), some (.ref w), some (.int F), some (.int P), none, none, none, none, none] := rfl
  rw [es]
  refine seq_k (fun σ3 H3 => σ3 = [some (.int size), some (.int first), some (.ref w), some (.int F), some (.int P), none, none, none, none, none] ∧ Fr [] H H3) (fun K hK => ?_) ?_
  · simp only [ifs, tor, tt, cmp, callf, acons, anil, var, start, put, Z.get, perm, cmpr_ne]
    refine ⟨rfl, fp_k h1 h2 fun H3 f3 => ?_⟩
    rw [eF, eqD_int]
    refine ⟨false, by simp [truth_b], ?_⟩
    simp only [Bool.false_eq_true, if_false]
    refine ⟨rfl, mp_k h1 h2 fun H4 f4 => ?_⟩
    rw [eT, eqD_int]
    refine ⟨false, by simp [truth_b], ?_⟩
    simp only [Bool.false_eq_true, if_false]
    exact hK _ _ ⟨rfl, (f2.trans f3).trans f4⟩
  rintro _ H3 ⟨rfl, f3⟩
  refine seq_k (fun σ3 H3 => σ3 = [some (.int size), some (.int first), some (.ref w), some (.int F), some (.int P), none, none, none, none, none] ∧ Fr [] H H3) (fun K hK => ?_) ?_
  · simp only [ifs, tor, tt, cmp, callf, acons, anil, var, Z.get, perm, cmpr_ne]
    refine ⟨rfl, fp_k h1 h2 fun H4 f4 => ?_⟩
    rw [eF, eqD_int]
    refine ⟨false, by simp [truth_b], ?_⟩
    simp only [Bool.false_eq_true, if_false]
    refine ⟨rfl, mp_k h1 h2 fun H5 f5 => ?_⟩
    rw [eT, eqD_int]
    refine ⟨false, by simp [truth_b], ?_⟩
    simp only [Bool.false_eq_true, if_false]
    exact hK _ _ ⟨rfl, (f3.trans f4).trans f5⟩
  rintro _ H4 ⟨rfl, f4⟩
  generalize eh : hardN (min size (max 1 first)) (size - max 1 first) = hard at *
  have lh : hard.length = size := by
    rw [← eh]
    simp [hardN]
    omega
  refine seq_k (fun σ5 H5 => ∃ e h, σ5 = [some (.int size), some (.int first), some (.ref w), some (.int F), some (.int P), some (.ref e), some (.ref h), none, none, none] ∧ H5 e = some (.lst (nats (List.range size))) ∧ H5 h = some (.lst (nats hard)) ∧ H e = none ∧ e ≠ h ∧ Fr [] H H5) (fun K hK => ?_) ?_
  · simp only [par, callf, acons, anil, var, Z.get, perm]
    refine ⟨rfl, ek_k h1 h2 fun e ne => ⟨rfl, hk_k h1 h2 fun H5 h f5 nh hh => ⟨rfl, ?_⟩⟩⟩
    rw [eh] at hh
    simp only [gcons, gnil, gname]
    have he := f5 e _ upd_same (by simp)
    refine ⟨_, _, rfl, _, _, rfl, rfl, hK _ _ ⟨e, h, rfl, he, hh, f4.fresh (by simp) ne, fun z => ?_, (f4.trans (Fr.new ne)).trans f5⟩⟩
    rw [← z, upd_same] at nh
    cases nh
  rintro _ H5 ⟨e, h, rfl, he, hh, ne, eh', f5⟩
  refine seq_k (fun σ6 H6 => ∃ x7 x8, σ6 = [some (.int size), some (.int first), some (.ref w), some (.int F), some (.int P), some (.ref e), some (.ref h), x7, x8, none] ∧ Fr [] H5 H6) (fun K hK => ?_) ?_
  · simp only [fore, iseq, lstl, tupl, acons, anil, var, Z.get]
    refine ⟨(by show 2 ≤ line; decide), fun t1 nt1 => ⟨(by show 2 ≤ line; decide), fun t2 nt2 => ⟨(by show 2 ≤ line; decide), fun l nl => .inl ⟨_, litems_l upd_same, ?_⟩⟩⟩⟩
    have e1 := upd_old (o' := .lst [.ref t1, .ref t2]) (upd_old (o' := .tup [.ref h, .int P]) (upd_same (H := H5) (a := t1) (o := .tup [.ref e, .int F])) nt2) nl
    have e2 := upd_old (o' := .lst [.ref t1, .ref t2]) (upd_same (H := upd H5 t1 (.tup [.ref e, .int F])) (a := t2) (o := .tup [.ref h, .int P])) nl
    have e3 : upd (upd (upd H5 t1 (.tup [.ref e, .int F])) t2 (.tup [.ref h, .int P])) l (.lst [.ref t1, .ref t2]) l = some (.lst [.ref t1, .ref t2]) := upd_same
    have f6 : Fr [] H5 (upd (upd (upd H5 t1 (.tup [.ref e, .int F])) t2 (.tup [.ref h, .int P])) l (.lst [.ref t1, .ref t2])) := ((Fr.new nt1).trans (Fr.new nt2)).trans (Fr.new nl)
    generalize upd (upd (upd H5 t1 (.tup [.ref e, .int F])) t2 (.tup [.ref h, .int P])) l (.lst [.ref t1, .ref t2]) = H6 at *
    simp only [fori, gtup, gcons, gnil, gname, put]
    refine ⟨litems_l e3, _, titems_t e1, rfl, _, _, rfl, _, _, rfl, rfl, ?_⟩
    refine turn_k (k := k) (xs := List.range size) rfl h1 h2 (f6 e _ he (by simp)) (by simp) ?_ (by rw [cnt_easy, eF]) fun H7 f7 => ?_
    · intro j hj
      rw [intsN_get (by simp; omega), intsN_get (by simp; omega)]
      simp
      omega
    refine ⟨litems_l (f7 l _ e3 (by simp)), _, titems_t (f7 t2 _ e2 (by simp)), rfl, _, _, rfl, _, _, rfl, rfl, ?_⟩
    refine turn_k (k := k) (xs := hard) rfl h1 h2 ((f6.trans f7) h _ hh (by simp)) lh ?_ (by rw [← eh, cnt_hard, eT]) fun H8 f8 => ?_
    · intro j hj
      rw [intsN_get (by omega), intsN_get (by omega)]
      simp only [← eh, hardN, List.getElem_map, List.getElem_range]
      unfold posN
      rw [if_pos (by omega), if_pos (by omega)]
      omega
    exact ⟨litems_l ((f7.trans f8) l _ e3 (by simp)), hK _ _ ⟨_, _, rfl, (f6.trans f7).trans f8⟩⟩
  rintro _ H6 ⟨x7, x8, rfl, f6⟩
  have he6 := f6 e _ he (by simp)
  have hh6 := f6 h _ hh (by simp)
  refine seq_k (fun σ7 H7 => σ7 = [some (.int size), some (.int first), some (.ref w), some (.int F), some (.int P), some (.ref e), some (.ref h), x7, x8, none] ∧ H7 h = some (.lst (nats hard)) ∧ Fr [] H H7) (fun K hK => ?_) ?_
  · simp only [drop, bmt, acons, anil, cst, var, Z.get]
    refine ⟨⟨_, litems_l he6⟩, e, _, _, rfl, rfl, he6, ?_, hK _ _ ⟨rfl, ?_, Fr.shut (S := [e]) (f5.trans f6) (Fr.chg (by simp)) (by simpa using ne)⟩⟩
    · rw [List.length_map, List.length_range]
      unfold line
      omega
    · rw [upd_ne (Ne.symm eh')]
      exact hh6
  rintro _ H7 ⟨rfl, hh7, f7⟩
  simp only [ret, andv, cmp, callf, blt, bLen, acons, anil, var, Z.get, perm, cmpr_eq]
  refine ⟨rfl, ek_k h1 h2 fun e2 ne2 => ⟨_, _, rfl, items_l upd_same, ?_⟩⟩
  rw [eqD_int, List.length_map, List.length_range]
  refine ⟨true, by simp [truth_b], ?_⟩
  simp only [if_true]
  refine ⟨rfl, hk_k h1 h2 fun H8 h8 f8 nh8 hh8 => ?_⟩
  rw [eh] at hh8
  refine eqD_ints (ns := intsN hard) (ms := intsN hard) (by rw [intsN_v]; exact litems_l hh8) (by rw [intsN_v]; exact litems_l (f8 h _ (upd_old hh7 ne2) (by simp))) ?_
  rw [beq_self_eq_true]
  exact q _ ((f7.trans (Fr.new ne2)).trans f8)
theorem dep_tups (xs : List (Nat × Nat)) : D.depthL (xs.map fun x => D.tup [.int x.1, .int x.2]) ≤ 1 := by
  induction xs with
  | nil => exact Nat.zero_le _
  | cons x r ih =>
    show max (max 0 (max 0 0) + 1) (D.depthL (r.map _)) ≤ 1
    omega
theorem no_none (xs : List (Nat × Nat)) : ((xs.map fun x => D.tup [.int x.1, .int x.2]).any fun z => D.eqv z .non) = false := by
  induction xs with
  | nil => rfl
  | cons x r ih =>
    show (false || _) = false
    rw [Bool.false_or]
    exact ih
theorem rep_tups {H : Heap} : ∀ (ts : List Nat) (xs : List (Nat × Nat)), ts.length = xs.length → (∀ (i t : Nat) (x : Nat × Nat), ts[i]? = some t → xs[i]? = some x → H t = some (.tup [.int x.1, .int x.2])) → RepL H (ts.map V.ref) (xs.map fun x => D.tup [.int x.1, .int x.2])
  | [], [], _, _ => .nil
  | t :: ts, x :: xs, hl, h => .cons (.tup (titems_t (h 0 t x rfl rfl)) (.cons (.int _) (.cons (.int _) .nil))) (rep_tups ts xs (Nat.succ.inj hl) fun i t x a b => h (i + 1) t x a b)
  | [], _ :: _, hl, _ => by simp at hl
  | _ :: _, [], hl, _ => by simp at hl
end
theorem law_ok : LawOk ztab depth := by
  intro a ns hl hbits
  refine call_k (k := 11) (np := 1) (n := 9) rfl rfl ?_
  unfold z_law
  have hsc : heap0 a ns a = some (.scr (ns.map .int)) := if_pos rfl
  generalize heap0 a ns = H0 at *
  refine asg_k (fun v H1 => ∃ w, v = .ref w ∧ WaysAt H1 w ∧ Fr [] H0 H1) (fun K hK => ?_) ?_
  · simp only [bin, lstl, acons, anil, cst, lcomp, irng2]
    refine ⟨by decide, fun p np => ⟨1, 64, rfl, by unfold big; omega, by unfold big; omega, ?_⟩⟩
    rw [show ((64 : Int) - 1).toNat = 63 from rfl]
    refine lci_k (fun j acc H2 => ∃ ts : List Nat, acc = ts.map V.ref ∧ ts.length = j ∧ (∀ i t, ts[i]? = some t → H2 t = some (.tup [.int (few (i + 1) : Nat), .int (top (i + 1) : Nat)])) ∧ Fr [] (upd H0 p (.lst [.non])) H2) ⟨[], rfl, rfl, fun i t h => by simp at h, .refl _ _⟩ (fun j v acc H2 hv g => ⟨trivial, fun L hL => ?_⟩) fun acc H2 g => ⟨trivial, fun u nu => ?_⟩
    · obtain ⟨ts, rfl, lt, ht, f2⟩ := g
      obtain ⟨hj, rfl⟩ := rng_get hv
      simp only [gname, tyes, if_true, callf, acons, anil, var, wipe, perm]
      refine ⟨rfl, ?_⟩
      have e : ((1 : Int) + (j : Int)) = ((j + 1 : Nat) : Int) := by omega
      rw [e]
      refine lw_k (k := 9) (by omega) (by omega) fun H3 t f3 ht3 nt => ⟨?_, hL _ _ ⟨ts ++ [t], by simp, by simp [lt], fun i t2 e2 => ?_, f2.trans f3⟩⟩
      · rw [List.length_map, lt]
        unfold line
        omega
      · by_cases z : i < ts.length
        · rw [List.getElem?_append_left z] at e2
          exact f3 _ _ (ht i t2 e2) (by simp)
        · rw [List.getElem?_append_right (by omega)] at e2
          have : i = ts.length := by
            by_cases y : i - ts.length = 0
            · omega
            · rw [List.getElem?_singleton, if_neg y] at e2
              cases e2
          subst this
          rw [Nat.sub_self] at e2
          cases e2
          rw [lt]
          exact ht3
    · obtain ⟨ts, rfl, lt, ht, f2⟩ := g
      rw [rng_len] at lt
      rw [opr_add_rr]
      have hp2 := f2 p _ upd_same (by simp)
      have f3 : Fr [] H0 (upd H2 u (.lst (ts.map V.ref))) := ((Fr.new np).trans f2).trans (Fr.new nu)
      refine .inl ⟨_, _, litems_l (upd_old hp2 nu), litems_l upd_same, ?_, fun w nw => hK _ _ ⟨w, rfl, ⟨ts, by rw [upd_same]; rfl, lt, fun i t e => ?_⟩, f3.trans (Fr.new nw)⟩⟩
      · rw [List.length_map, lt]
        exact (by decide : 1 + 63 ≤ line)
      · exact upd_old (upd_old (ht i t e) nu) nw
  rintro _ H1 ⟨w, rfl, hw, f1⟩
  refine seq_k (fun σ2 H2 => σ2 = [some (.ref a), some (.ref w), none, none, none, none, none, none, none] ∧ Fr [] H1 H2) (fun K hK => ?_) ?_
  · obtain ⟨ts, e1, e2, e3⟩ := hw.ex
    simp only [ifs, tt, cmp, cst, slc, pso, pno, var, start, put, Z.get]
    refine ⟨1, rfl, .inl ⟨_, litems_l e1, fun u nu => ?_⟩⟩
    have ec : cutV (V.non :: ts.map V.ref) (some 1) none = ts.map V.ref := by
      unfold cutV
      have e : sIx (V.non :: ts.map V.ref).length 0 (some 1) = 1 := by
        show min 1 (V.non :: ts.map V.ref).length = 1
        rw [List.length_cons]
        omega
      rw [e]
      show (ts.map V.ref).take _ = _
      refine List.take_of_length_le ?_
      show _ ≤ (V.non :: ts.map V.ref).length - 1
      rw [List.length_cons]
      omega
    rw [ec]
    obtain ⟨xs, ex⟩ : ∃ xs : List (Nat × Nat), xs = (List.range 63).map fun i => (few (i + 1), top (i + 1)) := ⟨_, rfl⟩
    have lx : xs.length = 63 := by rw [ex]; simp
    rw [cmpr_in]
    refine .inr (.inr ⟨.non, xs.map fun x => D.tup [.int x.1, .int x.2], .non, .lst (litems_l upd_same) (rep_tups ts xs (by rw [e2, lx]) fun i t x h1 h2 => ?_), by decide, ?_, ?_⟩)
    · have hi : i < 63 := by
        have := (List.getElem?_eq_some_iff.mp h1).1
        omega
      rw [ex, List.getElem?_map, List.getElem?_range hi] at h2
      have h2 := Option.some.inj h2
      subst h2
      exact upd_old (e3 i t h1) nu
    · have := dep_tups xs
      show D.depthL (xs.map fun x => D.tup [.int x.1, .int x.2]) + 1 ≤ 64
      omega
    · rw [no_none]
      refine ⟨false, rfl, ?_⟩
      simp only [Bool.false_eq_true, if_false]
      exact hK _ _ ⟨rfl, Fr.new nu⟩
  rintro _ H2 ⟨rfl, f2⟩
  have hw2 := hw.fr f2
  have hsc2 := (f1.trans f2) a _ hsc (by simp)
  refine seq_k (fun σ3 H3 => ∃ x2, σ3 = [some (.ref a), some (.ref w), x2, none, none, none, none, none, none] ∧ Fr [] H2 H3) (fun K hK => ?_) ?_
  · simp only [fore, irng1, acons, anil, cst]
    refine ⟨65, rfl, by unfold big; omega, ?_⟩
    rw [show (65 : Int).toNat = 65 from rfl]
    refine fori_k (fun i σ H3 => ∃ x2, σ = [some (.ref a), some (.ref w), x2, none, none, none, none, none, none] ∧ Fr [] H2 H3) ⟨_, rfl, .refl _ _⟩ (fun i v σ H3 hv g => ⟨trivial, fun L hL => ?_⟩) fun σ H3 g => ⟨trivial, ?_⟩
    · obtain ⟨x2, rfl, f3⟩ := g
      obtain ⟨hi, rfl⟩ := rng_get hv
      simp only [gname, put]
      have e0 : (0 : Int) + (i : Int) = (i : Nat) := by omega
      rw [e0]
      simp only [ifs, tor, tnot, tt, callf, acons, anil, bin, var, cst, Z.get, perm]
      refine ⟨rfl, lr_k (k := 3) (hw2.fr f3) (by omega) (Nat.zero_le _) fun H4 f4 => ⟨true, rfl, ?_⟩⟩
      simp only [Bool.not_true, Bool.false_eq_true, if_false]
      refine ⟨rfl, lr_k (k := 3) ((hw2.fr f3).fr f4) (by omega) (Nat.le_refl _) fun H5 f5 => ⟨true, rfl, ?_⟩⟩
      simp only [Bool.not_true, Bool.false_eq_true, if_false]
      rw [opr_fdiv]
      refine ⟨by decide, small_b (by decide) (by decide) (by decide), rfl, ?_⟩
      have e2 : ((i : Nat) : Int) / 2 = ((i / 2 : Nat) : Int) := by omega
      show callK T 11 "" "_law_right" [.int (i : Nat), .int (((i : Nat) : Int) / 2), .ref w] H5 _ _
      rw [e2]
      refine lr_k (k := 3) (((hw2.fr f3).fr f4).fr f5) (by omega) (by omega) fun H6 f6 => ⟨true, rfl, ?_⟩
      simp only [Bool.not_true, Bool.false_eq_true, if_false]
      exact hL _ _ ⟨_, rfl, ((f3.trans f4).trans f5).trans f6⟩
    · obtain ⟨x2, rfl, f3⟩ := g
      exact hK _ _ ⟨_, rfl, f3⟩
  rintro _ H3 ⟨x2, rfl, f3⟩
  have hw3 := hw2.fr f3
  have hsc3 := f3 a _ hsc2 (by simp)
  refine seq_k (fun σ4 H4 => True) (fun K hK => ?_) ?_
  · simp only [fore]
    refine cells_k (m := 4) hsc3 hl hbits rfl fun H4 p3 zs f4 hp3 hz _ => ?_
    refine fori_k (fun i σ H5 => (∃ x2 x3 x4 x5 x6 x7, σ = [some (.ref a), some (.ref w), x2, x3, x4, x5, x6, x7, none]) ∧ Fr [] H4 H5) ⟨⟨_, _, _, _, _, _, rfl⟩, .refl _ _⟩ (fun i v σ H5 hv g => ?_) fun σ H5 g => ⟨litems_l (g.2 p3 _ hp3 (by simp)), hK _ _ trivial⟩
    obtain ⟨⟨x2, x3, x4, x5, x6, x7, rfl⟩, f5⟩ := g
    refine ⟨litems_l (f5 p3 _ hp3 (by simp)), fun L hL => ?_⟩
    rw [List.getElem?_map] at hv
    obtain ⟨z, mz, rfl⟩ := Option.map_eq_some_iff.mp hv
    have sz := hz z (List.mem_of_getElem? mz)
    show seq _ _ _ _ _ _
    refine asg_k (fun v H6 => ∃ s, v = .ref s ∧ Srd H6 s 0 ∧ H5 s = none ∧ Fr [] H5 H6) (fun K hK => ?_) ?_
    · simp only [gname, callf, acons, anil, var, put, Z.get, perm]
      refine ⟨rfl, source3_k rfl sz fun s ns o hs => hK _ _ ⟨s, rfl, hs, ns, Fr.new ns⟩⟩
    rintro _ H6 ⟨s, rfl, hs, nS, f6⟩
    have f06 : Fr [] H3 H5 := f4.trans f5
    simp only [fore, irng1, acons, anil, cst, put, gname]
    refine ⟨4, rfl, by unfold big; omega, ?_⟩
    rw [show (4 : Int).toNat = 4 from rfl]
    refine fori_k (fun j σ H7 => (∃ x2 x5 x6 x7, σ = [some (.ref a), some (.ref w), x2, some (.int z), some (.ref s), x5, x6, x7, none]) ∧ Srd H7 s (200 * j) ∧ Fr [] H5 H7) ⟨⟨_, _, _, _, rfl⟩, hs, f6⟩ (fun j v σ H7 hv g => ⟨trivial, fun M hM => ?_⟩) fun σ H7 g => ⟨trivial, ?_⟩
    · obtain ⟨⟨x2, x5, x6, x7, rfl⟩, hs7, f7⟩ := g
      obtain ⟨hj, rfl⟩ := rng_get hv
      have shut : ∀ {H8 H9 : Heap}, Fr [] H5 H8 → Fr [s] H8 H9 → Fr [] H5 H9 := fun f g => Fr.shut f g (by simpa using nS)
      show seq _ _ _ _ _ _
      refine asg_k (fun v H8 => ∃ size : Nat, v = .int size ∧ 0 < size ∧ size ≤ 64 ∧ Srd H8 s (200 * j + 1) ∧ Fr [] H5 H8) (fun K hK => ?_) ?_
      · simp only [bin, callf, acons, anil, var, cst, put, Z.get, perm]
        refine ⟨rfl, draw3_k (k := 10) rfl hs7 (by omega) (by decide) (by decide) fun d o d0 d1 h8 => ?_⟩
        rw [opr_add_ii]
        exact hK _ _ ⟨(1 + d).toNat, by rw [Int.toNat_of_nonneg (by omega)], by omega, by omega, h8, shut f7 (Fr.chg (by simp))⟩
      rintro _ H8 ⟨size, rfl, z0, z1, hs8, f8⟩
      refine asg_k (fun v H9 => ∃ first : Nat, v = .int first ∧ first ≤ size ∧ Srd H9 s (200 * j + 2) ∧ Fr [] H5 H9) (fun K hK => ?_) ?_
      · simp only [bin, callf, acons, anil, var, cst, put, Z.get, perm, opr_add_ii]
        refine ⟨rfl, draw3_k (k := 10) rfl hs8 (by omega) (by omega) (by omega) fun d o d0 d1 h9 => ?_⟩
        exact hK _ _ ⟨d.toNat, by rw [Int.toNat_of_nonneg d0], by omega, h9, shut f8 (Fr.chg (by simp))⟩
      rintro _ H9 ⟨first, rfl, le, hs9, f9⟩
      refine seq_k (fun σ1 H10 => σ1 = [some (.ref a), some (.ref w), some (.int size), some (.int z), some (.ref s), some (.int (0 + (j : Int))), some (.int first), x7, none] ∧ Srd H10 s (200 * j + 2) ∧ Fr [] H5 H10) (fun K hK => ?_) ?_
      · simp only [put]
        simp only [ifs, tnot, tt, callf, acons, anil, var, Z.get, perm]
        refine ⟨rfl, lr_k (k := 3) (hw3.fr (f06.trans f9)) z1 le fun H10 f10 => ⟨true, rfl, ?_⟩⟩
        simp only [Bool.not_true, Bool.false_eq_true, if_false]
        exact hK _ _ ⟨rfl, hs9.fr f10 (by simp), f9.trans f10⟩
      rintro _ H10 ⟨rfl, hs10, f10⟩
      refine asg_k (fun v H11 => ∃ (g : Nat) (xs : List Int), v = .ref g ∧ H11 g = some (.lst (xs.map V.int)) ∧ xs.length = size ∧ Srd H11 s (200 * j + 200) ∧ Fr [] H5 H11) (fun K hK => ?_) ?_
      · simp only [callf, acons, anil, var, put, Z.get, perm]
        refine ⟨rfl, lk_k (k := 8) hs10 (by omega) (by omega) fun H11 g xs f11 h11 ng hg lx => hK _ _ ⟨g, xs, rfl, hg, lx, h11.mono (by omega), shut f10 f11⟩⟩
      rintro _ H11 ⟨g, xs, rfl, hg, lx, hs11, f11⟩
      refine asg_k (fun v H12 => ∃ (g : Nat) (xs : List Int), v = .ref g ∧ H12 g = some (.lst (xs.map V.int)) ∧ xs.length = size ∧ Srd H12 s (200 * j + 200) ∧ Fr [] H5 H12) (fun K hK => ?_) ?_
      · simp only [put]
        simp only [bin, blt, slc, acons, anil, pno, pso, var, Z.get]
        have c1 : cutV (xs.map V.int) none (some (first : Int)) = (xs.take first).map V.int := by
          unfold cutV
          rw [sIx_in (by rw [List.length_map]; omega)]
          show ((xs.map V.int).drop 0).take (first - 0) = _
          rw [List.drop_zero, Nat.sub_zero, List.map_take]
        have c2 : cutV (xs.map V.int) (some (first : Int)) none = (xs.drop first).map V.int := by
          unfold cutV
          rw [sIx_in (by rw [List.length_map]; omega)]
          show ((xs.map V.int).drop first).take ((xs.map V.int).length - first) = _
          rw [List.take_of_length_le (by rw [List.length_drop]; omega), List.map_drop]
        refine ⟨_, rfl, .inl ⟨_, litems_l hg, fun u nu => ?_⟩⟩
        rw [c1]
        refine ⟨_, xs.take first, rfl, litems_l upd_same, fun ys v pm _ nv => ⟨_, rfl, .inl ⟨_, litems_l (upd_old (upd_old hg nu) nv), fun t nt => ?_⟩⟩⟩
        rw [c2, opr_add_rr]
        have lp := pm.length_eq
        rw [List.length_take] at lp
        refine .inl ⟨_, _, litems_l (upd_old upd_same nt), litems_l upd_same, ?_, fun r nr => hK _ _ ⟨r, ys ++ xs.drop first, rfl, ?_, ?_, ((hs11.new nu).new nv).new nt |>.new nr, ((f11.trans (Fr.new nu)).trans (Fr.new nv)).trans ((Fr.new nt).trans (Fr.new nr))⟩⟩
        · rw [List.length_map, List.length_map, List.length_drop]
          unfold line
          omega
        · rw [upd_same, List.map_append]
        · rw [List.length_append, List.length_drop]
          omega
      rintro _ H12 ⟨g2, ys, rfl, hg2, ly, hs12, f12⟩
      simp only [put]
      simp only [ifs, tnot, tt, chain, callf, blt, bLen, ix, acons, anil, var, cst, Z.get, perm]
      refine ⟨rfl, fp_k (k := 6) z1 le fun H13 f13 => ⟨rfl, pl_k (k := 7) (f13 g2 _ hg2 (by simp)) (by omega) (by omega) fun H14 t r ql ts f14 ht _ hql hpe _ _ _ => ⟨_, 1, .ref ql, items_t ht, rfl, rfl, _, _, rfl, items_l hql, ?_⟩⟩⟩
      have cb := cnt_any ys first
      rw [ly] at cb
      rw [List.length_map, hpe.len, cmpr_le, if_pos (by simpa using cb.1)]
      refine ⟨rfl, mp_k (k := 6) z1 le fun H15 f15 => ?_⟩
      rw [cmpr_le]
      refine ⟨_, rfl, ?_⟩
      rw [decide_eq_true (by omega)]
      simp only [Bool.not_true, Bool.false_eq_true, if_false]
      exact hM _ _ ⟨⟨_, _, _, _, rfl⟩, ((hs12.fr f13 (by simp)).fr f14 (by simp)).fr f15 (by simp) |>.mono (by omega), ((f12.trans f13).trans f14).trans f15⟩
    · obtain ⟨⟨x2, x5, x6, x7, rfl⟩, hs7, f7⟩ := g
      exact hL _ _ ⟨⟨_, _, _, _, _, _, rfl⟩, f5.trans f7⟩
  rintro σ4 H4 _
  simp only [ret, cst]
end Q_k16
namespace Q_k16
open PySem L2 ZS PyProof.Rows
def top (i : Nat) : Stmt := PySem.Challenge.pw_askedorder_k16_fewest_and_most_placed.main.body.getD i (.Pass ⟨0, 0, 0, 0⟩)
abbrev st_Honest_init : Stmt := (inClass (top 6) 0)
def N_Honest_init : List Str := ["self", "keys"]
theorem nd_Honest_init : N_Honest_init.Nodup := by decide +kernel
theorem sc_Honest_init : FnScope N_Honest_init ["self", "keys"] (defScope st_Honest_init) := ⟨rfl, rfl, rfl, nd_Honest_init, rfl, by decide +kernel, by decide +kernel⟩
abbrev st_Honest_less : Stmt := (inClass (top 6) 1)
def N_Honest_less : List Str := ["self", "one", "other", "is_less"]
theorem nd_Honest_less : N_Honest_less.Nodup := by decide +kernel
theorem sc_Honest_less : FnScope N_Honest_less ["self", "one", "other"] (defScope st_Honest_less) := ⟨rfl, rfl, rfl, nd_Honest_less, rfl, by decide +kernel, by decide +kernel⟩
abbrev st_is_integer : Stmt := (top 7)
def N_is_integer : List Str := ["value"]
theorem nd_is_integer : N_is_integer.Nodup := by decide +kernel
theorem sc_is_integer : FnScope N_is_integer ["value"] (defScope st_is_integer) := ⟨rfl, rfl, rfl, nd_is_integer, rfl, by decide +kernel, by decide +kernel⟩
abbrev st_is_between : Stmt := (top 8)
def N_is_between : List Str := ["value", "low", "high"]
theorem nd_is_between : N_is_between.Nodup := by decide +kernel
theorem sc_is_between : FnScope N_is_between ["value", "low", "high"] (defScope st_is_between) := ⟨rfl, rfl, rfl, nd_is_between, rfl, by decide +kernel, by decide +kernel⟩
abbrev st_require_keys : Stmt := (top 9)
def N_require_keys : List Str := ["keys", "most", "index", "key"]
theorem nd_require_keys : N_require_keys.Nodup := by decide +kernel
theorem sc_require_keys : FnScope N_require_keys ["keys", "most"] (defScope st_require_keys) := ⟨rfl, rfl, rfl, nd_require_keys, rfl, by decide +kernel, by decide +kernel⟩
abbrev st_require_number : Stmt := (top 10)
def N_require_number : List Str := ["name", "value", "low", "high"]
theorem nd_require_number : N_require_number.Nodup := by decide +kernel
theorem sc_require_number : FnScope N_require_number ["name", "value", "low", "high"] (defScope st_require_number) := ⟨rfl, rfl, rfl, nd_require_number, rfl, by decide +kernel, by decide +kernel⟩
abbrev st_place_one : Stmt := (top 13)
def N_place_one : List Str := ["row", "start", "index", "asker", "item", "low", "high", "middle"]
theorem nd_place_one : N_place_one.Nodup := by decide +kernel
theorem sc_place_one : FnScope N_place_one ["row", "start", "index", "asker"] (defScope st_place_one) := ⟨rfl, rfl, rfl, nd_place_one, rfl, by decide +kernel, by decide +kernel⟩
abbrev st_place_all : Stmt := (top 14)
def N_place_all : List Str := ["row", "start", "end", "ready", "asker", "index"]
theorem nd_place_all : N_place_all.Nodup := by decide +kernel
theorem sc_place_all : FnScope N_place_all ["row", "start", "end", "ready", "asker"] (defScope st_place_all) := ⟨rfl, rfl, rfl, nd_place_all, rfl, by decide +kernel, by decide +kernel⟩
abbrev st_placed : Stmt := (top 15)
def N_placed : List Str := ["keys", "ready", "row", "asker", "question", "answer"]
theorem nd_placed : N_placed.Nodup := by decide +kernel
theorem sc_placed : FnScope N_placed ["keys", "ready"] (defScope st_placed) := ⟨rfl, rfl, rfl, nd_placed, rfl, by decide +kernel, by decide +kernel⟩
abbrev st_require_counts : Stmt := (top 16)
def N_require_counts : List Str := ["many", "ready"]
theorem nd_require_counts : N_require_counts.Nodup := by decide +kernel
theorem sc_require_counts : FnScope N_require_counts ["many", "ready"] (defScope st_require_counts) := ⟨rfl, rfl, rfl, nd_require_counts, rfl, by decide +kernel, by decide +kernel⟩
abbrev st_fewest_of : Stmt := (top 17)
def N_fewest_of : List Str := ["index"]
theorem nd_fewest_of : N_fewest_of.Nodup := by decide +kernel
theorem sc_fewest_of : FnScope N_fewest_of ["index"] (defScope st_fewest_of) := ⟨rfl, rfl, rfl, nd_fewest_of, rfl, by decide +kernel, by decide +kernel⟩
abbrev st_most_of : Stmt := (top 18)
def N_most_of : List Str := ["index"]
theorem nd_most_of : N_most_of.Nodup := by decide +kernel
theorem sc_most_of : FnScope N_most_of ["index"] (defScope st_most_of) := ⟨rfl, rfl, rfl, nd_most_of, rfl, by decide +kernel, by decide +kernel⟩
abbrev st_fewest_placing : Stmt := (top 19)
def N_fewest_placing : List Str := ["many", "ready", "index"]
theorem nd_fewest_placing : N_fewest_placing.Nodup := by decide +kernel
theorem sc_fewest_placing : FnScope N_fewest_placing ["many", "ready"] (defScope st_fewest_placing) := ⟨rfl, rfl, rfl, nd_fewest_placing, rfl, by decide +kernel, by decide +kernel⟩
abbrev st_most_placing : Stmt := (top 20)
def N_most_placing : List Str := ["many", "ready", "index"]
theorem nd_most_placing : N_most_placing.Nodup := by decide +kernel
theorem sc_most_placing : FnScope N_most_placing ["many", "ready"] (defScope st_most_placing) := ⟨rfl, rfl, rfl, nd_most_placing, rfl, by decide +kernel, by decide +kernel⟩
abbrev st_keys_of : Stmt := (top 21)
def N_keys_of : List Str := ["row", "found", "key", "item"]
theorem nd_keys_of : N_keys_of.Nodup := by decide +kernel
theorem sc_keys_of : FnScope N_keys_of ["row"] (defScope st_keys_of) := ⟨rfl, rfl, rfl, nd_keys_of, rfl, by decide +kernel, by decide +kernel⟩
abbrev st_easy_keys : Stmt := (top 22)
def N_easy_keys : List Str := ["many", "ready"]
theorem nd_easy_keys : N_easy_keys.Nodup := by decide +kernel
theorem sc_easy_keys : FnScope N_easy_keys ["many", "ready"] (defScope st_easy_keys) := ⟨rfl, rfl, rfl, nd_easy_keys, rfl, by decide +kernel, by decide +kernel⟩
abbrev st_hard_keys : Stmt := (top 23)
def N_hard_keys : List Str := ["many", "ready", "row", "item"]
theorem nd_hard_keys : N_hard_keys.Nodup := by decide +kernel
theorem sc_hard_keys : FnScope N_hard_keys ["many", "ready"] (defScope st_hard_keys) := ⟨rfl, rfl, rfl, nd_hard_keys, rfl, by decide +kernel, by decide +kernel⟩
abbrev st__law_source : Stmt := (top 25)
def N__law_source : List Str := ["cell"]
theorem nd__law_source : N__law_source.Nodup := by decide +kernel
theorem sc__law_source : FnScope N__law_source ["cell"] (defScope st__law_source) := ⟨rfl, rfl, rfl, nd__law_source, rfl, by decide +kernel, by decide +kernel⟩
abbrev st__law_draw : Stmt := (top 26)
def N__law_draw : List Str := ["source", "size", "digit", "mixed"]
theorem nd__law_draw : N__law_draw.Nodup := by decide +kernel
theorem sc__law_draw : FnScope N__law_draw ["source", "size"] (defScope st__law_draw) := ⟨rfl, rfl, rfl, nd__law_draw, rfl, by decide +kernel, by decide +kernel⟩
abbrev st__law_pick : Stmt := (top 27)
def N__law_pick : List Str := ["source", "items"]
theorem nd__law_pick : N__law_pick.Nodup := by decide +kernel
theorem sc__law_pick : FnScope N__law_pick ["source", "items"] (defScope st__law_pick) := ⟨rfl, rfl, rfl, nd__law_pick, rfl, by decide +kernel, by decide +kernel⟩
abbrev st__law_keys : Stmt := (top 28)
def N__law_keys : List Str := ["source", "size", "wide", "way", "given", "index", "step"]
theorem nd__law_keys : N__law_keys.Nodup := by decide +kernel
theorem sc__law_keys : FnScope N__law_keys ["source", "size"] (defScope st__law_keys) := ⟨rfl, rfl, rfl, nd__law_keys, rfl, by decide +kernel, by decide +kernel⟩
abbrev st__law_spots : Stmt := (top 29)
def N__law_spots : List Str := ["index", "place", "low", "high", "found", "middle"]
theorem nd__law_spots : N__law_spots.Nodup := by decide +kernel
theorem sc__law_spots : FnScope N__law_spots ["index", "place"] (defScope st__law_spots) := ⟨rfl, rfl, rfl, nd__law_spots, rfl, by decide +kernel, by decide +kernel⟩
abbrev st__law_ways : Stmt := (top 30)
def N__law_ways : List Str := ["index", "ways", "place"]
theorem nd__law_ways : N__law_ways.Nodup := by decide +kernel
theorem sc__law_ways : FnScope N__law_ways ["index"] (defScope st__law_ways) := ⟨rfl, rfl, rfl, nd__law_ways, rfl, by decide +kernel, by decide +kernel⟩
abbrev st__law_is_rising : Stmt := (top 31)
def N__law_is_rising : List Str := ["given", "first", "k"]
theorem nd__law_is_rising : N__law_is_rising.Nodup := by decide +kernel
theorem sc__law_is_rising : FnScope N__law_is_rising ["given", "first"] (defScope st__law_is_rising) := ⟨rfl, rfl, rfl, nd__law_is_rising, rfl, by decide +kernel, by decide +kernel⟩
abbrev st__law_right : Stmt := (top 32)
def N__law_right : List Str := ["size", "first", "ways", "few", "top", "easy", "hard", "given", "due", "index"]
theorem nd__law_right : N__law_right.Nodup := by decide +kernel
theorem sc__law_right : FnScope N__law_right ["size", "first", "ways"] (defScope st__law_right) := ⟨rfl, rfl, rfl, nd__law_right, rfl, by decide +kernel, by decide +kernel⟩
abbrev st_law : Stmt := (top 33)
def N_law : List Str := ["script", "ways", "size", "cell", "source", "go", "first", "given", "index"]
theorem nd_law : N_law.Nodup := by decide +kernel
theorem sc_law : FnScope N_law ["script"] (defScope st_law) := ⟨rfl, rfl, rfl, nd_law, rfl, by decide +kernel, by decide +kernel⟩
abbrev st_InvalidKeys : Stmt := inClass (top 2) 0
theorem sc_InvalidKeys : FnScope ["self", "index"] ["self", "index"] (defScope st_InvalidKeys) := ⟨rfl, rfl, rfl, by decide +kernel, rfl, by decide +kernel, by decide +kernel⟩
abbrev st_InvalidNumber : Stmt := inClass (top 3) 0
theorem sc_InvalidNumber : FnScope ["self", "name"] ["self", "name"] (defScope st_InvalidNumber) := ⟨rfl, rfl, rfl, by decide +kernel, rfl, by decide +kernel, by decide +kernel⟩
structure Gx (L : Lw) (P : Program) (w : World) (K : PySem.W.Frag) (mg : Str → Option Value) (base : Heap) : Prop where
  b_abs : mg "abs" = none
  b_bool : mg "bool" = none
  b_enumerate : mg "enumerate" = none
  b_int : mg "int" = none
  b_isinstance : mg "isinstance" = none
  b_len : mg "len" = none
  b_list : mg "list" = none
  b_max : mg "max" = none
  b_min : mg "min" = none
  b_range : mg "range" = none
  b_sorted : mg "sorted" = none
  b_sum : mg "sum" = none
  b_tuple : mg "tuple" = none
  g_MAX_PLACED : ∃ t, mg "MAX_PLACED" = some (.int 64 t)
  c_is_integer_1 : CallOk L K mg "is_integer" 1 [] [.inl 0]
  c_is_between_3 : CallOk L K mg "is_between" 3 [] [.inl 0, .inl 1, .inl 2]
  c_place_one_4 : CallOk L K mg "place_one" 4 [] [.inl 0, .inl 1, .inl 2, .inl 3]
  c_require_keys_2 : CallOk L K mg "require_keys" 2 [] [.inl 0, .inl 1]
  c_require_number_4 : CallOk L K mg "require_number" 4 [] [.inl 0, .inl 1, .inl 2, .inl 3]
  c_place_all_5 : CallOk L K mg "place_all" 5 [] [.inl 0, .inl 1, .inl 2, .inl 3, .inl 4]
  c_require_counts_2 : CallOk L K mg "require_counts" 2 [] [.inl 0, .inl 1]
  c_fewest_of_1 : CallOk L K mg "fewest_of" 1 [] [.inl 0]
  c_most_of_1 : CallOk L K mg "most_of" 1 [] [.inl 0]
  c_keys_of_1 : CallOk L K mg "keys_of" 1 [] [.inl 0]
  c_law_draw_2 : CallOk L K mg "_law_draw" 2 [] [.inl 0, .inl 1]
  c_law_pick_2 : CallOk L K mg "_law_pick" 2 [] [.inl 0, .inl 1]
  c_law_spots_2 : CallOk L K mg "_law_spots" 2 [] [.inl 0, .inl 1]
  c_fewest_placing_2 : CallOk L K mg "fewest_placing" 2 [] [.inl 0, .inl 1]
  c_most_placing_0_ready_many : CallOk L K mg "most_placing" 0 ["ready", "many"] [.inl 1, .inl 0]
  c_fewest_placing_0_ready_many : CallOk L K mg "fewest_placing" 0 ["ready", "many"] [.inl 1, .inl 0]
  c_most_placing_2 : CallOk L K mg "most_placing" 2 [] [.inl 0, .inl 1]
  c_hard_keys_2 : CallOk L K mg "hard_keys" 2 [] [.inl 0, .inl 1]
  c_easy_keys_2 : CallOk L K mg "easy_keys" 2 [] [.inl 0, .inl 1]
  c_law_is_rising_2 : CallOk L K mg "_law_is_rising" 2 [] [.inl 0, .inl 1]
  c_placed_2 : CallOk L K mg "placed" 2 [] [.inl 0, .inl 1]
  c_easy_keys_0_many_ready : CallOk L K mg "easy_keys" 0 ["many", "ready"] [.inl 0, .inl 1]
  c_hard_keys_0_ready_many : CallOk L K mg "hard_keys" 0 ["ready", "many"] [.inl 1, .inl 0]
  c_law_ways_1 : CallOk L K mg "_law_ways" 1 [] [.inl 0]
  c_law_right_3 : CallOk L K mg "_law_right" 3 [] [.inl 0, .inl 1, .inl 2]
  c_law_source_1 : CallOk L K mg "_law_source" 1 [] [.inl 0]
  c_law_keys_2 : CallOk L K mg "_law_keys" 2 [] [.inl 0, .inl 1]
  k_Honest_1 : MakeOk L K "Honest" 1 [] [.inl 0, .inl 1]
  cm_Honest : mg "Honest" = some (.ref (L.ca "Honest"))
  m_Honest_less_2 : MethOk L K "Honest" "less" 2 [] [.inl 0, .inl 1, .inl 2]
  n_Honest_log : NoAttr K (L.ca "Honest") (Str.ofString "log")
  n_Honest_marks : NoAttr K (L.ca "Honest") (Str.ofString "marks")
  e_InvalidKeys : ErrOk L P w K mg base "InvalidKeys" "index"
  e_InvalidNumber : ErrOk L P w K mg base "InvalidNumber" "name"
section
variable {L : Lw} {P : Program} {w : World} {K : PySem.W.Frag} {mg : Str → Option Value} {base : Heap}
theorem sb_Honest_init (G : Gx L P w K mg base) (f : Addr) (cdv : Value) (A : Around) (outer : List Env) (s : Shared) (H : Hp) (E : XK) : SB L (cxOf (CX P w) P w K mg base N_Honest_init (Str.ofString "Honest.__init__") (defScope st_Honest_init) f cdv A outer s H E) (defBody st_Honest_init) z_Honest_init :=
  (s_bone (s_par rfl (s_gcons (s_gfld ["Honest"] "marks" (all_cons G.n_Honest_marks all_nil) (s_var 0)) (s_gcons (s_gfld ["Honest"] "log" (all_cons G.n_Honest_log all_nil) (s_var 0)) s_gnil)) (s_acons (b_list G.b_list (s_acons (s_var 1) s_anil)) (s_acons (s_lst s_anil) s_anil))))
theorem sb_Honest_less (G : Gx L P w K mg base) (f : Addr) (cdv : Value) (A : Around) (outer : List Env) (s : Shared) (H : Hp) (E : XK) : SB L (cxOf (CX P w) P w K mg base N_Honest_less (Str.ofString "Honest.less") (defScope st_Honest_less) f cdv A outer s H E) (defBody st_Honest_less) z_Honest_less :=
  (s_bcons (s_set (i := 3) nd_Honest_less (s_cmp .lt (s_ix (s_fld "marks" (s_var 0)) (s_var 1)) (s_ix (s_fld "marks" (s_var 0)) (s_var 2))))
  (s_bcons (s_drop (bm_append (s_fld "log" (s_var 0)) (s_acons (s_tup (s_acons (s_tup (s_acons (s_var 1) (s_acons (s_var 2) s_anil))) (s_acons (s_var 3) s_anil))) s_anil)))
  (s_bone (s_ret (s_var 3)))))
theorem sb_is_integer (G : Gx L P w K mg base) (f : Addr) (cdv : Value) (A : Around) (outer : List Env) (s : Shared) (H : Hp) (E : XK) : SB L (cxOf (CX P w) P w K mg base N_is_integer (Str.ofString "is_integer") (defScope st_is_integer) f cdv A outer s H E) (defBody st_is_integer) z_is_integer :=
  (s_bone (s_ret (s_andv (s_isi1 "int" (s_var 0) G.b_isinstance G.b_int boot_int) (s_one (s_notv (s_isi1 "bool" (s_var 0) G.b_isinstance G.b_bool boot_bool))))))
theorem sb_is_between (G : Gx L P w K mg base) (f : Addr) (cdv : Value) (A : Around) (outer : List Env) (s : Shared) (H : Hp) (E : XK) : SB L (cxOf (CX P w) P w K mg base N_is_between (Str.ofString "is_between") (defScope st_is_between) f cdv A outer s H E) (defBody st_is_between) z_is_between :=
  (s_bone (s_ret (s_andv (s_callO "is_integer" G.c_is_integer_1 (sc_pos (s_acons (s_var 0) s_anil) 1)) (s_one (s_chain .le .le (s_var 1) (s_var 0) (s_var 2))))))
theorem sb_require_keys (G : Gx L P w K mg base) (f : Addr) (cdv : Value) (A : Around) (outer : List Env) (s : Shared) (H : Hp) (E : XK) : SB L (cxOf (CX P w) P w K mg base N_require_keys (Str.ofString "require_keys") (defScope st_require_keys) f cdv A outer s H E) (defBody st_require_keys) z_require_keys :=
  (s_bcons (s_if (s_tw (s_or (s_not (s_tt (s_isiN (s_var 0) G.b_isinstance (.cons rfl G.b_list boot_list (by decide) (by decide) (by decide) (.cons rfl G.b_tuple boot_tuple (by decide) (by decide) (by decide) .nil))))) (s_or1 (s_tcmp .gt (b_len G.b_len (s_acons (s_var 0) s_anil)) (s_var 1))))) (s_bone (s_rais "InvalidKeys" "index" G.e_InvalidKeys rfl (s_neg s_int)))
  s_bnil)
  (s_bone (s_fore2 (passes_of rfl) rfl (s_ienum (by rfl) G.b_enumerate (s_var 0)) (s_gcons (s_gname (i := 2) nd_require_keys) (s_gcons (s_gname (i := 3) nd_require_keys) s_gnil)) (s_bone (s_if (s_not (s_tt (s_callO "is_integer" G.c_is_integer_1 (sc_pos (s_acons (s_var 3) s_anil) 1)))) (s_bone (s_rais "InvalidKeys" "index" G.e_InvalidKeys rfl (s_var 2)))
  s_bnil)))))
theorem sb_require_number (G : Gx L P w K mg base) (f : Addr) (cdv : Value) (A : Around) (outer : List Env) (s : Shared) (H : Hp) (E : XK) : SB L (cxOf (CX P w) P w K mg base N_require_number (Str.ofString "require_number") (defScope st_require_number) f cdv A outer s H E) (defBody st_require_number) z_require_number :=
  (s_bone (s_if (s_not (s_tt (s_callO "is_between" G.c_is_between_3 (sc_pos (s_acons (s_var 1) (s_acons (s_var 2) (s_acons (s_var 3) s_anil))) 3)))) (s_bone (s_rais "InvalidNumber" "name" G.e_InvalidNumber rfl (s_var 0)))
  s_bnil))
theorem sb_place_one (G : Gx L P w K mg base) (f : Addr) (cdv : Value) (A : Around) (outer : List Env) (s : Shared) (H : Hp) (E : XK) : SB L (cxOf (CX P w) P w K mg base N_place_one (Str.ofString "place_one") (defScope st_place_one) f cdv A outer s H E) (defBody st_place_one) z_place_one :=
  (s_bcons (s_par3 (i := 4) (j := 5) (l := 6) rfl nd_place_one (s_acons (s_ix (s_var 0) (s_bin .add (s_var 1) (s_var 2))) (s_acons s_int (s_acons (s_var 2) s_anil))))
  (s_bcons (s_whl (passes_of rfl) (s_tcmp .lt (s_var 5) (s_var 6)) (s_bcons (s_set (i := 7) nd_place_one (s_bin .fdiv (s_bin .add (s_var 5) (s_var 6)) s_int))
  (s_bone (s_if (s_tt (s_methO ["Honest"] "less" (all_cons G.m_Honest_less_2 all_nil) (s_var 3) (sc_pos (s_acons (s_var 4) (s_acons (s_ix (s_var 0) (s_bin .add (s_var 1) (s_var 7))) s_anil)) 2))) (s_bone (s_set (i := 6) nd_place_one (s_var 7)))
  (s_bone (s_set (i := 5) nd_place_one (s_bin .add (s_var 7) s_int)))))))
  (s_bone (s_asg (s_gslc (s_var 0) (s_bin .add (s_var 1) (s_var 5)) (s_bin .add (s_bin .add (s_var 1) (s_var 2)) s_int)) (s_lst (s_acons (s_var 4) (s_astar (s_slc (s_var 0) (s_pso (s_bin .add (s_var 1) (s_var 5))) (s_pso (s_bin .add (s_var 1) (s_var 2)))) s_anil)))))))
theorem sb_place_all (G : Gx L P w K mg base) (f : Addr) (cdv : Value) (A : Around) (outer : List Env) (s : Shared) (H : Hp) (E : XK) : SB L (cxOf (CX P w) P w K mg base N_place_all (Str.ofString "place_all") (defScope st_place_all) f cdv A outer s H E) (defBody st_place_all) z_place_all :=
  (s_bone (s_fore (passes_of rfl) rfl (s_irng2 (by rfl) G.b_range (s_acons (b_max2 (by rfl) G.b_max (s_acons s_int (s_acons (s_var 3) s_anil))) (s_acons (s_bin .sub (s_var 2) (s_var 1)) s_anil))) (s_gname (i := 5) nd_place_all) (s_bone (s_drop (s_callO "place_one" G.c_place_one_4 (sc_pos (s_acons (s_var 0) (s_acons (s_var 1) (s_acons (s_var 5) (s_acons (s_var 4) s_anil)))) 4))))))
theorem sb_placed (G : Gx L P w K mg base) (f : Addr) (cdv : Value) (A : Around) (outer : List Env) (s : Shared) (H : Hp) (E : XK) : SB L (cxOf (CX P w) P w K mg base N_placed (Str.ofString "placed") (defScope st_placed) f cdv A outer s H E) (defBody st_placed) z_placed :=
  (s_bcons (s_drop (s_callO "require_keys" G.c_require_keys_2 (sc_pos (s_acons (s_var 0) (s_acons (s_globN G.g_MAX_PLACED) s_anil)) 2)))
  (s_bcons (s_drop (s_callO "require_number" G.c_require_number_4 (sc_pos (s_acons (s_str [114, 101, 97, 100, 121]) (s_acons (s_var 1) (s_acons s_int (s_acons (b_len G.b_len (s_acons (s_var 0) s_anil)) s_anil)))) 4)))
  (s_bcons (s_par2 (i := 2) (j := 3) rfl nd_placed (s_acons (s_lrng1 (by rfl) (by rfl) G.b_list (by rfl) G.b_range (b_len G.b_len (s_acons (s_var 0) s_anil))) (s_acons (s_makeO "Honest" G.k_Honest_1 G.cm_Honest (sc_pos (s_acons (s_var 0) s_anil) 1)) s_anil)))
  (s_bcons (s_drop (s_callO "place_all" G.c_place_all_5 (sc_pos (s_acons (s_var 2) (s_acons s_int (s_acons (b_len G.b_len (s_acons (s_var 2) s_anil)) (s_acons (s_var 1) (s_acons (s_var 3) s_anil))))) 5)))
  (s_bone (s_ret (s_tup (s_acons (s_var 2) (s_acons (s_lcomp (owns := [("question", 4), ("answer", 5)]) rfl nd_placed (s_iseq (s_fld "log" (s_var 3))) (blkOk_by (own := [("question", 4), ("answer", 5)]) (N := N_placed) (sc := defScope st_placed) (by decide +kernel)) (fun _ _ _ _ _ => (s_gtup rfl (s_gcons (s_gname (i := 4) nd_placed) (s_gcons (s_gname (i := 5) nd_placed) s_gnil)))) (fun _ _ _ _ _ => s_ts0) (fun _ _ _ _ _ => (s_var 4))) s_anil)))))))))
theorem sb_require_counts (G : Gx L P w K mg base) (f : Addr) (cdv : Value) (A : Around) (outer : List Env) (s : Shared) (H : Hp) (E : XK) : SB L (cxOf (CX P w) P w K mg base N_require_counts (Str.ofString "require_counts") (defScope st_require_counts) f cdv A outer s H E) (defBody st_require_counts) z_require_counts :=
  (s_bcons (s_drop (s_callO "require_number" G.c_require_number_4 (sc_pos (s_acons (s_str [109, 97, 110, 121]) (s_acons (s_var 0) (s_acons s_int (s_acons (s_globN G.g_MAX_PLACED) s_anil)))) 4)))
  (s_bone (s_drop (s_callO "require_number" G.c_require_number_4 (sc_pos (s_acons (s_str [114, 101, 97, 100, 121]) (s_acons (s_var 1) (s_acons s_int (s_acons (s_var 0) s_anil)))) 4)))))
theorem sb_fewest_of (G : Gx L P w K mg base) (f : Addr) (cdv : Value) (A : Around) (outer : List Env) (s : Shared) (H : Hp) (E : XK) : SB L (cxOf (CX P w) P w K mg base N_fewest_of (Str.ofString "fewest_of") (defScope st_fewest_of) f cdv A outer s H E) (defBody st_fewest_of) z_fewest_of :=
  (s_bone (s_ret (s_bin .sub (s_bitl (s_bin .add (s_var 0) s_int)) s_int)))
theorem sb_most_of (G : Gx L P w K mg base) (f : Addr) (cdv : Value) (A : Around) (outer : List Env) (s : Shared) (H : Hp) (E : XK) : SB L (cxOf (CX P w) P w K mg base N_most_of (Str.ofString "most_of") (defScope st_most_of) f cdv A outer s H E) (defBody st_most_of) z_most_of :=
  (s_bone (s_ret (s_bitl (s_var 0))))
theorem sb_fewest_placing (G : Gx L P w K mg base) (f : Addr) (cdv : Value) (A : Around) (outer : List Env) (s : Shared) (H : Hp) (E : XK) : SB L (cxOf (CX P w) P w K mg base N_fewest_placing (Str.ofString "fewest_placing") (defScope st_fewest_placing) f cdv A outer s H E) (defBody st_fewest_placing) z_fewest_placing :=
  (s_bcons (s_drop (s_callO "require_counts" G.c_require_counts_2 (sc_pos (s_acons (s_var 0) (s_acons (s_var 1) s_anil)) 2)))
  (s_bone (s_ret (b_sum (by rfl) G.b_sum (s_acons (s_lcomp (owns := [("index", 2)]) rfl nd_fewest_placing (s_irng2 (by rfl) G.b_range (s_acons (b_max2 (by rfl) G.b_max (s_acons s_int (s_acons (s_var 1) s_anil))) (s_acons (s_var 0) s_anil))) (blkOk_by (own := [("index", 2)]) (N := N_fewest_placing) (sc := defScope st_fewest_placing) (by decide +kernel)) (fun _ _ _ _ _ => (s_gname (i := 2) nd_fewest_placing)) (fun _ _ _ _ _ => s_ts0) (fun _ _ _ _ _ => (s_callO "fewest_of" G.c_fewest_of_1 (sc_pos (s_acons (s_var 2) s_anil) 1)))) s_anil)))))
theorem sb_most_placing (G : Gx L P w K mg base) (f : Addr) (cdv : Value) (A : Around) (outer : List Env) (s : Shared) (H : Hp) (E : XK) : SB L (cxOf (CX P w) P w K mg base N_most_placing (Str.ofString "most_placing") (defScope st_most_placing) f cdv A outer s H E) (defBody st_most_placing) z_most_placing :=
  (s_bcons (s_drop (s_callO "require_counts" G.c_require_counts_2 (sc_pos (s_acons (s_var 0) (s_acons (s_var 1) s_anil)) 2)))
  (s_bone (s_ret (b_sum (by rfl) G.b_sum (s_acons (s_lcomp (owns := [("index", 2)]) rfl nd_most_placing (s_irng2 (by rfl) G.b_range (s_acons (b_max2 (by rfl) G.b_max (s_acons s_int (s_acons (s_var 1) s_anil))) (s_acons (s_var 0) s_anil))) (blkOk_by (own := [("index", 2)]) (N := N_most_placing) (sc := defScope st_most_placing) (by decide +kernel)) (fun _ _ _ _ _ => (s_gname (i := 2) nd_most_placing)) (fun _ _ _ _ _ => s_ts0) (fun _ _ _ _ _ => (s_callO "most_of" G.c_most_of_1 (sc_pos (s_acons (s_var 2) s_anil) 1)))) s_anil)))))
theorem sb_keys_of (G : Gx L P w K mg base) (f : Addr) (cdv : Value) (A : Around) (outer : List Env) (s : Shared) (H : Hp) (E : XK) : SB L (cxOf (CX P w) P w K mg base N_keys_of (Str.ofString "keys_of") (defScope st_keys_of) f cdv A outer s H E) (defBody st_keys_of) z_keys_of :=
  (s_bcons (s_set (i := 1) nd_keys_of (s_bin .mul (s_lst (s_acons s_int s_anil)) (b_len G.b_len (s_acons (s_var 0) s_anil))))
  (s_bcons (s_fore2 (passes_of rfl) rfl (s_ienum (by rfl) G.b_enumerate (s_var 0)) (s_gcons (s_gname (i := 2) nd_keys_of) (s_gcons (s_gname (i := 3) nd_keys_of) s_gnil)) (s_bone (s_asg (s_gsub (s_var 1) (s_var 3)) (s_var 2))))
  (s_bone (s_ret (s_var 1)))))
theorem sb_easy_keys (G : Gx L P w K mg base) (f : Addr) (cdv : Value) (A : Around) (outer : List Env) (s : Shared) (H : Hp) (E : XK) : SB L (cxOf (CX P w) P w K mg base N_easy_keys (Str.ofString "easy_keys") (defScope st_easy_keys) f cdv A outer s H E) (defBody st_easy_keys) z_easy_keys :=
  (s_bcons (s_drop (s_callO "require_counts" G.c_require_counts_2 (sc_pos (s_acons (s_var 0) (s_acons (s_var 1) s_anil)) 2)))
  (s_bone (s_ret (s_lrng1 (by rfl) (by rfl) G.b_list (by rfl) G.b_range (s_var 0)))))
theorem sb_hard_keys (G : Gx L P w K mg base) (f : Addr) (cdv : Value) (A : Around) (outer : List Env) (s : Shared) (H : Hp) (E : XK) : SB L (cxOf (CX P w) P w K mg base N_hard_keys (Str.ofString "hard_keys") (defScope st_hard_keys) f cdv A outer s H E) (defBody st_hard_keys) z_hard_keys :=
  (s_bcons (s_drop (s_callO "require_counts" G.c_require_counts_2 (sc_pos (s_acons (s_var 0) (s_acons (s_var 1) s_anil)) 2)))
  (s_bcons (s_set (i := 2) nd_hard_keys (s_slc (s_lrng1 (by rfl) (by rfl) G.b_list (by rfl) G.b_range (b_max2 (by rfl) G.b_max (s_acons s_int (s_acons (s_var 1) s_anil)))) s_pno (s_pso (s_var 0))))
  (s_bcons (s_fore (passes_of rfl) rfl (s_irng2 (by rfl) G.b_range (s_acons (b_len G.b_len (s_acons (s_var 2) s_anil)) (s_acons (s_var 0) s_anil))) (s_gname (i := 3) nd_hard_keys) (s_bone (s_set (i := 2) nd_hard_keys (s_lst (s_acons (s_var 3) (s_astar (s_var 2) s_anil))))))
  (s_bone (s_ret (s_callO "keys_of" G.c_keys_of_1 (sc_pos (s_acons (s_var 2) s_anil) 1)))))))
theorem sb__law_source (G : Gx L P w K mg base) (f : Addr) (cdv : Value) (A : Around) (outer : List Env) (s : Shared) (H : Hp) (E : XK) : SB L (cxOf (CX P w) P w K mg base N__law_source (Str.ofString "_law_source") (defScope st__law_source) f cdv A outer s H E) (defBody st__law_source) z__law_source :=
  (s_bone (s_ret (s_lst (s_acons (s_bin .mul (b_abs G.b_abs (s_acons (s_var 0) s_anil)) (b_int G.b_int (s_acons (s_cmp .ge (b_abs G.b_abs (s_acons (s_var 0) s_anil)) (s_bin .pow s_int s_int)) s_anil))) (s_acons (s_bin .mod (b_int G.b_int (s_acons (s_var 0) s_anil)) s_int) (s_acons s_int s_anil))))))
theorem sb__law_draw (G : Gx L P w K mg base) (f : Addr) (cdv : Value) (A : Around) (outer : List Env) (s : Shared) (H : Hp) (E : XK) : SB L (cxOf (CX P w) P w K mg base N__law_draw (Str.ofString "_law_draw") (defScope st__law_draw) f cdv A outer s H E) (defBody st__law_draw) z__law_draw :=
  (s_bcons (s_if (s_tcmp .gt (s_ix (s_var 0) s_int) s_int) (s_bcons (s_set (i := 2) nd__law_draw (s_bin .mod (b_int G.b_int (s_acons (s_ix (s_var 0) s_int) s_anil)) (s_var 1)))
  (s_bcons (s_asg (s_gsub (s_var 0) s_int) (s_bin .fdiv (s_ix (s_var 0) s_int) (s_var 1)))
  (s_bone (s_ret (s_var 2)))))
  s_bnil)
  (s_bcons (s_asg (s_gsub (s_var 0) s_int) (s_bin .add (s_ix (s_var 0) s_int) s_int))
  (s_bcons (s_set (i := 3) nd__law_draw (s_bin .mod (b_int G.b_int (s_acons (s_bin .mul (s_bin .add (s_bin .add (s_ix (s_var 0) s_int) (s_bin .mul s_int (s_ix (s_var 0) s_int))) s_int) s_int) s_anil)) s_int))
  (s_bcons (s_set (i := 3) nd__law_draw (s_bin .mod (b_int G.b_int (s_acons (s_bin .mul (s_var 3) (s_bin .add (s_bin .add (s_bin .fdiv (s_var 3) s_int) s_int) (s_ix (s_var 0) s_int))) s_anil)) s_int))
  (s_bone (s_ret (s_bin .mod (b_int G.b_int (s_acons (s_bin .fdiv (s_bin .mod (b_int G.b_int (s_acons (s_bin .mul (s_var 3) (s_bin .add (s_bin .fdiv (s_var 3) s_int) s_int)) s_anil)) s_int) s_int) s_anil)) (s_var 1))))))))
theorem sb__law_pick (G : Gx L P w K mg base) (f : Addr) (cdv : Value) (A : Around) (outer : List Env) (s : Shared) (H : Hp) (E : XK) : SB L (cxOf (CX P w) P w K mg base N__law_pick (Str.ofString "_law_pick") (defScope st__law_pick) f cdv A outer s H E) (defBody st__law_pick) z__law_pick :=
  (s_bone (s_ret (s_ix (s_var 1) (s_callO "_law_draw" G.c_law_draw_2 (sc_pos (s_acons (s_var 0) (s_acons (b_len G.b_len (s_acons (s_var 1) s_anil)) s_anil)) 2)))))
theorem sb__law_keys (G : Gx L P w K mg base) (f : Addr) (cdv : Value) (A : Around) (outer : List Env) (s : Shared) (H : Hp) (E : XK) : SB L (cxOf (CX P w) P w K mg base N__law_keys (Str.ofString "_law_keys") (defScope st__law_keys) f cdv A outer s H E) (defBody st__law_keys) z__law_keys :=
  (s_bcons (s_set (i := 2) nd__law_keys (s_callO "_law_pick" G.c_law_pick_2 (sc_pos (s_acons (s_var 0) (s_acons (s_lst (s_acons s_int (s_acons s_int (s_acons s_int (s_acons s_int (s_acons s_int (s_acons (s_bin .pow s_int s_int) s_anil))))))) s_anil)) 2)))
  (s_bcons (s_par2 (i := 3) (j := 4) rfl nd__law_keys (s_acons (s_callO "_law_draw" G.c_law_draw_2 (sc_pos (s_acons (s_var 0) (s_acons s_int s_anil)) 2)) (s_acons (s_lst s_anil) s_anil)))
  (s_bcons (s_fore (passes_of rfl) rfl (s_irng1 (by rfl) G.b_range (s_acons (s_var 1) s_anil)) (s_gname (i := 5) nd__law_keys) (s_bone (s_if (s_tw (s_or (s_tcmp .eq (s_var 3) s_int) (s_or1 (s_tcmp .eq (s_var 4) (s_lst s_anil))))) (s_bone (s_drop (bm_append (s_var 4) (s_acons (s_bin .sub (s_callO "_law_draw" G.c_law_draw_2 (sc_pos (s_acons (s_var 0) (s_acons (s_var 2) s_anil)) 2)) (s_bin .fdiv (s_var 2) s_int)) s_anil))))
  (s_bone (s_if (s_tcmp .eq (s_var 3) s_int) (s_bone (s_drop (bm_append (s_var 4) (s_acons (s_bin .add (s_ix (s_var 4) (s_neg s_int)) (s_callO "_law_pick" G.c_law_pick_2 (sc_pos (s_acons (s_var 0) (s_acons (s_lst (s_acons s_int (s_acons s_int (s_acons s_int (s_acons s_int (s_acons s_int (s_acons (s_neg s_int) s_anil))))))) s_anil)) 2))) s_anil))))
  (s_bone (s_if (s_tcmp .eq (s_var 3) s_int) (s_bone (s_drop (bm_append (s_var 4) (s_acons (s_bin .sub (s_ix (s_var 4) (s_neg s_int)) (s_callO "_law_pick" G.c_law_pick_2 (sc_pos (s_acons (s_var 0) (s_acons (s_lst (s_acons s_int (s_acons s_int (s_acons s_int (s_acons s_int (s_acons s_int (s_acons s_int (s_acons (s_neg s_int) s_anil)))))))) s_anil)) 2))) s_anil))))
  (s_bcons (s_set (i := 6) nd__law_keys (s_callO "_law_pick" G.c_law_pick_2 (sc_pos (s_acons (s_var 0) (s_acons (s_lst (s_acons s_int (s_acons s_int (s_acons s_int (s_acons (s_neg s_int) (s_acons (s_neg s_int) s_anil)))))) s_anil)) 2)))
  (s_bone (s_drop (bm_append (s_var 4) (s_acons (s_bin .add (s_ix (s_var 4) (s_neg s_int)) (s_bin .mul (s_var 6) (s_bin .add s_int (s_callO "_law_draw" G.c_law_draw_2 (sc_pos (s_acons (s_var 0) (s_acons s_int s_anil)) 2))))) s_anil))))))))))))
  (s_bone (s_ret (s_var 4))))))
theorem sb__law_spots (G : Gx L P w K mg base) (f : Addr) (cdv : Value) (A : Around) (outer : List Env) (s : Shared) (H : Hp) (E : XK) : SB L (cxOf (CX P w) P w K mg base N__law_spots (Str.ofString "_law_spots") (defScope st__law_spots) f cdv A outer s H E) (defBody st__law_spots) z__law_spots :=
  (s_bcons (s_par3 (i := 2) (j := 3) (l := 4) rfl nd__law_spots (s_acons s_int (s_acons (s_var 0) (s_acons (s_lst s_anil) s_anil))))
  (s_bcons (s_whl (passes_of rfl) (s_tcmp .lt (s_var 2) (s_var 3)) (s_bcons (s_set (i := 5) nd__law_spots (s_bin .add (s_var 2) (s_bin .fdiv (s_bin .sub (s_var 3) (s_var 2)) s_int)))
  (s_bcons (s_drop (bm_append (s_var 4) (s_acons (s_var 5) s_anil)))
  (s_bone (s_if (s_tcmp .le (s_var 1) (s_var 5)) (s_bone (s_set (i := 3) nd__law_spots (s_var 5)))
  (s_bone (s_set (i := 2) nd__law_spots (s_bin .add (s_var 5) s_int))))))))
  (s_bone (s_ret (s_var 4)))))
theorem sb__law_ways (G : Gx L P w K mg base) (f : Addr) (cdv : Value) (A : Around) (outer : List Env) (s : Shared) (H : Hp) (E : XK) : SB L (cxOf (CX P w) P w K mg base N__law_ways (Str.ofString "_law_ways") (defScope st__law_ways) f cdv A outer s H E) (defBody st__law_ways) z__law_ways :=
  (s_bcons (s_setLc (owns := [("place", 2)]) rfl nd__law_ways (s_irng1 (by rfl) G.b_range (s_acons (s_bin .add (s_var 0) s_int) s_anil)) (blkOk_by (own := [("place", 2)]) (N := N__law_ways) (sc := defScope st__law_ways) (by decide +kernel)) (fun _ _ _ _ _ => (s_gname (i := 2) nd__law_ways)) (fun _ _ _ _ _ => s_ts0) (fun _ _ _ _ _ => (b_len G.b_len (s_acons (s_callO "_law_spots" G.c_law_spots_2 (sc_pos (s_acons (s_var 0) (s_acons (s_var 2) s_anil)) 2)) s_anil))) (i := 1))
  (s_bcons (s_if (s_tw (s_or (s_tcmp .ne (s_ix (s_var 1) s_int) (b_max1 (by rfl) G.b_max (s_acons (s_var 1) s_anil))) (s_or (s_tcmp .ne (s_ix (s_var 1) s_int) (b_max1 (by rfl) G.b_max (s_acons (s_var 1) s_anil))) (s_or1 (s_tcmp .ne (s_ix (s_var 1) (s_var 0)) (b_min1 (by rfl) G.b_min (s_acons (s_var 1) s_anil))))))) (s_bone (s_ret s_non))
  s_bnil)
  (s_bone (s_ret (s_tup (s_acons (b_min1 (by rfl) G.b_min (s_acons (s_var 1) s_anil)) (s_acons (b_max1 (by rfl) G.b_max (s_acons (s_var 1) s_anil)) s_anil)))))))
theorem sb__law_is_rising (G : Gx L P w K mg base) (f : Addr) (cdv : Value) (A : Around) (outer : List Env) (s : Shared) (H : Hp) (E : XK) : SB L (cxOf (CX P w) P w K mg base N__law_is_rising (Str.ofString "_law_is_rising") (defScope st__law_is_rising) f cdv A outer s H E) (defBody st__law_is_rising) z__law_is_rising :=
  (s_bone (s_ret (s_cmp .eq (s_lcomp (owns := [("k", 2)]) rfl nd__law_is_rising (s_irng2 (by rfl) G.b_range (s_acons s_int (s_acons (s_var 1) s_anil))) (blkOk_by (own := [("k", 2)]) (N := N__law_is_rising) (sc := defScope st__law_is_rising) (by decide +kernel)) (fun _ _ _ _ _ => (s_gname (i := 2) nd__law_is_rising)) (fun _ _ _ _ _ => (s_ts1 (s_not (s_tcmp .lt (s_ix (s_var 0) (s_bin .sub (s_var 2) s_int)) (s_ix (s_var 0) (s_var 2)))))) (fun _ _ _ _ _ => (s_var 2))) (s_lst s_anil))))
theorem sb__law_right (G : Gx L P w K mg base) (f : Addr) (cdv : Value) (A : Around) (outer : List Env) (s : Shared) (H : Hp) (E : XK) : SB L (cxOf (CX P w) P w K mg base N__law_right (Str.ofString "_law_right") (defScope st__law_right) f cdv A outer s H E) (defBody st__law_right) z__law_right :=
  (s_bcons (s_set (i := 3) nd__law_right (b_sum (by rfl) G.b_sum (s_acons (s_lcomp (owns := [("index", 9)]) rfl nd__law_right (s_irng2 (by rfl) G.b_range (s_acons (b_max2 (by rfl) G.b_max (s_acons s_int (s_acons (s_var 1) s_anil))) (s_acons (s_var 0) s_anil))) (blkOk_by (own := [("index", 9)]) (N := N__law_right) (sc := defScope st__law_right) (by decide +kernel)) (fun _ _ _ _ _ => (s_gname (i := 9) nd__law_right)) (fun _ _ _ _ _ => s_ts0) (fun _ _ _ _ _ => (s_ix (s_ix (s_var 2) (s_var 9)) s_int))) s_anil)))
  (s_bcons (s_set (i := 4) nd__law_right (b_sum (by rfl) G.b_sum (s_acons (s_lcomp (owns := [("index", 9)]) rfl nd__law_right (s_irng2 (by rfl) G.b_range (s_acons (b_max2 (by rfl) G.b_max (s_acons s_int (s_acons (s_var 1) s_anil))) (s_acons (s_var 0) s_anil))) (blkOk_by (own := [("index", 9)]) (N := N__law_right) (sc := defScope st__law_right) (by decide +kernel)) (fun _ _ _ _ _ => (s_gname (i := 9) nd__law_right)) (fun _ _ _ _ _ => s_ts0) (fun _ _ _ _ _ => (s_ix (s_ix (s_var 2) (s_var 9)) s_int))) s_anil)))
  (s_bcons (s_if (s_tw (s_or (s_tcmp .ne (s_callO "fewest_placing" G.c_fewest_placing_2 (sc_pos (s_acons (s_var 0) (s_acons (s_var 1) s_anil)) 2)) (s_var 3)) (s_or1 (s_tcmp .ne (s_callO "most_placing" G.c_most_placing_0_ready_many (sc_kw0 (s_kcons (s_var 1) (s_kcons (s_var 0) s_knil)))) (s_var 4))))) (s_bone (s_ret s_bl))
  s_bnil)
  (s_bcons (s_if (s_tw (s_or (s_tcmp .ne (s_callO "fewest_placing" G.c_fewest_placing_0_ready_many (sc_kw0 (s_kcons (s_var 1) (s_kcons (s_var 0) s_knil)))) (s_var 3)) (s_or1 (s_tcmp .ne (s_callO "most_placing" G.c_most_placing_2 (sc_pos (s_acons (s_var 0) (s_acons (s_var 1) s_anil)) 2)) (s_var 4))))) (s_bone (s_ret s_bl))
  s_bnil)
  (s_bcons (s_par2 (i := 5) (j := 6) rfl nd__law_right (s_acons (s_callO "easy_keys" G.c_easy_keys_2 (sc_pos (s_acons (s_var 0) (s_acons (s_var 1) s_anil)) 2)) (s_acons (s_callO "hard_keys" G.c_hard_keys_2 (sc_pos (s_acons (s_var 0) (s_acons (s_var 1) s_anil)) 2)) s_anil)))
  (s_bcons (s_fore (passes_of rfl) rfl (s_iseq (s_lst (s_acons (s_tup (s_acons (s_var 5) (s_acons (s_var 3) s_anil))) (s_acons (s_tup (s_acons (s_var 6) (s_acons (s_var 4) s_anil))) s_anil)))) (s_gtup rfl (s_gcons (s_gname (i := 7) nd__law_right) (s_gcons (s_gname (i := 8) nd__law_right) s_gnil))) (s_bone (s_if (s_tw (s_or (s_tcmp .ne (b_len G.b_len (s_acons (s_var 7) s_anil)) (s_var 0)) (s_or (s_not (s_tt (s_callO "_law_is_rising" G.c_law_is_rising_2 (sc_pos (s_acons (s_var 7) (s_acons (s_var 1) s_anil)) 2)))) (s_or1 (s_tcmp .ne (b_len G.b_len (s_acons (s_ix (s_callO "placed" G.c_placed_2 (sc_pos (s_acons (s_var 7) (s_acons (s_var 1) s_anil)) 2)) s_int) s_anil)) (s_var 8)))))) (s_bone (s_ret s_bl))
  s_bnil)))
  (s_bcons (s_drop (bm_append (s_var 5) (s_acons s_int s_anil)))
  (s_bone (s_ret (s_andv (s_cmp .eq (b_len G.b_len (s_acons (s_callO "easy_keys" G.c_easy_keys_0_many_ready (sc_kw0 (s_kcons (s_var 0) (s_kcons (s_var 1) s_knil)))) s_anil)) (s_var 0)) (s_one (s_cmp .eq (s_callO "hard_keys" G.c_hard_keys_0_ready_many (sc_kw0 (s_kcons (s_var 1) (s_kcons (s_var 0) s_knil)))) (s_var 6)))))))))))))
theorem sb_law (G : Gx L P w K mg base) (f : Addr) (cdv : Value) (A : Around) (outer : List Env) (s : Shared) (H : Hp) (E : XK) : SB L (cxOf (CX P w) P w K mg base N_law (Str.ofString "law") (defScope st_law) f cdv A outer s H E) (defBody st_law) z_law :=
  (s_bcons (s_set (i := 1) nd_law (s_bin .add (s_lst (s_acons s_non s_anil)) (s_lcomp (owns := [("index", 8)]) rfl nd_law (s_irng2 (by rfl) G.b_range (s_acons s_int (s_acons s_int s_anil))) (blkOk_by (own := [("index", 8)]) (N := N_law) (sc := defScope st_law) (by decide +kernel)) (fun _ _ _ _ _ => (s_gname (i := 8) nd_law)) (fun _ _ _ _ _ => s_ts0) (fun _ _ _ _ _ => (s_callO "_law_ways" G.c_law_ways_1 (sc_pos (s_acons (s_var 8) s_anil) 1))))))
  (s_bcons (s_if (s_tcmp .isin s_non (s_slc (s_var 1) (s_pso s_int) s_pno)) (s_bone (s_ret s_bl))
  s_bnil)
  (s_bcons (s_fore (passes_of rfl) rfl (s_irng1 (by rfl) G.b_range (s_acons s_int s_anil)) (s_gname (i := 2) nd_law) (s_bone (s_if (s_tw (s_or (s_not (s_tt (s_callO "_law_right" G.c_law_right_3 (sc_pos (s_acons (s_var 2) (s_acons s_int (s_acons (s_var 1) s_anil))) 3)))) (s_or (s_not (s_tt (s_callO "_law_right" G.c_law_right_3 (sc_pos (s_acons (s_var 2) (s_acons (s_var 2) (s_acons (s_var 1) s_anil))) 3)))) (s_or1 (s_not (s_tt (s_callO "_law_right" G.c_law_right_3 (sc_pos (s_acons (s_var 2) (s_acons (s_bin .fdiv (s_var 2) s_int) (s_acons (s_var 1) s_anil))) 3)))))))) (s_bone (s_ret s_bl))
  s_bnil)))
  (s_bcons (s_fore (passes_of rfl) rfl (s_iseq (s_slc (s_bin .add (s_var 0) (s_lst (s_acons s_int s_anil))) s_pno (s_pso s_int))) (s_gname (i := 3) nd_law) (s_bcons (s_set (i := 4) nd_law (s_callO "_law_source" G.c_law_source_1 (sc_pos (s_acons (s_var 3) s_anil) 1)))
  (s_bone (s_fore (passes_of rfl) rfl (s_irng1 (by rfl) G.b_range (s_acons s_int s_anil)) (s_gname (i := 5) nd_law) (s_bcons (s_set (i := 2) nd_law (s_bin .add s_int (s_callO "_law_draw" G.c_law_draw_2 (sc_pos (s_acons (s_var 4) (s_acons s_int s_anil)) 2))))
  (s_bcons (s_set (i := 6) nd_law (s_callO "_law_draw" G.c_law_draw_2 (sc_pos (s_acons (s_var 4) (s_acons (s_bin .add (s_var 2) s_int) s_anil)) 2)))
  (s_bcons (s_if (s_not (s_tt (s_callO "_law_right" G.c_law_right_3 (sc_pos (s_acons (s_var 2) (s_acons (s_var 6) (s_acons (s_var 1) s_anil))) 3)))) (s_bone (s_ret s_bl))
  s_bnil)
  (s_bcons (s_set (i := 7) nd_law (s_callO "_law_keys" G.c_law_keys_2 (sc_pos (s_acons (s_var 4) (s_acons (s_var 2) s_anil)) 2)))
  (s_bcons (s_set (i := 7) nd_law (s_bin .add (b_sortedI G.b_sorted (s_acons (s_slc (s_var 7) s_pno (s_pso (s_var 6))) s_anil)) (s_slc (s_var 7) (s_pso (s_var 6)) s_pno)))
  (s_bone (s_if (s_not (s_tchain .le .le (s_callO "fewest_placing" G.c_fewest_placing_2 (sc_pos (s_acons (s_var 2) (s_acons (s_var 6) s_anil)) 2)) (b_len G.b_len (s_acons (s_ix (s_callO "placed" G.c_placed_2 (sc_pos (s_acons (s_var 7) (s_acons (s_var 6) s_anil)) 2)) s_int) s_anil)) (s_callO "most_placing" G.c_most_placing_2 (sc_pos (s_acons (s_var 2) (s_acons (s_var 6) s_anil)) 2)))) (s_bone (s_ret s_bl))
  s_bnil)))))))))))
  (s_bone (s_ret s_bl))))))
theorem pb_InvalidKeys {S f : Addr} {cdv : Value} (B : BaseE K mg "SortError" S) (A : Around) (outer : List Env) (s : Shared) (H : Hp) (E : XK) : PSs (cxOf (CX P w) P w K mg base ["self", "index"] (Str.ofString "InvalidKeys.__init__") (defScope st_InvalidKeys) f cdv A outer s H E) (defBody st_InvalidKeys) (errT K "these are no keys" (Str.ofString "index")) :=
  pss_cons (ps_expr (pe_binit B rfl (pa_cons (pv 0) (pa_cons pe_str pa_nil)))) (pss_one (ps_ost (pv 0) (pv 1)))
theorem pb_InvalidNumber {S f : Addr} {cdv : Value} (B : BaseE K mg "SortError" S) (A : Around) (outer : List Env) (s : Shared) (H : Hp) (E : XK) : PSs (cxOf (CX P w) P w K mg base ["self", "name"] (Str.ofString "InvalidNumber.__init__") (defScope st_InvalidNumber) f cdv A outer s H E) (defBody st_InvalidNumber) (errT K "this number is not as described" (Str.ofString "name")) :=
  pss_cons (ps_expr (pe_binit B rfl (pa_cons (pv 0) (pa_cons pe_str pa_nil)))) (pss_one (ps_ost (pv 0) (pv 1)))
end
theorem all_mk {P : Program} {w : World} {K : PySem.W.Frag} {mg : Str → Option Value} {h : Heap} {fa : Addr} {S0 : Addr} {C_Honest : Addr} {f0 : Addr} {oc0 kV0 dc0 pm0 cd0 ct0 : Value} {od0 an0 : Option Addr} {sl0 : Array (Option Value)} {f1 : Addr} {oc1 kV1 dc1 pm1 cd1 ct1 : Value} {od1 an1 : Option Addr} {sl1 : Array (Option Value)} {f2 : Addr} {oc2 kV2 dc2 pm2 cd2 ct2 : Value} {od2 an2 : Option Addr} {sl2 : Array (Option Value)} {f3 : Addr} {oc3 kV3 dc3 pm3 cd3 ct3 : Value} {od3 an3 : Option Addr} {sl3 : Array (Option Value)} {f4 : Addr} {oc4 kV4 dc4 pm4 cd4 ct4 : Value} {od4 an4 : Option Addr} {sl4 : Array (Option Value)} {T4 : Addr} {oT4 : Value} {dT4 : Option Addr} {sT4 : Array (Option Value)} {nT4 : Nat} {tk4_0 : Tok} {f5 : Addr} {oc5 kV5 dc5 pm5 cd5 ct5 : Value} {od5 an5 : Option Addr} {sl5 : Array (Option Value)} {f6 : Addr} {oc6 kV6 dc6 pm6 cd6 ct6 : Value} {od6 an6 : Option Addr} {sl6 : Array (Option Value)} {f7 : Addr} {oc7 kV7 dc7 pm7 cd7 ct7 : Value} {od7 an7 : Option Addr} {sl7 : Array (Option Value)} {f8 : Addr} {oc8 kV8 dc8 pm8 cd8 ct8 : Value} {od8 an8 : Option Addr} {sl8 : Array (Option Value)} {f9 : Addr} {oc9 kV9 dc9 pm9 cd9 ct9 : Value} {od9 an9 : Option Addr} {sl9 : Array (Option Value)} {f10 : Addr} {oc10 kV10 dc10 pm10 cd10 ct10 : Value} {od10 an10 : Option Addr} {sl10 : Array (Option Value)} {f11 : Addr} {oc11 kV11 dc11 pm11 cd11 ct11 : Value} {od11 an11 : Option Addr} {sl11 : Array (Option Value)} {f12 : Addr} {oc12 kV12 dc12 pm12 cd12 ct12 : Value} {od12 an12 : Option Addr} {sl12 : Array (Option Value)} {f13 : Addr} {oc13 kV13 dc13 pm13 cd13 ct13 : Value} {od13 an13 : Option Addr} {sl13 : Array (Option Value)} {f14 : Addr} {oc14 kV14 dc14 pm14 cd14 ct14 : Value} {od14 an14 : Option Addr} {sl14 : Array (Option Value)} {f15 : Addr} {oc15 kV15 dc15 pm15 cd15 ct15 : Value} {od15 an15 : Option Addr} {sl15 : Array (Option Value)} {f16 : Addr} {oc16 kV16 dc16 pm16 cd16 ct16 : Value} {od16 an16 : Option Addr} {sl16 : Array (Option Value)} {f17 : Addr} {oc17 kV17 dc17 pm17 cd17 ct17 : Value} {od17 an17 : Option Addr} {sl17 : Array (Option Value)} {f18 : Addr} {oc18 kV18 dc18 pm18 cd18 ct18 : Value} {od18 an18 : Option Addr} {sl18 : Array (Option Value)} {f19 : Addr} {oc19 kV19 dc19 pm19 cd19 ct19 : Value} {od19 an19 : Option Addr} {sl19 : Array (Option Value)} {f20 : Addr} {oc20 kV20 dc20 pm20 cd20 ct20 : Value} {od20 an20 : Option Addr} {sl20 : Array (Option Value)} {f21 : Addr} {oc21 kV21 dc21 pm21 cd21 ct21 : Value} {od21 an21 : Option Addr} {sl21 : Array (Option Value)} {f22 : Addr} {oc22 kV22 dc22 pm22 cd22 ct22 : Value} {od22 an22 : Option Addr} {sl22 : Array (Option Value)} {f23 : Addr} {oc23 kV23 dc23 pm23 cd23 ct23 : Value} {od23 an23 : Option Addr} {sl23 : Array (Option Value)} {f24 : Addr} {oc24 kV24 dc24 pm24 cd24 ct24 : Value} {od24 an24 : Option Addr} {sl24 : Array (Option Value)} {f25 : Addr} {oc25 kV25 dc25 pm25 cd25 ct25 : Value} {od25 an25 : Option Addr} {sl25 : Array (Option Value)} {C_InvalidKeys fIInvalidKeys NInvalidKeys : Addr} {nmInvalidKeys qInvalidKeys : Str} {bsInvalidKeys suInvalidKeys : List Value} {snInvalidKeys : List Str} {abInvalidKeys : Bool} {coInvalidKeys : Option Bool} {ddInvalidKeys : Option Addr} {m0InvalidKeys m1InvalidKeys m2InvalidKeys m3InvalidKeys m5InvalidKeys : Option Value} {ocInvalidKeys kVInvalidKeys dcInvalidKeys pmInvalidKeys cdInvalidKeys ctInvalidKeys : Value} {odInvalidKeys anInvalidKeys : Option Addr} {slInvalidKeys : Array (Option Value)} {C_InvalidNumber fIInvalidNumber NInvalidNumber : Addr} {nmInvalidNumber qInvalidNumber : Str} {bsInvalidNumber suInvalidNumber : List Value} {snInvalidNumber : List Str} {abInvalidNumber : Bool} {coInvalidNumber : Option Bool} {ddInvalidNumber : Option Addr} {m0InvalidNumber m1InvalidNumber m2InvalidNumber m3InvalidNumber m5InvalidNumber : Option Value} {ocInvalidNumber kVInvalidNumber dcInvalidNumber pmInvalidNumber cdInvalidNumber ctInvalidNumber : Value} {odInvalidNumber anInvalidNumber : Option Addr} {slInvalidNumber : Array (Option Value)} {t_MAX_PLACED : Tok} (X : K.In h) (Gn : h.Ns mainGlobals mg) (hfa : mg (Str.ofString "law") = some (.ref fa))
    (xHonest : PySem.W.nsIn K mainGlobals "Honest" = some (some (.ref C_Honest)))
    (pgHonest : PySem.W.plainGet K C_Honest Str.empty = true)
    (hdHonest : PySem.W.hasDictIn K C_Honest = true)
    (poHonest : PySem.W.plainOver K C_Honest = true)
    (saHonest : PySem.W.findIn K (.ref C_Honest) "__setattr__" = some (some (.builtin "object.__setattr__")))
    (mkHonest : PySem.W.makesIn K C_Honest = true)
    (kcHonest : PySem.W.keepIn K (.ref C_Honest) = true)
    (sB : PySem.W.nsIn K mainGlobals "SortError" = some (some (.ref S0)))
    (gB : PySem.W.specialIn K (.ref S0) "__getattribute__" = some (some (.builtin "type.__getattribute__")))
    (rB : PySem.W.readsIn K S0 (.type "type") = true)
    (fB : PySem.W.findCls K (.ref S0) (.type "type") "__init__" = some (.val (.builtin "ValueError.__init__")))
    (a0 : PySem.W.findIn K (.ref C_Honest) (Str.ofString "__init__") = some (some (.ref f0)))
    (i0 : PySem.W.isFn K (.ref f0) = true)
    (l0 : K.lookup f0 = some ⟨oc0, od0, .func (PySem.W.fnOf (Str.ofString "__init__") (Str.ofString "Honest.__init__") (defArgs st_Honest_init) (defBody st_Honest_init) (defScope st_Honest_init) .none kV0 dc0 pm0 an0 cd0 ct0), sl0⟩)
    (c0 : PySem.W.codeIn K cd0 (Str.ofString "Honest.__init__") = true)
    (k0 : PySem.W.keepIn K (.ref f0) = true)
    (a1 : PySem.W.findIn K (.ref C_Honest) (Str.ofString "less") = some (some (.ref f1)))
    (i1 : PySem.W.isFn K (.ref f1) = true)
    (l1 : K.lookup f1 = some ⟨oc1, od1, .func (PySem.W.fnOf (Str.ofString "less") (Str.ofString "Honest.less") (defArgs st_Honest_less) (defBody st_Honest_less) (defScope st_Honest_less) .none kV1 dc1 pm1 an1 cd1 ct1), sl1⟩)
    (c1 : PySem.W.codeIn K cd1 (Str.ofString "Honest.less") = true)
    (k1 : PySem.W.keepIn K (.ref f1) = true)
    (a2 : PySem.W.nsIn K mainGlobals "is_integer" = some (some (.ref f2)))
    (l2 : K.lookup f2 = some ⟨oc2, od2, .func (PySem.W.fnOf (Str.ofString "is_integer") (Str.ofString "is_integer") (defArgs st_is_integer) (defBody st_is_integer) (defScope st_is_integer) .none kV2 dc2 pm2 an2 cd2 ct2), sl2⟩)
    (c2 : PySem.W.codeIn K cd2 (Str.ofString "is_integer") = true)
    (k2 : PySem.W.keepIn K (.ref f2) = true)
    (a3 : PySem.W.nsIn K mainGlobals "is_between" = some (some (.ref f3)))
    (l3 : K.lookup f3 = some ⟨oc3, od3, .func (PySem.W.fnOf (Str.ofString "is_between") (Str.ofString "is_between") (defArgs st_is_between) (defBody st_is_between) (defScope st_is_between) .none kV3 dc3 pm3 an3 cd3 ct3), sl3⟩)
    (c3 : PySem.W.codeIn K cd3 (Str.ofString "is_between") = true)
    (k3 : PySem.W.keepIn K (.ref f3) = true)
    (a4 : PySem.W.nsIn K mainGlobals "require_keys" = some (some (.ref f4)))
    (l4 : K.lookup f4 = some ⟨oc4, od4, .func (PySem.W.fnOf (Str.ofString "require_keys") (Str.ofString "require_keys") (defArgs st_require_keys) (defBody st_require_keys) (defScope st_require_keys) (.ref T4) kV4 dc4 pm4 an4 cd4 ct4), sl4⟩)
    (c4 : PySem.W.codeIn K cd4 (Str.ofString "require_keys") = true)
    (k4 : PySem.W.keepIn K (.ref f4) = true)
    (lT4 : K.lookup T4 = some ⟨oT4, dT4, .seq #[.int 2000 tk4_0] nT4, sT4⟩)
    (a5 : PySem.W.nsIn K mainGlobals "require_number" = some (some (.ref f5)))
    (l5 : K.lookup f5 = some ⟨oc5, od5, .func (PySem.W.fnOf (Str.ofString "require_number") (Str.ofString "require_number") (defArgs st_require_number) (defBody st_require_number) (defScope st_require_number) .none kV5 dc5 pm5 an5 cd5 ct5), sl5⟩)
    (c5 : PySem.W.codeIn K cd5 (Str.ofString "require_number") = true)
    (k5 : PySem.W.keepIn K (.ref f5) = true)
    (a6 : PySem.W.nsIn K mainGlobals "place_one" = some (some (.ref f6)))
    (l6 : K.lookup f6 = some ⟨oc6, od6, .func (PySem.W.fnOf (Str.ofString "place_one") (Str.ofString "place_one") (defArgs st_place_one) (defBody st_place_one) (defScope st_place_one) .none kV6 dc6 pm6 an6 cd6 ct6), sl6⟩)
    (c6 : PySem.W.codeIn K cd6 (Str.ofString "place_one") = true)
    (k6 : PySem.W.keepIn K (.ref f6) = true)
    (a7 : PySem.W.nsIn K mainGlobals "place_all" = some (some (.ref f7)))
    (l7 : K.lookup f7 = some ⟨oc7, od7, .func (PySem.W.fnOf (Str.ofString "place_all") (Str.ofString "place_all") (defArgs st_place_all) (defBody st_place_all) (defScope st_place_all) .none kV7 dc7 pm7 an7 cd7 ct7), sl7⟩)
    (c7 : PySem.W.codeIn K cd7 (Str.ofString "place_all") = true)
    (k7 : PySem.W.keepIn K (.ref f7) = true)
    (a8 : PySem.W.nsIn K mainGlobals "placed" = some (some (.ref f8)))
    (l8 : K.lookup f8 = some ⟨oc8, od8, .func (PySem.W.fnOf (Str.ofString "placed") (Str.ofString "placed") (defArgs st_placed) (defBody st_placed) (defScope st_placed) .none kV8 dc8 pm8 an8 cd8 ct8), sl8⟩)
    (c8 : PySem.W.codeIn K cd8 (Str.ofString "placed") = true)
    (k8 : PySem.W.keepIn K (.ref f8) = true)
    (a9 : PySem.W.nsIn K mainGlobals "require_counts" = some (some (.ref f9)))
    (l9 : K.lookup f9 = some ⟨oc9, od9, .func (PySem.W.fnOf (Str.ofString "require_counts") (Str.ofString "require_counts") (defArgs st_require_counts) (defBody st_require_counts) (defScope st_require_counts) .none kV9 dc9 pm9 an9 cd9 ct9), sl9⟩)
    (c9 : PySem.W.codeIn K cd9 (Str.ofString "require_counts") = true)
    (k9 : PySem.W.keepIn K (.ref f9) = true)
    (a10 : PySem.W.nsIn K mainGlobals "fewest_of" = some (some (.ref f10)))
    (l10 : K.lookup f10 = some ⟨oc10, od10, .func (PySem.W.fnOf (Str.ofString "fewest_of") (Str.ofString "fewest_of") (defArgs st_fewest_of) (defBody st_fewest_of) (defScope st_fewest_of) .none kV10 dc10 pm10 an10 cd10 ct10), sl10⟩)
    (c10 : PySem.W.codeIn K cd10 (Str.ofString "fewest_of") = true)
    (k10 : PySem.W.keepIn K (.ref f10) = true)
    (a11 : PySem.W.nsIn K mainGlobals "most_of" = some (some (.ref f11)))
    (l11 : K.lookup f11 = some ⟨oc11, od11, .func (PySem.W.fnOf (Str.ofString "most_of") (Str.ofString "most_of") (defArgs st_most_of) (defBody st_most_of) (defScope st_most_of) .none kV11 dc11 pm11 an11 cd11 ct11), sl11⟩)
    (c11 : PySem.W.codeIn K cd11 (Str.ofString "most_of") = true)
    (k11 : PySem.W.keepIn K (.ref f11) = true)
    (a12 : PySem.W.nsIn K mainGlobals "fewest_placing" = some (some (.ref f12)))
    (l12 : K.lookup f12 = some ⟨oc12, od12, .func (PySem.W.fnOf (Str.ofString "fewest_placing") (Str.ofString "fewest_placing") (defArgs st_fewest_placing) (defBody st_fewest_placing) (defScope st_fewest_placing) .none kV12 dc12 pm12 an12 cd12 ct12), sl12⟩)
    (c12 : PySem.W.codeIn K cd12 (Str.ofString "fewest_placing") = true)
    (k12 : PySem.W.keepIn K (.ref f12) = true)
    (a13 : PySem.W.nsIn K mainGlobals "most_placing" = some (some (.ref f13)))
    (l13 : K.lookup f13 = some ⟨oc13, od13, .func (PySem.W.fnOf (Str.ofString "most_placing") (Str.ofString "most_placing") (defArgs st_most_placing) (defBody st_most_placing) (defScope st_most_placing) .none kV13 dc13 pm13 an13 cd13 ct13), sl13⟩)
    (c13 : PySem.W.codeIn K cd13 (Str.ofString "most_placing") = true)
    (k13 : PySem.W.keepIn K (.ref f13) = true)
    (a14 : PySem.W.nsIn K mainGlobals "keys_of" = some (some (.ref f14)))
    (l14 : K.lookup f14 = some ⟨oc14, od14, .func (PySem.W.fnOf (Str.ofString "keys_of") (Str.ofString "keys_of") (defArgs st_keys_of) (defBody st_keys_of) (defScope st_keys_of) .none kV14 dc14 pm14 an14 cd14 ct14), sl14⟩)
    (c14 : PySem.W.codeIn K cd14 (Str.ofString "keys_of") = true)
    (k14 : PySem.W.keepIn K (.ref f14) = true)
    (a15 : PySem.W.nsIn K mainGlobals "easy_keys" = some (some (.ref f15)))
    (l15 : K.lookup f15 = some ⟨oc15, od15, .func (PySem.W.fnOf (Str.ofString "easy_keys") (Str.ofString "easy_keys") (defArgs st_easy_keys) (defBody st_easy_keys) (defScope st_easy_keys) .none kV15 dc15 pm15 an15 cd15 ct15), sl15⟩)
    (c15 : PySem.W.codeIn K cd15 (Str.ofString "easy_keys") = true)
    (k15 : PySem.W.keepIn K (.ref f15) = true)
    (a16 : PySem.W.nsIn K mainGlobals "hard_keys" = some (some (.ref f16)))
    (l16 : K.lookup f16 = some ⟨oc16, od16, .func (PySem.W.fnOf (Str.ofString "hard_keys") (Str.ofString "hard_keys") (defArgs st_hard_keys) (defBody st_hard_keys) (defScope st_hard_keys) .none kV16 dc16 pm16 an16 cd16 ct16), sl16⟩)
    (c16 : PySem.W.codeIn K cd16 (Str.ofString "hard_keys") = true)
    (k16 : PySem.W.keepIn K (.ref f16) = true)
    (a17 : PySem.W.nsIn K mainGlobals "_law_source" = some (some (.ref f17)))
    (l17 : K.lookup f17 = some ⟨oc17, od17, .func (PySem.W.fnOf (Str.ofString "_law_source") (Str.ofString "_law_source") (defArgs st__law_source) (defBody st__law_source) (defScope st__law_source) .none kV17 dc17 pm17 an17 cd17 ct17), sl17⟩)
    (c17 : PySem.W.codeIn K cd17 (Str.ofString "_law_source") = true)
    (k17 : PySem.W.keepIn K (.ref f17) = true)
    (a18 : PySem.W.nsIn K mainGlobals "_law_draw" = some (some (.ref f18)))
    (l18 : K.lookup f18 = some ⟨oc18, od18, .func (PySem.W.fnOf (Str.ofString "_law_draw") (Str.ofString "_law_draw") (defArgs st__law_draw) (defBody st__law_draw) (defScope st__law_draw) .none kV18 dc18 pm18 an18 cd18 ct18), sl18⟩)
    (c18 : PySem.W.codeIn K cd18 (Str.ofString "_law_draw") = true)
    (k18 : PySem.W.keepIn K (.ref f18) = true)
    (a19 : PySem.W.nsIn K mainGlobals "_law_pick" = some (some (.ref f19)))
    (l19 : K.lookup f19 = some ⟨oc19, od19, .func (PySem.W.fnOf (Str.ofString "_law_pick") (Str.ofString "_law_pick") (defArgs st__law_pick) (defBody st__law_pick) (defScope st__law_pick) .none kV19 dc19 pm19 an19 cd19 ct19), sl19⟩)
    (c19 : PySem.W.codeIn K cd19 (Str.ofString "_law_pick") = true)
    (k19 : PySem.W.keepIn K (.ref f19) = true)
    (a20 : PySem.W.nsIn K mainGlobals "_law_keys" = some (some (.ref f20)))
    (l20 : K.lookup f20 = some ⟨oc20, od20, .func (PySem.W.fnOf (Str.ofString "_law_keys") (Str.ofString "_law_keys") (defArgs st__law_keys) (defBody st__law_keys) (defScope st__law_keys) .none kV20 dc20 pm20 an20 cd20 ct20), sl20⟩)
    (c20 : PySem.W.codeIn K cd20 (Str.ofString "_law_keys") = true)
    (k20 : PySem.W.keepIn K (.ref f20) = true)
    (a21 : PySem.W.nsIn K mainGlobals "_law_spots" = some (some (.ref f21)))
    (l21 : K.lookup f21 = some ⟨oc21, od21, .func (PySem.W.fnOf (Str.ofString "_law_spots") (Str.ofString "_law_spots") (defArgs st__law_spots) (defBody st__law_spots) (defScope st__law_spots) .none kV21 dc21 pm21 an21 cd21 ct21), sl21⟩)
    (c21 : PySem.W.codeIn K cd21 (Str.ofString "_law_spots") = true)
    (k21 : PySem.W.keepIn K (.ref f21) = true)
    (a22 : PySem.W.nsIn K mainGlobals "_law_ways" = some (some (.ref f22)))
    (l22 : K.lookup f22 = some ⟨oc22, od22, .func (PySem.W.fnOf (Str.ofString "_law_ways") (Str.ofString "_law_ways") (defArgs st__law_ways) (defBody st__law_ways) (defScope st__law_ways) .none kV22 dc22 pm22 an22 cd22 ct22), sl22⟩)
    (c22 : PySem.W.codeIn K cd22 (Str.ofString "_law_ways") = true)
    (k22 : PySem.W.keepIn K (.ref f22) = true)
    (a23 : PySem.W.nsIn K mainGlobals "_law_is_rising" = some (some (.ref f23)))
    (l23 : K.lookup f23 = some ⟨oc23, od23, .func (PySem.W.fnOf (Str.ofString "_law_is_rising") (Str.ofString "_law_is_rising") (defArgs st__law_is_rising) (defBody st__law_is_rising) (defScope st__law_is_rising) .none kV23 dc23 pm23 an23 cd23 ct23), sl23⟩)
    (c23 : PySem.W.codeIn K cd23 (Str.ofString "_law_is_rising") = true)
    (k23 : PySem.W.keepIn K (.ref f23) = true)
    (a24 : PySem.W.nsIn K mainGlobals "_law_right" = some (some (.ref f24)))
    (l24 : K.lookup f24 = some ⟨oc24, od24, .func (PySem.W.fnOf (Str.ofString "_law_right") (Str.ofString "_law_right") (defArgs st__law_right) (defBody st__law_right) (defScope st__law_right) .none kV24 dc24 pm24 an24 cd24 ct24), sl24⟩)
    (c24 : PySem.W.codeIn K cd24 (Str.ofString "_law_right") = true)
    (k24 : PySem.W.keepIn K (.ref f24) = true)
    (a25 : PySem.W.nsIn K mainGlobals "law" = some (some (.ref f25)))
    (l25 : K.lookup f25 = some ⟨oc25, od25, .func (PySem.W.fnOf (Str.ofString "law") (Str.ofString "law") (defArgs st_law) (defBody st_law) (defScope st_law) .none kV25 dc25 pm25 an25 cd25 ct25), sl25⟩)
    (c25 : PySem.W.codeIn K cd25 (Str.ofString "law") = true)
    (k25 : PySem.W.keepIn K (.ref f25) = true)
    (nfHonestlog : PySem.W.findIn K (.ref C_Honest) (Str.ofString "log") = some none)
    (nfHonestmarks : PySem.W.findIn K (.ref C_Honest) (Str.ofString "marks") = some none)
    (xInvalidKeys : PySem.W.nsIn K mainGlobals "InvalidKeys" = some (some (.ref C_InvalidKeys)))
    (xlInvalidKeys : K.lookup C_InvalidKeys = some (excClassObj nmInvalidKeys qInvalidKeys C_InvalidKeys NInvalidKeys bsInvalidKeys [.ref S0, .type "ValueError", .type "Exception", .type "BaseException", .type "object"] true snInvalidKeys suInvalidKeys abInvalidKeys coInvalidKeys ddInvalidKeys m0InvalidKeys m1InvalidKeys m2InvalidKeys m3InvalidKeys m5InvalidKeys "ValueError.__new__"))
    (saInvalidKeys : PySem.W.findIn K (.ref C_InvalidKeys) "__setattr__" = some (some (.builtin "object.__setattr__")))
    (exInvalidKeys : PySem.W.subIn K (.ref C_InvalidKeys) (.type "BaseException") = some true)
    (tyInvalidKeys : PySem.W.typeIn K (.ref C_InvalidKeys) = some (.type "type"))
    (kcInvalidKeys : PySem.W.keepIn K (.ref C_InvalidKeys) = true)
    (nfInvalidKeys : PySem.W.findIn K (.ref C_InvalidKeys) (Str.ofString "index") = some none)
    (inInvalidKeys : PySem.W.findIn K (.ref C_InvalidKeys) "__init__" = some (some (.ref fIInvalidKeys)))
    (tfInvalidKeys : PySem.W.typeIn K (.ref fIInvalidKeys) = some (.type "function"))
    (lIInvalidKeys : K.lookup fIInvalidKeys = some ⟨ocInvalidKeys, odInvalidKeys, .func (PySem.W.fnOf "__init__" (Str.ofString "InvalidKeys.__init__") (defArgs st_InvalidKeys) (defBody st_InvalidKeys) (defScope st_InvalidKeys) .none kVInvalidKeys dcInvalidKeys pmInvalidKeys anInvalidKeys cdInvalidKeys ctInvalidKeys), slInvalidKeys⟩)
    (cIInvalidKeys : PySem.W.codeIn K cdInvalidKeys (Str.ofString "InvalidKeys.__init__") = true)
    (xInvalidNumber : PySem.W.nsIn K mainGlobals "InvalidNumber" = some (some (.ref C_InvalidNumber)))
    (xlInvalidNumber : K.lookup C_InvalidNumber = some (excClassObj nmInvalidNumber qInvalidNumber C_InvalidNumber NInvalidNumber bsInvalidNumber [.ref S0, .type "ValueError", .type "Exception", .type "BaseException", .type "object"] true snInvalidNumber suInvalidNumber abInvalidNumber coInvalidNumber ddInvalidNumber m0InvalidNumber m1InvalidNumber m2InvalidNumber m3InvalidNumber m5InvalidNumber "ValueError.__new__"))
    (saInvalidNumber : PySem.W.findIn K (.ref C_InvalidNumber) "__setattr__" = some (some (.builtin "object.__setattr__")))
    (exInvalidNumber : PySem.W.subIn K (.ref C_InvalidNumber) (.type "BaseException") = some true)
    (tyInvalidNumber : PySem.W.typeIn K (.ref C_InvalidNumber) = some (.type "type"))
    (kcInvalidNumber : PySem.W.keepIn K (.ref C_InvalidNumber) = true)
    (nfInvalidNumber : PySem.W.findIn K (.ref C_InvalidNumber) (Str.ofString "name") = some none)
    (inInvalidNumber : PySem.W.findIn K (.ref C_InvalidNumber) "__init__" = some (some (.ref fIInvalidNumber)))
    (tfInvalidNumber : PySem.W.typeIn K (.ref fIInvalidNumber) = some (.type "function"))
    (lIInvalidNumber : K.lookup fIInvalidNumber = some ⟨ocInvalidNumber, odInvalidNumber, .func (PySem.W.fnOf "__init__" (Str.ofString "InvalidNumber.__init__") (defArgs st_InvalidNumber) (defBody st_InvalidNumber) (defScope st_InvalidNumber) .none kVInvalidNumber dcInvalidNumber pmInvalidNumber anInvalidNumber cdInvalidNumber ctInvalidNumber), slInvalidNumber⟩)
    (cIInvalidNumber : PySem.W.codeIn K cdInvalidNumber (Str.ofString "InvalidNumber.__init__") = true)
    (hb_abs : PySem.W.nsIn K mainGlobals "abs" = some none)
    (hb_bool : PySem.W.nsIn K mainGlobals "bool" = some none)
    (hb_enumerate : PySem.W.nsIn K mainGlobals "enumerate" = some none)
    (hb_int : PySem.W.nsIn K mainGlobals "int" = some none)
    (hb_isinstance : PySem.W.nsIn K mainGlobals "isinstance" = some none)
    (hb_len : PySem.W.nsIn K mainGlobals "len" = some none)
    (hb_list : PySem.W.nsIn K mainGlobals "list" = some none)
    (hb_max : PySem.W.nsIn K mainGlobals "max" = some none)
    (hb_min : PySem.W.nsIn K mainGlobals "min" = some none)
    (hb_range : PySem.W.nsIn K mainGlobals "range" = some none)
    (hb_sorted : PySem.W.nsIn K mainGlobals "sorted" = some none)
    (hb_sum : PySem.W.nsIn K mainGlobals "sum" = some none)
    (hb_tuple : PySem.W.nsIn K mainGlobals "tuple" = some none)
    (hg_MAX_PLACED : PySem.W.nsIn K mainGlobals "MAX_PLACED" = some (some (.int 64 t_MAX_PLACED))) :
    ∃ fd : FuncData, (∀ (s : Shared) (v : Value), BindsTo s fd ⟨[v], []⟩ [(Str.ofString "script", v)]) ∧ ∀ base : Heap, K.In base → base.Ns mainGlobals mg → FnOk P w K mg base (CX P w) (2 * depth + 1) fa fd [Str.ofString "script"] spLaw := by
  have e : f25 = fa := by
    have e := hfa.symm.trans (PySem.W.mg_of X Gn a25)
    injection e with e
    injection e with e
    exact e.symm
  subst e
  let T : Tab := [(("Honest", "__init__"), f0, (PySem.W.fnOf (Str.ofString "__init__") (Str.ofString "Honest.__init__") (defArgs st_Honest_init) (defBody st_Honest_init) (defScope st_Honest_init) .none kV0 dc0 pm0 an0 cd0 ct0), ["self", "keys"]), (("Honest", "less"), f1, (PySem.W.fnOf (Str.ofString "less") (Str.ofString "Honest.less") (defArgs st_Honest_less) (defBody st_Honest_less) (defScope st_Honest_less) .none kV1 dc1 pm1 an1 cd1 ct1), ["self", "one", "other"]), (("", "is_integer"), f2, (PySem.W.fnOf (Str.ofString "is_integer") (Str.ofString "is_integer") (defArgs st_is_integer) (defBody st_is_integer) (defScope st_is_integer) .none kV2 dc2 pm2 an2 cd2 ct2), ["value"]), (("", "is_between"), f3, (PySem.W.fnOf (Str.ofString "is_between") (Str.ofString "is_between") (defArgs st_is_between) (defBody st_is_between) (defScope st_is_between) .none kV3 dc3 pm3 an3 cd3 ct3), ["value", "low", "high"]), (("", "require_keys"), f4, (PySem.W.fnOf (Str.ofString "require_keys") (Str.ofString "require_keys") (defArgs st_require_keys) (defBody st_require_keys) (defScope st_require_keys) (.ref T4) kV4 dc4 pm4 an4 cd4 ct4), ["keys", "most"]), (("", "require_number"), f5, (PySem.W.fnOf (Str.ofString "require_number") (Str.ofString "require_number") (defArgs st_require_number) (defBody st_require_number) (defScope st_require_number) .none kV5 dc5 pm5 an5 cd5 ct5), ["name", "value", "low", "high"]), (("", "place_one"), f6, (PySem.W.fnOf (Str.ofString "place_one") (Str.ofString "place_one") (defArgs st_place_one) (defBody st_place_one) (defScope st_place_one) .none kV6 dc6 pm6 an6 cd6 ct6), ["row", "start", "index", "asker"]), (("", "place_all"), f7, (PySem.W.fnOf (Str.ofString "place_all") (Str.ofString "place_all") (defArgs st_place_all) (defBody st_place_all) (defScope st_place_all) .none kV7 dc7 pm7 an7 cd7 ct7), ["row", "start", "end", "ready", "asker"]), (("", "placed"), f8, (PySem.W.fnOf (Str.ofString "placed") (Str.ofString "placed") (defArgs st_placed) (defBody st_placed) (defScope st_placed) .none kV8 dc8 pm8 an8 cd8 ct8), ["keys", "ready"]), (("", "require_counts"), f9, (PySem.W.fnOf (Str.ofString "require_counts") (Str.ofString "require_counts") (defArgs st_require_counts) (defBody st_require_counts) (defScope st_require_counts) .none kV9 dc9 pm9 an9 cd9 ct9), ["many", "ready"]), (("", "fewest_of"), f10, (PySem.W.fnOf (Str.ofString "fewest_of") (Str.ofString "fewest_of") (defArgs st_fewest_of) (defBody st_fewest_of) (defScope st_fewest_of) .none kV10 dc10 pm10 an10 cd10 ct10), ["index"]), (("", "most_of"), f11, (PySem.W.fnOf (Str.ofString "most_of") (Str.ofString "most_of") (defArgs st_most_of) (defBody st_most_of) (defScope st_most_of) .none kV11 dc11 pm11 an11 cd11 ct11), ["index"]), (("", "fewest_placing"), f12, (PySem.W.fnOf (Str.ofString "fewest_placing") (Str.ofString "fewest_placing") (defArgs st_fewest_placing) (defBody st_fewest_placing) (defScope st_fewest_placing) .none kV12 dc12 pm12 an12 cd12 ct12), ["many", "ready"]), (("", "most_placing"), f13, (PySem.W.fnOf (Str.ofString "most_placing") (Str.ofString "most_placing") (defArgs st_most_placing) (defBody st_most_placing) (defScope st_most_placing) .none kV13 dc13 pm13 an13 cd13 ct13), ["many", "ready"]), (("", "keys_of"), f14, (PySem.W.fnOf (Str.ofString "keys_of") (Str.ofString "keys_of") (defArgs st_keys_of) (defBody st_keys_of) (defScope st_keys_of) .none kV14 dc14 pm14 an14 cd14 ct14), ["row"]), (("", "easy_keys"), f15, (PySem.W.fnOf (Str.ofString "easy_keys") (Str.ofString "easy_keys") (defArgs st_easy_keys) (defBody st_easy_keys) (defScope st_easy_keys) .none kV15 dc15 pm15 an15 cd15 ct15), ["many", "ready"]), (("", "hard_keys"), f16, (PySem.W.fnOf (Str.ofString "hard_keys") (Str.ofString "hard_keys") (defArgs st_hard_keys) (defBody st_hard_keys) (defScope st_hard_keys) .none kV16 dc16 pm16 an16 cd16 ct16), ["many", "ready"]), (("", "_law_source"), f17, (PySem.W.fnOf (Str.ofString "_law_source") (Str.ofString "_law_source") (defArgs st__law_source) (defBody st__law_source) (defScope st__law_source) .none kV17 dc17 pm17 an17 cd17 ct17), ["cell"]), (("", "_law_draw"), f18, (PySem.W.fnOf (Str.ofString "_law_draw") (Str.ofString "_law_draw") (defArgs st__law_draw) (defBody st__law_draw) (defScope st__law_draw) .none kV18 dc18 pm18 an18 cd18 ct18), ["source", "size"]), (("", "_law_pick"), f19, (PySem.W.fnOf (Str.ofString "_law_pick") (Str.ofString "_law_pick") (defArgs st__law_pick) (defBody st__law_pick) (defScope st__law_pick) .none kV19 dc19 pm19 an19 cd19 ct19), ["source", "items"]), (("", "_law_keys"), f20, (PySem.W.fnOf (Str.ofString "_law_keys") (Str.ofString "_law_keys") (defArgs st__law_keys) (defBody st__law_keys) (defScope st__law_keys) .none kV20 dc20 pm20 an20 cd20 ct20), ["source", "size"]), (("", "_law_spots"), f21, (PySem.W.fnOf (Str.ofString "_law_spots") (Str.ofString "_law_spots") (defArgs st__law_spots) (defBody st__law_spots) (defScope st__law_spots) .none kV21 dc21 pm21 an21 cd21 ct21), ["index", "place"]), (("", "_law_ways"), f22, (PySem.W.fnOf (Str.ofString "_law_ways") (Str.ofString "_law_ways") (defArgs st__law_ways) (defBody st__law_ways) (defScope st__law_ways) .none kV22 dc22 pm22 an22 cd22 ct22), ["index"]), (("", "_law_is_rising"), f23, (PySem.W.fnOf (Str.ofString "_law_is_rising") (Str.ofString "_law_is_rising") (defArgs st__law_is_rising) (defBody st__law_is_rising) (defScope st__law_is_rising) .none kV23 dc23 pm23 an23 cd23 ct23), ["given", "first"]), (("", "_law_right"), f24, (PySem.W.fnOf (Str.ofString "_law_right") (Str.ofString "_law_right") (defArgs st__law_right) (defBody st__law_right) (defScope st__law_right) .none kV24 dc24 pm24 an24 cd24 ct24), ["size", "first", "ways"]), (("", "law"), f25, (PySem.W.fnOf (Str.ofString "law") (Str.ofString "law") (defArgs st_law) (defBody st_law) (defScope st_law) .none kV25 dc25 pm25 an25 cd25 ct25), ["script"])]
  let CA : String → Addr := fun c => (([("Honest", C_Honest), ("InvalidKeys", C_InvalidKeys), ("InvalidNumber", C_InvalidNumber)] : List (String × Addr)).lookup c).getD 0
  let L : Lw := lwOf (fun _ => 0) CA T
  have D0 : ∀ h0 H0, DF (L.at_ h0 H0) K "Honest" "__init__" "Honest.__init__" st_Honest_init ["self", "keys"] [] f0 := fun h0 H0 => ⟨⟨oc0, od0, an0, .none, kV0, dc0, pm0, cd0, ct0, sl0, rfl, l0, c0, .inl ⟨rfl, rfl⟩⟩, k0⟩
  have D1 : ∀ h0 H0, DF (L.at_ h0 H0) K "Honest" "less" "Honest.less" st_Honest_less ["self", "one", "other"] [] f1 := fun h0 H0 => ⟨⟨oc1, od1, an1, .none, kV1, dc1, pm1, cd1, ct1, sl1, rfl, l1, c1, .inl ⟨rfl, rfl⟩⟩, k1⟩
  have D2 : ∀ h0 H0, DF (L.at_ h0 H0) K "" "is_integer" "is_integer" st_is_integer ["value"] [] f2 := fun h0 H0 => ⟨⟨oc2, od2, an2, .none, kV2, dc2, pm2, cd2, ct2, sl2, rfl, l2, c2, .inl ⟨rfl, rfl⟩⟩, k2⟩
  have D3 : ∀ h0 H0, DF (L.at_ h0 H0) K "" "is_between" "is_between" st_is_between ["value", "low", "high"] [] f3 := fun h0 H0 => ⟨⟨oc3, od3, an3, .none, kV3, dc3, pm3, cd3, ct3, sl3, rfl, l3, c3, .inl ⟨rfl, rfl⟩⟩, k3⟩
  have D4 : ∀ h0 H0, DF (L.at_ h0 H0) K "" "require_keys" "require_keys" st_require_keys ["keys", "most"] [.int 2000] f4 := fun h0 H0 => ⟨⟨oc4, od4, an4, (.ref T4), kV4, dc4, pm4, cd4, ct4, sl4, rfl, l4, c4, .inr ⟨by simp, T4, _, [.int 2000 tk4_0], nT4, rfl, lT4, rfl, (.cons ⟨_, rfl⟩ .nil)⟩⟩, k4⟩
  have D5 : ∀ h0 H0, DF (L.at_ h0 H0) K "" "require_number" "require_number" st_require_number ["name", "value", "low", "high"] [] f5 := fun h0 H0 => ⟨⟨oc5, od5, an5, .none, kV5, dc5, pm5, cd5, ct5, sl5, rfl, l5, c5, .inl ⟨rfl, rfl⟩⟩, k5⟩
  have D6 : ∀ h0 H0, DF (L.at_ h0 H0) K "" "place_one" "place_one" st_place_one ["row", "start", "index", "asker"] [] f6 := fun h0 H0 => ⟨⟨oc6, od6, an6, .none, kV6, dc6, pm6, cd6, ct6, sl6, rfl, l6, c6, .inl ⟨rfl, rfl⟩⟩, k6⟩
  have D7 : ∀ h0 H0, DF (L.at_ h0 H0) K "" "place_all" "place_all" st_place_all ["row", "start", "end", "ready", "asker"] [] f7 := fun h0 H0 => ⟨⟨oc7, od7, an7, .none, kV7, dc7, pm7, cd7, ct7, sl7, rfl, l7, c7, .inl ⟨rfl, rfl⟩⟩, k7⟩
  have D8 : ∀ h0 H0, DF (L.at_ h0 H0) K "" "placed" "placed" st_placed ["keys", "ready"] [] f8 := fun h0 H0 => ⟨⟨oc8, od8, an8, .none, kV8, dc8, pm8, cd8, ct8, sl8, rfl, l8, c8, .inl ⟨rfl, rfl⟩⟩, k8⟩
  have D9 : ∀ h0 H0, DF (L.at_ h0 H0) K "" "require_counts" "require_counts" st_require_counts ["many", "ready"] [] f9 := fun h0 H0 => ⟨⟨oc9, od9, an9, .none, kV9, dc9, pm9, cd9, ct9, sl9, rfl, l9, c9, .inl ⟨rfl, rfl⟩⟩, k9⟩
  have D10 : ∀ h0 H0, DF (L.at_ h0 H0) K "" "fewest_of" "fewest_of" st_fewest_of ["index"] [] f10 := fun h0 H0 => ⟨⟨oc10, od10, an10, .none, kV10, dc10, pm10, cd10, ct10, sl10, rfl, l10, c10, .inl ⟨rfl, rfl⟩⟩, k10⟩
  have D11 : ∀ h0 H0, DF (L.at_ h0 H0) K "" "most_of" "most_of" st_most_of ["index"] [] f11 := fun h0 H0 => ⟨⟨oc11, od11, an11, .none, kV11, dc11, pm11, cd11, ct11, sl11, rfl, l11, c11, .inl ⟨rfl, rfl⟩⟩, k11⟩
  have D12 : ∀ h0 H0, DF (L.at_ h0 H0) K "" "fewest_placing" "fewest_placing" st_fewest_placing ["many", "ready"] [] f12 := fun h0 H0 => ⟨⟨oc12, od12, an12, .none, kV12, dc12, pm12, cd12, ct12, sl12, rfl, l12, c12, .inl ⟨rfl, rfl⟩⟩, k12⟩
  have D13 : ∀ h0 H0, DF (L.at_ h0 H0) K "" "most_placing" "most_placing" st_most_placing ["many", "ready"] [] f13 := fun h0 H0 => ⟨⟨oc13, od13, an13, .none, kV13, dc13, pm13, cd13, ct13, sl13, rfl, l13, c13, .inl ⟨rfl, rfl⟩⟩, k13⟩
  have D14 : ∀ h0 H0, DF (L.at_ h0 H0) K "" "keys_of" "keys_of" st_keys_of ["row"] [] f14 := fun h0 H0 => ⟨⟨oc14, od14, an14, .none, kV14, dc14, pm14, cd14, ct14, sl14, rfl, l14, c14, .inl ⟨rfl, rfl⟩⟩, k14⟩
  have D15 : ∀ h0 H0, DF (L.at_ h0 H0) K "" "easy_keys" "easy_keys" st_easy_keys ["many", "ready"] [] f15 := fun h0 H0 => ⟨⟨oc15, od15, an15, .none, kV15, dc15, pm15, cd15, ct15, sl15, rfl, l15, c15, .inl ⟨rfl, rfl⟩⟩, k15⟩
  have D16 : ∀ h0 H0, DF (L.at_ h0 H0) K "" "hard_keys" "hard_keys" st_hard_keys ["many", "ready"] [] f16 := fun h0 H0 => ⟨⟨oc16, od16, an16, .none, kV16, dc16, pm16, cd16, ct16, sl16, rfl, l16, c16, .inl ⟨rfl, rfl⟩⟩, k16⟩
  have D17 : ∀ h0 H0, DF (L.at_ h0 H0) K "" "_law_source" "_law_source" st__law_source ["cell"] [] f17 := fun h0 H0 => ⟨⟨oc17, od17, an17, .none, kV17, dc17, pm17, cd17, ct17, sl17, rfl, l17, c17, .inl ⟨rfl, rfl⟩⟩, k17⟩
  have D18 : ∀ h0 H0, DF (L.at_ h0 H0) K "" "_law_draw" "_law_draw" st__law_draw ["source", "size"] [] f18 := fun h0 H0 => ⟨⟨oc18, od18, an18, .none, kV18, dc18, pm18, cd18, ct18, sl18, rfl, l18, c18, .inl ⟨rfl, rfl⟩⟩, k18⟩
  have D19 : ∀ h0 H0, DF (L.at_ h0 H0) K "" "_law_pick" "_law_pick" st__law_pick ["source", "items"] [] f19 := fun h0 H0 => ⟨⟨oc19, od19, an19, .none, kV19, dc19, pm19, cd19, ct19, sl19, rfl, l19, c19, .inl ⟨rfl, rfl⟩⟩, k19⟩
  have D20 : ∀ h0 H0, DF (L.at_ h0 H0) K "" "_law_keys" "_law_keys" st__law_keys ["source", "size"] [] f20 := fun h0 H0 => ⟨⟨oc20, od20, an20, .none, kV20, dc20, pm20, cd20, ct20, sl20, rfl, l20, c20, .inl ⟨rfl, rfl⟩⟩, k20⟩
  have D21 : ∀ h0 H0, DF (L.at_ h0 H0) K "" "_law_spots" "_law_spots" st__law_spots ["index", "place"] [] f21 := fun h0 H0 => ⟨⟨oc21, od21, an21, .none, kV21, dc21, pm21, cd21, ct21, sl21, rfl, l21, c21, .inl ⟨rfl, rfl⟩⟩, k21⟩
  have D22 : ∀ h0 H0, DF (L.at_ h0 H0) K "" "_law_ways" "_law_ways" st__law_ways ["index"] [] f22 := fun h0 H0 => ⟨⟨oc22, od22, an22, .none, kV22, dc22, pm22, cd22, ct22, sl22, rfl, l22, c22, .inl ⟨rfl, rfl⟩⟩, k22⟩
  have D23 : ∀ h0 H0, DF (L.at_ h0 H0) K "" "_law_is_rising" "_law_is_rising" st__law_is_rising ["given", "first"] [] f23 := fun h0 H0 => ⟨⟨oc23, od23, an23, .none, kV23, dc23, pm23, cd23, ct23, sl23, rfl, l23, c23, .inl ⟨rfl, rfl⟩⟩, k23⟩
  have D24 : ∀ h0 H0, DF (L.at_ h0 H0) K "" "_law_right" "_law_right" st__law_right ["size", "first", "ways"] [] f24 := fun h0 H0 => ⟨⟨oc24, od24, an24, .none, kV24, dc24, pm24, cd24, ct24, sl24, rfl, l24, c24, .inl ⟨rfl, rfl⟩⟩, k24⟩
  have D25 : ∀ h0 H0, DF (L.at_ h0 H0) K "" "law" "law" st_law ["script"] [] f25 := fun h0 H0 => ⟨⟨oc25, od25, an25, .none, kV25, dc25, pm25, cd25, ct25, sl25, rfl, l25, c25, .inl ⟨rfl, rfl⟩⟩, k25⟩
  refine ⟨(PySem.W.fnOf (Str.ofString "law") (Str.ofString "law") (defArgs st_law) (defBody st_law) (defScope st_law) .none kV25 dc25 pm25 an25 cd25 ct25), fun s v => .of_eq rfl, fun base _ _ => ?_⟩
  have G : ∀ h0 H0, Gx (L.at_ h0 H0) P w K mg base := fun h0 H0 => ⟨PySem.W.mg_none_of X Gn hb_abs,
    PySem.W.mg_none_of X Gn hb_bool,
    PySem.W.mg_none_of X Gn hb_enumerate,
    PySem.W.mg_none_of X Gn hb_int,
    PySem.W.mg_none_of X Gn hb_isinstance,
    PySem.W.mg_none_of X Gn hb_len,
    PySem.W.mg_none_of X Gn hb_list,
    PySem.W.mg_none_of X Gn hb_max,
    PySem.W.mg_none_of X Gn hb_min,
    PySem.W.mg_none_of X Gn hb_range,
    PySem.W.mg_none_of X Gn hb_sorted,
    PySem.W.mg_none_of X Gn hb_sum,
    PySem.W.mg_none_of X Gn hb_tuple,
    ⟨t_MAX_PLACED, PySem.W.mg_of X Gn hg_MAX_PLACED⟩,
    (D2 h0 H0).call (PySem.W.mg_of X Gn a2) ((D2 h0 H0).shp [.inl 0] rfl fun _ _ _ _ _ _ us ws l1 l2 => match us, l1, ws, l2 with | [_], _, [], _ => rfl),
    (D3 h0 H0).call (PySem.W.mg_of X Gn a3) ((D3 h0 H0).shp [.inl 0, .inl 1, .inl 2] rfl fun _ _ _ _ _ _ us ws l1 l2 => match us, l1, ws, l2 with | [_, _, _], _, [], _ => rfl),
    (D6 h0 H0).call (PySem.W.mg_of X Gn a6) ((D6 h0 H0).shp [.inl 0, .inl 1, .inl 2, .inl 3] rfl fun _ _ _ _ _ _ us ws l1 l2 => match us, l1, ws, l2 with | [_, _, _, _], _, [], _ => rfl),
    (D4 h0 H0).call (PySem.W.mg_of X Gn a4) ((D4 h0 H0).shpD [.inl 0, .inl 1] rfl (by simp) fun _ _ _ _ _ _ _ us ws its l1 l2 l3 => match us, l1, ws, l2, its, l3 with | [_, _], _, [], _, [_], _ => ⟨_, rfl, rfl⟩),
    (D5 h0 H0).call (PySem.W.mg_of X Gn a5) ((D5 h0 H0).shp [.inl 0, .inl 1, .inl 2, .inl 3] rfl fun _ _ _ _ _ _ us ws l1 l2 => match us, l1, ws, l2 with | [_, _, _, _], _, [], _ => rfl),
    (D7 h0 H0).call (PySem.W.mg_of X Gn a7) ((D7 h0 H0).shp [.inl 0, .inl 1, .inl 2, .inl 3, .inl 4] rfl fun _ _ _ _ _ _ us ws l1 l2 => match us, l1, ws, l2 with | [_, _, _, _, _], _, [], _ => rfl),
    (D9 h0 H0).call (PySem.W.mg_of X Gn a9) ((D9 h0 H0).shp [.inl 0, .inl 1] rfl fun _ _ _ _ _ _ us ws l1 l2 => match us, l1, ws, l2 with | [_, _], _, [], _ => rfl),
    (D10 h0 H0).call (PySem.W.mg_of X Gn a10) ((D10 h0 H0).shp [.inl 0] rfl fun _ _ _ _ _ _ us ws l1 l2 => match us, l1, ws, l2 with | [_], _, [], _ => rfl),
    (D11 h0 H0).call (PySem.W.mg_of X Gn a11) ((D11 h0 H0).shp [.inl 0] rfl fun _ _ _ _ _ _ us ws l1 l2 => match us, l1, ws, l2 with | [_], _, [], _ => rfl),
    (D14 h0 H0).call (PySem.W.mg_of X Gn a14) ((D14 h0 H0).shp [.inl 0] rfl fun _ _ _ _ _ _ us ws l1 l2 => match us, l1, ws, l2 with | [_], _, [], _ => rfl),
    (D18 h0 H0).call (PySem.W.mg_of X Gn a18) ((D18 h0 H0).shp [.inl 0, .inl 1] rfl fun _ _ _ _ _ _ us ws l1 l2 => match us, l1, ws, l2 with | [_, _], _, [], _ => rfl),
    (D19 h0 H0).call (PySem.W.mg_of X Gn a19) ((D19 h0 H0).shp [.inl 0, .inl 1] rfl fun _ _ _ _ _ _ us ws l1 l2 => match us, l1, ws, l2 with | [_, _], _, [], _ => rfl),
    (D21 h0 H0).call (PySem.W.mg_of X Gn a21) ((D21 h0 H0).shp [.inl 0, .inl 1] rfl fun _ _ _ _ _ _ us ws l1 l2 => match us, l1, ws, l2 with | [_, _], _, [], _ => rfl),
    (D12 h0 H0).call (PySem.W.mg_of X Gn a12) ((D12 h0 H0).shp [.inl 0, .inl 1] rfl fun _ _ _ _ _ _ us ws l1 l2 => match us, l1, ws, l2 with | [_, _], _, [], _ => rfl),
    (D13 h0 H0).call (PySem.W.mg_of X Gn a13) ((D13 h0 H0).shp [.inl 1, .inl 0] rfl fun _ _ _ _ _ _ us ws l1 l2 => match us, l1, ws, l2 with | [], _, [_, _], _ => rfl),
    (D12 h0 H0).call (PySem.W.mg_of X Gn a12) ((D12 h0 H0).shp [.inl 1, .inl 0] rfl fun _ _ _ _ _ _ us ws l1 l2 => match us, l1, ws, l2 with | [], _, [_, _], _ => rfl),
    (D13 h0 H0).call (PySem.W.mg_of X Gn a13) ((D13 h0 H0).shp [.inl 0, .inl 1] rfl fun _ _ _ _ _ _ us ws l1 l2 => match us, l1, ws, l2 with | [_, _], _, [], _ => rfl),
    (D16 h0 H0).call (PySem.W.mg_of X Gn a16) ((D16 h0 H0).shp [.inl 0, .inl 1] rfl fun _ _ _ _ _ _ us ws l1 l2 => match us, l1, ws, l2 with | [_, _], _, [], _ => rfl),
    (D15 h0 H0).call (PySem.W.mg_of X Gn a15) ((D15 h0 H0).shp [.inl 0, .inl 1] rfl fun _ _ _ _ _ _ us ws l1 l2 => match us, l1, ws, l2 with | [_, _], _, [], _ => rfl),
    (D23 h0 H0).call (PySem.W.mg_of X Gn a23) ((D23 h0 H0).shp [.inl 0, .inl 1] rfl fun _ _ _ _ _ _ us ws l1 l2 => match us, l1, ws, l2 with | [_, _], _, [], _ => rfl),
    (D8 h0 H0).call (PySem.W.mg_of X Gn a8) ((D8 h0 H0).shp [.inl 0, .inl 1] rfl fun _ _ _ _ _ _ us ws l1 l2 => match us, l1, ws, l2 with | [_, _], _, [], _ => rfl),
    (D15 h0 H0).call (PySem.W.mg_of X Gn a15) ((D15 h0 H0).shp [.inl 0, .inl 1] rfl fun _ _ _ _ _ _ us ws l1 l2 => match us, l1, ws, l2 with | [], _, [_, _], _ => rfl),
    (D16 h0 H0).call (PySem.W.mg_of X Gn a16) ((D16 h0 H0).shp [.inl 1, .inl 0] rfl fun _ _ _ _ _ _ us ws l1 l2 => match us, l1, ws, l2 with | [], _, [_, _], _ => rfl),
    (D22 h0 H0).call (PySem.W.mg_of X Gn a22) ((D22 h0 H0).shp [.inl 0] rfl fun _ _ _ _ _ _ us ws l1 l2 => match us, l1, ws, l2 with | [_], _, [], _ => rfl),
    (D24 h0 H0).call (PySem.W.mg_of X Gn a24) ((D24 h0 H0).shp [.inl 0, .inl 1, .inl 2] rfl fun _ _ _ _ _ _ us ws l1 l2 => match us, l1, ws, l2 with | [_, _, _], _, [], _ => rfl),
    (D17 h0 H0).call (PySem.W.mg_of X Gn a17) ((D17 h0 H0).shp [.inl 0] rfl fun _ _ _ _ _ _ us ws l1 l2 => match us, l1, ws, l2 with | [_], _, [], _ => rfl),
    (D20 h0 H0).call (PySem.W.mg_of X Gn a20) ((D20 h0 H0).shp [.inl 0, .inl 1] rfl fun _ _ _ _ _ _ us ws l1 l2 => match us, l1, ws, l2 with | [_, _], _, [], _ => rfl),
    (D0 h0 H0).make ⟨pgHonest, hdHonest, poHonest, saHonest⟩ mkHonest a0 i0 kcHonest ((D0 h0 H0).shp [.inl 0, .inl 1] rfl fun _ _ _ _ _ _ us ws l1 l2 => match us, l1, ws, l2 with | [_, _], _, [], _ => rfl),
    PySem.W.mg_of X Gn xHonest,
    (D1 h0 H0).meth a1 i1 ((D1 h0 H0).shp [.inl 0, .inl 1, .inl 2] rfl fun _ _ _ _ _ _ us ws l1 l2 => match us, l1, ws, l2 with | [_, _, _], _, [], _ => rfl),
    nfHonestlog,
    nfHonestmarks,
    ⟨fIInvalidKeys, _, _, ⟨⟨nmInvalidKeys, qInvalidKeys, NInvalidKeys, bsInvalidKeys, _, snInvalidKeys, suInvalidKeys, abInvalidKeys, coInvalidKeys, ddInvalidKeys, m0InvalidKeys, m1InvalidKeys, m2InvalidKeys, m3InvalidKeys, m5InvalidKeys, xlInvalidKeys, rfl⟩, saInvalidKeys, exInvalidKeys, tyInvalidKeys, kcInvalidKeys⟩, inInvalidKeys, tfInvalidKeys, err_ok rfl lIInvalidKeys cIInvalidKeys sc_InvalidKeys (fun A outer s H E => pb_InvalidKeys ⟨gB, rB, fB, PySem.W.mg_of X Gn sB⟩ A outer s H E) ⟨⟨nmInvalidKeys, qInvalidKeys, NInvalidKeys, bsInvalidKeys, _, snInvalidKeys, suInvalidKeys, abInvalidKeys, coInvalidKeys, ddInvalidKeys, m0InvalidKeys, m1InvalidKeys, m2InvalidKeys, m3InvalidKeys, m5InvalidKeys, xlInvalidKeys, rfl⟩, saInvalidKeys, exInvalidKeys, tyInvalidKeys, kcInvalidKeys⟩ nfInvalidKeys, .all (fun us hl => match us, hl with | [_, _], _ => rfl), PySem.W.mg_of X Gn xInvalidKeys⟩,
    ⟨fIInvalidNumber, _, _, ⟨⟨nmInvalidNumber, qInvalidNumber, NInvalidNumber, bsInvalidNumber, _, snInvalidNumber, suInvalidNumber, abInvalidNumber, coInvalidNumber, ddInvalidNumber, m0InvalidNumber, m1InvalidNumber, m2InvalidNumber, m3InvalidNumber, m5InvalidNumber, xlInvalidNumber, rfl⟩, saInvalidNumber, exInvalidNumber, tyInvalidNumber, kcInvalidNumber⟩, inInvalidNumber, tfInvalidNumber, err_ok rfl lIInvalidNumber cIInvalidNumber sc_InvalidNumber (fun A outer s H E => pb_InvalidNumber ⟨gB, rB, fB, PySem.W.mg_of X Gn sB⟩ A outer s H E) ⟨⟨nmInvalidNumber, qInvalidNumber, NInvalidNumber, bsInvalidNumber, _, snInvalidNumber, suInvalidNumber, abInvalidNumber, coInvalidNumber, ddInvalidNumber, m0InvalidNumber, m1InvalidNumber, m2InvalidNumber, m3InvalidNumber, m5InvalidNumber, xlInvalidNumber, rfl⟩, saInvalidNumber, exInvalidNumber, tyInvalidNumber, kcInvalidNumber⟩ nfInvalidNumber, .all (fun us hl => match us, hl with | [_, _], _ => rfl), PySem.W.mg_of X Gn xInvalidNumber⟩⟩
  refine fn_law (fa := fun _ => 0) (ca := CA) (t := T) (z := ztab) (f := f25) (x := Str.ofString "script") ?_ rfl law_ok
  exact .cons ((D0 (fun _ => none) (fun _ => none)).ok rfl rfl sc_Honest_init rfl fun h0 H0 f cdv A outer s H E => sb_Honest_init (G h0 H0) f cdv A outer s H E)
    (.cons ((D1 (fun _ => none) (fun _ => none)).ok rfl rfl sc_Honest_less rfl fun h0 H0 f cdv A outer s H E => sb_Honest_less (G h0 H0) f cdv A outer s H E)
    (.cons ((D2 (fun _ => none) (fun _ => none)).ok rfl rfl sc_is_integer rfl fun h0 H0 f cdv A outer s H E => sb_is_integer (G h0 H0) f cdv A outer s H E)
    (.cons ((D3 (fun _ => none) (fun _ => none)).ok rfl rfl sc_is_between rfl fun h0 H0 f cdv A outer s H E => sb_is_between (G h0 H0) f cdv A outer s H E)
    (.cons ((D4 (fun _ => none) (fun _ => none)).ok rfl rfl sc_require_keys rfl fun h0 H0 f cdv A outer s H E => sb_require_keys (G h0 H0) f cdv A outer s H E)
    (.cons ((D5 (fun _ => none) (fun _ => none)).ok rfl rfl sc_require_number rfl fun h0 H0 f cdv A outer s H E => sb_require_number (G h0 H0) f cdv A outer s H E)
    (.cons ((D6 (fun _ => none) (fun _ => none)).ok rfl rfl sc_place_one rfl fun h0 H0 f cdv A outer s H E => sb_place_one (G h0 H0) f cdv A outer s H E)
    (.cons ((D7 (fun _ => none) (fun _ => none)).ok rfl rfl sc_place_all rfl fun h0 H0 f cdv A outer s H E => sb_place_all (G h0 H0) f cdv A outer s H E)
    (.cons ((D8 (fun _ => none) (fun _ => none)).ok rfl rfl sc_placed rfl fun h0 H0 f cdv A outer s H E => sb_placed (G h0 H0) f cdv A outer s H E)
    (.cons ((D9 (fun _ => none) (fun _ => none)).ok rfl rfl sc_require_counts rfl fun h0 H0 f cdv A outer s H E => sb_require_counts (G h0 H0) f cdv A outer s H E)
    (.cons ((D10 (fun _ => none) (fun _ => none)).ok rfl rfl sc_fewest_of rfl fun h0 H0 f cdv A outer s H E => sb_fewest_of (G h0 H0) f cdv A outer s H E)
    (.cons ((D11 (fun _ => none) (fun _ => none)).ok rfl rfl sc_most_of rfl fun h0 H0 f cdv A outer s H E => sb_most_of (G h0 H0) f cdv A outer s H E)
    (.cons ((D12 (fun _ => none) (fun _ => none)).ok rfl rfl sc_fewest_placing rfl fun h0 H0 f cdv A outer s H E => sb_fewest_placing (G h0 H0) f cdv A outer s H E)
    (.cons ((D13 (fun _ => none) (fun _ => none)).ok rfl rfl sc_most_placing rfl fun h0 H0 f cdv A outer s H E => sb_most_placing (G h0 H0) f cdv A outer s H E)
    (.cons ((D14 (fun _ => none) (fun _ => none)).ok rfl rfl sc_keys_of rfl fun h0 H0 f cdv A outer s H E => sb_keys_of (G h0 H0) f cdv A outer s H E)
    (.cons ((D15 (fun _ => none) (fun _ => none)).ok rfl rfl sc_easy_keys rfl fun h0 H0 f cdv A outer s H E => sb_easy_keys (G h0 H0) f cdv A outer s H E)
    (.cons ((D16 (fun _ => none) (fun _ => none)).ok rfl rfl sc_hard_keys rfl fun h0 H0 f cdv A outer s H E => sb_hard_keys (G h0 H0) f cdv A outer s H E)
    (.cons ((D17 (fun _ => none) (fun _ => none)).ok rfl rfl sc__law_source rfl fun h0 H0 f cdv A outer s H E => sb__law_source (G h0 H0) f cdv A outer s H E)
    (.cons ((D18 (fun _ => none) (fun _ => none)).ok rfl rfl sc__law_draw rfl fun h0 H0 f cdv A outer s H E => sb__law_draw (G h0 H0) f cdv A outer s H E)
    (.cons ((D19 (fun _ => none) (fun _ => none)).ok rfl rfl sc__law_pick rfl fun h0 H0 f cdv A outer s H E => sb__law_pick (G h0 H0) f cdv A outer s H E)
    (.cons ((D20 (fun _ => none) (fun _ => none)).ok rfl rfl sc__law_keys rfl fun h0 H0 f cdv A outer s H E => sb__law_keys (G h0 H0) f cdv A outer s H E)
    (.cons ((D21 (fun _ => none) (fun _ => none)).ok rfl rfl sc__law_spots rfl fun h0 H0 f cdv A outer s H E => sb__law_spots (G h0 H0) f cdv A outer s H E)
    (.cons ((D22 (fun _ => none) (fun _ => none)).ok rfl rfl sc__law_ways rfl fun h0 H0 f cdv A outer s H E => sb__law_ways (G h0 H0) f cdv A outer s H E)
    (.cons ((D23 (fun _ => none) (fun _ => none)).ok rfl rfl sc__law_is_rising rfl fun h0 H0 f cdv A outer s H E => sb__law_is_rising (G h0 H0) f cdv A outer s H E)
    (.cons ((D24 (fun _ => none) (fun _ => none)).ok rfl rfl sc__law_right rfl fun h0 H0 f cdv A outer s H E => sb__law_right (G h0 H0) f cdv A outer s H E)
    (.cons ((D25 (fun _ => none) (fun _ => none)).ok rfl rfl sc_law rfl fun h0 H0 f cdv A outer s H E => sb_law (G h0 H0) f cdv A outer s H E)
    (.nil))))))))))))))))))))))))))
end Q_k16
open PySem PySem.W PyProof.Rows
set_option maxRecDepth 100000 in
set_option maxHeartbeats 0 in
theorem PySem.Challenge.cw_askedorder_k16_fewest_and_most_placed_holds : PySem.Challenge.rw_askedorder_k16_fewest_and_most_placed.Holds := by
  w_on; o_law; k_head; (case hw => w_witness2)
  k_fill
  refine L2.walk_ofB (l := PySem.Challenge.rw_askedorder_k16_fewest_and_most_placed) (n := 63) (k := 2 * Q_k16.depth + 1) (x := "script") (CX := fun w => L2.CX PySem.Challenge.rw_askedorder_k16_fewest_and_most_placed.prog w) (sp := fun _ => ZS.spLaw) rfl (by decide) rfl ⟨rfl, by decide, by decide⟩ (fun w h Y => PySem.W.kIn_of Y) ?F ?S fun _ _ _ _ _ h => ZS.cx_none h
  case S =>
    intro w H a ns hl hb _ hS
    exact ZS.spLaw_at hl hb hS (by kernel_rfl)
  case F =>
    intro w mg fa h KX G hmg
    refine' Q_k16.all_mk KX G hmg ?xHonest ?pgHonest ?hdHonest ?poHonest ?saHonest ?mkHonest ?kcHonest ?sB ?gB ?rB ?fB ?a0 ?i0 ?l0 ?c0 ?k0 ?a1 ?i1 ?l1 ?c1 ?k1 ?a2 ?l2 ?c2 ?k2 ?a3 ?l3 ?c3 ?k3 ?a4 ?l4 ?c4 ?k4 ?lT4 ?a5 ?l5 ?c5 ?k5 ?a6 ?l6 ?c6 ?k6 ?a7 ?l7 ?c7 ?k7 ?a8 ?l8 ?c8 ?k8 ?a9 ?l9 ?c9 ?k9 ?a10 ?l10 ?c10 ?k10 ?a11 ?l11 ?c11 ?k11 ?a12 ?l12 ?c12 ?k12 ?a13 ?l13 ?c13 ?k13 ?a14 ?l14 ?c14 ?k14 ?a15 ?l15 ?c15 ?k15 ?a16 ?l16 ?c16 ?k16 ?a17 ?l17 ?c17 ?k17 ?a18 ?l18 ?c18 ?k18 ?a19 ?l19 ?c19 ?k19 ?a20 ?l20 ?c20 ?k20 ?a21 ?l21 ?c21 ?k21 ?a22 ?l22 ?c22 ?k22 ?a23 ?l23 ?c23 ?k23 ?a24 ?l24 ?c24 ?k24 ?a25 ?l25 ?c25 ?k25 ?nfHonestlog ?nfHonestmarks ?xInvalidKeys ?xlInvalidKeys ?saInvalidKeys ?exInvalidKeys ?tyInvalidKeys ?kcInvalidKeys ?nfInvalidKeys ?inInvalidKeys ?tfInvalidKeys ?lIInvalidKeys ?cIInvalidKeys ?xInvalidNumber ?xlInvalidNumber ?saInvalidNumber ?exInvalidNumber ?tyInvalidNumber ?kcInvalidNumber ?nfInvalidNumber ?inInvalidNumber ?tfInvalidNumber ?lIInvalidNumber ?cIInvalidNumber ?hb_abs ?hb_bool ?hb_enumerate ?hb_int ?hb_isinstance ?hb_len ?hb_list ?hb_max ?hb_min ?hb_range ?hb_sorted ?hb_sum ?hb_tuple ?hg_MAX_PLACED
    (case xHonest => k_is)
    (case pgHonest => k_is)
    (case hdHonest => k_is)
    (case poHonest => k_is)
    (case saHonest => k_is)
    (case mkHonest => k_is)
    (case kcHonest => k_is)
    (case sB => k_is)
    (case gB => k_is)
    (case rB => k_is)
    (case fB => k_is)
    (case a0 => k_is)
    (case i0 => k_is)
    (case l0 => k_is)
    (case c0 => k_is)
    (case k0 => k_is)
    (case a1 => k_is)
    (case i1 => k_is)
    (case l1 => k_is)
    (case c1 => k_is)
    (case k1 => k_is)
    (case a2 => k_is)
    (case l2 => k_is)
    (case c2 => k_is)
    (case k2 => k_is)
    (case a3 => k_is)
    (case l3 => k_is)
    (case c3 => k_is)
    (case k3 => k_is)
    (case a4 => k_is)
    (case l4 => k_is)
    (case c4 => k_is)
    (case k4 => k_is)
    (case lT4 => k_is)
    (case a5 => k_is)
    (case l5 => k_is)
    (case c5 => k_is)
    (case k5 => k_is)
    (case a6 => k_is)
    (case l6 => k_is)
    (case c6 => k_is)
    (case k6 => k_is)
    (case a7 => k_is)
    (case l7 => k_is)
    (case c7 => k_is)
    (case k7 => k_is)
    (case a8 => k_is)
    (case l8 => k_is)
    (case c8 => k_is)
    (case k8 => k_is)
    (case a9 => k_is)
    (case l9 => k_is)
    (case c9 => k_is)
    (case k9 => k_is)
    (case a10 => k_is)
    (case l10 => k_is)
    (case c10 => k_is)
    (case k10 => k_is)
    (case a11 => k_is)
    (case l11 => k_is)
    (case c11 => k_is)
    (case k11 => k_is)
    (case a12 => k_is)
    (case l12 => k_is)
    (case c12 => k_is)
    (case k12 => k_is)
    (case a13 => k_is)
    (case l13 => k_is)
    (case c13 => k_is)
    (case k13 => k_is)
    (case a14 => k_is)
    (case l14 => k_is)
    (case c14 => k_is)
    (case k14 => k_is)
    (case a15 => k_is)
    (case l15 => k_is)
    (case c15 => k_is)
    (case k15 => k_is)
    (case a16 => k_is)
    (case l16 => k_is)
    (case c16 => k_is)
    (case k16 => k_is)
    (case a17 => k_is)
    (case l17 => k_is)
    (case c17 => k_is)
    (case k17 => k_is)
    (case a18 => k_is)
    (case l18 => k_is)
    (case c18 => k_is)
    (case k18 => k_is)
    (case a19 => k_is)
    (case l19 => k_is)
    (case c19 => k_is)
    (case k19 => k_is)
    (case a20 => k_is)
    (case l20 => k_is)
    (case c20 => k_is)
    (case k20 => k_is)
    (case a21 => k_is)
    (case l21 => k_is)
    (case c21 => k_is)
    (case k21 => k_is)
    (case a22 => k_is)
    (case l22 => k_is)
    (case c22 => k_is)
    (case k22 => k_is)
    (case a23 => k_is)
    (case l23 => k_is)
    (case c23 => k_is)
    (case k23 => k_is)
    (case a24 => k_is)
    (case l24 => k_is)
    (case c24 => k_is)
    (case k24 => k_is)
    (case a25 => k_is)
    (case l25 => k_is)
    (case c25 => k_is)
    (case k25 => k_is)
    (case nfHonestlog => k_is)
    (case nfHonestmarks => k_is)
    (case xInvalidKeys => k_is)
    (case xlInvalidKeys => k_is)
    (case saInvalidKeys => k_is)
    (case exInvalidKeys => k_is)
    (case tyInvalidKeys => k_is)
    (case kcInvalidKeys => k_is)
    (case nfInvalidKeys => k_is)
    (case inInvalidKeys => k_is)
    (case tfInvalidKeys => k_is)
    (case lIInvalidKeys => k_is)
    (case cIInvalidKeys => k_is)
    (case xInvalidNumber => k_is)
    (case xlInvalidNumber => k_is)
    (case saInvalidNumber => k_is)
    (case exInvalidNumber => k_is)
    (case tyInvalidNumber => k_is)
    (case kcInvalidNumber => k_is)
    (case nfInvalidNumber => k_is)
    (case inInvalidNumber => k_is)
    (case tfInvalidNumber => k_is)
    (case lIInvalidNumber => k_is)
    (case cIInvalidNumber => k_is)
    (case hb_abs => k_is)
    (case hb_bool => k_is)
    (case hb_enumerate => k_is)
    (case hb_int => k_is)
    (case hb_isinstance => k_is)
    (case hb_len => k_is)
    (case hb_list => k_is)
    (case hb_max => k_is)
    (case hb_min => k_is)
    (case hb_range => k_is)
    (case hb_sorted => k_is)
    (case hb_sum => k_is)
    (case hb_tuple => k_is)
    (case hg_MAX_PLACED => k_is)


