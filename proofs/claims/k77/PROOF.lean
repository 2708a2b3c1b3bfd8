import PyProof.Rows.All
import Wide.All
import OpenK.AllK
import Wide.FinOn
import HandS.ForMost
import HandS.TupMul
import HandS.TupAny
import HandS.TupLe
import HandS.Deep
import HandS.TupSets
import HandS.SortInts
import HandS.IsInst
import HandS.RaiseMore
import HandS.Comp
import HandS.Iter
import KE.GoesMore
import KE.GoesEnum
import KE.GoesZip
import KE.KDictWalk
import KE.KDictItemsList
import HandS.ListItems
import HandS.Zip
import HandS.Style
import HandS.Small
import HandS.Defaults
import HandS.Words
import HandS.HeadHook1
import HandS.HeadHook2
import HandS.HeadEnd
import HandS.Head0
import HandS.Head1
import HandS.Head2
import HandS.More
import HandS.WordsExc
import HandS.Ends
import KE.KStateDown
import PySem.Challenge.RW_heapsswept_k77_whole_cheapest_tables
set_option Elab.async false
set_option linter.all false
set_option maxRecDepth 100000
/-! Ev: data as trees, a compact syntax, and what it evaluates to. -/
namespace Ev
open PySem PySem.Spec PyProof.Rows L2

/-! ### data -/
inductive D where
  | non | bl (b : Bool) | int (i : Int) | str (x : Str)
  | tup (xs : List D) | lst (xs : List D) | dic (kvs : List (D × D))
  | cup | fn (k : Nat) | scr (ns : List Int)
  deriving Inhabited
abbrev Env := List (Option D)
abbrev Cu := Option (List Int)
inductive Out (α : Type) where
  | ok (a : α) (c : Cu) | err (k : Nat) (c : Cu) | no
def Out.bind {α β : Type} (x : Out α) (f : α → Cu → Out β) : Out β := match x with
  | .ok a c => f a c
  | .err k c => .err k c
  | .no => .no
@[simp] theorem bind_ok {α β : Type} (a : α) (c : Cu) (f : α → Cu → Out β) : (Out.ok a c).bind f = f a c := rfl
@[simp] theorem bind_err {α β : Type} (k : Nat) (c : Cu) (f : α → Cu → Out β) : (Out.err k c : Out α).bind f = .err k c := rfl
@[simp] theorem bind_no {α β : Type} (f : α → Cu → Out β) : (Out.no : Out α).bind f = .no := rfl
def Out.of {α : Type} (o : Option α) (c : Cu) : Out α := match o with
  | some a => .ok a c
  | none => .no
@[simp] theorem of_some {α : Type} (a : α) (c : Cu) : Out.of (some a) c = .ok a c := rfl
@[simp] theorem of_none {α : Type} (c : Cu) : Out.of (none : Option α) c = .no := rfl

/-! ### equality of syntax trees of data; Python's == -/
mutual
def D.same : D → D → Bool
  | .non, .non => true
  | .bl a, .bl b => a == b
  | .int a, .int b => decide (a = b)
  | .str a, .str b => decide (a = b)
  | .tup a, .tup b => D.sameL a b
  | .lst a, .lst b => D.sameL a b
  | _, _ => false
def D.sameL : List D → List D → Bool
  | [], [] => true
  | a :: r, b :: q => a.same b && D.sameL r q
  | _, _ => false
end
mutual
theorem D.same_eq : ∀ {a b : D}, a.same b = true → a = b
  | .non, b, h => by cases b <;> first | rfl | (simp [D.same] at h)
  | .bl _, b, h => by cases b <;> simp_all [D.same]
  | .int _, b, h => by cases b <;> simp_all [D.same]
  | .str _, b, h => by cases b <;> simp_all [D.same]
  | .tup xs, b, h => by
    cases b with
    | tup ys => rw [D.sameL_eq (a := xs) (b := ys) (by simpa [D.same] using h)]
    | _ => simp [D.same] at h
  | .lst xs, b, h => by
    cases b with
    | lst ys => rw [D.sameL_eq (a := xs) (b := ys) (by simpa [D.same] using h)]
    | _ => simp [D.same] at h
  | .dic _, b, h => by cases b <;> simp [D.same] at h
  | .cup, b, h => by cases b <;> simp [D.same] at h
  | .fn _, b, h => by cases b <;> simp [D.same] at h
  | .scr _, b, h => by cases b <;> simp [D.same] at h
theorem D.sameL_eq : ∀ {a b : List D}, D.sameL a b = true → a = b
  | [], b, h => by cases b <;> simp_all [D.sameL]
  | x :: xs, b, h => by
    cases b with
    | nil => simp [D.sameL] at h
    | cons y ys =>
      simp only [D.sameL, Bool.and_eq_true] at h
      rw [D.same_eq h.1, D.sameL_eq h.2]
end
mutual
def D.py : D → PyData
  | .non => .none
  | .bl b => .bool b
  | .int i => .int i
  | .str x => .str x
  | .tup xs => .tuple (D.pyL xs)
  | .lst xs => .list (D.pyL xs)
  | .scr ns => .list (ns.map PyData.int)
  | _ => .dict []
def D.pyL : List D → List PyData
  | [] => []
  | x :: xs => x.py :: D.pyL xs
end
mutual
def D.eqv : D → D → Bool
  | .non, .non => true
  | .bl a, .bl b => a == b
  | .bl a, .int j => (if a then 1 else 0) == j
  | .int i, .bl b => i == (if b then 1 else 0)
  | .int i, .int j => i == j
  | .str x, .str y => x == y
  | .lst xs, .lst ys => D.eqvL xs ys
  | .tup xs, .tup ys => D.eqvL xs ys
  | _, _ => false
def D.eqvL : List D → List D → Bool
  | [], [] => true
  | x :: xs, y :: ys => D.eqv x y && D.eqvL xs ys
  | _, _ => false
end
mutual
def D.flat : Nat → D → Bool
  | _, .non => true
  | _, .bl _ => true
  | _, .int _ => true
  | _, .str x => PySem.PyData.strOk x
  | n + 1, .tup xs => D.flatL n xs
  | n + 1, .lst xs => D.flatL n xs
  | _, _ => false
def D.flatL : Nat → List D → Bool
  | _, [] => true
  | n, x :: xs => D.flat n x && D.flatL n xs
end
mutual
def D.noL : D → Bool
  | .non => true
  | .bl _ => true
  | .int _ => true
  | .str _ => true
  | .tup xs => D.noLL xs
  | .cup => true
  | _ => false
def D.noLL : List D → Bool
  | [] => true
  | x :: xs => x.noL && D.noLL xs
end
theorem noLL_all : ∀ {xs : List D}, D.noLL xs = xs.all D.noL
  | [] => rfl
  | x :: xs => by simp [D.noLL, noLL_all (xs := xs)]

/-! ### operations -/
inductive Op2 where | add | sub | mul | mod | fdiv | pow deriving DecidableEq
inductive Cop where | eq | ne | lt | le | gt | ge | is | isn | inn | nin deriving DecidableEq
inductive Bf where | len | tuple | list | sum | all | any | min | max | abs | int | str | sorted | sset deriving DecidableEq
inductive Ty where | int | bool | tuple | str deriving DecidableEq
inductive Mt where | index | count | get deriving DecidableEq

def big (n : Nat) : Bool := decide (n ≤ 16777216)
def repL (n : Nat) (xs : List D) : List D := (List.replicate n xs).flatten
def opv : Op2 → D → D → Option D
  | .add, .int i, .int j => some (.int (i + j))
  | .add, .tup xs, .tup ys => if big (xs.length + ys.length) then some (.tup (xs ++ ys)) else none
  | .add, .lst xs, .lst ys => if big (xs.length + ys.length) then some (.lst (xs ++ ys)) else none
  | .sub, .int i, .int j => some (.int (i - j))
  | .mul, .int i, .int j => if decide (-(2 ^ 64) < j ∧ j < 2 ^ 64) || decide (-(2 ^ 64) < i ∧ i < 2 ^ 64) then some (.int (i * j)) else none
  | .mul, .tup xs, .int k => if decide (-1000 ≤ k ∧ k ≤ 1000 ∧ xs.length ≤ 1000) then some (.tup (repL k.toNat xs)) else none
  | .mul, .lst xs, .int k => if decide (-1000 ≤ k ∧ k ≤ 1000 ∧ xs.length ≤ 1000) then some (.lst (repL k.toNat xs)) else none
  | .mod, .int i, .int j => if decide (0 < j) then some (.int (i % j)) else none
  | .fdiv, .int i, .int j => if decide (0 < j ∧ j < 1073741824) then some (.int (i / j)) else none
  | .pow, .int i, .int j => if decide (0 ≤ j ∧ j ≤ 1000 ∧ -1000 ≤ i ∧ i ≤ 1000) then some (.int (i ^ j.toNat)) else none
  | _, _, _ => none
def D.scalar : D → Bool
  | .non => true
  | .bl _ => true
  | .int _ => true
  | .str _ => true
  | _ => false
def okEq (a b : D) : Bool := a.flat 20 && b.flat 20
def D.isNon : D → Bool
  | .non => true
  | _ => false
def isv : D → D → Option Bool
  | x, .non => some x.isNon
  | .bl a, .bl b => some (a == b)
  | .non, .bl _ => some false
  | .int _, .bl _ => some false
  | .str _, .bl _ => some false
  | .tup _, .bl _ => some false
  | .lst _, .bl _ => some false
  | _, _ => none
def inv : D → D → Option Bool
  | x, .tup ys => if x.flat 20 && D.flatL 20 ys then some (ys.any fun y => D.eqv y x) else none
  | x, .lst ys => if x.flat 20 && D.flatL 20 ys then some (ys.any fun y => D.eqv y x) else none
  | _, _ => none
def cov : Cop → D → D → Option Bool
  | .eq, a, b => if okEq a b then some (a.eqv b) else none
  | .ne, a, b => if okEq a b then some (!a.eqv b) else none
  | .lt, .int i, .int j => some (decide (i < j))
  | .le, .int i, .int j => some (decide (i ≤ j))
  | .gt, .int i, .int j => some (decide (j < i))
  | .ge, .int i, .int j => some (decide (j ≤ i))
  | .is, a, b => isv a b
  | .isn, a, b => (isv a b).map not
  | .inn, a, b => inv a b
  | .nin, a, b => (inv a b).map not
  | _, _, _ => none
def dget (kvs : List (D × D)) (k : D) : Option D := (kvs.find? fun kv => D.eqv kv.1 k).map (·.2)
def D.key : D → Bool
  | .int _ => true
  | .str _ => true
  | _ => false
def ixv : D → D → Cu → Option D
  | .tup xs, .int i, _ => atI xs i
  | .lst xs, .int i, _ => atI xs i
  | .cup, .int i, some ns => (atI ns i).map D.int
  | _, _, _ => none
def cutD (xs : List D) (lo hi : Option Int) : List D := (xs.drop (HT.sIx xs.length 0 lo)).take (HT.sIx xs.length xs.length hi - HT.sIx xs.length 0 lo)
def slv : D → Option Int → Option Int → Option D
  | .tup xs, lo, hi => some (.tup (cutD xs lo hi))
  | .lst xs, lo, hi => some (.lst (cutD xs lo hi))
  | _, _, _ => none
def D.ints : List D → Option (List Int)
  | [] => some []
  | .int i :: r => (D.ints r).map (i :: ·)
  | _ => none
def D.bls : List D → Option (List Bool)
  | [] => some []
  | .bl i :: r => (D.bls r).map (i :: ·)
  | _ => none
def minI : Int → List Int → Int
  | m, [] => m
  | m, x :: r => minI (if x < m then x else m) r
def maxI : Int → List Int → Int
  | m, [] => m
  | m, x :: r => maxI (if m < x then x else m) r
/-! sorting: whole numbers, tuples of them -/
def D.row : D → Option (List Int)
  | .int i => some [i]
  | .tup xs => D.ints xs
  | _ => none
def D.rowI (d : D) : List Int := d.row.getD []
def leL : List Int → List Int → Bool
  | [], _ => true
  | _ :: _, [] => false
  | x :: xs, y :: ys => decide (x < y) || (decide (x = y) && leL xs ys)
def leD (x y : D) : Bool := leL x.rowI y.rowI
def insD (x : D) : List D → List D
  | [] => [x]
  | y :: r => if leD x y then x :: y :: r else y :: insD x r
def sortD (xs : List D) : List D := xs.foldr insD []
def D.isI : D → Bool
  | .int _ => true
  | _ => false
def D.isR (d : Nat) : D → Bool
  | .tup xs => match D.ints xs with
    | some ns => decide (ns.length = d) && ns.all fun n => decide (0 ≤ n) && decide (n < 1000)
    | none => false
  | _ => false
def D.rlen (xs : List D) : Nat := match xs with
  | x :: _ => x.rowI.length
  | [] => 1
def srtv (xs : List D) : Option D :=
  if xs.all D.isI || (decide (xs.length < 64) && decide (1 ≤ D.rlen xs) && xs.all (D.isR (D.rlen xs))) then some (.lst (sortD xs)) else none
def bfv : Bf → List D → Option D
  | .len, [.tup xs] => some (.int xs.length)
  | .len, [.lst xs] => some (.int xs.length)
  | .tuple, [.tup xs] => some (.tup xs)
  | .tuple, [.lst xs] => some (.tup xs)
  | .list, [.tup xs] => some (.lst xs)
  | .list, [.lst xs] => some (.lst xs)
  | .list, [.scr ns] => some (.lst (ns.map D.int))
  | .sum, [.lst xs] => (D.ints xs).map fun ns => .int ns.sum
  | .all, [.lst xs] => (D.bls xs).map fun ns => .bl (ns.all id)
  | .any, [.lst xs] => (D.bls xs).map fun ns => .bl (ns.any id)
  | .min, [.lst xs] => match D.ints xs with
    | some (m :: r) => some (.int (minI m r))
    | _ => none
  | .max, [.lst xs] => match D.ints xs with
    | some (m :: r) => some (.int (maxI m r))
    | _ => none
  | .min, [.int i, .int j] => some (.int (if j < i then j else i))
  | .max, [.int i, .int j] => some (.int (if j > i then j else i))
  | .sorted, [.lst xs] => srtv xs
  | .abs, [.int i] => some (.int (if i < 0 then -i else i))
  | .int, [.int i] => some (.int i)
  | .str, [.str x] => some (.str x)
  | _, _ => none
def zipD (xs ys : List D) : List D := xs.zipWith (fun x y => .tup [x, y]) ys
def itemsOf : D → Option (List D)
  | .tup xs => some xs
  | .lst xs => some xs
  | _ => none
def lzv2 : Option (List D) → Option (List D) → Option D
  | some xs, some ys => some (.lst (zipD xs ys))
  | _, _ => none
def lzv : List D → Option D
  | [x, y] => lzv2 (itemsOf x) (itemsOf y)
  | _ => none
def tyv : Ty → D → Option Bool
  | .int, .int _ => some true
  | .int, .bl _ => some true
  | .int, .non => some false
  | .int, .str _ => some false
  | .int, .tup _ => some false
  | .int, .lst _ => some false
  | .bool, .bl _ => some true
  | .bool, .int _ => some false
  | .bool, .non => some false
  | .bool, .str _ => some false
  | .bool, .tup _ => some false
  | .bool, .lst _ => some false
  | .tuple, .tup _ => some true
  | .tuple, .non => some false
  | .tuple, .bl _ => some false
  | .tuple, .int _ => some false
  | .tuple, .str _ => some false
  | .tuple, .lst _ => some false
  | .str, .str _ => some true
  | .str, .non => some false
  | .str, .bl _ => some false
  | .str, .int _ => some false
  | .str, .tup _ => some false
  | .str, .lst _ => some false
  | _, _ => none

/-! ### syntax -/
inductive Tg where
  | nm (i : Nat) | nmo (i : Nat) | nil | cons (t : Tg) (ts : Tg) | tp (ts : Tg)
def Tg.noO : Tg → Bool
  | .nmo _ => false
  | .cons t ts => t.noO && ts.noO
  | .tp ts => ts.noO
  | _ => true
/-- expressions; es: nil, cons; a comprehension's clauses: gn (target, what is walked, tests, further clauses); what is walked: it .. -/
inductive E where
  | var (i : Nat) | cst (d : D) | gl (x : Str) (d : D)
  | tup (es : E) | lst (es : E) | cupn (a b : E)
  | op2 (o : Op2) (a b : E) | neg (a : E) | nt (a : E)
  | and_ (es : E) | or_ (es : E) | ife (c a b : E)
  | cmp (o : Cop) (a b : E) | chn (o p : Cop) (a b c : E)
  | ix (a i : E) | sl (a lo hi : E) | noe | rev (a : E) | lz (es : E)
  | call (f : Nat) (es : E) | calln (f : Nat) (es : E) | callf (f : Nat) (es : E) | bf (b : Bf) (es : E) | isi (a : E) (t : Ty) | met (m : Mt) (a : E) (es : E)
  | lc (own : List Nat) (gs : E)
  | el (a : E)
  | nil | cons (e es : E)
  | gn (t : Tg) (it : E) (ifs : E) (gs : E)
  | itE (a : E) | itR (es : E) | itN (a : E) | itZ (a b : E)

def E.len : E → Nat
  | .cons _ es => es.len + 1
  | _ => 0
def E.one : E → Bool
  | .gn _ _ _ (.el _) => true
  | _ => false
inductive S where
  | set (i : Nat) (e : E) | seto (i : Nat) (e : E) | mov (j i : Nat) | asg (t : Tg) (e : E)
  | stx (i : Nat) (x e : E) | stc (i : Nat) (x e : E) | app (i : Nat) (e : E) | ext (i : Nat) (e : E) | auga (i : Nat) (e : E) | augi (i : Nat) (e : E)
  | pop (j i : Nat)
  | ex (e : E) | ret (e : E) | pass
  | ife (c : E) (a b : S) | for_ (t : Tg) (it : E) (b : S) | wh (c : E) (b : S)
  | rais (k : Nat)
  | nil | cons (s ss : S)

/-! ### evaluation -/
def gv (env : Env) (i : Nat) : Option D := match env[i]? with
  | some (some d) => some d
  | _ => none
def D.lstB : D → Bool
  | .lst _ => true
  | .dic _ => true
  | _ => false
mutual
def bindT : Tg → D → Env → Option Env
  | .nm i, d, env => some (env.set i (some d))
  | .nmo i, d, env => match d.lstB with
    | true => none
    | false => some (env.set i (some d))
  | .tp ts, .tup xs, env => bindL ts xs env
  | _, _, _ => none
def bindL : Tg → List D → Env → Option Env
  | .nil, [], env => some env
  | .cons t ts, x :: xs, env => match bindT t x env with
    | some env' => bindL ts xs env'
    | none => none
  | _, _, _ => none
end
def rngL (lo : Int) (n : Nat) : List D := (List.range n).map fun (i : Nat) => .int (lo + (i : Int))
def enumL (xs : List D) : List D := (List.range xs.length).zipWith (fun (i : Nat) x => .tup [.int (i : Int), x]) xs
def smallI : Int → Bool
  | .ofNat n => Nat.ble n 4611686018427387903
  | .negSucc n => Nat.ble n 4611686018427387903
theorem smallI_iff {i : Int} : smallI i = true ↔ -(2 ^ 62) ≤ i ∧ i < 2 ^ 62 := by
  cases i with
  | ofNat n =>
    show Nat.ble n 4611686018427387903 = true ↔ _
    rw [Nat.ble_eq, show Int.ofNat n = (n : Int) from rfl]
    constructor
    · intro h; constructor <;> omega
    · intro h; omega
  | negSucc n =>
    show Nat.ble n 4611686018427387903 = true ↔ _
    rw [Nat.ble_eq]
    constructor
    · intro h; constructor <;> omega
    · intro h; omega
def rngv : List D → Option (List D)
  | [.int n] => if smallI n then some (rngL 0 n.toNat) else none
  | [.int a, .int b] => if smallI a && smallI b then some (rngL a (b - a).toNat) else none
  | _ => none
def loopL (f : D → Cu → Out (List D)) : List D → Cu → Out (List D)
  | [], c => .ok [] c
  | x :: xs, c => (f x c).bind fun r c1 => (loopL f xs c1).bind fun q c2 => .ok (r ++ q) c2
def wipeE (env : Env) : List Nat → Env
  | [] => env
  | v :: vs => (wipeE env vs).set v none
def optI : E → D → Option (Option Int)
  | .noe, _ => some none
  | _, .int i => some (some i)
  | _, _ => none
section
variable (F : Nat → List D → Cu → Out D)
mutual
def ev : E → Env → Cu → Out D
  | .var i, env, c => Out.of (gv env i) c
  | .cst d, _, c => .ok d c
  | .gl _ d, _, c => .ok d c
  | .tup es, env, c => (evs es env c).bind fun ds c => .ok (.tup ds) c
  | .lst es, env, c => (evs es env c).bind fun ds c => .ok (.lst ds) c
  | .cupn a b, env, c => (ev a env c).bind fun x c => (ev b env c).bind fun y c => match x, y, c with
    | .int i, .int j, none => .ok .cup (some [i, j])
    | _, _, _ => .no
  | .op2 o a b, env, c => (ev a env c).bind fun x c => (ev b env c).bind fun y c => Out.of (opv o x y) c
  | .neg a, env, c => (ev a env c).bind fun x c => match x with
    | .int i => .ok (.int (-i)) c
    | _ => .no
  | .nt a, env, c => (ev a env c).bind fun x c => match x with
    | .bl b => .ok (.bl (!b)) c
    | _ => .no
  | .and_ es, env, c => evAnd es env c
  | .or_ es, env, c => evOr es env c
  | .ife t a b, env, c => (ev t env c).bind fun x c => match x with
    | .bl true => ev a env c
    | .bl false => ev b env c
    | _ => .no
  | .cmp o a b, env, c => (ev a env c).bind fun x c => (ev b env c).bind fun y c => Out.of ((cov o x y).map D.bl) c
  | .chn o p a b d, env, c => (ev a env c).bind fun x c => (ev b env c).bind fun y c => match cov o x y with
    | some true => (ev d env c).bind fun z c => Out.of ((cov p y z).map D.bl) c
    | some false => .ok (.bl false) c
    | none => .no
  | .ix a i, env, c => (ev a env c).bind fun x c => (ev i env c).bind fun y c => Out.of (ixv x y c) c
  | .sl a lo hi, env, c => (ev a env c).bind fun x c => (ev lo env c).bind fun l c => match optI lo l with
    | some l => (ev hi env c).bind fun h c => match optI hi h with
      | some h => Out.of (slv x l h) c
      | none => .no
    | none => .no
  | .noe, _, c => .ok .non c
  | .rev a, env, c => (ev a env c).bind fun x c => match x with
    | .lst xs => .ok (.lst xs.reverse) c
    | _ => .no
  | .lz es, env, c => (evs es env c).bind fun ds c => Out.of (lzv ds) c
  | .call f es, env, c => (evs es env c).bind fun ds c => F f ds c
  | .calln f es, env, c => (evs es env c).bind fun ds c => (F f ds c).bind fun d c => match d.noL with
    | true => .ok d c
    | false => .no
  | .callf f es, env, c => (evs es env c).bind fun ds c => match D.noLL ds with
    | true => F f ds c
    | false => .no
  | .bf b es, env, c => (evs es env c).bind fun ds c => Out.of (bfv b ds) c
  | .isi a t, env, c => (ev a env c).bind fun x c => Out.of ((tyv t x).map D.bl) c
  | .met _ _ _, _, _ => .no
  | .lc own gs, env, c => match evG gs (wipeE env own) env c with
    | .ok ds c => (match big ds.length with
      | true => .ok (.lst ds) c
      | false => .no)
    | _ => .no
  | .nil, _, _ => .no
  | .cons _ _, _, _ => .no
  | .gn _ _ _ _, _, _ => .no
  | .el _, _, _ => .no
  | .itE _, _, _ => .no
  | .itR _, _, _ => .no
  | .itN _, _, _ => .no
  | .itZ _ _, _, _ => .no
def evs : E → Env → Cu → Out (List D)
  | .nil, _, c => .ok [] c
  | .cons e es, env, c => (ev e env c).bind fun d c => (evs es env c).bind fun ds c => .ok (d :: ds) c
  | _, _, _ => .no
def evAnd : E → Env → Cu → Out D
  | .cons e .nil, env, c => (ev e env c).bind fun x c => match x with
    | .bl b => .ok (.bl b) c
    | _ => .no
  | .cons e es, env, c => (ev e env c).bind fun x c => match x with
    | .bl true => evAnd es env c
    | .bl false => .ok (.bl false) c
    | _ => .no
  | _, _, _ => .no
def evOr : E → Env → Cu → Out D
  | .cons e .nil, env, c => (ev e env c).bind fun x c => match x with
    | .bl b => .ok (.bl b) c
    | _ => .no
  | .cons e es, env, c => (ev e env c).bind fun x c => match x with
    | .bl false => evOr es env c
    | .bl true => .ok (.bl true) c
    | _ => .no
  | _, _, _ => .no
/-- what is walked -/
def evI : E → Env → Cu → Out (List D)
  | .itE a, env, c => (ev a env c).bind fun x c => Out.of (itemsOf x) c
  | .itR es, env, c => (evs es env c).bind fun ds c => Out.of (rngv ds) c
  | .itN a, env, c => (ev a env c).bind fun x c => Out.of ((itemsOf x).map enumL) c
  | .itZ a b, env, c => (ev a env c).bind fun x c => (ev b env c).bind fun y c => match itemsOf x, itemsOf y with
    | some xs, some ys => .ok (zipD xs ys) c
    | _, _ => .no
  | _, _, _ => .no
/-- tests, one behind the other -/
def evT : E → Env → Cu → Out Bool
  | .nil, _, c => .ok true c
  | .cons e es, env, c => (ev e env c).bind fun x c => match x with
    | .bl true => evT es env c
    | .bl false => .ok false c
    | _ => .no
  | _, _, _ => .no
/-- the clauses of a comprehension: env where it stands (the first thing walked is looked for in env0) -/
def evG : E → Env → Env → Cu → Out (List D)
  | .el elt, env, _, c => (ev elt env c).bind fun d c => .ok [d] c
  | .gn t it ifs gs, env, env0, c => (evI it env0 c).bind fun items c => loopL (fun x c => match bindT t x env with
      | some env' => (evT ifs env' c).bind fun b c => match b with
        | true => evG gs env' env' c
        | false => .ok [] c
      | none => .no) items c
  | _, _, _, _ => .no
end
inductive Fl where
  | nx (env : Env) | rt (d : D)
def forL (f : D → Env → Cu → Out Fl) : List D → Env → Cu → Out Fl
  | [], env, c => .ok (.nx env) c
  | x :: xs, env, c => (f x env c).bind fun r c => match r with
    | .nx env => forL f xs env c
    | .rt d => .ok (.rt d) c
def whL (t : Env → Cu → Out D) (f : Env → Cu → Out Fl) : Nat → Env → Cu → Out Fl
  | 0, _, _ => .no
  | n + 1, env, c => (t env c).bind fun x c => match x with
    | .bl true => (f env c).bind fun r c => match r with
      | .nx env => whL t f n env c
      | .rt d => .ok (.rt d) c
    | .bl false => .ok (.nx env) c
    | _ => .no
def dput (kvs : List (D × D)) (k v : D) : List (D × D) :=
  if (kvs.any fun kv => D.eqv kv.1 k) = true then kvs.map (fun kv => if D.eqv kv.1 k = true then (kv.1, v) else kv) else kvs ++ [(k, v)]
def stv : D → D → D → Option D
  | .lst xs, .int i, v => match ixN xs.length i with
    | some j => some (.lst (xs.set j v))
    | none => none
  | .dic kvs, k, v => if k.key && decide (kvs.length < 16777216) then some (.dic (dput kvs k v)) else none
  | _, _, _ => none
def catv : D → D → Option D
  | .lst xs, .lst ys => if big (xs.length + ys.length) then some (.lst (xs ++ ys)) else none
  | _, _ => none
def putv (env : Env) (i : Nat) (o : Option D) (c : Cu) : Out Fl := match o with
  | some o => .ok (.nx (env.set i (some o))) c
  | none => .no
def WH : Nat := 100000
/-- may be owned: a list or dict without lists within -/
def D.ownOk : D → Bool
  | .lst xs => D.noLL xs
  | .dic kvs => kvs.all fun kv => kv.2.noL
  | _ => false
def ex : S → Env → Cu → Out Fl
  | .nil, env, c => .ok (.nx env) c
  | .cons s ss, env, c => (ex s env c).bind fun r c => match r with
    | .nx env => ex ss env c
    | .rt d => .ok (.rt d) c
  | .pass, env, c => .ok (.nx env) c
  | .set i e, env, c => (ev F e env c).bind fun d c => .ok (.nx (env.set i (some d))) c
  | .seto i e, env, c => (ev F e env c).bind fun d c => match d.ownOk with
    | true => .ok (.nx (env.set i (some d))) c
    | false => .no
  | .mov j i, env, c => match gv env i with
    | some d => (match d.lstB with
      | true => .ok (.nx ((env.set i none).set j (some d))) c
      | false => .no)
    | none => .no
  | .asg t e, env, c => (ev F e env c).bind fun d c => match bindT t d env with
    | some env => .ok (.nx env) c
    | none => .no
  | .stx i x e, env, c => (ev F e env c).bind fun v c => match gv env i with
    | some o => (match o.lstB with
      | true => (ev F x env c).bind fun k c => putv env i (stv o k v) c
      | false => .no)
    | none => .no
  | .stc i x e, env, c => (ev F e env c).bind fun v c => match gv env i with
    | some .cup => (ev F x env c).bind fun k c => match k, v, c with
      | .int k, .int v, some ns => (match ixN ns.length k with
        | some j => .ok (.nx env) (some (ns.set j v))
        | none => .no)
      | _, _, _ => .no
    | _ => .no
  | .app i e, env, c => match gv env i with
    | some (.lst xs) => (ev F e env c).bind fun v c => putv env i (catv (.lst xs) (.lst [v])) c
    | _ => .no
  | .ext i e, env, c => match gv env i with
    | some (.lst xs) => (ev F e env c).bind fun v c => putv env i (catv (.lst xs) v) c
    | _ => .no
  | .auga i e, env, c => match gv env i with
    | some (.lst xs) => (ev F e env c).bind fun v c => putv env i (catv (.lst xs) v) c
    | _ => .no
  | .augi i e, env, c => match gv env i with
    | some (.int a) => (ev F e env c).bind fun v c => match v with
      | .int b => .ok (.nx (env.set i (some (.int (a + b))))) c
      | _ => .no
    | _ => .no
  | .pop j i, env, c => match gv env i with
    | some (.lst xs) => match xs.getLast? with
      | some x => .ok (.nx ((env.set i (some (.lst xs.dropLast))).set j (some x))) c
      | none => .no
    | _ => .no
  | .ex e, env, c => (ev F e env c).bind fun _ c => .ok (.nx env) c
  | .ret e, env, c => (ev F e env c).bind fun d c => .ok (.rt d) c
  | .ife t a b, env, c => (ev F t env c).bind fun x c => match x with
    | .bl true => ex a env c
    | .bl false => ex b env c
    | _ => .no
  | .for_ t it b, env, c => (evI F it env c).bind fun items c => forL (fun x env c => match bindT t x env with
      | some env => ex b env c
      | none => .no) items env c
  | .wh t b, env, c => whL (fun env c => ev F t env c) (fun env c => ex b env c) WH env c
  | .rais k, _, c => .err k c
end
/-- a def: how many parameters, how many names, its body -/
structure Df where
  np : Nat
  nn : Nat
  body : S
def runB (F : Nat → List D → Cu → Out D) (f : Df) (args : List D) (c : Cu) : Out D := match decide (args.length = f.np) with
  | true => (ex F f.body (args.map some ++ List.replicate (f.nn - f.np) none) c).bind fun r c => match r with
    | .rt d => .ok d c
    | .nx _ => .ok .non c
  | false => .no
/-- without exceptions: one is no outcome -/
def Out.noE {α : Type} (al : Bool) : Out α → Out α
  | .ok a c => .ok a c
  | .err k c => match al with
    | true => .err k c
    | false => .no
  | .no => .no
def callN (al : Bool) (P : List Df) : Nat → Nat → List D → Cu → Out D
  | 0, _, _, _ => .no
  | n + 1, f, args, c => match P[f]? with
    | some df => (runB (callN al P n) df args c).noE al
    | none => .no
theorem callN_no {P : List Df} {n f : Nat} {ds : List D} {c c' : Cu} {k : Nat} (h : callN false P n f ds c = .err k c') : False := by
  cases n with
  | zero => cases h
  | succ n =>
    unfold callN at h
    split at h
    · rename_i df _
      cases q : runB (callN false P n) df ds c <;> (rw [q] at h; cases h)
    · cases h
end Ev

set_option maxRecDepth 100000
/-! EvRel: how data stand in the abstract heap. -/
namespace Ev
open PySem PySem.Spec PyProof.Rows L2

def kD : D → Option Key
  | .int i => some (.inl i)
  | .str x => some (.inr x)
  | _ => none
def ScrL (K : PySem.W.Frag) (H : Hp) (a : Addr) (xs : List V) : Prop := (∃ o, H a = some (.frz o (.lst xs))) ∨ ∀ H', SqL K H' a xs
theorem ScrL.sq {K : PySem.W.Frag} {H : Hp} {a : Addr} {xs : List V} (h : ScrL K H a xs) : SqL K H a xs := h.elim (fun h => .inl (.inr h)) fun h => h H
mutual
def Rep (K : PySem.W.Frag) (F : Addr → Prop) (ca : Option Addr) (H : Hp) : D → V → Prop
  | .non, v => v = .non
  | .bl b, v => v = .bl b
  | .int i, v => v = .int i
  | .str x, v => v = .str x
  | .tup xs, v => ∃ a vs, v = .ref a ∧ SqT K H a vs ∧ RepL K F ca H xs vs
  | .lst xs, v => ∃ a vs, v = .ref a ∧ H a = some (.lst vs) ∧ ¬ F a ∧ some a ≠ ca ∧ RepL K F ca H xs vs
  | .dic kvs, v => ∃ a ws, v = .ref a ∧ H a = some (.dK ws) ∧ ¬ F a ∧ RepK K F ca H kvs ws
  | .cup, v => ∃ a, v = .ref a ∧ ca = some a
  | .fn _, _ => False
  | .scr ns, v => ∃ a, v = .ref a ∧ ScrL K H a (ns.map V.int)
def RepL (K : PySem.W.Frag) (F : Addr → Prop) (ca : Option Addr) (H : Hp) : List D → List V → Prop
  | [], vs => vs = []
  | x :: xs, vs => ∃ v r, vs = v :: r ∧ Rep K F ca H x v ∧ RepL K F ca H xs r
def RepK (K : PySem.W.Frag) (F : Addr → Prop) (ca : Option Addr) (H : Hp) : List (D × D) → List (Key × V) → Prop
  | [], vs => vs = []
  | (k, x) :: xs, vs => ∃ k' v r, vs = (k', v) :: r ∧ kD k = some k' ∧ Rep K F ca H x v ∧ RepK K F ca H xs r
end
/-- what stood stands, but the cup's list -/
def Ext (ca : Option Addr) (H H' : Hp) : Prop := ∀ b o, H b = some o → (some b = ca ∧ ∃ xs, o = .lst xs) ∨ H' b = some o
def CupOk (ca : Option Addr) (c : Cu) (H : Hp) : Prop := match c with
  | none => ca = none
  | some ns => ∃ a, ca = some a ∧ H a = some (.lst (ns.map V.int))
/-- from a heap to a later one -/
structure Post (ca : Option Addr) (H : Hp) (ca' : Option Addr) (c' : Cu) (H' : Hp) : Prop where
  ext : Ext ca H H'
  le : ca' = ca ∨ (ca = none ∧ ∃ p, ca' = some p ∧ H p = none)
  cup : CupOk ca' c' H'

section
variable {K : PySem.W.Frag} {F G : Addr → Prop} {ca ca' ca'' : Option Addr} {c c' c'' : Cu} {H H' H'' : Hp}
theorem Ext.refl : Ext ca H H := fun _ _ h => .inr h
theorem Post.refl (h : CupOk ca c H) : Post ca H ca c H := ⟨Ext.refl, .inl rfl, h⟩
theorem Post.has (p : Post ca H ca' c' H') {b : Addr} (h : H b ≠ none) : H' b ≠ none := by
  obtain ⟨o, e⟩ := Option.ne_none_iff_exists'.mp h
  rcases p.ext b o e with ⟨e1, xs, rfl⟩ | e1
  · rcases p.le with rfl | ⟨rfl, _⟩
    · have := p.cup
      cases c' with
      | none => rw [show ca' = none from this] at e1; cases e1
      | some ns =>
        obtain ⟨a, ea, eh⟩ := this
        rw [ea] at e1; cases e1
        rw [eh]; simp
    · cases e1
  · rw [e1]; simp
theorem Post.free (p : Post ca H ca' c' H') {b : Addr} (h : H' b = none) : H b = none := by
  cases q : H b with
  | none => rfl
  | some o => exact absurd h (p.has (by rw [q]; simp))
theorem Post.trans (p : Post ca H ca' c' H') (q : Post ca' H' ca'' c'' H'') : Post ca H ca'' c'' H'' := by
  refine ⟨fun b o e => ?_, ?_, q.cup⟩
  · rcases p.ext b o e with h | h
    · exact .inl h
    · rcases q.ext b o h with ⟨h1, h2⟩ | h1
      · rcases p.le with rfl | ⟨rfl, a, rfl, ha⟩
        · exact .inl ⟨h1, h2⟩
        · cases h1
          rw [e] at ha; cases ha
      · exact .inr h1
  · rcases p.le with rfl | ⟨rfl, a, rfl, ha⟩
    · rcases q.le with rfl | ⟨rfl, a, rfl, ha⟩
      · exact .inl rfl
      · exact .inr ⟨rfl, a, rfl, p.free ha⟩
    · rcases q.le with rfl | ⟨h, _⟩
      · exact .inr ⟨rfl, a, rfl, ha⟩
      · cases h
theorem Post.up (p : Post ca H ca' c' H') {a : Addr} {o : HO} (h : H' a = none) : Post ca H ca' c' (upd H' a o) := by
  have e : ∀ b o', H' b = some o' → upd H' a o b = some o' := fun b o' q => by rw [upd_ne (ne_of_none q h)]; exact q
  refine ⟨fun b o' q => (p.ext b o' q).imp id (e b o'), p.le, ?_⟩
  have := p.cup
  cases c' with
  | none => exact this
  | some ns =>
    obtain ⟨b, eb, q⟩ := this
    exact ⟨b, eb, e _ _ q⟩
/-- a stands as it stood -/
theorem Post.lst (p : Post ca H ca' c' H') {a : Addr} {o : HO} (h : H a = some o) (n : some a ≠ ca) : H' a = some o ∧ some a ≠ ca' := by
  refine ⟨(p.ext a o h).elim (fun q => absurd q.1 n) id, ?_⟩
  rcases p.le with rfl | ⟨rfl, b, rfl, hb⟩
  · exact n
  · intro q
    cases q
    rw [h] at hb; cases hb
theorem Post.oth (p : Post ca H ca' c' H') {a : Addr} {o : HO} (h : H a = some o) (n : ∀ xs, o ≠ .lst xs) : H' a = some o :=
  (p.ext a o h).elim (fun ⟨_, xs, e⟩ => absurd e (n xs)) id
theorem Post.sqT (p : Post ca H ca' c' H') {a : Addr} {vs : List V} (h : SqT K H a vs) : SqT K H' a vs := by
  rcases h with (h | ⟨o, h⟩) | h
  · exact .inl (.inl (p.oth h fun _ q => by cases q))
  · exact .inl (.inr ⟨o, p.oth h fun _ q => by cases q⟩)
  · exact .inr h
theorem Post.cupN (p : Post ca H ca' c' H') {a : Addr} (hn : H a ≠ none) (n : some a ≠ ca) : some a ≠ ca' := by
  rcases p.le with rfl | ⟨rfl, b, rfl, hb⟩
  · exact n
  · intro q
    cases q
    exact hn hb
end
section
variable {K : PySem.W.Frag} {F G : Addr → Prop} {ca ca' ca'' : Option Addr} {c c' c'' : Cu} {H H' H'' : Hp}
mutual
theorem Rep.post (p : Post ca H ca' c' H') (hg : ∀ a, G a → F a ∨ H a = none) : ∀ (d : D) (v : V), Rep K F ca H d v → Rep K G ca' H' d v
  | .non, _, h => h
  | .bl _, _, h => h
  | .int _, _, h => h
  | .str _, _, h => h
  | .tup xs, _, ⟨a, vs, e, q, r⟩ => ⟨a, vs, e, p.sqT q, RepL.post p hg xs vs r⟩
  | .lst xs, _, ⟨a, vs, e, q, n, m, r⟩ => ⟨a, vs, e, (p.lst q m).1, fun z => (hg a z).elim n fun z => (by rw [q] at z; cases z), (p.lst q m).2, RepL.post p hg xs vs r⟩
  | .dic kvs, _, ⟨a, ws, e, q, n, r⟩ => ⟨a, ws, e, p.oth q fun _ z => (by cases z), fun z => (hg a z).elim n fun z => (by rw [q] at z; cases z), RepK.post p hg kvs ws r⟩
  | .cup, _, ⟨a, e, q⟩ => ⟨a, e, by
      rcases p.le with z | ⟨z, _⟩
      · rw [z]; exact q
      · rw [z] at q; cases q⟩
  | .fn _, _, h => h
  | .scr ns, _, ⟨a, e, q⟩ => ⟨a, e, q.imp (fun ⟨o, q⟩ => ⟨o, p.oth q fun _ z => by cases z⟩) id⟩
theorem RepL.post (p : Post ca H ca' c' H') (hg : ∀ a, G a → F a ∨ H a = none) : ∀ (ds : List D) (vs : List V), RepL K F ca H ds vs → RepL K G ca' H' ds vs
  | [], _, h => h
  | x :: xs, _, ⟨v, r, e, h1, h2⟩ => ⟨v, r, e, Rep.post p hg x v h1, RepL.post p hg xs r h2⟩
theorem RepK.post (p : Post ca H ca' c' H') (hg : ∀ a, G a → F a ∨ H a = none) : ∀ (ds : List (D × D)) (vs : List (Key × V)), RepK K F ca H ds vs → RepK K G ca' H' ds vs
  | [], _, h => h
  | (k, x) :: xs, _, ⟨k', v, r, e, h0, h1, h2⟩ => ⟨k', v, r, e, h0, Rep.post p hg x v h1, RepK.post p hg xs r h2⟩
end
end
end Ev

set_option maxRecDepth 100000
/-! EvT: slots and data; the readings. -/
namespace Ev
open PySem PySem.Spec PyProof.Rows L2
def OwnA (own : List Nat) (env : Env) (σ : L2.St) (a : Addr) : Prop := ∃ i, i ∈ own ∧ (∃ d, gv env i = some d ∧ d.lstB = true) ∧ σ[i]? = some (some (.ref a))
abbrev Fo (F : Addr → Prop) (own : List Nat) (env : Env) (σ : L2.St) : Addr → Prop := fun a => F a ∨ OwnA own env σ a
def RepTop (K : PySem.W.Frag) (F : Addr → Prop) (ca : Option Addr) (H : Hp) (d : D) (a : Addr) : Prop := match d with
  | .lst xs => ∃ vs, H a = some (.lst vs) ∧ RepL K F ca H xs vs
  | .dic kvs => ∃ ws, H a = some (.dK ws) ∧ RepK K F ca H kvs ws
  | _ => False
structure Rl (K : PySem.W.Frag) (F : Addr → Prop) (own : List Nat) (ca : Option Addr) (c : Cu) (env : Env) (σ : L2.St) (H : Hp) : Prop where
  len : env.length = σ.length
  dom : ∀ a, F a → H a ≠ none
  cup : CupOk ca c H
  slot : ∀ i d, (i ∉ own ∨ d.lstB = false) → gv env i = some d → ∃ v, σ[i]? = some (some v) ∧ Rep K (Fo F own env σ) ca H d v
  ownd : ∀ i d, i ∈ own → gv env i = some d → d.lstB = true → ∃ a, σ[i]? = some (some (.ref a)) ∧ ¬ F a ∧ some a ≠ ca ∧ RepTop K (Fo F own env σ) ca H d a
  inj : ∀ i j d e a, i ∈ own → j ∈ own → gv env i = some d → gv env j = some e → d.lstB = true → e.lstB = true → σ[i]? = some (some (.ref a)) → σ[j]? = some (some (.ref a)) → i = j
section
variable {K : PySem.W.Frag} {F G : Addr → Prop} {own : List Nat} {ca ca' ca1 : Option Addr} {c c' c1 : Cu} {H H' H1 : Hp} {env : Env} {σ : L2.St}
theorem RepTop.has {d : D} {a : Addr} (h : RepTop K F ca H d a) : H a ≠ none := by
  cases d with
  | lst xs => obtain ⟨vs, e, _⟩ := h; rw [e]; simp
  | dic kvs => obtain ⟨vs, e, _⟩ := h; rw [e]; simp
  | _ => exact h.elim
theorem RepTop.post (p : Post ca H ca' c' H') (hg : ∀ a, G a → F a ∨ H a = none) {d : D} {a : Addr} (n : some a ≠ ca) (h : RepTop K F ca H d a) : RepTop K G ca' H' d a := by
  cases d with
  | lst xs => obtain ⟨vs, e, r⟩ := h; exact ⟨vs, (p.lst e n).1, RepL.post p hg _ _ r⟩
  | dic kvs => obtain ⟨vs, e, r⟩ := h; exact ⟨vs, p.oth e fun _ z => (by cases z), RepK.post p hg _ _ r⟩
  | _ => exact h.elim
theorem Rl.own_has (r : Rl K F own ca c env σ H) {a : Addr} (h : Fo F own env σ a) : H a ≠ none := by
  rcases h with h | ⟨i, hi, ⟨d, hd, hb⟩, e⟩
  · exact r.dom a h
  · obtain ⟨a', e', _, _, t⟩ := r.ownd i d hi hd hb
    rw [e] at e'; cases e'
    exact t.has
theorem Rl.post (r : Rl K F own ca c env σ H) (p : Post ca H ca' c' H') : Rl K F own ca' c' env σ H' where
  len := r.len
  dom := fun a h => p.has (r.dom a h)
  cup := p.cup
  slot := fun i d hi hd => by
    obtain ⟨v, e, q⟩ := r.slot i d hi hd
    exact ⟨v, e, Rep.post p (fun _ h => .inl h) d v q⟩
  ownd := fun i d hi hd hb => by
    obtain ⟨a, e, n, m, q⟩ := r.ownd i d hi hd hb
    exact ⟨a, e, n, p.cupN q.has m, q.post p (fun _ h => .inl h) m⟩
  inj := r.inj
/-- a new address is in no list's way -/
theorem Rl.new (r : Rl K F own ca c env σ H) {a : Addr} (h : H a = none) : ¬ Fo F own env σ a := fun z => r.own_has z h
theorem Rl.newC (r : Rl K F own ca c env σ H) {a : Addr} (h : H a = none) : some a ≠ ca := by
  have := r.cup
  cases c with
  | none => rw [show ca = none from this]; simp
  | some ns =>
    obtain ⟨b, e, q⟩ := this
    rw [e]
    intro z
    cases z
    rw [h] at q; cases q
mutual
theorem Rep.weak (hg : ∀ a, G a → F a) : ∀ (d : D) (v : V), Rep K F ca H d v → Rep K G ca H d v
  | .non, _, h => h
  | .bl _, _, h => h
  | .int _, _, h => h
  | .str _, _, h => h
  | .tup xs, _, ⟨a, vs, e, q, r⟩ => ⟨a, vs, e, q, RepL.weak hg xs vs r⟩
  | .lst xs, _, ⟨a, vs, e, q, n, m, r⟩ => ⟨a, vs, e, q, fun z => n (hg a z), m, RepL.weak hg xs vs r⟩
  | .dic kvs, _, ⟨a, ws, e, q, n, r⟩ => ⟨a, ws, e, q, fun z => n (hg a z), RepK.weak hg kvs ws r⟩
  | .cup, _, h => h
  | .fn _, _, h => h
  | .scr ns, _, h => h
theorem RepL.weak (hg : ∀ a, G a → F a) : ∀ (ds : List D) (vs : List V), RepL K F ca H ds vs → RepL K G ca H ds vs
  | [], _, h => h
  | x :: xs, _, ⟨v, r, e, h1, h2⟩ => ⟨v, r, e, Rep.weak hg x v h1, RepL.weak hg xs r h2⟩
theorem RepK.weak (hg : ∀ a, G a → F a) : ∀ (ds : List (D × D)) (vs : List (Key × V)), RepK K F ca H ds vs → RepK K G ca H ds vs
  | [], _, h => h
  | (k, x) :: xs, _, ⟨k', v, r, e, h0, h1, h2⟩ => ⟨k', v, r, e, h0, Rep.weak hg x v h1, RepK.weak hg xs r h2⟩
end
mutual
/-- without lists within all is one -/
theorem Rep.noL : ∀ (d : D) (v : V), d.noL = true → Rep K F ca H d v → Rep K G ca H d v
  | .non, _, _, h => h
  | .bl _, _, _, h => h
  | .int _, _, _, h => h
  | .str _, _, _, h => h
  | .tup xs, _, e, ⟨a, vs, e1, q, r⟩ => ⟨a, vs, e1, q, RepL.noL xs vs e r⟩
  | .lst xs, _, e, _ => by cases e
  | .dic kvs, _, e, _ => by cases e
  | .cup, _, _, h => h
  | .fn _, _, _, h => h
  | .scr ns, _, e, _ => by cases e
theorem RepL.noL : ∀ (ds : List D) (vs : List V), D.noLL ds = true → RepL K F ca H ds vs → RepL K G ca H ds vs
  | [], _, _, h => h
  | x :: xs, _, e, ⟨v, r, e1, h1, h2⟩ => by
    simp only [D.noLL, Bool.and_eq_true] at e
    exact ⟨v, r, e1, Rep.noL x v e.1 h1, RepL.noL xs r e.2 h2⟩
end
theorem RepL.len : ∀ {ds : List D} {vs : List V}, RepL K F ca H ds vs → ds.length = vs.length
  | [], _, h => by rw [show _ = [] from h]; rfl
  | x :: xs, _, ⟨v, r, e, h1, h2⟩ => by rw [e, List.length_cons, List.length_cons, RepL.len h2]
theorem RepL.get : ∀ {ds : List D} {vs : List V} {i : Nat} {d : D}, RepL K F ca H ds vs → ds[i]? = some d → ∃ v, vs[i]? = some v ∧ Rep K F ca H d v
  | [], _, _, _, _, h => by simp at h
  | x :: xs, _, 0, d, ⟨v, r, e, h1, h2⟩, h => by
    simp at h; subst h; subst e
    exact ⟨v, rfl, h1⟩
  | x :: xs, _, i + 1, d, ⟨v, r, e, h1, h2⟩, h => by
    subst e
    obtain ⟨w, e1, e2⟩ := RepL.get (i := i) h2 (by simpa using h)
    exact ⟨w, by simpa using e1, e2⟩
theorem RepL.getV : ∀ {ds : List D} {vs : List V} {i : Nat} {v : V}, RepL K F ca H ds vs → vs[i]? = some v → ∃ d, ds[i]? = some d ∧ Rep K F ca H d v := fun {ds vs i v} h e => by
  have hl := h.len
  have hi : i < vs.length := (List.getElem?_eq_some_iff.mp e).1
  have hd : ds[i]? = some ds[i] := List.getElem?_eq_getElem (by omega)
  obtain ⟨w, e1, e2⟩ := h.get hd
  rw [e] at e1; cases e1
  exact ⟨_, hd, e2⟩
theorem RepL.app : ∀ {ds es : List D} {vs ws : List V}, RepL K F ca H ds vs → RepL K F ca H es ws → RepL K F ca H (ds ++ es) (vs ++ ws)
  | [], _, _, _, h, h' => by rw [show _ = [] from h]; exact h'
  | x :: xs, _, _, _, ⟨v, r, e, h1, h2⟩, h' => by subst e; exact ⟨v, _, rfl, h1, RepL.app h2 h'⟩
theorem RepL.take : ∀ {ds : List D} {vs : List V} (n : Nat), RepL K F ca H ds vs → RepL K F ca H (ds.take n) (vs.take n)
  | _, _, 0, _ => rfl
  | [], _, _ + 1, h => by rw [show _ = [] from h]; rfl
  | x :: xs, _, n + 1, ⟨v, r, e, h1, h2⟩ => by subst e; exact ⟨v, _, rfl, h1, RepL.take n h2⟩
theorem RepL.drop : ∀ {ds : List D} {vs : List V} (n : Nat), RepL K F ca H ds vs → RepL K F ca H (ds.drop n) (vs.drop n)
  | _, _, 0, h => h
  | [], _, _ + 1, h => by rw [show _ = [] from h]; rfl
  | x :: xs, _, n + 1, ⟨v, r, e, h1, h2⟩ => by subst e; exact RepL.drop n h2
theorem RepL.set : ∀ {ds : List D} {vs : List V} {d : D} {v : V} (i : Nat), RepL K F ca H ds vs → Rep K F ca H d v → RepL K F ca H (ds.set i d) (vs.set i v)
  | [], _, _, _, _, h, _ => by rw [show _ = [] from h]; rfl
  | x :: xs, _, _, _, 0, ⟨v, r, e, h1, h2⟩, h => by subst e; exact ⟨_, r, rfl, h, h2⟩
  | x :: xs, _, _, _, i + 1, ⟨v, r, e, h1, h2⟩, h => by subst e; exact ⟨v, _, rfl, h1, RepL.set i h2 h⟩
theorem RepL.rep {ds : List D} {vs : List V} (h : RepL K F ca H ds vs) : ∀ n : Nat, RepL K F ca H (repL n ds) (List.replicate n vs).flatten
  | 0 => rfl
  | n + 1 => by
    unfold repL
    rw [List.replicate_succ, List.flatten_cons, List.replicate_succ, List.flatten_cons]
    exact h.app (RepL.rep h n)
theorem RepL.rev {ds : List D} {vs : List V} (h : RepL K F ca H ds vs) : RepL K F ca H ds.reverse vs.reverse := by
  induction ds generalizing vs with
  | nil => rw [show vs = [] from h]; rfl
  | cons x xs ih =>
    obtain ⟨v, r, rfl, h1, h2⟩ := h
    rw [List.reverse_cons, List.reverse_cons]
    exact (ih h2).app ⟨v, [], rfl, h1, rfl⟩
theorem RepL.map {ds : List D} : ∀ {vs : List V}, (∀ d ∈ ds, ∀ v, Rep K F ca H d v → Rep K G ca' H' d v) → RepL K F ca H ds vs → RepL K G ca' H' ds vs := by
  induction ds with
  | nil => exact fun _ h => h
  | cons x xs ih =>
    rintro _ hf ⟨v, r, rfl, h1, h2⟩
    exact ⟨v, r, rfl, hf x List.mem_cons_self v h1, ih (fun d hd => hf d (List.mem_cons_of_mem _ hd)) h2⟩
theorem RepL.ints : ∀ {ds : List D} {vs : List V} {ns : List Int}, D.ints ds = some ns → RepL K F ca H ds vs → vs = ns.map V.int
  | [], _, _, e, h => by cases e; exact h
  | .int i :: r, _, ns, e, ⟨v, q, e1, h1, h2⟩ => by
    simp only [D.ints] at e
    cases h3 : D.ints r with
    | none => rw [h3] at e; cases e
    | some ms =>
      rw [h3] at e
      simp at e
      subst e1; subst e
      rw [RepL.ints h3 h2, show v = .int i from h1]
      rfl
theorem RepL.bls : ∀ {ds : List D} {vs : List V} {ns : List Bool}, D.bls ds = some ns → RepL K F ca H ds vs → vs = ns.map V.bl
  | [], _, _, e, h => by cases e; exact h
  | .bl i :: r, _, ns, e, ⟨v, q, e1, h1, h2⟩ => by
    simp only [D.bls] at e
    cases h3 : D.bls r with
    | none => rw [h3] at e; cases e
    | some ms =>
      rw [h3] at e
      simp at e
      subst e1; subst e
      rw [RepL.bls h3 h2, show v = .bl i from h1]
      rfl
theorem RepL.ofInts : ∀ (ns : List Int), RepL K F ca H (ns.map D.int) (ns.map V.int)
  | [] => rfl
  | n :: ns => ⟨.int n, _, rfl, rfl, RepL.ofInts ns⟩
end
/-- lists that are read where they stand: the owned ones too -/
def E.isVar : E → Bool
  | .var _ => true
  | _ => false
section
variable (own : List Nat)
mutual
/-- no owned list within what it gives -/
def E.cl : E → Bool
  | .var i => decide (i ∉ own)
  | .cst _ => true
  | .gl _ _ => true
  | .tup es => es.cls
  | .lst es => es.cls
  | .op2 _ a b => (a.cl || a.isVar) && (b.cl || b.isVar)
  | .ife _ a b => a.cl && b.cl
  | .ix a _ => a.cl || a.isVar
  | .sl a _ _ => a.cl || a.isVar
  | .rev a => a.cl || a.isVar
  | .call _ es => es.cls
  | .bf _ es => es.clbs
  | .lz es => es.clbs
  | .met _ a es => (a.cl || a.isVar) && es.cls
  | _ => true
def E.cls : E → Bool
  | .cons e es => e.cl && es.cls
  | _ => true
def E.clbs : E → Bool
  | .cons e es => (e.cl || e.isVar) && es.clbs
  | _ => true
end
end
def E.clb (own : List Nat) (e : E) : Bool := e.cl own || e.isVar
/-- what is walked may be owned -/
def E.itb (own : List Nat) : E → Bool
  | .itE a => a.clb own
  | .itN a => a.clb own
  | .itZ a b => a.clb own && b.clb own
  | _ => true
/-- .. is not owned -/
def E.itc (own : List Nat) : E → Bool
  | .itE a => a.cl own
  | .itN a => a.cl own
  | .itZ a b => a.cl own && b.cl own
  | _ => true
/-- a list that it gives is new -/
def E.fr : E → Bool
  | .lst _ => true
  | .op2 _ _ _ => true
  | .ife _ a b => a.fr && b.fr
  | .sl _ _ _ => true
  | .rev _ => true
  | .callf _ _ => true
  | .bf _ _ => true
  | .lz _ => true
  | .lc _ _ => true
  | _ => false
/-- the wish about exceptions -/
abbrev RX := Nat → Option Addr → Cu → Hp → Prop
/-- a list or dict that may be owned, its items not -/
def RepB (K : PySem.W.Frag) (F G : Addr → Prop) (ca : Option Addr) (H : Hp) (d : D) (v : V) : Prop := match d with
  | .lst xs => ∃ a vs, v = .ref a ∧ H a = some (.lst vs) ∧ ¬ F a ∧ some a ≠ ca ∧ RepL K G ca H xs vs
  | .dic kvs => ∃ a ws, v = .ref a ∧ H a = some (.dK ws) ∧ ¬ F a ∧ RepK K G ca H kvs ws
  | d => Rep K G ca H d v
theorem RepB.of {K : PySem.W.Frag} {F G : Addr → Prop} {ca : Option Addr} {H : Hp} {d : D} {v : V} (hg : ∀ a, F a → G a) (h : Rep K G ca H d v) : RepB K F G ca H d v := by
  cases d with
  | lst xs => obtain ⟨a, vs, e, q, n, m, r⟩ := h; exact ⟨a, vs, e, q, fun z => n (hg a z), m, r⟩
  | dic xs => obtain ⟨a, vs, e, q, n, r⟩ := h; exact ⟨a, vs, e, q, fun z => n (hg a z), r⟩
  | _ => exact h
theorem RepB.rep {K : PySem.W.Frag} {F G : Addr → Prop} {ca : Option Addr} {H : Hp} {d : D} {v : V} (hg : ∀ a, F a → G a) (h : RepB K F G ca H d v) : Rep K F ca H d v := by
  cases d with
  | lst xs => obtain ⟨a, vs, e, q, n, m, r⟩ := h; exact ⟨a, vs, e, q, n, m, RepL.weak hg _ _ r⟩
  | dic xs => obtain ⟨a, vs, e, q, n, r⟩ := h; exact ⟨a, vs, e, q, n, RepK.weak hg _ _ r⟩
  | _ => exact Rep.weak hg _ _ h
theorem RepB.post {K : PySem.W.Frag} {F G : Addr → Prop} {ca ca' : Option Addr} {c' : Cu} {H H' : Hp} (p : Post ca H ca' c' H') {d : D} {v : V} (h : RepB K F G ca H d v) : RepB K F G ca' H' d v := by
  cases d with
  | lst xs => obtain ⟨a, vs, e, q, n, m, r⟩ := h; exact ⟨a, vs, e, (p.lst q m).1, n, (p.lst q m).2, RepL.post p (fun _ z => .inl z) _ _ r⟩
  | dic xs => obtain ⟨a, vs, e, q, n, r⟩ := h; exact ⟨a, vs, e, p.oth q fun _ z => (by cases z), n, RepK.post p (fun _ z => .inl z) _ _ r⟩
  | _ => exact Rep.post p (fun _ z => .inl z) _ _ h
def RepLB (K : PySem.W.Frag) (F G : Addr → Prop) (ca : Option Addr) (H : Hp) : List D → List V → Prop
  | [], vs => vs = []
  | x :: xs, vs => ∃ v r, vs = v :: r ∧ RepB K F G ca H x v ∧ RepLB K F G ca H xs r
theorem RepLB.post {K : PySem.W.Frag} {F G : Addr → Prop} {ca ca' : Option Addr} {c' : Cu} {H H' : Hp} (p : Post ca H ca' c' H') : ∀ {d : List D} {v : List V}, RepLB K F G ca H d v → RepLB K F G ca' H' d v
  | [], _, h => h
  | x :: xs, _, ⟨v, r, e, h1, h2⟩ => ⟨v, r, e, h1.post p, RepLB.post p h2⟩
def After (K : PySem.W.Frag) (F G : Addr → Prop) (ca : Option Addr) (H : Hp) (R : RX) (cb cl fr : Bool) (o : Out D) (Q : VK) : Prop := match o with
  | .ok d c' => ∀ v ca' H', Post ca H ca' c' H' → RepB K F (if cb then G else F) ca' H' d v → (cl = true → Rep K G ca' H' d v) → (fr = true → d.lstB = true → ∃ p, v = .ref p ∧ H p = none) → Q v H'
  | .err k c' => ∀ ca' H', Post ca H ca' c' H' → R k ca' c' H'
  | .no => False
/-- cl: clean items; otherwise only as owned lists may be -/
def AfterL (K : PySem.W.Frag) (F G : Addr → Prop) (ca : Option Addr) (H : Hp) (R : RX) (cl : Bool) (o : Out (List D)) (Q : List V → Hp → Prop) : Prop := match o with
  | .ok d c' => ∀ v ca' H', Post ca H ca' c' H' → RepL K (if cl then G else F) ca' H' d v → Q v H'
  | .err k c' => ∀ ca' H', Post ca H ca' c' H' → R k ca' c' H'
  | .no => False
def AfterLB (K : PySem.W.Frag) (F G : Addr → Prop) (ca : Option Addr) (H : Hp) (R : RX) (cl : Bool) (o : Out (List D)) (Q : List V → Hp → Prop) : Prop := match o with
  | .ok d c' => ∀ v ca' H', Post ca H ca' c' H' → RepLB K F (if cl then G else F) ca' H' d v → Q v H'
  | .err k c' => ∀ ca' H', Post ca H ca' c' H' → R k ca' c' H'
  | .no => False
def AfterB (ca : Option Addr) (H : Hp) (R : RX) (o : Out Bool) (Q : Bool → Hp → Prop) : Prop := match o with
  | .ok b c' => ∀ ca' H', Post ca H ca' c' H' → Q b H'
  | .err k c' => ∀ ca' H', Post ca H ca' c' H' → R k ca' c' H'
  | .no => False
def outB (o : Out D) : Out Bool := o.bind fun d c => match d with
  | .bl b => .ok b c
  | _ => .no
section
variable (K : PySem.W.Frag) (own : List Nat) (R : RX) (Fn : Nat → List D → Cu → Out D)
/-- the readings -/
def T (e : E) : TE := fun σ H Q => ∃ F ca c env, Rl K F own ca c env σ H ∧ After K F (Fo F own env σ) ca H R (e.clb own) (e.cl own) e.fr (ev Fn e env c) Q
def TL (es : E) : TA := fun σ H Q => ∃ F ca c env, Rl K F own ca c env σ H ∧ AfterL K F (Fo F own env σ) ca H R (es.cls own) (evs Fn es env c) Q
def TLb (es : E) : TA := fun σ H Q => ∃ F ca c env, Rl K F own ca c env σ H ∧ AfterLB K F (Fo F own env σ) ca H R (es.clbs own) (evs Fn es env c) Q
def TB (e : E) : TT := fun σ H Q => ∃ F ca c env, Rl K F own ca c env σ H ∧ AfterB ca H R (outB (ev Fn e env c)) Q
end
end Ev

set_option maxRecDepth 100000
set_option maxHeartbeats 4000000
namespace Ev
open PySem PySem.Spec PyProof.Rows L2
theorem tuple_mul1 (l : Addr) (items : Array Value) (n : Nat) (dd : Option Addr) (sl : Array (Option Value)) (x : Int) (u : Tok) (c0 : (decide (x < -(2 ^ 63)) || decide (x ≥ 2 ^ 63)) = false) (c1 : (items.isEmpty || x == 1) = true) :
    Meets (Builtin.«tuple.__mul__» ⟨[.ref l, .int x u], []⟩) (fun _ R s => s.heap.get? l = some { cls := .type "tuple", dict := dd, data := .seq items n, slots := sl } ∧ R (.ok (.ret (Value.ref l))) s) :=
  .of_wp fun prog w A R s h => by
    obtain ⟨hp, g, d, tk, os⟩ := s
    obtain ⟨hl, h⟩ := h
    have f1 := AutoSeq1.idx_int
    wp_walk using wpAny_loadPart' hl
    refine wpAny_ite_false (decide_eq_false (by rw [c0]; exact Bool.false_ne_true)) ?_
    wp_walk using wpAny_loadPart' hl
    exact ⟨_, rfl, h⟩
theorem tuple_mul0 (l : Addr) (items : Array Value) (n : Nat) (dd : Option Addr) (sl : Array (Option Value)) (x : Int) (u : Tok) (c0 : (decide (x < -(2 ^ 63)) || decide (x ≥ 2 ^ 63)) = false) (c1 : (items.isEmpty || x == 1) = false) (c2 : (decide (x ≤ 0) || items.isEmpty) = true) :
    Meets (Builtin.«tuple.__mul__» ⟨[.ref l, .int x u], []⟩) (fun _ R s => s.heap.get? l = some { cls := .type "tuple", dict := dd, data := .seq items n, slots := sl } ∧
      R (.ok (.ret (Value.ref s.heap.objs.size))) { s with heap := s.heap.push { cls := Value.type "tuple", data := Data.seq #[] }, toks := s.toks }) :=
  .of_wp fun prog w A R s h => by
    obtain ⟨hp, g, d, tk, os⟩ := s
    obtain ⟨hl, h⟩ := h
    have f1 := AutoSeq1.idx_int
    wp_walk using wpAny_loadPart' hl
    refine wpAny_ite_false (decide_eq_false (by rw [c0]; exact Bool.false_ne_true)) ?_
    wp_walk using wpAny_loadPart' hl
    exact ⟨_, rfl, h⟩
def rRepT1 (K : PySem.W.Frag) : R2 := fun x y H Q => ∃ l k xs, x = .ref l ∧ y = .int k ∧ SqT K H l xs ∧ ((k = 1 ∧ Q (.ref l) H) ∨ (xs = [] ∧ -(2 ^ 63) ≤ k ∧ k < 2 ^ 63 ∧ Q (.ref l) H) ∨ (xs ≠ [] ∧ -(2 ^ 63) ≤ k ∧ k ≤ 0 ∧ ∀ p, H p = none → Q (.ref p) (upd H p (.tup []))))
theorem op_repT1 {X : Cx} : OpR X (binaryOp .Mult) (rRepT1 X.K) := by
  intro pins s σ H x y v u Q I rx ry h
  obtain ⟨l, k, xs, rfl, rfl, hT, h⟩ := h
  cases rx
  obtain ⟨t, rfl⟩ := ry
  obtain ⟨its, r, ⟨⟨cls, dd, data, sl⟩, ho, hc, n, hd⟩, hs⟩ := I.tuple hT
  simp only at hc hd
  subst hc hd
  have hle : its.length = xs.length := r.length.symm
  have go : ∀ {R : Result → Shared → Prop}, codeAny (model X.prog X.w) X.A (.builtin "tuple.__mul__" ⟨[.ref l, .int k t], []⟩) R s → True := fun _ => trivial
  rcases h with ⟨rfl, q⟩ | ⟨rfl, h1, h2, q⟩ | ⟨hne, h1, h2, q⟩
  · refine wpAny_binaryOp_repeat_ref (T := "tuple") (U := "int") (by decide) ⟨_, ho, rfl⟩ (fun s' => typeIs_int s' 1 t) noFill_tuple_mul F.fills_int_mul F.slot_int_rmul repeat_tuple F.slot_int_index.lookup
      (call_meets F.slot_int_rmul (typeIs_int s 1 t) F.entry_int_rmul (F.args_int_rmul_2 _ _) (int_rmul_tuple 1 t l its.toArray n dd sl)
        ⟨ho, rfl, ⟨_, ho, rfl⟩, call_meets F.slot_tuple_mul ⟨_, ho, rfl⟩ F.entry_tuple_mul (F.args_tuple_mul_2 _ _) (tuple_mul1 l its.toArray n dd sl 1 t (by decide) (by simp)) ⟨ho, ?_⟩⟩)
    exact ⟨.ref l, H, I, rfl, q⟩
  · have e : its = [] := List.eq_nil_of_length_eq_zero hle
    subst e
    refine wpAny_binaryOp_repeat_ref (T := "tuple") (U := "int") (by decide) ⟨_, ho, rfl⟩ (fun s' => typeIs_int s' k t) noFill_tuple_mul F.fills_int_mul F.slot_int_rmul repeat_tuple F.slot_int_index.lookup
      (call_meets F.slot_int_rmul (typeIs_int s k t) F.entry_int_rmul (F.args_int_rmul_2 _ _) (int_rmul_tuple k t l _ n dd sl)
        ⟨ho, rfl, ⟨_, ho, rfl⟩, call_meets F.slot_tuple_mul ⟨_, ho, rfl⟩ F.entry_tuple_mul (F.args_tuple_mul_2 _ _) (tuple_mul1 l _ n dd sl k t (by rw [decide_eq_false (by omega), decide_eq_false (by omega)]; rfl) (by simp)) ⟨ho, ?_⟩⟩)
    exact ⟨.ref l, H, I, rfl, q⟩
  · have hi : its.toArray.isEmpty = false := by
      cases its with
      | nil => exact absurd (List.eq_nil_of_length_eq_zero hle.symm) hne
      | cons a b => rfl
    refine wpAny_binaryOp_repeat_ref (T := "tuple") (U := "int") (by decide) ⟨_, ho, rfl⟩ (fun s' => typeIs_int s' k t) noFill_tuple_mul F.fills_int_mul F.slot_int_rmul repeat_tuple F.slot_int_index.lookup
      (call_meets F.slot_int_rmul (typeIs_int s k t) F.entry_int_rmul (F.args_int_rmul_2 _ _) (int_rmul_tuple k t l its.toArray n dd sl)
        ⟨ho, rfl, ⟨_, ho, rfl⟩, call_meets F.slot_tuple_mul ⟨_, ho, rfl⟩ F.entry_tuple_mul (F.args_tuple_mul_2 _ _) (tuple_mul0 l its.toArray n dd sl k t (by rw [decide_eq_false (by omega), decide_eq_false (by omega)]; rfl) (by rw [hi, Bool.false_or]; exact beq_eq_false_iff_ne.mpr (by omega)) (by rw [hi, Bool.or_false]; exact decide_eq_true h2)) ⟨ho, ?_⟩⟩)
    refine ⟨.ref s.heap.objs.size, _, I.laid (t' := s.toks) (o := .tup []) (fun b ob q => Heap.get?_push_of_some _ q) (Nat.le_refl _) ?_, rfl, q _ (I.hok.fresh (Nat.le_refl _))⟩
    exact ⟨Nat.zero_le _, [], .nil, IsTup.new _ _⟩
end Ev

set_option maxRecDepth 100000
/-! EvOps: operations on data, by the rules of HandS. -/
namespace Ev
open PySem PySem.Spec PyProof.Rows L2
theorem line_eq : sizeLine = 16777216 := sizeLine_eq
theorem big_le {n : Nat} (h : big n = true) : n ≤ sizeLine := by
  rw [line_eq]
  exact of_decide_eq_true h
def Op2.op : Op2 → Operator
  | .add => .Add | .sub => .Sub | .mul => .Mult | .mod => .Mod | .fdiv => .FloorDiv | .pow => .Pow
/-- what is known where an operation is done -/
structure At (F G : Addr → Prop) (ca : Option Addr) (c : Cu) (H : Hp) : Prop where
  cup : CupOk ca c H
  dom : ∀ a, G a → H a ≠ none
  le : ∀ a, F a → G a
section
variable {K : PySem.W.Frag} {F G : Addr → Prop} {ca ca' : Option Addr} {c c' : Cu} {H H' : Hp}
theorem At.newC (r : At F G ca c H) {a : Addr} (h : H a = none) : some a ≠ ca := by
  have := r.cup
  cases c with
  | none => rw [show ca = none from this]; simp
  | some ns =>
    obtain ⟨b, e, q⟩ := this
    rw [e]
    intro z
    cases z
    rw [h] at q; cases q
theorem At.newG (r : At F G ca c H) {a : Addr} (h : H a = none) : ¬ G a := fun z => r.dom a z h
/-- a new list -/
theorem At.lst (r : At F G ca c H) {a : Addr} (h : H a = none) {xs : List D} {vs : List V} (q : RepL K G ca H xs vs) : Post ca H ca c (upd H a (.lst vs)) ∧ Rep K G ca (upd H a (.lst vs)) (.lst xs) (.ref a) := by
  have p : Post ca H ca c (upd H a (.lst vs)) := (Post.refl r.cup).up h
  exact ⟨p, a, vs, rfl, upd_same, r.newG h, r.newC h, RepL.post p (fun _ z => .inl z) _ _ q⟩
/-- a new tuple -/
theorem At.tup (r : At F G ca c H) {a : Addr} (h : H a = none) {xs : List D} {vs : List V} (q : RepL K G ca H xs vs) : Post ca H ca c (upd H a (.tup vs)) ∧ Rep K G ca (upd H a (.tup vs)) (.tup xs) (.ref a) := by
  have p : Post ca H ca c (upd H a (.tup vs)) := (Post.refl r.cup).up h
  exact ⟨p, a, vs, rfl, .inl (.inl upd_same), RepL.post p (fun _ z => .inl z) _ _ q⟩
end
/-- what is wanted behind an operation -/
def Done (K : PySem.W.Frag) (G : Addr → Prop) (ca : Option Addr) (c : Cu) (H : Hp) (z : D) (Q : VK) : Prop :=
  ∀ v H', Post ca H ca c H' → Rep K G ca H' z v → (z.lstB = true → ∃ p, v = .ref p ∧ H p = none) → Q v H'
theorem Done.here {K : PySem.W.Frag} {F G : Addr → Prop} {ca : Option Addr} {c : Cu} {H : Hp} {z : D} {Q : VK} {v : V} (q : Done K G ca c H z Q) (r : At F G ca c H) (h : Rep K G ca H z v) (n : z.lstB = false) : Q v H :=
  q v H (Post.refl r.cup) h fun e => by rw [n] at e; cases e
theorem Done.newL {K : PySem.W.Frag} {F G : Addr → Prop} {ca : Option Addr} {c : Cu} {H : Hp} {xs : List D} {vs : List V} {Q : VK} (q : Done K G ca c H (.lst xs) Q) (r : At F G ca c H) (h : RepL K G ca H xs vs) : ∀ p, H p = none → Q (.ref p) (upd H p (.lst vs)) :=
  fun p np => q _ _ (r.lst np h).1 (r.lst np h).2 fun _ => ⟨p, rfl, np⟩
theorem Done.newT {K : PySem.W.Frag} {F G : Addr → Prop} {ca : Option Addr} {c : Cu} {H : Hp} {xs : List D} {vs : List V} {Q : VK} (q : Done K G ca c H (.tup xs) Q) (r : At F G ca c H) (h : RepL K G ca H xs vs) : ∀ p, H p = none → Q (.ref p) (upd H p (.tup vs)) :=
  fun p np => q _ _ (r.tup np h).1 (r.tup np h).2 fun e => by cases e
def rOp (K : PySem.W.Frag) (o : Op2) : R2 := fun v w H Q => ∃ F G ca c x y z, At F G ca c H ∧ RepB K F G ca H x v ∧ RepB K F G ca H y w ∧ opv o x y = some z ∧ Done K G ca c H z Q
section
variable {X : Cx}
theorem op_ok (o : Op2) : OpR X (binaryOp o.op) (rOp X.K o) := by
  intro pins s σ H v w u1 u2 Q I r1 r2 h
  obtain ⟨F, G, ca, c, x, y, z, at_, hx, hy, ho, q⟩ := h
  cases o with
  | add =>
    cases x with
    | int i =>
      cases y with
      | int j =>
        simp only [opv, Option.some.injEq] at ho; subst ho
        refine op_add pins s σ H _ _ u1 u2 Q I r1 r2 ⟨i, j, hx, hy, q.here at_ rfl rfl⟩
      | _ => simp [opv] at ho
    | tup xs =>
      cases y with
      | tup ys =>
        simp only [opv] at ho
        split at ho
        · rename_i hb
          cases ho
          obtain ⟨a, vs, rfl, h1, k1⟩ := hx
          obtain ⟨b, ws, rfl, h2, k2⟩ := hy
          refine op_catA pins s σ H _ _ u1 u2 Q I r1 r2 ⟨a, b, vs, ws, rfl, rfl, h1, h2, by rw [← k1.len, ← k2.len]; exact big_le hb, fun e => ?_, fun e1 e2 => ?_, fun _ _ p np => q.newT at_ (k1.app k2) p np⟩
          · subst e
            have e1 : xs = [] := List.eq_nil_of_length_eq_zero k1.len
            subst e1
            exact q.here at_ ⟨b, ws, rfl, h2, k2⟩ rfl
          · subst e2
            have e2 : ys = [] := List.eq_nil_of_length_eq_zero k2.len
            subst e2
            rw [List.append_nil] at q
            exact q.here at_ ⟨a, vs, rfl, h1, k1⟩ rfl
        · cases ho
      | _ => simp [opv] at ho
    | lst xs =>
      cases y with
      | lst ys =>
        simp only [opv] at ho
        split at ho
        · rename_i hb
          cases ho
          obtain ⟨a, vs, rfl, h1, _, _, k1⟩ := hx
          obtain ⟨b, ws, rfl, h2, _, _, k2⟩ := hy
          exact op_cat pins s σ H _ _ u1 u2 Q I r1 r2 ⟨a, b, vs, ws, rfl, rfl, h1, h2, by rw [← k1.len, ← k2.len]; exact big_le hb, fun p np => q.newL at_ (k1.app k2) p np⟩
        · cases ho
      | _ => simp [opv] at ho
    | _ => simp [opv] at ho
  | sub =>
    cases x with
    | int i =>
      cases y with
      | int j =>
        simp only [opv, Option.some.injEq] at ho; subst ho
        exact op_sub pins s σ H _ _ u1 u2 Q I r1 r2 ⟨i, j, hx, hy, q.here at_ rfl rfl⟩
      | _ => simp [opv] at ho
    | _ => simp [opv] at ho
  | mul =>
    cases x with
    | int i =>
      cases y with
      | int j =>
        simp only [opv] at ho
        split at ho
        · rename_i hb
          cases ho
          refine op_mul pins s σ H _ _ u1 u2 Q I r1 r2 ⟨i, j, hx, hy, ?_, q.here at_ rfl rfl⟩
          rw [Bool.or_eq_true, decide_eq_true_eq, decide_eq_true_eq] at hb
          exact hb.symm
        · cases ho
      | _ => simp [opv] at ho
    | tup xs =>
      cases y with
      | int k =>
        simp only [opv] at ho
        split at ho
        · rename_i hb
          cases ho
          have hb := of_decide_eq_true hb
          obtain ⟨a, vs, rfl, h1, k1⟩ := hx
          have hl := k1.len
          by_cases hk1 : k = 1
          · subst hk1
            refine op_repT1 pins s σ H _ _ u1 u2 Q I r1 r2 ⟨a, 1, vs, rfl, hy, h1, .inl ⟨rfl, ?_⟩⟩
            have e : repL (1 : Int).toNat xs = xs := by simp [repL]
            rw [e] at q
            exact q.here at_ ⟨a, vs, rfl, h1, k1⟩ rfl
          by_cases hx0 : xs = []
          · subst hx0
            refine op_repT1 pins s σ H _ _ u1 u2 Q I r1 r2 ⟨a, k, vs, rfl, hy, h1, .inr (.inl ⟨List.eq_nil_of_length_eq_zero hl.symm, by omega, by omega, ?_⟩)⟩
            have e : repL k.toNat ([] : List D) = [] := by unfold repL; simp
            rw [e] at q
            exact q.here at_ ⟨a, vs, rfl, h1, k1⟩ rfl
          have hv0 : vs ≠ [] := fun e => hx0 (by rw [e] at hl; exact List.eq_nil_of_length_eq_zero hl)
          by_cases hk0 : k ≤ 0
          · have e : repL k.toNat xs = [] := by rw [show k.toNat = 0 by omega]; rfl
            rw [e] at q
            exact op_repT1 pins s σ H _ _ u1 u2 Q I r1 r2 ⟨a, k, vs, rfl, hy, h1, .inr (.inr ⟨hv0, by omega, hk0, fun p np => q.newT at_ rfl p np⟩)⟩
          · exact op_repT pins s σ H _ _ u1 u2 Q I r1 r2 ⟨a, k, vs, rfl, hy, h1, hv0, by omega, by omega, by omega, fun p np => q.newT at_ (k1.rep k.toNat) p np⟩
        · cases ho
      | _ => simp [opv] at ho
    | lst xs =>
      cases y with
      | int k =>
        simp only [opv] at ho
        split at ho
        · rename_i hb
          cases ho
          have hb := of_decide_eq_true hb
          obtain ⟨a, vs, rfl, h1, _, _, k1⟩ := hx
          refine op_rep pins s σ H _ _ u1 u2 Q I r1 r2 ⟨a, k, vs, rfl, hy, h1, by omega, by omega, ?_, fun p np => q.newL at_ (k1.rep k.toNat) p np⟩
          rw [← k1.len, line_eq]
          have : xs.length * k.toNat ≤ 1000 * 1000 := Nat.mul_le_mul (by omega) (by omega)
          omega
        · cases ho
      | _ => simp [opv] at ho
    | _ => simp [opv] at ho
  | mod =>
    cases x with
    | int i =>
      cases y with
      | int j =>
        simp only [opv] at ho
        split at ho
        · rename_i hb
          cases ho
          exact op_mod pins s σ H _ _ u1 u2 Q I r1 r2 ⟨i, j, hx, hy, of_decide_eq_true hb, q.here at_ rfl rfl⟩
        · cases ho
      | _ => simp [opv] at ho
    | _ => simp [opv] at ho
  | fdiv =>
    cases x with
    | int i =>
      cases y with
      | int j =>
        simp only [opv] at ho
        split at ho
        · rename_i hb
          cases ho
          exact op_fdiv pins s σ H _ _ u1 u2 Q I r1 r2 (by have hb2 : 0 < j ∧ j < 1073741824 := of_decide_eq_true hb; exact ⟨i, j, hx, hy, hb2, q.here at_ rfl rfl⟩)
        · cases ho
      | _ => simp [opv] at ho
    | _ => simp [opv] at ho
  | pow =>
    cases x with
    | int i =>
      cases y with
      | int j =>
        simp only [opv] at ho
        split at ho
        · rename_i hb
          cases ho
          have hb := of_decide_eq_true hb
          exact op_pow pins s σ H _ _ u1 u2 Q I r1 r2 ⟨i, j, hx, hy, ⟨by omega, by omega, by omega⟩, q.here at_ rfl rfl⟩
        · cases ho
      | _ => simp [opv] at ho
    | _ => simp [opv] at ho
end
end Ev

set_option maxRecDepth 100000
/-! EvCmp: comparisons. -/
namespace Ev
open PySem PySem.Spec PyProof.Rows L2
mutual
theorem Rep.dp {K : PySem.W.Frag} {F : Addr → Prop} {ca : Option Addr} {H : Hp} : ∀ (n : Nat) (d : D) (v : V), d.flat n = true → Rep K F ca H d v → Dp K H v d.py
  | _, .non, _, _, h => by rw [show _ = V.non from h]; exact .non
  | _, .bl b, _, _, h => by rw [show _ = V.bl b from h]; exact .bl b
  | _, .int b, _, _, h => by rw [show _ = V.int b from h]; exact .int b
  | _, .str b, _, _, h => by rw [show _ = V.str b from h]; exact .str b
  | n + 1, .tup xs, _, e, ⟨a, vs, e1, q, r⟩ => by subst e1; exact .tup q (RepL.dp n xs vs e r)
  | n + 1, .lst xs, _, e, ⟨a, vs, e1, q, _, _, r⟩ => by subst e1; exact .lst (.inl (.inl q)) (RepL.dp n xs vs e r)
  | 0, .tup xs, _, e, _ => by simp [D.flat] at e
  | 0, .lst xs, _, e, _ => by simp [D.flat] at e
  | n, .dic _, _, e, _ => by simp [D.flat] at e
  | n, .cup, _, e, _ => by simp [D.flat] at e
  | n, .fn _, _, e, _ => by simp [D.flat] at e
  | n, .scr _, _, e, _ => by simp [D.flat] at e
theorem RepL.dp {K : PySem.W.Frag} {F : Addr → Prop} {ca : Option Addr} {H : Hp} : ∀ (n : Nat) (d : List D) (v : List V), D.flatL n d = true → RepL K F ca H d v → DpAll K H v (D.pyL d)
  | _, [], _, _, h => by rw [show _ = [] from h]; exact .nil
  | n, x :: xs, _, e, ⟨v, r, e1, h1, h2⟩ => by
    subst e1
    simp only [D.flatL, Bool.and_eq_true] at e
    exact .cons (Rep.dp n x v e.1 h1) (RepL.dp n xs r e.2 h2)
end
mutual
theorem flat_lay : ∀ (n : Nat) (d : D), d.flat n = true → d.py.canLay0 = true ∧ d.py.depth ≤ n
  | n, .non, h => ⟨rfl, Nat.zero_le _⟩
  | n, .bl b, h => ⟨rfl, Nat.zero_le _⟩
  | n, .int b, h => ⟨rfl, Nat.zero_le _⟩
  | n, .str b, h => ⟨by simpa [D.py, PyData.canLay0] using (by simpa [D.flat] using h : PyData.strOk b = true), Nat.zero_le _⟩
  | n + 1, .tup xs, h => by
    obtain ⟨h1, h2⟩ := flat_layL n xs (by simpa [D.flat] using h)
    exact ⟨by simpa [D.py, PyData.canLay0] using h1, by simp only [D.py, PyData.depth]; omega⟩
  | n + 1, .lst xs, h => by
    obtain ⟨h1, h2⟩ := flat_layL n xs (by simpa [D.flat] using h)
    exact ⟨by simpa [D.py, PyData.canLay0] using h1, by simp only [D.py, PyData.depth]; omega⟩
  | 0, .tup xs, e => by simp [D.flat] at e
  | 0, .lst xs, e => by simp [D.flat] at e
  | n, .dic _, e => by simp [D.flat] at e
  | n, .cup, e => by simp [D.flat] at e
  | n, .fn _, e => by simp [D.flat] at e
  | n, .scr _, e => by simp [D.flat] at e
theorem flat_layL : ∀ (n : Nat) (d : List D), D.flatL n d = true → PyData.canLayAll0 (D.pyL d) = true ∧ PyData.depthAll (D.pyL d) ≤ n
  | n, [], h => ⟨rfl, Nat.zero_le _⟩
  | n, x :: xs, h => by
    simp only [D.flatL, Bool.and_eq_true] at h
    obtain ⟨h1, h2⟩ := flat_lay n x h.1
    obtain ⟨h3, h4⟩ := flat_layL n xs h.2
    exact ⟨by simp [D.pyL, PyData.canLayAll0, h1, h3], by simp only [D.pyL, PyData.depthAll]; omega⟩
end
theorem flat_shaped {d : D} (h : d.flat 20 = true) : SeqAt.shaped d.py = true := by
  obtain ⟨h1, h2⟩ := flat_lay 20 d h
  unfold SeqAt.shaped
  rw [h1, decide_eq_true (by omega)]
  rfl
mutual
theorem flat_eqv : ∀ (n m : Nat) (a b : D), a.flat n = true → b.flat m = true → PyData.eqv a.py b.py = a.eqv b
  | n, m, .non, b, _, hb => by cases b <;> first | rfl | simp [D.flat] at hb
  | n, m, .bl x, b, _, hb => by cases b <;> first | rfl | simp [D.flat] at hb
  | n, m, .int x, b, _, hb => by cases b <;> first | rfl | simp [D.flat] at hb
  | n, m, .str x, b, _, hb => by cases b <;> first | rfl | simp [D.flat] at hb
  | n + 1, m, .tup xs, b, ha, hb => by
    cases b with
    | tup ys =>
      cases m with
      | zero => simp [D.flat] at hb
      | succ m =>
        simp only [D.py, PyData.eqv, D.eqv]
        exact flat_eqvL n m xs ys (by simpa [D.flat] using ha) (by simpa [D.flat] using hb)
    | _ => first | rfl | simp [D.flat] at hb
  | n + 1, m, .lst xs, b, ha, hb => by
    cases b with
    | lst ys =>
      cases m with
      | zero => simp [D.flat] at hb
      | succ m =>
        simp only [D.py, PyData.eqv, D.eqv]
        exact flat_eqvL n m xs ys (by simpa [D.flat] using ha) (by simpa [D.flat] using hb)
    | _ => first | rfl | simp [D.flat] at hb
  | 0, _, .tup xs, _, e, _ => by simp [D.flat] at e
  | 0, _, .lst xs, _, e, _ => by simp [D.flat] at e
  | n, _, .dic _, _, e, _ => by simp [D.flat] at e
  | n, _, .cup, _, e, _ => by simp [D.flat] at e
  | n, _, .fn _, _, e, _ => by simp [D.flat] at e
  | n, _, .scr _, _, e, _ => by simp [D.flat] at e
theorem flat_eqvL : ∀ (n m : Nat) (a b : List D), D.flatL n a = true → D.flatL m b = true → PyData.eqvAll (D.pyL a) (D.pyL b) = D.eqvL a b
  | n, m, [], b, _, hb => by cases b <;> simp [D.pyL, PyData.eqvAll, D.eqvL]
  | n, m, x :: xs, b, ha, hb => by
    cases b with
    | nil => simp [D.pyL, PyData.eqvAll, D.eqvL]
    | cons y ys =>
      simp only [D.flatL, Bool.and_eq_true] at ha hb
      simp only [D.pyL, PyData.eqvAll, D.eqvL]
      rw [flat_eqv n m x y ha.1 hb.1, flat_eqvL n m xs ys ha.2 hb.2]
end
theorem any_eqv {n m : Nat} {d : D} (hd : d.flat n = true) : ∀ (ys : List D), D.flatL m ys = true → ((D.pyL ys).any fun z => PyData.eqv z d.py) = ys.any fun y => D.eqv y d
  | [], _ => rfl
  | y :: ys, h => by
    simp only [D.flatL, Bool.and_eq_true] at h
    simp only [D.pyL, List.any_cons]
    rw [flat_eqv m n y d h.1 hd, any_eqv hd ys h.2]
def Cop.op : Cop → CmpOp
  | .eq => .Eq | .ne => .NotEq | .lt => .Lt | .le => .LtE | .gt => .Gt | .ge => .GtE | .is => .Is | .isn => .IsNot | .inn => .In | .nin => .NotIn
def rCov (K : PySem.W.Frag) (o : Cop) : R2 := fun v w H Q => ∃ F ca x y b, Rep K F ca H x v ∧ Rep K F ca H y w ∧ cov o x y = some b ∧ Q (.bl b) H
section
variable {X : Cx} {pins : List (Addr × Obj)} {s : Shared} {σ : L2.St} {H : Hp} {Q : VK} {v w : V} {u1 u2 : Value}
theorem is_plain {K : PySem.W.Frag} {F : Addr → Prop} {ca : Option Addr} {x y : D} {b : Bool} (I : Inv X pins σ H s) (r1 : RelV v u1) (r2 : RelV w u2) (hx : Rep K F ca H x v) (hy : Rep K F ca H y w) (h : isv x y = some b) : plainIs u1 u2 = true ∧ (u1 == u2) = b := by
  cases y with
  | non =>
    have h : some x.isNon = some b := by cases x <;> exact h
    cases h
    rw [show w = V.non from hy] at r2
    cases r2
    cases x with
    | non => rw [show v = V.non from hx] at r1; cases r1; exact ⟨rfl, rfl⟩
    | bl i => rw [show v = V.bl i from hx] at r1; cases r1; exact ⟨rfl, rfl⟩
    | int i => rw [show v = V.int i from hx] at r1; obtain ⟨t, rfl⟩ := r1; exact ⟨rfl, rfl⟩
    | str i => rw [show v = V.str i from hx] at r1; obtain ⟨t, rfl⟩ := r1; exact ⟨rfl, rfl⟩
    | tup i => obtain ⟨a, _, rfl, _⟩ := hx; cases r1; exact ⟨rfl, rfl⟩
    | lst i => obtain ⟨a, _, rfl, _⟩ := hx; cases r1; exact ⟨rfl, rfl⟩
    | dic i => obtain ⟨a, _, rfl, _⟩ := hx; cases r1; exact ⟨rfl, rfl⟩
    | cup => obtain ⟨a, rfl, _⟩ := hx; cases r1; exact ⟨rfl, rfl⟩
    | fn k => exact hx.elim
    | scr i => obtain ⟨a, rfl, _⟩ := hx; cases r1; exact ⟨rfl, rfl⟩
  | bl j =>
    rw [show w = V.bl j from hy] at r2
    cases r2
    cases x with
    | non => rw [show v = V.non from hx] at r1; cases r1; cases h; exact ⟨rfl, rfl⟩
    | bl i => rw [show v = V.bl i from hx] at r1; cases r1; cases h; exact ⟨rfl, by cases i <;> cases j <;> rfl⟩
    | int i => rw [show v = V.int i from hx] at r1; obtain ⟨t, rfl⟩ := r1; cases h; exact ⟨rfl, rfl⟩
    | str i => rw [show v = V.str i from hx] at r1; obtain ⟨t, rfl⟩ := r1; cases h; exact ⟨rfl, rfl⟩
    | tup i => obtain ⟨a, _, rfl, _⟩ := hx; cases r1; cases h; exact ⟨rfl, rfl⟩
    | lst i => obtain ⟨a, _, rfl, _⟩ := hx; cases r1; cases h; exact ⟨rfl, rfl⟩
    | _ => cases h
  | _ => cases x <;> cases h
theorem cov_ok (o : Cop) (hu : X.A.units + 66 < cLine) : OpR X (compareOp o.op) (rCov X.K o) := by
  intro pins s σ H v w u1 u2 Q I r1 r2 h
  obtain ⟨F, ca, x, y, b, hx, hy, ho, q⟩ := h
  have eqs : okEq x y = true → (Dp X.K H v x.py ∧ Dp X.K H w y.py ∧ SeqAt.shaped x.py = true ∧ SeqAt.shaped y.py = true ∧ PyData.eqv x.py y.py = x.eqv y) := fun e => by
    simp only [okEq, Bool.and_eq_true] at e
    exact ⟨Rep.dp 20 x v e.1 hx, Rep.dp 20 y w e.2 hy, flat_shaped e.1, flat_shaped e.2, flat_eqv 20 20 x y e.1 e.2⟩
  have inn : ∀ {k : Bool → Bool} {op : CmpOp}, (op = .In ∧ k = id) ∨ (op = .NotIn ∧ k = not) → (∃ b', inv x y = some b' ∧ b = k b') → wpAny (model X.prog X.w) X.A (compareOp op u1 u2) (EP X pins σ Q) X.xe s := by
    intro k op hk ⟨b', hi, hb⟩
    have fin : EP X pins σ Q (.bool b) s := ⟨.bl b, H, I, rfl, q⟩
    cases y with
    | tup ys =>
      have hi : (if x.flat 20 && D.flatL 20 ys then some (ys.any fun y => D.eqv y x) else none) = some b' := by cases x <;> exact hi
      split at hi
      · rename_i hf
        rw [Bool.and_eq_true] at hf
        cases hi
        have d1 := Rep.dp 20 x v hf.1 hx
        have d2 : Dp X.K H w (D.tup ys).py := Rep.dp 21 (.tup ys) w (by simpa [D.flat] using hf.2) hy
        obtain ⟨as, rd1⟩ := Dp.reads I _ _ _ d1 r1
        obtain ⟨bs, rd2⟩ := Dp.reads I _ _ _ d2 r2
        obtain ⟨l1, l2⟩ := flat_layL 20 ys hf.2
        obtain ⟨l3, l4⟩ := flat_lay 20 x hf.1
        have room : X.A.units + 1 + min (PyData.depthAll (D.pyL ys)) x.py.depth < cLine := by omega
        have e := any_eqv (n := 20) (m := 20) hf.1 ys hf.2
        rcases hk with ⟨rfl, rfl⟩ | ⟨rfl, rfl⟩
        · exact SeqAt.in_tuple_reads rd2 rd1 l1 l3 room (by rw [e, show (ys.any fun y => D.eqv y x) = b from hb.symm]; exact fin)
        · exact SeqAt.notIn_tuple_reads rd2 rd1 l1 l3 room (by rw [e, show (!(ys.any fun y => D.eqv y x)) = b from hb.symm]; exact fin)
      · cases hi
    | lst ys =>
      have hi : (if x.flat 20 && D.flatL 20 ys then some (ys.any fun y => D.eqv y x) else none) = some b' := by cases x <;> exact hi
      split at hi
      · rename_i hf
        rw [Bool.and_eq_true] at hf
        cases hi
        have d1 := Rep.dp 20 x v hf.1 hx
        have d2 : Dp X.K H w (D.lst ys).py := Rep.dp 21 (.lst ys) w (by simpa [D.flat] using hf.2) hy
        obtain ⟨as, rd1⟩ := Dp.reads I _ _ _ d1 r1
        obtain ⟨bs, rd2⟩ := Dp.reads I _ _ _ d2 r2
        obtain ⟨l1, l2⟩ := flat_layL 20 ys hf.2
        obtain ⟨l3, l4⟩ := flat_lay 20 x hf.1
        have room : X.A.units + 1 + min (PyData.depthAll (D.pyL ys)) x.py.depth < cLine := by omega
        have e := any_eqv (n := 20) (m := 20) hf.1 ys hf.2
        rcases hk with ⟨rfl, rfl⟩ | ⟨rfl, rfl⟩
        · exact SeqAt.in_list_reads rd2 rd1 l1 l3 room (by rw [e, show (ys.any fun y => D.eqv y x) = b from hb.symm]; exact fin)
        · exact SeqAt.notIn_list_reads rd2 rd1 l1 l3 room (by rw [e, show (!(ys.any fun y => D.eqv y x)) = b from hb.symm]; exact fin)
      · cases hi
    | dic kvs => cases hi
    | _ => cases x <;> cases hi
  cases o with
  | eq =>
    simp only [cov] at ho
    split at ho
    · rename_i hf
      cases ho
      obtain ⟨h1, h2, h3, h4, h5⟩ := eqs hf
      exact op_eqD (by omega) pins s σ H v w u1 u2 Q I r1 r2 ⟨x.py, y.py, h1, h2, h3, h4, by rw [h5]; exact q⟩
    · cases ho
  | ne =>
    simp only [cov] at ho
    split at ho
    · rename_i hf
      cases ho
      obtain ⟨h1, h2, h3, h4, h5⟩ := eqs hf
      exact op_neD (by omega) pins s σ H v w u1 u2 Q I r1 r2 ⟨x.py, y.py, h1, h2, h3, h4, by rw [h5]; exact q⟩
    · cases ho
  | lt =>
    cases x <;> cases y <;> first | cases ho | skip
    exact op_lt pins s σ H v w u1 u2 Q I r1 r2 ⟨_, _, hx, hy, q⟩
  | le =>
    cases x <;> cases y <;> first | cases ho | skip
    exact op_le pins s σ H v w u1 u2 Q I r1 r2 ⟨_, _, hx, hy, q⟩
  | gt =>
    cases x <;> cases y <;> first | cases ho | skip
    exact op_gt pins s σ H v w u1 u2 Q I r1 r2 ⟨_, _, hx, hy, q⟩
  | ge =>
    cases x <;> cases y <;> first | cases ho | skip
    exact op_ge pins s σ H v w u1 u2 Q I r1 r2 ⟨_, _, hx, hy, q⟩
  | is =>
    have ho : isv x y = some b := by cases x <;> cases y <;> exact ho
    obtain ⟨h1, h2⟩ := is_plain I r1 r2 hx hy ho
    exact wpAny_is_plain h1 (by rw [h2]; exact ⟨.bl b, H, I, rfl, q⟩)
  | isn =>
    have ho : (isv x y).map not = some b := by cases x <;> cases y <;> exact ho
    obtain ⟨b', h3, h4⟩ := Option.map_eq_some_iff.mp ho
    obtain ⟨h1, h2⟩ := is_plain I r1 r2 hx hy h3
    exact wpAny_isNot_plain h1 (by rw [h2, h4]; exact ⟨.bl b, H, I, rfl, q⟩)
  | inn =>
    have ho : inv x y = some b := by cases x <;> cases y <;> exact ho
    exact inn (k := id) (.inl ⟨rfl, rfl⟩) ⟨b, ho, rfl⟩
  | nin =>
    have ho : (inv x y).map not = some b := by cases x <;> cases y <;> exact ho
    obtain ⟨b', h3, h4⟩ := Option.map_eq_some_iff.mp ho
    exact inn (k := not) (.inr ⟨rfl, rfl⟩) ⟨b', h3, h4.symm⟩
end
end Ev

set_option maxRecDepth 100000
/-! Srt: sorted. -/
namespace Ev
open PySem PySem.Spec PyProof.Rows L2
theorem leL_total : ∀ a b : List Int, leL a b = true ∨ leL b a = true
  | [], _ => .inl rfl
  | _ :: _, [] => .inr rfl
  | x :: xs, y :: ys => by
    have ih := leL_total xs ys
    simp only [leL, Bool.or_eq_true, Bool.and_eq_true, decide_eq_true_eq]
    by_cases h : x < y
    · exact .inl (.inl h)
    · by_cases h2 : y < x
      · exact .inr (.inl h2)
      · have e : x = y := by omega
        exact ih.imp (fun z => .inr ⟨e, z⟩) fun z => .inr ⟨e.symm, z⟩
theorem leL_trans : ∀ {a b c : List Int}, leL a b = true → leL b c = true → leL a c = true
  | [], _, _, _, _ => rfl
  | _ :: _, [], _, h, _ => by cases h
  | _ :: _, _ :: _, [], _, h => by cases h
  | x :: xs, y :: ys, z :: zs, h, h' => by
    simp only [leL, Bool.or_eq_true, Bool.and_eq_true, decide_eq_true_eq] at h h' ⊢
    rcases h with h | ⟨h, k⟩ <;> rcases h' with h' | ⟨h', k'⟩
    · exact .inl (by omega)
    · exact .inl (by omega)
    · exact .inl (by omega)
    · exact .inr ⟨by omega, leL_trans k k'⟩
theorem leL_anti : ∀ {a b : List Int}, leL a b = true → leL b a = true → a = b
  | [], [], _, _ => rfl
  | [], _ :: _, _, h => by cases h
  | _ :: _, [], h, _ => by cases h
  | x :: xs, y :: ys, h, h' => by
    simp only [leL, Bool.or_eq_true, Bool.and_eq_true, decide_eq_true_eq] at h h'
    rcases h with h | ⟨h, k⟩ <;> rcases h' with h' | ⟨h', k'⟩
    · omega
    · omega
    · omega
    · rw [h, leL_anti k k']
theorem insD_perm (x : D) : ∀ l : List D, (insD x l).Perm (x :: l)
  | [] => List.Perm.refl _
  | y :: r => by
    unfold insD
    split
    · exact List.Perm.refl _
    · exact ((insD_perm x r).cons y).trans (List.Perm.swap x y r)
theorem sortD_perm : ∀ l : List D, (sortD l).Perm l
  | [] => List.Perm.refl _
  | x :: l => (insD_perm x _).trans ((sortD_perm l).cons x)
theorem insD_sorted (x : D) : ∀ {l : List D}, l.Pairwise (fun a b => leD a b = true) → (insD x l).Pairwise fun a b => leD a b = true
  | [], _ => List.pairwise_singleton _ _
  | y :: r, h => by
    have h' := List.pairwise_cons.mp h
    unfold insD
    split
    · rename_i c
      refine List.pairwise_cons.mpr ⟨fun z hz => ?_, h⟩
      rcases List.mem_cons.mp hz with rfl | hz
      · exact c
      · exact leL_trans c (h'.1 z hz)
    · rename_i c
      refine List.pairwise_cons.mpr ⟨fun z hz => ?_, insD_sorted x h'.2⟩
      rcases List.mem_cons.mp ((insD_perm x r).mem_iff.mp hz) with rfl | hz
      · exact (leL_total _ _).resolve_left c
      · exact h'.1 z hz
theorem sortD_sorted : ∀ l : List D, (sortD l).Pairwise fun a b => leD a b = true
  | [] => List.Pairwise.nil
  | x :: l => insD_sorted x (sortD_sorted l)
theorem sorted_uniq : ∀ {l m : List D}, l.Perm m → l.Pairwise (fun a b => leD a b = true) → m.Pairwise (fun a b => leD a b = true) → (∀ x ∈ l, ∀ y ∈ l, x.rowI = y.rowI → x = y) → l = m
  | [], m, p, _, _, _ => p.nil_eq
  | x :: l, [], p, _, _, _ => by simpa using p.length_eq
  | x :: l, y :: m, p, h1, h2, inj => by
    have h1' := List.pairwise_cons.mp h1
    have h2' := List.pairwise_cons.mp h2
    have hxm : x ∈ y :: m := p.mem_iff.mp List.mem_cons_self
    have hyl : y ∈ x :: l := p.mem_iff.mpr List.mem_cons_self
    have e : x = y := by
      refine inj x List.mem_cons_self y hyl (leL_anti ?_ ?_)
      · rcases List.mem_cons.mp hyl with rfl | h
        · exact (leL_total _ _).elim id id
        · exact h1'.1 y h
      · rcases List.mem_cons.mp hxm with rfl | h
        · exact (leL_total _ _).elim id id
        · exact h2'.1 x h
    subst e
    rw [sorted_uniq (List.Perm.cons_inv p) h1'.2 h2'.2 fun a ha b hb => inj a (List.mem_cons_of_mem _ ha) b (List.mem_cons_of_mem _ hb)]
theorem repL_perm {K : PySem.W.Frag} {F : Addr → Prop} {ca : Option Addr} {H : Hp} {xs ys : List V} (p : xs.Perm ys) : ∀ {ds : List D}, RepL K F ca H ds xs → ∃ es, es.Perm ds ∧ RepL K F ca H es ys := by
  induction p with
  | nil => exact fun {ds} h => ⟨ds, List.Perm.refl _, h⟩
  | cons v _ ih =>
    intro ds h
    cases ds with
    | nil => cases (show _ = [] from h)
    | cons d ds =>
      obtain ⟨w, r, e, h1, h2⟩ := h
      cases e
      obtain ⟨es, p1, h3⟩ := ih h2
      exact ⟨d :: es, p1.cons d, _, _, rfl, h1, h3⟩
  | swap v u l =>
    intro ds h
    match ds, h with
    | [], h => cases (show _ = [] from h)
    | [d], ⟨w, r, e, h1, h2⟩ =>
      cases e
      cases (show _ = [] from h2)
    | d :: d' :: ds, ⟨w, r, e, h1, w', r', e', h2, h3⟩ =>
      cases e
      cases e'
      exact ⟨d' :: d :: ds, List.Perm.swap d d' ds, _, _, rfl, h2, _, _, rfl, h1, h3⟩
  | trans _ _ ih1 ih2 =>
    intro ds h
    obtain ⟨es, p1, h1⟩ := ih1 h
    obtain ⟨fs, p2, h2⟩ := ih2 h1
    exact ⟨fs, p2.trans p1, h2⟩
theorem code_le {B : Int} : ∀ {n m : List Int}, n.length = m.length → TS.Bd B n → TS.Bd B m → TS.code B n ≤ TS.code B m → leL n m = true
  | [], [], _, _, _, _ => rfl
  | [], _ :: _, h, _, _, _ => by simp at h
  | _ :: _, [], h, _, _, _ => by simp at h
  | x :: n, y :: m, hl, hn, hm, h => by
    have hl' : n.length = m.length := by simpa using hl
    simp only [leL, Bool.or_eq_true, Bool.and_eq_true, decide_eq_true_eq]
    by_cases h1 : x < y
    · exact .inl h1
    · by_cases h2 : y < x
      · have := TS.code_lt hl'.symm hm.tail hn.tail h2
        omega
      · have e : x = y := by omega
        subst e
        refine .inr ⟨rfl, code_le hl' hn.tail hm.tail ?_⟩
        have h3 : ¬ TS.code B (x :: m) < TS.code B (x :: n) := by omega
        exact Int.not_lt.mp fun z => h3 ((TS.code_same (B := B) (d := x) hl'.symm).mpr z)
theorem ints_isI : ∀ {xs : List D}, xs.all D.isI = true → ∃ ns : List Int, xs = ns.map D.int
  | [], _ => ⟨[], rfl⟩
  | .int i :: xs, h => by
    obtain ⟨ns, e⟩ := ints_isI (xs := xs) (by simpa [D.isI] using h)
    exact ⟨i :: ns, by rw [e]; rfl⟩
  | .non :: _, h => by simp [D.isI] at h
  | .bl _ :: _, h => by simp [D.isI] at h
  | .str _ :: _, h => by simp [D.isI] at h
  | .tup _ :: _, h => by simp [D.isI] at h
  | .lst _ :: _, h => by simp [D.isI] at h
  | .dic _ :: _, h => by simp [D.isI] at h
  | .cup :: _, h => by simp [D.isI] at h
  | .fn _ :: _, h => by simp [D.isI] at h
  | .scr _ :: _, h => by simp [D.isI] at h
theorem isR_row {d : Nat} {x : D} (h : x.isR d = true) : ∃ xs ns, x = .tup xs ∧ D.ints xs = some ns ∧ ns.length = d ∧ TS.Bd 1000 ns := by
  cases x with
  | tup xs =>
    have h : (match D.ints xs with
      | some ns => decide (ns.length = d) && ns.all fun n => decide (0 ≤ n) && decide (n < 1000)
      | none => false) = true := h
    cases e : D.ints xs with
    | none => rw [e] at h; cases h
    | some ns =>
      rw [e] at h
      simp only [Bool.and_eq_true, decide_eq_true_eq, List.all_eq_true] at h
      exact ⟨xs, ns, rfl, e, h.1, fun m hm => h.2 m hm⟩
  | _ => cases h
theorem ints_inj : ∀ {xs ys : List D} {ns : List Int}, D.ints xs = some ns → D.ints ys = some ns → xs = ys := by
  have key : ∀ {xs : List D} {ns : List Int}, D.ints xs = some ns → xs = ns.map D.int := by
    intro xs
    induction xs with
    | nil => intro ns h; cases h; rfl
    | cons x xs ih =>
      intro ns h
      cases x with
      | int i =>
        obtain ⟨ms, e1, e2⟩ := Option.map_eq_some_iff.mp (show (D.ints xs).map (i :: ·) = some ns from h)
        subst e2
        rw [ih e1]; rfl
      | _ => cases h
  intro xs ys ns h h'
  rw [key h, key h']
theorem srt_ok {X : Cx} (b : Addr → Prop) {pins : List (Addr × Obj)} {s : Shared} {σ : L2.St} {H : Hp} {us : List Value} {Q : VK} {F G : Addr → Prop} {ca : Option Addr} {c : Cu} {xs : List D} {z : D} {v : V} (I : L2.Inv X pins σ H s) (r : Vals [v] us)
    (at_ : At F G ca c H) (h1 : RepB X.K F G ca H (.lst xs) v) (ho : srtv xs = some z) (q : Done X.K G ca c H z Q) : wpAny (model X.prog X.w) X.A (call (.builtin "sorted") us) (EP X pins σ Q) X.xe s := by
  obtain ⟨a, vs, rfl, e, _, _, k⟩ := h1
  unfold srtv at ho
  split at ho
  · rename_i hc
    cases ho
    rw [Bool.or_eq_true] at hc
    rcases hc with hc | hc
    · obtain ⟨ns, rfl⟩ := ints_isI hc
      have ev : vs = ns.map V.int := RepL.ints (by clear hc k q e; induction ns with | nil => rfl | cons n ns ih => show (D.ints (ns.map D.int)).map (n :: ·) = _; rw [ih]; rfl) k
      subst ev
      refine cr_sortedI pins s σ H _ us Q I r ⟨a, ns, rfl, SqL.of e, fun ns' p hp hs np => ?_⟩
      have e2 : sortD (ns.map D.int) = ns'.map D.int := by
        refine sorted_uniq ((sortD_perm _).trans (hp.map _).symm) (sortD_sorted _) (List.pairwise_map.mpr (hs.imp fun {x y} h => ?_)) fun x hx y hy e => ?_
        · show leL [x] [y] = true
          simp only [leL, Bool.or_eq_true, Bool.and_eq_true, decide_eq_true_eq]
          have h : x ≤ y := h
          rcases Int.lt_or_eq_of_le h with h | h
          · exact .inl h
          · exact .inr ⟨h, trivial⟩
        · obtain ⟨i, _, rfl⟩ := List.mem_map.mp ((sortD_perm _).mem_iff.mp hx)
          obtain ⟨j, _, rfl⟩ := List.mem_map.mp ((sortD_perm _).mem_iff.mp hy)
          have e : [i] = [j] := e
          injection e with e
          rw [e]
      rw [e2] at q
      exact q.newL at_ (RepL.ofInts ns') p np
    · simp only [Bool.and_eq_true, decide_eq_true_eq, List.all_eq_true] at hc
      obtain ⟨⟨h64, hd⟩, hr⟩ := hc
      have rows : ∀ x ∈ xs, ∃ ys ns, x = .tup ys ∧ D.ints ys = some ns ∧ ns.length = D.rlen xs ∧ TS.Bd 1000 ns := fun x hx => isR_row (hr x hx)
      have tup_i : ∀ {es : List D} {ws : List V}, es.Perm xs → RepL X.K G ca H es ws → ∀ (j : Nat) (w : V), ws[j]? = some w → ∃ d ys ns, es[j]? = some d ∧ d = .tup ys ∧ D.ints ys = some ns ∧ ns.length = D.rlen xs ∧ TS.Bd 1000 ns ∧ TupI X.K H w ns := fun {es ws} hp hk j w hj => by
        obtain ⟨d, hd1, hd2⟩ := hk.getV hj
        obtain ⟨ys, ns, rfl, e1, e2, e3⟩ := rows d (hp.mem_iff.mp (List.mem_of_getElem? hd1))
        obtain ⟨t, ts, rfl, e4, e5⟩ := hd2
        rw [RepL.ints e1 e5] at e4
        exact ⟨_, ys, ns, hd1, rfl, e1, e2, e3, t, rfl, e4⟩
      refine cr_sortT (d := D.rlen xs) (B := 1000) hd pins s σ H _ us Q I r ⟨a, vs, rfl, SqL.of e, by rw [← k.len]; exact h64, fun w hw => ?_, fun ys p hp hs np => ?_⟩
      · obtain ⟨j, hj⟩ := List.mem_iff_getElem?.mp hw
        obtain ⟨_, _, ns, _, _, _, e2, e3, e4⟩ := tup_i (List.Perm.refl _) k j w hj
        exact ⟨ns, e4, e2, e3⟩
      · obtain ⟨es, pe, ke⟩ := repL_perm hp.symm k
        have e2 : sortD xs = es := by
          refine sorted_uniq ((sortD_perm _).trans pe.symm) (sortD_sorted _) ?_ fun x hx y hy e => ?_
          · rw [List.pairwise_iff_getElem]
            intro i j hi hj hij
            have li : i < ys.length := by rw [← ke.len]; exact hi
            have lj : j < ys.length := by rw [← ke.len]; exact hj
            obtain ⟨d1, _, n1, a1, rfl, a3, a4, a5, a6⟩ := tup_i pe ke i ys[i] (List.getElem?_eq_getElem li)
            obtain ⟨d2, _, n2, b1, rfl, b3, b4, b5, b6⟩ := tup_i pe ke j ys[j] (List.getElem?_eq_getElem lj)
            rw [List.getElem?_eq_getElem hi] at a1
            rw [List.getElem?_eq_getElem hj] at b1
            rw [Option.some.inj a1, Option.some.inj b1]
            have := (List.pairwise_iff_getElem.mp hs) i j li lj hij n1 n2 a6 b6
            show leL ((D.ints _).getD []) ((D.ints _).getD []) = true
            rw [a3, b3]
            exact code_le (show n1.length = n2.length by rw [a4, b4]) a5 b5 this
          · obtain ⟨xs1, n1, rfl, a1, _⟩ := rows x ((sortD_perm _).mem_iff.mp hx)
            obtain ⟨xs2, n2, rfl, a2, _⟩ := rows y ((sortD_perm _).mem_iff.mp hy)
            have e : (D.ints xs1).getD [] = (D.ints xs2).getD [] := e
            rw [a1, a2] at e
            have e : n1 = n2 := e
            subst e
            rw [ints_inj a1 a2]
        rw [e2] at q
        exact q.newL at_ ke p np
  · cases ho
end Ev

set_option maxRecDepth 100000
/-! EvBf: items, slices, built-in functions. -/
namespace Ev
open PySem PySem.Spec PyProof.Rows L2
theorem atI_repL {K : PySem.W.Frag} {F : Addr → Prop} {ca : Option Addr} {H : Hp} {ds : List D} {vs : List V} {i : Int} {d : D} (h : RepL K F ca H ds vs) (e : atI ds i = some d) : ∃ v, atI vs i = some v ∧ Rep K F ca H d v := by
  unfold atI at e ⊢
  rw [← h.len]
  cases q : ixN ds.length i with
  | none => rw [q] at e; cases e
  | some j =>
    rw [q] at e
    obtain ⟨v, h1, h2⟩ := h.get (show ds[j]? = some d from e)
    exact ⟨v, h1, h2⟩
def rIxv (K : PySem.W.Frag) : R2 := fun v w H Q => ∃ F G ca c x y z, At F G ca c H ∧ RepB K F G ca H x v ∧ RepB K F G ca H y w ∧ ixv x y c = some z ∧ Done K G ca c H z Q
section
variable {X : Cx}
theorem Done.item {K : PySem.W.Frag} {F G : Addr → Prop} {ca : Option Addr} {c : Cu} {H : Hp} {z : D} {Q : VK} {v : V} (q : ∀ v H', Post ca H ca c H' → Rep K G ca H' z v → Q v H') (r : At F G ca c H) (h : Rep K G ca H z v) : Q v H :=
  q v H (Post.refl r.cup) h
/-- an item is no new list -/
def rIxw (K : PySem.W.Frag) : R2 := fun v w H Q => ∃ F G ca c x y z, At F G ca c H ∧ RepB K F G ca H x v ∧ RepB K F G ca H y w ∧ ixv x y c = some z ∧ (∀ v H', Post ca H ca c H' → Rep K G ca H' z v → Q v H')
theorem ixv_ok : IxR X (rIxw X.K) := by
  intro value slice pins s σ H v w u1 u2 Q I r1 r2 h hsub
  obtain ⟨F, G, ca, c, x, y, z, at_, hx, hy, ho, q⟩ := h
  cases x with
  | tup xs =>
    cases y with
    | int i =>
      obtain ⟨a, vs, rfl, h1, k1⟩ := hx
      obtain ⟨v, h2, h3⟩ := atI_repL k1 (show atI xs i = some z from ho)
      exact ix_tup value slice pins s σ H _ _ u1 u2 Q I r1 r2 ⟨a, vs, i, v, rfl, hy, h1, h2, Done.item q at_ h3⟩ hsub
    | _ => cases ho
  | lst xs =>
    cases y with
    | int i =>
      obtain ⟨a, vs, rfl, h1, _, _, k1⟩ := hx
      obtain ⟨v, h2, h3⟩ := atI_repL k1 (show atI xs i = some z from ho)
      exact ix_list value slice pins s σ H _ _ u1 u2 Q I r1 r2 ⟨a, vs, i, v, rfl, hy, SqL.of h1, h2, Done.item q at_ h3⟩ hsub
    | _ => cases ho
  | cup =>
    cases y with
    | int i =>
      cases c with
      | none => cases ho
      | some ns =>
        obtain ⟨a, rfl, e⟩ := hx
        obtain ⟨b, e1, h1⟩ := (show ∃ b, ca = some b ∧ H b = some (.lst (ns.map V.int)) from at_.cup)
        rw [e] at e1; cases e1
        obtain ⟨j, h2, h3⟩ := Option.map_eq_some_iff.mp (show (atI ns i).map D.int = some z from ho)
        subst h3
        have h4 : atI (ns.map V.int) i = some (.int j) := by
          unfold atI at h2 ⊢
          rw [List.length_map]
          cases q : ixN ns.length i with
          | none => rw [q] at h2; cases h2
          | some k =>
            rw [q] at h2
            show (ns.map V.int)[k]? = _
            rw [List.getElem?_map, show ns[k]? = some j from h2]
            rfl
        exact ix_list value slice pins s σ H _ _ u1 u2 Q I r1 r2 ⟨a, _, i, _, rfl, hy, SqL.of h1, h4, Done.item q at_ rfl⟩ hsub
    | _ => cases ho
  | dic kvs => cases ho
  | _ => cases y <;> cases ho
theorem cut_rep {K : PySem.W.Frag} {F : Addr → Prop} {ca : Option Addr} {H : Hp} {ds : List D} {vs : List V} (lo hi : Option Int) (h : RepL K F ca H ds vs) : RepL K F ca H (cutD ds lo hi) (cutV vs lo hi) := by
  unfold cutD cutV
  rw [h.len]
  exact (h.drop _).take _
def rSlw (K : PySem.W.Frag) : V → Option Int → Option Int → Hp → VK → Prop := fun v lo hi H Q => ∃ F G ca c x z, At F G ca c H ∧ RepB K F G ca H x v ∧ slv x lo hi = some z ∧ Done K G ca c H z Q
theorem sl_ok : SlR X (rSlw X.K) := by
  intro pins s σ H v vv vl vu lo hi sl Q I r1 hs pl pu h
  obtain ⟨F, G, ca, c, x, z, at_, hx, ho, q⟩ := h
  cases x with
  | tup xs =>
    cases ho
    obtain ⟨a, vs, rfl, h1, k1⟩ := hx
    refine sl_tupA pins s σ H _ vv vl vu lo hi sl Q I r1 hs pl pu ⟨a, vs, rfl, h1, fun e => ?_, fun _ p np => q.newT at_ (cut_rep lo hi k1) p np⟩
    have e1 : cutD xs lo hi = xs := by
      unfold cutD
      rw [k1.len, e.1, e.2, List.drop_zero, Nat.sub_zero, ← k1.len]
      exact List.take_length
    rw [e1] at q
    exact q.here at_ ⟨a, vs, rfl, h1, k1⟩ rfl
  | lst xs =>
    cases ho
    obtain ⟨a, vs, rfl, h1, _, _, k1⟩ := hx
    exact sl_list pins s σ H _ vv vl vu lo hi sl Q I r1 hs pl pu ⟨a, vs, rfl, SqL.of h1, fun p np => q.newL at_ (cut_rep lo hi k1) p np⟩
  | _ => cases ho
theorem minI_ok : ∀ (m : Int) (r : List Int), minI m r ∈ m :: r ∧ ∀ y ∈ m :: r, minI m r ≤ y
  | m, [] => ⟨List.mem_cons_self, fun y h => by simp at h; subst h; exact Int.le_refl _⟩
  | m, x :: r => by
    obtain ⟨h1, h2⟩ := minI_ok (if x < m then x else m) r
    show minI (if x < m then x else m) r ∈ _ ∧ ∀ y ∈ m :: x :: r, minI (if x < m then x else m) r ≤ y
    have h3 := h2 _ List.mem_cons_self
    refine ⟨?_, fun y hy => ?_⟩
    · rcases List.mem_cons.mp h1 with h | h
      · rw [h]; split <;> simp
      · exact List.mem_cons_of_mem _ (List.mem_cons_of_mem _ h)
    · rcases List.mem_cons.mp hy with rfl | hy
      · exact Int.le_trans h3 (by split <;> omega)
      · rcases List.mem_cons.mp hy with rfl | hy
        · exact Int.le_trans h3 (by split <;> omega)
        · exact h2 y (List.mem_cons_of_mem _ hy)
theorem maxI_ok : ∀ (m : Int) (r : List Int), maxI m r ∈ m :: r ∧ ∀ y ∈ m :: r, y ≤ maxI m r
  | m, [] => ⟨List.mem_cons_self, fun y h => by simp at h; subst h; exact Int.le_refl _⟩
  | m, x :: r => by
    obtain ⟨h1, h2⟩ := maxI_ok (if m < x then x else m) r
    show maxI (if m < x then x else m) r ∈ _ ∧ ∀ y ∈ m :: x :: r, y ≤ maxI (if m < x then x else m) r
    have h3 := h2 _ List.mem_cons_self
    refine ⟨?_, fun y hy => ?_⟩
    · rcases List.mem_cons.mp h1 with h | h
      · rw [h]; split <;> simp
      · exact List.mem_cons_of_mem _ (List.mem_cons_of_mem _ h)
    · rcases List.mem_cons.mp hy with rfl | hy
      · exact Int.le_trans (by split <;> omega) h3
      · rcases List.mem_cons.mp hy with rfl | hy
        · exact Int.le_trans (by split <;> omega) h3
        · exact h2 y (List.mem_cons_of_mem _ hy)
end
def Bf.val : Bf → Value
  | .len => .builtin "len" | .tuple => .type "tuple" | .list => .type "list" | .sum => .builtin "sum" | .all => .builtin "all" | .any => .builtin "any" | .min => .builtin "min" | .max => .builtin "max"
  | .abs => .builtin "abs" | .int => .type "int" | .str => .type "str" | .sorted => .builtin "sorted" | .sset => .builtin "sorted"
def rBfv (K : PySem.W.Frag) (b : Bf) : List V → Hp → VK → Prop := fun vs H Q => ∃ F G ca c ds z, At F G ca c H ∧ RepLB K F G ca H ds vs ∧ bfv b ds = some z ∧ Done K G ca c H z Q
theorem bfv_ok {X : Cx} (hc : X.calm = true) (b : Bf) : CallR X b.val (rBfv X.K b) := by
  intro pins s σ H vs us Q I r h
  obtain ⟨F, G, ca, c, ds, z, at_, hd, ho, q⟩ := h
  cases ds with
  | nil => cases b <;> cases ho
  | cons d ds =>
    obtain ⟨v, vr, rfl, h1, hd⟩ := hd
    cases ds with
    | cons e es =>
      obtain ⟨w, wr, rfl, h2, hd⟩ := hd
      cases es with
      | cons _ _ => cases b <;> cases d <;> first | cases ho | (cases e <;> cases ho)
      | nil =>
        rw [show wr = [] from hd] at r
        cases b <;> cases d <;> first | cases ho | (cases e <;> cases ho)
        · exact call_min2 hc pins s σ H _ us Q I r ⟨_, _, by rw [show v = _ from h1, show w = _ from h2], q.here at_ rfl rfl⟩
        · exact call_max2 hc pins s σ H _ us Q I r ⟨_, _, by rw [show v = _ from h1, show w = _ from h2], q.here at_ rfl rfl⟩
    | nil =>
      rw [show vr = [] from hd] at r
      cases b with
      | len =>
        cases d <;> cases ho
        · obtain ⟨a, vs, rfl, e, k⟩ := h1
          exact call_len pins s σ H _ us Q I r ⟨_, _, rfl, .inr ⟨vs, e, rfl⟩, by rw [← k.len]; exact q.here at_ rfl rfl⟩
        · obtain ⟨a, vs, rfl, e, _, _, k⟩ := h1
          exact call_len pins s σ H _ us Q I r ⟨_, _, rfl, .inl ⟨vs, SqL.of e, rfl⟩, by rw [← k.len]; exact q.here at_ rfl rfl⟩
      | tuple =>
        cases d <;> cases ho
        · obtain ⟨a, vs, rfl, e, k⟩ := h1
          exact call_tuple_of pins s σ H _ us Q I r ⟨a, vs, rfl, .inr ⟨e, q.here at_ ⟨a, vs, rfl, e, k⟩ rfl⟩⟩
        · obtain ⟨a, vs, rfl, e, _, _, k⟩ := h1
          exact call_tuple_of pins s σ H _ us Q I r ⟨a, vs, rfl, .inl ⟨SqL.of e, fun p np => q.newT at_ k p np⟩⟩
      | list =>
        cases d <;> cases ho
        · obtain ⟨a, vs, rfl, e, k⟩ := h1
          exact call_list_of pins s σ H _ us Q I r ⟨a, vs, rfl, .inr e, fun p np => q.newL at_ k p np⟩
        · obtain ⟨a, vs, rfl, e, _, _, k⟩ := h1
          exact call_list_of pins s σ H _ us Q I r ⟨a, vs, rfl, .inl (SqL.of e), fun p np => q.newL at_ k p np⟩
        · obtain ⟨a, rfl, e⟩ := h1
          exact call_list_of pins s σ H _ us Q I r ⟨a, _, rfl, .inl e.sq, fun p np => q.newL at_ (RepL.ofInts _) p np⟩
      | sum =>
        cases d <;> try cases ho
        rename_i xs
        obtain ⟨ns, e1, rfl⟩ := Option.map_eq_some_iff.mp (show (D.ints xs).map (fun ns => D.int ns.sum) = some z from ho)
        obtain ⟨a, vs, rfl, e, _, _, k⟩ := h1
        rw [RepL.ints e1 k] at e
        exact cr_sum hc pins s σ H _ us Q I r ⟨a, ns, rfl, SqL.of e, q.here at_ rfl rfl⟩
      | all =>
        cases d <;> try cases ho
        rename_i xs
        obtain ⟨ns, e1, rfl⟩ := Option.map_eq_some_iff.mp (show (D.bls xs).map (fun ns => D.bl (ns.all id)) = some z from ho)
        obtain ⟨a, vs, rfl, e, _, _, k⟩ := h1
        rw [RepL.bls e1 k] at e
        exact cr_all hc pins s σ H _ us Q I r ⟨a, ns, rfl, SqL.of e, q.here at_ rfl rfl⟩
      | any =>
        cases d <;> try cases ho
        rename_i xs
        obtain ⟨ns, e1, rfl⟩ := Option.map_eq_some_iff.mp (show (D.bls xs).map (fun ns => D.bl (ns.any id)) = some z from ho)
        obtain ⟨a, vs, rfl, e, _, _, k⟩ := h1
        rw [RepL.bls e1 k] at e
        exact cr_any hc pins s σ H _ us Q I r ⟨a, ns, rfl, SqL.of e, q.here at_ rfl rfl⟩
      | sorted =>
        cases d <;> try cases ho
        rename_i xs
        exact srt_ok F I r at_ h1 ho q
      | min =>
        cases d <;> try cases ho
        rename_i xs
        have ho : (match D.ints xs with | some (m :: r) => some (D.int (minI m r)) | _ => none) = some z := ho
        cases e1 : D.ints xs with
        | none => rw [e1] at ho; cases ho
        | some ns =>
          rw [e1] at ho
          cases ns with
          | nil => cases ho
          | cons m ns =>
            cases ho
            obtain ⟨a, vs, rfl, e, _, _, k⟩ := h1
            rw [RepL.ints e1 k] at e
            obtain ⟨h3, h4⟩ := minI_ok m ns
            refine cr_min hc pins s σ H _ us Q I r ⟨a, m :: ns, rfl, SqL.of e, by simp, fun m' h5 h6 => ?_⟩
            have : m' = minI m ns := Int.le_antisymm (h6 _ h3) (h4 _ h5)
            rw [this]
            exact q.here at_ rfl rfl
      | max =>
        cases d <;> try cases ho
        rename_i xs
        have ho : (match D.ints xs with | some (m :: r) => some (D.int (maxI m r)) | _ => none) = some z := ho
        cases e1 : D.ints xs with
        | none => rw [e1] at ho; cases ho
        | some ns =>
          rw [e1] at ho
          cases ns with
          | nil => cases ho
          | cons m ns =>
            cases ho
            obtain ⟨a, vs, rfl, e, _, _, k⟩ := h1
            rw [RepL.ints e1 k] at e
            obtain ⟨h3, h4⟩ := maxI_ok m ns
            refine cr_max hc pins s σ H _ us Q I r ⟨a, m :: ns, rfl, SqL.of e, by simp, fun m' h5 h6 => ?_⟩
            have : m' = maxI m ns := Int.le_antisymm (h4 _ h5) (h6 _ h3)
            rw [this]
            exact q.here at_ rfl rfl
      | abs =>
        cases d <;> cases ho
        exact call_abs pins s σ H _ us Q I r ⟨_, by rw [show v = _ from h1], q.here at_ rfl rfl⟩
      | int =>
        cases d <;> cases ho
        exact call_int1 pins s σ H _ us Q I r (.inl ⟨_, by rw [show v = _ from h1], q.here at_ rfl rfl⟩)
      | str =>
        cases d <;> cases ho
        exact SkE.call_str_str pins s σ H _ us Q I r ⟨_, by rw [show v = _ from h1], q.here at_ rfl rfl⟩
      | sset => cases d <;> cases ho
def Ty.nm : Ty → String
  | .int => "int" | .bool => "bool" | .tuple => "tuple" | .str => "str"
/-- isinstance(x, T) -/
def rTyv (K : PySem.W.Frag) (t : Ty) : List V → Hp → VK → Prop := fun vs H Q => ∃ F ca x v b, vs = [v, .ty t.nm] ∧ Rep K F ca H x v ∧ tyv t x = some b ∧ Q (.bl b) H
theorem tyv_ok {X : Cx} (t : Ty) : CallR X (.builtin "isinstance") (rTyv X.K t) := by
  intro pins s σ H vs us Q I r h
  obtain ⟨F, ca, x, v, b, rfl, hx, ho, q⟩ := h
  have fin : ∀ {n : String}, TyX X.K H v (.type n) → kitB n t.nm = some b → wpAny (model X.prog X.w) X.A (call (.builtin "isinstance") us) (EP X pins σ Q) X.xe s := fun ty e =>
    call_isi pins s σ H _ us Q I r ⟨v, .ty t.nm, _, _, b, rfl, .ty _, ty, kit_ty e, q⟩
  have tupT : ∀ {a : Addr} {ws : List V}, SqT X.K H a ws → TyX X.K H (.ref a) (.type "tuple") := fun h => by
    rcases h with (h | ⟨o, h⟩) | ⟨o, its, n, h1, h2, _⟩
    · exact .base (.tup h)
    · exact .fTuple h
    · exact .kTuple h1 h2
  cases x with
  | non => obtain rfl : v = V.non := hx; exact fin (n := "NoneType") (.base .non) (by cases t <;> cases ho <;> decide +kernel)
  | bl i => obtain rfl : v = V.bl i := hx; exact fin (n := "bool") (.base (.bl i)) (by cases t <;> cases ho <;> decide +kernel)
  | int i => obtain rfl : v = V.int i := hx; exact fin (n := "int") (.base (.int i)) (by cases t <;> cases ho <;> decide +kernel)
  | str i => obtain rfl : v = V.str i := hx; exact fin (n := "str") (.base (.str i)) (by cases t <;> cases ho <;> decide +kernel)
  | tup xs => obtain ⟨a, ws, rfl, e, _⟩ := hx; exact fin (n := "tuple") (tupT e) (by cases t <;> cases ho <;> decide +kernel)
  | lst xs => obtain ⟨a, ws, rfl, e, _⟩ := hx; exact fin (n := "list") (.base (.lst e)) (by cases t <;> cases ho <;> decide +kernel)
  | _ => cases t <;> cases ho
end Ev
set_option maxRecDepth 100000
set_option maxHeartbeats 1000000
/-! EvIt: what is walked: lists and tuples, one like the other. -/
namespace Ev
open PySem PySem.Spec PyProof.Rows L2
theorem enum_newB1 {v : Value} {o : Obj} {H : Heap → Prop} (B : Begins v o H) :
    Meets (Builtin.«enumerate.__new__» ⟨[.type "enumerate", v], []⟩) (fun _ R s => H s.heap ∧
      R (.ok (.ret (.ref (s.heap.push o).objs.size))) { s with heap := (s.heap.push o).push { cls := .type "enumerate", data := .fields #[.none, .bool false, .ref s.heap.objs.size, rawInt 0, .none, .none] } }) :=
  .of_wp fun prog w A R s h => by
    obtain ⟨hp, g, d, tk, os⟩ := s; obtain ⟨h1, h⟩ := h
    have hsub := sub_enumerate
    have q1 : ∀ {A' : Around} {E : Value → Shared → Prop} {Q : Value → Shared → Prop}, Q (.ref hp.objs.size) ⟨hp.push o, g, d, tk, os⟩ → wpAny (model prog w) A' (pyIter v) Q E ⟨hp, g, d, tk, os⟩ :=
      fun q => B.iter prog w _ _ ⟨hp, g, d, tk, os⟩ _ h1 q
    wp_walk using q1
    refine wpAny_stack_any fun st => wpAny_pure ?_
    split
    · rename_i c _ _ _ _ _
      cases (c == Value.type "enumerate")
      · wp_walk using q1
        exact ⟨_, rfl, h⟩
      · wp_walk using q1
        exact ⟨_, rfl, h⟩
    · wp_walk using q1
      exact ⟨_, rfl, h⟩
section
variable {prog : Program} {w : World} {A : Around} {E : Value → Shared → Prop} {s : Shared}
theorem enum_begins1 {v : Value} {o : Obj} {H : Heap → Prop} {Q : Value → Shared → Prop} (B : Begins v o H) (h1 : H s.heap)
    (h : ∀ h', IsEnum h' (s.heap.objs.size + 1) s.heap.objs.size 0 .none → h'.get? s.heap.objs.size = some o → h'.objs.size = s.heap.objs.size + 2 →
      (∀ b o, s.heap.get? b = some o → h'.get? b = some o) → Q (.ref (s.heap.objs.size + 1)) { s with heap := h' }) :
    wpAny (model prog w) A (call (.type "enumerate") [v]) Q E s := by
  refine callType_new F.called_enumerate (by decide) (F.typeCall_enumerate_1 _) (F.newCall_enumerate_1 _) (fun obj => F.args_object_init_2 obj _) F.entry_enumerate_new
    (enum_newB1 B) ⟨h1, ?_⟩
  have hz : (s.heap.push o).objs.size = s.heap.objs.size + 1 := Heap.size_push ..
  show _ ∧ _
  rw [hz]
  have he : IsEnum ((s.heap.push o).push { cls := .type "enumerate", data := .fields #[.none, .bool false, .ref s.heap.objs.size, rawInt 0, .none, .none] }) (s.heap.objs.size + 1) s.heap.objs.size 0 .none := by
    have := Heap.get?_push_size (s.heap.push o) (o := { cls := .type "enumerate", data := .fields #[.none, .bool false, .ref s.heap.objs.size, rawInt 0, .none, .none] }) rfl
    rw [hz] at this; exact this
  refine ⟨⟨_, he, rfl⟩, h _ he (Heap.get?_push_of_some _ (Heap.get?_push_size _ B.free)) (by rw [Heap.size_push, hz]) fun b o x => Heap.get?_push_of_some _ (Heap.get?_push_of_some _ x)⟩
end

/-! ### a list (k = true) or a tuple -/
def SqK (k : Bool) (K : PySem.W.Frag) (H : Hp) (a : Addr) (xs : List V) : Prop := match k with
  | true => SqL K H a xs
  | false => SqT K H a xs
def itK (k : Bool) (h : Heap) (it a : Addr) (i : Nat) : Prop := match k with
  | true => h.IsListIter it a i
  | false => h.IsTupleIter it a i
def isK (k : Bool) (h : Heap) (a : Addr) (items : Array Value) : Prop := match k with
  | true => h.IsList a items
  | false => h.IsTuple a items
def itO (k : Bool) (a : Addr) : Obj := match k with
  | true => { cls := .type "list_iterator", data := .fields #[.ref a, .int 0 0] }
  | false => { cls := .type "tuple_iterator", data := .fields #[.ref a, .int 0 0] }
theorem beginsK (k : Bool) (a : Addr) (items : Array Value) : Begins (.ref a) (itO k a) fun h => isK k h a items := by
  cases k
  · exact begins_tuple a items
  · exact begins_list a items
theorem itK_new {k : Bool} {h : Heap} {it a : Addr} (e : h.get? it = some (itO k a)) : itK k h it a 0 := by
  cases k
  · exact ⟨_, e, rfl, rfl⟩
  · exact ⟨_, e, rfl, rfl⟩
theorem itK_obj {k : Bool} {h : Heap} {it a : Addr} {i : Nat} (e : itK k h it a i) : ∃ o, h.get? it = some o ∧ ∀ v, o.data ≠ .cell v := by
  cases k <;> (obtain ⟨o, e, c, d⟩ := e; exact ⟨o, e, fun v z => by rw [d] at z; cases z⟩)
theorem itK_at {k : Bool} {h h' : Heap} {it a : Addr} {i : Nat} (e : itK k h it a i) (f : ∀ o, h.get? it = some o → h'.get? it = some o) : itK k h' it a i := by
  cases k
  · exact Heap.IsTupleIter.at e f
  · exact Heap.IsListIter.at e f
theorem drawsK {prog : Program} {w : World} {A : Around} (k : Bool) (hh : A.handled = none) (it a : Addr) (hne : a ≠ it) (items : Array Value) :
    Draws prog w A it [it, a] items.size (fun i v => items[i]? = some v) (fun i h => itK k h it a i ∧ isK k h a items) := by
  cases k
  · exact Draws.tuple hh it a hne items
  · exact Draws.list hh it a hne items
section
variable {X : Cx} {pins : List (Addr × Obj)} {σ : L2.St} {H : Hp} {s : Shared} {k : Bool} {a : Addr} {xs ys : List V}
theorem srcK (I : Inv X pins σ H s) (h : SqK k X.K H a xs) : ∃ its : List Value, Vals xs its ∧ isK k s.heap a its.toArray ∧ a < s.heap.objs.size := by
  cases k
  · obtain ⟨its, r, p, _⟩ := I.tuple h
    exact ⟨its, r, p, p.lt⟩
  · obtain ⟨its, r, p, _⟩ := I.list h
    exact ⟨its, r, p.isList, p.lt⟩
theorem srcK_inj (I : Inv X pins σ H s) (h : SqK k X.K H a xs) (h' : SqK k X.K H a ys) : xs = ys := by
  cases k
  · exact I.tuple_inj h h'
  · exact I.list_inj h h'
theorem isK_ne {a it : Addr} {h : Heap} {items : Array Value} {i : Nat} {b : Addr} {k' : Bool} (h1 : isK k h a items) (h2 : itK k' h it b i) : a ≠ it := by
  rintro rfl
  cases k <;> cases k' <;> (obtain ⟨o, e, c, d⟩ := h2; obtain ⟨o', e', c', _⟩ := h1; rw [e] at e'; cases e'; rw [c] at c'; injection c' with c''; exact absurd c'' (by decide))
end

/-! ### enumerate -/
def ItE (k : Bool) (K : PySem.W.Frag) (a : Addr) : It :=
  ⟨fun i H => ∃ (xs : List V) (x : V), SqK k K H a xs ∧ xs[i]? = some x, fun i H v H' => ∃ T x, v = .ref T ∧ H T = none ∧ H' = upd H T (.tup [.int (i : Nat), x]) ∧ ∀ xs, SqK k K H a xs → xs[i]? = some x, fun i H => ∃ xs : List V, SqK k K H a xs ∧ xs.length = i⟩
theorem turn_enumK {P : Program} {w : World} {K : PySem.W.Frag} {elts : List Expr} {kk : Nat} {tpos : Pos} (k : Bool) (a e it : Addr) :
    Turn P w K (.Tuple elts kk tpos) (ItE k K a) [e, it] e (fun i h => (∃ old, IsEnum h e it ((i : Nat) : Int) old) ∧ itK k h it a i ∧ e ≠ it) where
  mem := by simp
  obj := fun i h st b hb => by
    obtain ⟨⟨old, he⟩, hi, _⟩ := st
    have e' : b = e ∨ b = it := by simpa using hb
    rcases e' with z | z
    · rw [z]; exact ⟨_, he, fun v q => nomatch q⟩
    · rw [z]; exact itK_obj hi
  keep := fun i h h' st q => let ⟨⟨old, he⟩, hi, hne⟩ := st; ⟨⟨old, q e (by simp) _ he⟩, itK_at hi fun o z => q it (by simp) o z, hne⟩
  item := by
    intro X hP hw hK hc i pins s σ H E I hf st hg
    subst hP hw hK
    obtain ⟨⟨old, he⟩, hit, hne⟩ := st
    obtain ⟨xs, x, hq, hx⟩ := hg
    obtain ⟨its, rv, p, hal⟩ := srcK I hq
    obtain ⟨u, hu, ru⟩ := rv.get hx
    have hel : e < s.heap.objs.size := Heap.lt_size he
    have hil : it < s.heap.objs.size := by obtain ⟨_, q, _⟩ := itK_obj hit; exact Heap.lt_size q
    have hae : a ≠ e := by
      rintro rfl
      have he' : s.heap.get? a = some _ := he
      cases k <;> (obtain ⟨o', e', c', _⟩ := p; rw [he'] at e'; cases e'; injection c' with c''; exact absurd c'' (by decide))
    have W := WalksT.enumFrom (prog := X.prog) (w := X.w) (A := X.A) 0 (drawsK k (show X.A.in1.handled = none from I.ok.hd hc) it a (isK_ne p hit) its.toArray) e hne (by simp [hne, Ne.symm hae]) (by simp)
    have hlen := rv.length
    have hi : i < its.toArray.size := by
      have := (List.getElem?_eq_some_iff.mp hx).1
      simp; omega
    refine W.item i s _ _ hi ⟨⟨old, by rw [Int.zero_add]; exact he⟩, hit, p⟩ fun T vals h' tk hPt hT hTup hMid hk => ?_
    refine ⟨_, rfl, W.go elts kk tpos i T { s with heap := h', toks := tk } _ _ hMid fun h'' hst hk2 => ?_⟩
    obtain ⟨t, x', hx', rfl⟩ := hPt
    have ex : x' = u := by
      have : its.toArray[i]? = some u := by simpa using hu
      rw [hx'] at this; cases this; rfl
    subst ex
    have hTw := W.apart i T h' hMid
    have hT2 : IsTup h'' T #[.int (0 + (i : Int)) t, x'] := by
      obtain ⟨o, h1, h2, n, h3⟩ := hTup
      exact ⟨o, hk2 T o hTw h1, h2, n, h3⟩
    have new : ObjOk X.prog X.w (upd H T (.tup [.int (i : Nat), x])) h'' T (.tup [.int (i : Nat), x]) :=
      ⟨by show 2 ≤ sizeLine; decide, [.int (0 + (i : Int)) t, x'], .cons ⟨t, by rw [Int.zero_add]⟩ (.cons ru .nil), hT2⟩
    have I1 : Inv X pins σ (upd H T (.tup [.int (i : Nat), x])) { s with heap := h'', toks := tk } :=
      I.turnedNew (ch := [e, it]) (fun b ob hb q => hk2 b ob (by simpa using hb) (hk b ob (by simpa using hb) q)) hf hT new
    obtain ⟨⟨old', he'⟩, hit', _⟩ := hst
    refine ⟨.ref T, _, I1, rfl, ⟨_, x, rfl, I.hok.fresh hT, rfl, fun ys hy => by rw [srcK_inj I hy hq]; exact hx⟩, ⟨⟨old', by rw [Int.zero_add] at he'; exact he'⟩, hit', hne⟩, fun b hb => ?_⟩
    have hb' : b < s.heap.objs.size := by
      have e' : b = e ∨ b = it := by simpa using hb
      rcases e' with z | z
      · rw [z]; exact hel
      · rw [z]; exact hil
    rw [upd_ne (Nat.ne_of_lt (Nat.lt_of_lt_of_le hb' hT))]
    exact (hf b hb).1
  done := by
    intro X hP hw hK hc i pins s σ H E I hf st hg
    subst hP hw hK
    obtain ⟨⟨old, he⟩, hit, hne⟩ := st
    obtain ⟨xs, hq, hx⟩ := hg
    obtain ⟨its, rv, p, hal⟩ := srcK I hq
    have hae : a ≠ e := by
      rintro rfl
      have he' : s.heap.get? a = some _ := he
      cases k <;> (obtain ⟨o', e', c', _⟩ := p; rw [he'] at e'; cases e'; injection c' with c''; exact absurd c'' (by decide))
    have W := WalksT.enumFrom (prog := X.prog) (w := X.w) (A := X.A) 0 (drawsK k (show X.A.in1.handled = none from I.ok.hd hc) it a (isK_ne p hit) its.toArray) e hne (by simp [hne, Ne.symm hae]) (by simp)
    have hlen := rv.length
    have hi : i = its.toArray.size := by simp; omega
    exact W.done s _ _ (by rw [← hi]; exact ⟨⟨old, by rw [Int.zero_add]; exact he⟩, hit, p⟩) fun h' tk hk => ⟨rfl, I.turnedL (t' := tk) (ch := [e, it]) (fun b ob hb q => hk b ob (by simpa using hb) q) hf⟩
  self := fun A i s Q E st h => let ⟨⟨_, he⟩, _⟩ := st; wpAny_pyIter_enum he h
def iEnumK (K : PySem.W.Frag) (ta : TA) : TI := fun σ H R => ta σ H fun vs H1 => ∃ k a xs, vs = [.ref a] ∧ SqK k K H1 a xs ∧ R (ItE k K a) H1
theorem pi_enumK {X : Cx} {e : Expr} {ta : TA} {p pos tpos : Pos} {elts : List Expr} {kk : Nat} (hg : Gl X "enumerate") (hm : X.mg "enumerate" = none) (ha : PA X [e] ta) (hs : starEach [e] X.env = [(false, eval e X.env)]) :
    PI X (.Tuple elts kk tpos) (.Call (.Name "enumerate" p) [e] [] pos) (iEnumK X.K ta) := by
  refine ⟨fun pins s σ H R I h => ?_⟩
  refine Call_ (ld_blt I hg hm boot_enumerate (PyProof.Rows.callWith_type1 (thn (ha.run pos pins s σ H _ I h) fun us s1 ⟨vs, H1, I1, r1, q1⟩ => ?_) hs rfl))
  obtain ⟨k, a, xs, ex, hq, q⟩ := q1
  subst ex
  cases r1 with
  | cons r rr =>
    cases rr
    cases r
    obtain ⟨its, rv, p', hz⟩ := srcK I1 hq
    refine enum_begins1 (beginsK k a its.toArray) p' fun h' he hit hsz hk => wpAny_pyIter_enum he ?_
    have I2 : Inv X pins σ H1 { s1 with heap := h' } := I1.kept (t' := s1.toks) hk
    refine ⟨s1.heap.objs.size + 1, [s1.heap.objs.size + 1, s1.heap.objs.size], _, _, H1, rfl, I2, turn_enumK k a (s1.heap.objs.size + 1) s1.heap.objs.size, ⟨⟨.none, he⟩, itK_new hit, Nat.succ_ne_self _⟩, fun b hb => ?_, q⟩
    have e' : b = s1.heap.objs.size + 1 ∨ b = s1.heap.objs.size := by simpa using hb
    have hle : s1.heap.objs.size ≤ b := by
      rcases e' with z | z
      · rw [z]; exact Nat.le_add_right _ _
      · rw [z]; exact Nat.le_refl _
    exact I1.fpOk hle (I1.hok.fresh hle)
/-! ### zip -/
def ItZ (k l : Bool) (K : PySem.W.Frag) (a b : Addr) : It :=
  ⟨fun i H => ∃ (xs ys : List V) (x y : V), SqK k K H a xs ∧ SqK l K H b ys ∧ xs[i]? = some x ∧ ys[i]? = some y,
    fun i H v H' => ∃ T x y, v = .ref T ∧ H T = none ∧ H' = upd H T (.tup [x, y]) ∧ (∀ xs, SqK k K H a xs → xs[i]? = some x) ∧ ∀ ys, SqK l K H b ys → ys[i]? = some y,
    fun i H => ∃ xs ys : List V, SqK k K H a xs ∧ SqK l K H b ys ∧ i ≤ xs.length ∧ i ≤ ys.length ∧ (xs.length = i ∨ ys.length = i)⟩
/-- a sequence is none of a zip's cells -/
theorem isK_no {k : Bool} {h : Heap} {a c : Addr} {items : Array Value} (h1 : isK k h a items) {o : Obj} (e : h.get? c = some o) (n : o.cls ≠ .type "list" ∧ o.cls ≠ .type "tuple") : a ≠ c := by
  rintro rfl
  cases k
  · obtain ⟨o', e', c', _⟩ := h1; rw [e] at e'; cases e'; exact n.2 c'
  · obtain ⟨o', e', c', _⟩ := h1; rw [e] at e'; cases e'; exact n.1 c'
theorem turn_zipK {P : Program} {w : World} {K : PySem.W.Frag} {elts : List Expr} {kk : Nat} {tpos : Pos} {a b z TI TO i1 i2 : Addr} (k l : Bool) (S : ZipSep2 z TI TO i1 i2 [i1, a] [i2, b]) :
    Turn P w K (.Tuple elts kk tpos) (ItZ k l K a b) [z, TI, TO, i1, i2] z (fun i h => IsZip h z TI TO .none ∧ IsTupOf2 h TI (.ref i1) (.ref i2) ∧ (∃ x y, IsTupOf2 h TO x y) ∧ itK k h i1 a i ∧ itK l h i2 b i) where
  mem := by simp
  obj := fun i h st c hc => by
    obtain ⟨hz, hTI, ⟨x, y, hTO⟩, h1, h2⟩ := st
    have e' : c = z ∨ c = TI ∨ c = TO ∨ c = i1 ∨ c = i2 := by simpa using hc
    rcases e' with q | q | q | q | q
    · rw [q]; exact ⟨_, hz, fun v q => nomatch q⟩
    · rw [q]; exact ⟨_, hTI, fun v q => nomatch q⟩
    · rw [q]; exact ⟨_, hTO, fun v q => nomatch q⟩
    · rw [q]; exact itK_obj h1
    · rw [q]; exact itK_obj h2
  keep := fun i h h' st q => by
    obtain ⟨hz, hTI, ⟨x, y, hTO⟩, h1, h2⟩ := st
    exact ⟨q z (by simp) _ hz, q TI (by simp) _ hTI, ⟨x, y, q TO (by simp) _ hTO⟩, itK_at h1 fun o e => q i1 (by simp) o e, itK_at h2 fun o e => q i2 (by simp) o e⟩
  item := by
    intro X hP hw hK hc i pins s σ H E I hf st hg
    subst hP hw hK
    obtain ⟨hz, hTI, hTO, h1, h2⟩ := st
    obtain ⟨xs, ys, x, y, hqx, hqy, hx, hy⟩ := hg
    obtain ⟨its, rv, p, _⟩ := srcK I hqx
    obtain ⟨its2, rv2, p2, _⟩ := srcK I hqy
    obtain ⟨u, hu, ru⟩ := rv.get hx
    obtain ⟨u2, hu2, ru2⟩ := rv2.get hy
    have W := WalksT.zipD2 (prog := X.prog) (w := X.w) (A := X.A) S (drawsK k (show X.A.in1.handled = none from I.ok.hd hc) i1 a (isK_ne p h1) its.toArray) (drawsK l (show X.A.in1.handled = none from I.ok.hd hc) i2 b (isK_ne p2 h2) its2.toArray)
    have l1 := rv.length
    have l2 := rv2.length
    have hi1 := (List.getElem?_eq_some_iff.mp hx).1
    have hi2 := (List.getElem?_eq_some_iff.mp hy).1
    refine W.item i s _ _ (by simp; omega) ⟨hz, hTI, hTO, ⟨h1, p⟩, ⟨h2, p2⟩⟩ fun T vals h' tk hPt hT hTup hMid hk => ?_
    refine ⟨_, rfl, W.go elts kk tpos i T { s with heap := h', toks := tk } _ _ hMid fun h'' hst hk2 => ?_⟩
    obtain ⟨x1, x2, e1, e2, rfl⟩ := hPt
    have ex : x1 = u := by
      have : its.toArray[i]? = some u := by simpa using hu
      rw [e1] at this; cases this; rfl
    have ey : x2 = u2 := by
      have : its2.toArray[i]? = some u2 := by simpa using hu2
      rw [e2] at this; cases this; rfl
    subst ex; subst ey
    have hTw := W.apart i T h' hMid
    have hT2 : IsTup h'' T #[x1, x2] := by
      obtain ⟨o, h1, h2, n, h3⟩ := hTup
      exact ⟨o, hk2 T o hTw h1, h2, n, h3⟩
    have new : ObjOk X.prog X.w (upd H T (.tup [x, y])) h'' T (.tup [x, y]) := ⟨by show 2 ≤ sizeLine; decide, [x1, x2], .cons ru (.cons ru2 .nil), hT2⟩
    have I1 : Inv X pins σ (upd H T (.tup [x, y])) { s with heap := h'', toks := tk } :=
      I.turnedNew (ch := [z, TI, TO, i1, i2]) (fun c o hb q => hk2 c o (fun q' => hb (by simp at q' ⊢; rcases q' with q' | q' | q' | q' <;> simp [q'])) (hk c o (fun q' => hb (by simp at q' ⊢; rcases q' with q' | q' | q' | q' <;> simp [q'])) q)) hf hT new
    obtain ⟨g1, g2, g3, ⟨g4, _⟩, ⟨g5, _⟩⟩ := hst
    refine ⟨.ref T, _, I1, rfl, ⟨_, x, y, rfl, I.hok.fresh hT, rfl, fun l hl => by rw [srcK_inj I hl hqx]; exact hx, fun l hl => by rw [srcK_inj I hl hqy]; exact hy⟩, ⟨g1, g2, g3, g4, g5⟩, fun c hcm => ?_⟩
    have hlt : c < s.heap.objs.size := by
      have e' : c = z ∨ c = TI ∨ c = TO ∨ c = i1 ∨ c = i2 := by simpa using hcm
      rcases e' with q | q | q | q | q
      · rw [q]; exact Heap.lt_size hz
      · rw [q]; exact Heap.lt_size hTI
      · rw [q]; obtain ⟨_, _, hTO⟩ := hTO; exact Heap.lt_size hTO
      · rw [q]; obtain ⟨_, e1, _⟩ := itK_obj h1; exact Heap.lt_size e1
      · rw [q]; obtain ⟨_, e2, _⟩ := itK_obj h2; exact Heap.lt_size e2
    rw [upd_ne (Nat.ne_of_lt (Nat.lt_of_lt_of_le hlt hT))]
    exact (hf c hcm).1
  done := by
    intro X hP hw hK hc i pins s σ H E I hf st hg
    subst hP hw hK
    obtain ⟨hz, hTI, ⟨x0, y0, hTO⟩, h1, h2⟩ := st
    obtain ⟨xs, ys, hqx, hqy, b1, b2, hend⟩ := hg
    obtain ⟨its, rv, p, _⟩ := srcK I hqx
    obtain ⟨its2, rv2, p2, _⟩ := srcK I hqy
    have l1 := rv.length
    have l2 := rv2.length
    exact wpAny_pyNext_zipD2_end S (drawsK k (show X.A.in1.handled = none from I.ok.hd hc) i1 a (isK_ne p h1) its.toArray) (drawsK l (show X.A.in1.handled = none from I.ok.hd hc) i2 b (isK_ne p2 h2) its2.toArray) hz hTI hTO ⟨h1, p⟩ ⟨h2, p2⟩ (by simp; omega) (by simp; omega) (by simp; omega) fun h' tk hk =>
      ⟨rfl, I.turnedL (t' := tk) (ch := [z, TI, TO, i1, i2]) (fun c o hb q => hk c o (fun q' => hb (by simp [q'])) (fun q' => hb (by simp [q'])) (fun q' => hb (by simp [q'])) (fun q' => hb (by simp [q'])) q) hf⟩
  self := fun A i s Q E st h => wpAny_pyIter_zip st.1 h
def iZipK (K : PySem.W.Frag) (ta : TA) : TI := fun σ H R => ta σ H fun vs H1 => ∃ k l a b xs ys, vs = [.ref a, .ref b] ∧ SqK k K H1 a xs ∧ SqK l K H1 b ys ∧ R (ItZ k l K a b) H1
theorem pi_zipK {X : Cx} {e e2 : Expr} {ta : TA} {p pos tpos : Pos} {elts : List Expr} {kk : Nat} (hg : Gl X "zip") (hm : X.mg "zip" = none) (ha : PA X [e, e2] ta)
    (hs : starEach [e, e2] X.env = (false, eval e X.env) :: starEach [e2] X.env) (hpl : (backTo pos (starEach [e2] X.env)).any (·.1) = false) :
    PI X (.Tuple elts kk tpos) (.Call (.Name "zip" p) [e, e2] [] pos) (iZipK X.K ta) := by
  refine ⟨fun pins s σ H R I h => ?_⟩
  refine Call_ (ld_blt I hg hm PyProof.Rows.boot_zip (PyProof.Rows.callWith_type1 (thn (ha.run pos pins s σ H _ I h) fun us s1 ⟨vs, H1, I1, r1, q1⟩ => ?_) hs hpl))
  obtain ⟨k, l, a, b, xs, ys, ex, hqx, hqy, q⟩ := q1
  subst ex
  cases r1 with
  | cons r rr =>
    cases rr with
    | cons r' rr =>
      cases rr
      cases r
      cases r'
      obtain ⟨its, rv, p1, la⟩ := srcK I1 hqx
      obtain ⟨its2, rv2, p2, lb⟩ := srcK I1 hqy
      refine zip_begins2 (beginsK k a its.toArray) (beginsK l b its2.toArray) p1 p2 fun h' hz hTI hTO h1 h2 hsz hk => wpAny_pyIter_zip hz ?_
      have I2 : Inv X pins σ H1 { s1 with heap := h' } := I1.kept (t' := s1.toks) hk
      refine ⟨s1.heap.objs.size + 4, [s1.heap.objs.size + 4, s1.heap.objs.size + 2, s1.heap.objs.size + 3, s1.heap.objs.size, s1.heap.objs.size + 1], _, _, H1, rfl, I2,
        turn_zipK k l (zip_sep2 (N := s1.heap.objs.size) (fp1 := [a]) (fp2 := [b]) (by simpa using la) (by simpa using lb)), ⟨hz, hTI, ⟨_, _, hTO⟩, itK_new h1, itK_new h2⟩, fun c hcm => ?_, q⟩
      have e' : c = s1.heap.objs.size + 4 ∨ c = s1.heap.objs.size + 2 ∨ c = s1.heap.objs.size + 3 ∨ c = s1.heap.objs.size ∨ c = s1.heap.objs.size + 1 := by simpa using hcm
      have hle : s1.heap.objs.size ≤ c := by
        rcases e' with z | z | z | z | z
        · rw [z]; exact Nat.le_add_right _ _
        · rw [z]; exact Nat.le_add_right _ _
        · rw [z]; exact Nat.le_add_right _ _
        · rw [z]; exact Nat.le_refl _
        · rw [z]; exact Nat.le_add_right _ _
      exact I1.fpOk hle (I1.hok.fresh hle)
/-! ### a list or a tuple itself -/
def ItS (k : Bool) (K : PySem.W.Frag) (a : Addr) : It := match k with
  | true => Itl K a
  | false => Itt K a
def iSeq (K : PySem.W.Frag) (te : TE) : TI := fun σ H R => te σ H fun x H1 => ∃ k a xs, x = .ref a ∧ SqK k K H1 a xs ∧ R (ItS k K a) H1
theorem pi_seqK {X : Cx} {tg l : Expr} {tl : TE} (hl : PE X l tl) : PI X tg l (iSeq X.K tl) := by
  refine ⟨fun pins s σ H R I h => ?_⟩
  refine thn (hl.run pins s σ H _ I h) fun v s1 ⟨x, H1, I1, r1, q1⟩ => ?_
  obtain ⟨k, a, xs, e, hq, q⟩ := q1
  subst e
  cases r1
  cases k with
  | true =>
    obtain ⟨its, rv, p, hz⟩ := I1.list hq
    refine wpAny_pyIter_list p.isList ?_
    refine ⟨s1.heap.objs.size, [s1.heap.objs.size], _, _, H1, rfl, I1.kept (t' := s1.toks) fun b o e => Heap.get?_push_of_some _ e, turn_list a _, ⟨_, Heap.get?_push_size _ rfl, rfl, rfl⟩, fun b hb => ?_, q⟩
    have e : b = s1.heap.objs.size := by simpa using hb
    subst e
    exact I1.fpOk (Nat.le_refl _) (I1.hok.fresh (Nat.le_refl _))
  | false =>
    obtain ⟨its, rv, p, hz⟩ := I1.tuple hq
    refine wpAny_pyIter_tuple (show s1.heap.IsTuple a its.toArray from p) ?_
    refine ⟨s1.heap.objs.size, [s1.heap.objs.size], _, _, H1, rfl, I1.kept (t' := s1.toks) fun b o e => Heap.get?_push_of_some _ e, turn_tuple a _, ⟨_, Heap.get?_push_size _ rfl, rfl, rfl⟩, fun b hb => ?_, q⟩
    have e : b = s1.heap.objs.size := by simpa using hb
    subst e
    exact I1.fpOk (Nat.le_refl _) (I1.hok.fresh (Nat.le_refl _))
end Ev

set_option maxRecDepth 100000
/-! EvChk: the text's syntax held against the compact one. -/
namespace Ev
open PySem PySem.Spec PyProof.Rows L2
structure Cc where
  N : List Str
  own : List Nat
  G : List (Str × D)
  fs : List (Str × Nat)
  al : Bool
def visB (sc : Scope) (x : Str) : Bool := match sc.names.lookup x with
  | some .local => true
  | some .cell => true
  | some .free => true
  | _ => false
def glB (sc : Scope) (x : Str) : Bool := match sc.names.lookup x with
  | some .globalImplicit => true
  | _ => false
def okn (x : Str) : Bool := decide (x ≠ ("__debug__" : Str)) && decide (x ≠ ("__classdict__" : Str)) && decide (x ≠ ("__name__" : Str))
def constB : Const → D → Bool
  | .none, .non => true
  | .bool a, .bl b => a == b
  | .int i, .int j => decide (i = j)
  | .str x, .str y => decide (x = y)
  | _, _ => false
def Bf.nm : Bf → Str
  | .len => "len" | .tuple => "tuple" | .list => "list" | .sum => "sum" | .all => "all" | .any => "any" | .min => "min" | .max => "max"
  | .abs => "abs" | .int => "int" | .str => "str" | .sorted => "sorted" | .sset => "sorted"
def Ty.nmS : Ty → Str
  | .int => "int" | .bool => "bool" | .tuple => "tuple" | .str => "str"
/-- the built-in names that the checks lean on -/
def bltNames : List Str := ["len", "tuple", "list", "sum", "all", "any", "min", "max", "abs", "int", "str", "sorted", "isinstance", "bool", "range", "enumerate", "zip"]
def Tg.slots : Tg → List Nat
  | .nm i => [i]
  | .nmo i => [i]
  | .nil => []
  | .cons t ts => t.slots ++ ts.slots
  | .tp ts => ts.slots
def E.slots : E → List Nat
  | .gn t _ _ gs => t.slots ++ gs.slots
  | _ => []
/-- may stand as a test -/
def E.tst : E → Bool
  | .ife _ _ _ => false
  | .nt a => a.tst
  | .and_ es => es.tst
  | .or_ es => es.tst
  | .cons e es => e.tst && es.tst
  | _ => true
section
variable (cx : Cc)
def locB (sc : Scope) (x : Str) : Bool := match sc.names.lookup x with
  | some .local => true
  | some .cell => true
  | _ => false
def chkTg : Tg → Scope → Expr → Bool
  | .nm i, sc, .Name x _ => decide (cx.N[i]? = some x) && locB sc x && decide (i ∉ cx.own)
  | .nmo i, sc, .Name x _ => decide (cx.N[i]? = some x) && locB sc x
  | .tp ts, sc, .Tuple xs _ _ => chkTgs ts sc xs
  | _, _, _ => false
where chkTgs : Tg → Scope → List Expr → Bool
  | .nil, _, [] => true
  | .cons t ts, sc, x :: xs => chkTg t sc x && chkTgs ts sc xs
  | _, _, _ => false
def E.isNoe : E → Bool
  | .noe => true
  | _ => false
def E.isNil : E → Bool
  | .nil => true
  | _ => false
def oneT : E → Bool
  | .nil => true
  | .cons _ .nil => true
  | _ => false
mutual
def chk : E → Scope → Expr → Bool
  | .var i, sc, .Name x _ => decide (cx.N[i]? = some x) && visB sc x && okn x
  | .cst d, _, .Constant c _ _ => constB c d
  | .gl y d, sc, .Name x _ => decide (x = y) && glB sc x && okn x && (match cx.G.lookup y with
    | some d' => d'.same d
    | none => false)
  | .tup es, sc, .Tuple xs _ _ => chks es sc xs && decide (xs.length ≤ 1000)
  | .lst es, sc, .List xs _ => chks es sc xs && decide (xs.length ≤ 1000)
  | .cupn a b, sc, .List xs _ => (match xs with
    | [x, y] => chk a sc x && chk b sc y
    | _ => false)
  | .op2 o a b, sc, .BinOp x op y _ => decide (op = o.op) && chk a sc x && chk b sc y
  | .neg a, sc, .UnaryOp op x _ => decide (op = .USub) && chk a sc x
  | .nt a, sc, .UnaryOp op x _ => decide (op = .Not) && chk a sc x
  | .and_ es, sc, .BoolOp op xs _ => decide (op = .And) && chks es sc xs && !xs.isEmpty
  | .or_ es, sc, .BoolOp op xs _ => decide (op = .Or) && chks es sc xs && !xs.isEmpty
  | .ife t a b, sc, .IfExp x y z _ => chk t sc x && chk a sc y && chk b sc z && t.tst
  | .cmp o a b, sc, .Compare x ops ys _ => (match ops, ys with
    | [op], [y] => decide (op = o.op) && chk a sc x && chk b sc y
    | _, _ => false)
  | .chn o p a b c, sc, .Compare x ops ys _ => (match ops, ys with
    | [op, op'], [y, z] => decide (op = o.op) && decide (op' = p.op) && chk a sc x && chk b sc y && chk c sc z
    | _, _ => false)
  | .ix a i, sc, .Subscript x y _ => chk a sc x && chk i sc y
  | .sl a lo hi, sc, .Subscript x (.Slice l h none _) _ => chk a sc x && (match l with
    | none => lo.isNoe
    | some l => chk lo sc l) && (match h with
    | none => hi.isNoe
    | some h => chk hi sc h)
  | .call f es, sc, .Call (.Name x _) xs ks _ => ks.isEmpty && glB sc x && okn x && decide (cx.fs[f]? = some (x, xs.length)) && chks es sc xs
  | .calln f es, sc, .Call (.Name x _) xs ks _ => ks.isEmpty && glB sc x && okn x && decide (cx.fs[f]? = some (x, xs.length)) && chks es sc xs
  | .callf f es, sc, .Call (.Name x _) xs ks _ => ks.isEmpty && glB sc x && okn x && decide (cx.fs[f]? = some (x, xs.length)) && chks es sc xs
  | .rev a, sc, .Subscript x (.Slice l h (some (.UnaryOp op (.Constant (.int i) _ _) _)) _) _ => chk a sc x && l.isNone && h.isNone && decide (op = .USub) && decide (i = 1)
  | .bf b es, sc, .Call (.Name x _) xs ks _ => ks.isEmpty && glB sc x && decide (x = b.nm) && decide (b ≠ .sset) && chks es sc xs && !xs.isEmpty
  | .lz es, sc, .Call (.Name x _) xs ks _ => ks.isEmpty && glB sc x && decide (x = ("list" : Str)) && (match xs with
    | [.Call (.Name y _) ys ks2 _] => ks2.isEmpty && glB sc y && decide (y = ("zip" : Str)) && chks es sc ys && decide (ys.length = 2)
    | _ => false)
  | .isi a t, sc, .Call (.Name x _) xs ks _ => ks.isEmpty && glB sc x && decide (x = ("isinstance" : Str)) && (match xs with
    | [y, .Name z _] => chk a sc y && decide (z = t.nmS) && glB sc z
    | _ => false)
  | .lc own gs, sc, .ListComp elt gens scope _ => blkC cx.N sc scope (own.map fun i => (cx.N.getD i (Str.ofString ""), i)) && chkG gs scope sc (relS scope sc) gens elt &&
      decide (gs.slots.Nodup) && gs.slots.all (fun i => decide (i ∈ own)) && own.all (fun i => decide (i ∉ cx.own)) && !gens.isEmpty
  | _, _, _ => false
def chks : E → Scope → List Expr → Bool
  | .nil, _, [] => true
  | .cons e es, sc, x :: xs => chk e sc x && chks es sc xs
  | _, _, _ => false
/-- what is walked, for a target -/
def chkI : E → Scope → Expr → Expr → Bool
  | .itE a, sc, _, x => chk a sc x
  | .itR es, sc, _, .Call (.Name x _) xs ks _ => ks.isEmpty && glB sc x && decide (x = ("range" : Str)) && chks es sc xs && decide (xs.length = 1 ∨ xs.length = 2)
  | .itN a, sc, .Tuple _ _ _, .Call (.Name x _) xs ks _ => ks.isEmpty && glB sc x && decide (x = ("enumerate" : Str)) && (match xs with
    | [y] => chk a sc y
    | _ => false)
  | .itZ a b, sc, .Tuple _ _ _, .Call (.Name x _) xs ks _ => ks.isEmpty && glB sc x && decide (x = ("zip" : Str)) && (match xs with
    | [y, z] => chk a sc y && chk b sc z
    | _ => false)
  | _, _, _, _ => false
def chkG : E → Scope → Scope → Scope → List Comprehension → Expr → Bool
  | .gn t it ifs gs, raw, sc0, sc, ⟨tg, iter, is, as⟩ :: rest, elt => decide (as = 0) && (chkTg cx t raw tg && t.noO) && chkI it sc0 tg iter && it.itb cx.own && chks ifs sc is && oneT ifs && ifs.tst && chkG gs raw sc sc rest elt
  | .el e, _, _, sc, [], elt => chk e sc elt && e.cl cx.own
  | _, _, _, _, _, _ => false
end
end
end Ev

set_option maxRecDepth 100000
/-! EvS1: the readings' algebra. -/
namespace Ev
open PySem PySem.Spec PyProof.Rows L2
section
variable {K : PySem.W.Frag} {F G : Addr → Prop} {ca ca' ca1 : Option Addr} {c c' c1 : Cu} {H H' H1 : Hp} {R : RX} {cb cl fr : Bool} {Q Q' : VK}
theorem After.mono {o : Out D} (h : After K F G ca H R cb cl fr o Q) (hq : ∀ v H', Q v H' → Q' v H') : After K F G ca H R cb cl fr o Q' := by
  cases o with
  | ok d c => exact fun v ca' H' p a b f => hq _ _ (h v ca' H' p a b f)
  | err k c => exact h
  | no => exact h
theorem After.later {o : Out D} (p : Post ca H ca1 c1 H1) (h : After K F G ca H R cb cl fr o Q) : After K F G ca1 H1 R cb cl fr o Q := by
  cases o with
  | ok d c => exact fun v ca' H' p' a b f => h v ca' H' (p.trans p') a b fun h1 h2 => (f h1 h2).imp fun x hx => ⟨hx.1, p.free hx.2⟩
  | err k c => exact fun ca' H' p' => h ca' H' (p.trans p')
  | no => exact h
theorem AfterL.later {o : Out (List D)} {Q : List V → Hp → Prop} (p : Post ca H ca1 c1 H1) (h : AfterL K F G ca H R cl o Q) : AfterL K F G ca1 H1 R cl o Q := by
  cases o with
  | ok d c => exact fun v ca' H' p' a => h v ca' H' (p.trans p') a
  | err k c => exact fun ca' H' p' => h ca' H' (p.trans p')
  | no => exact h
theorem AfterLB.later {o : Out (List D)} {Q : List V → Hp → Prop} (p : Post ca H ca1 c1 H1) (h : AfterLB K F G ca H R cl o Q) : AfterLB K F G ca1 H1 R cl o Q := by
  cases o with
  | ok d c => exact fun v ca' H' p' a => h v ca' H' (p.trans p') a
  | err k c => exact fun ca' H' p' => h ca' H' (p.trans p')
  | no => exact h
theorem AfterB.later {o : Out Bool} {Q : Bool → Hp → Prop} (p : Post ca H ca1 c1 H1) (h : AfterB ca H R o Q) : AfterB ca1 H1 R o Q := by
  cases o with
  | ok d c => exact fun ca' H' p' => h ca' H' (p.trans p')
  | err k c => exact fun ca' H' p' => h ca' H' (p.trans p')
  | no => exact h
theorem RepB.weakG {G' : Addr → Prop} (hg : ∀ a, G' a → G a) {d : D} {v : V} (h : RepB K F G ca H d v) : RepB K F G' ca H d v := by
  cases d with
  | lst xs => obtain ⟨a, vs, e, q, n, m, r⟩ := h; exact ⟨a, vs, e, q, n, m, RepL.weak hg _ _ r⟩
  | dic xs => obtain ⟨a, vs, e, q, n, r⟩ := h; exact ⟨a, vs, e, q, n, RepK.weak hg _ _ r⟩
  | _ => exact Rep.weak hg _ _ h
/-- nothing but a value without a list -/
theorem After.done {z : D} (h : After K F G ca H R cl cl fr (.ok z c) Q) (hg : ∀ a, F a → G a) : Done K (if cl then G else F) ca c H z Q := fun v H' p r f =>
  h v ca H' p (by
    cases cl with
    | true => exact RepB.of hg r
    | false => exact RepB.of (fun _ q => q) r) (fun e => by subst e; exact r) fun _ e => f e
theorem After.item {z : D} (h : After K F G ca H R cl cl false (.ok z c) Q) (hg : ∀ a, F a → G a) : ∀ v H', Post ca H ca c H' → Rep K (if cl then G else F) ca H' z v → Q v H' := fun v H' p r =>
  h v ca H' p (by
    cases cl with
    | true => exact RepB.of hg r
    | false => exact RepB.of (fun _ q => q) r) (fun e => by subst e; exact r) fun e => by cases e
/-- a value that is no list, here -/
theorem After.here {z : D} {v : V} (h : After K F G ca H R cb cl fr (.ok z c) Q) (hc : CupOk ca c H) (r : ∀ F', Rep K F' ca H z v) (hb : z.lstB = false) : Q v H :=
  h v ca H (Post.refl hc) (by
    cases z with
    | lst _ => cases hb
    | dic _ => cases hb
    | _ => exact r (if cb then G else F)) (fun _ => r G) fun _ e => by rw [hb] at e; cases e
end
section
variable {K : PySem.W.Frag} {own : List Nat} {R : RX} {Fn : Nat → List D → Cu → Out D} {F : Addr → Prop} {ca : Option Addr} {c : Cu} {env : Env} {σ : L2.St} {H : Hp} {Q Q' : VK} {cb cl fr : Bool}
theorem T.mono {e : E} (h : T K own R Fn e σ H Q) (hq : ∀ v H', Q v H' → Q' v H') : T K own R Fn e σ H Q' :=
  let ⟨F, ca, c, env, r, a⟩ := h
  ⟨F, ca, c, env, r, a.mono hq⟩
theorem AfterL.mono {K : PySem.W.Frag} {F G : Addr → Prop} {ca : Option Addr} {H : Hp} {R : RX} {cl : Bool} {o : Out (List D)} {Q Q' : List V → Hp → Prop} (h : AfterL K F G ca H R cl o Q) (hq : ∀ v H', Q v H' → Q' v H') : AfterL K F G ca H R cl o Q' := by
  cases o with
  | ok d c => exact fun v ca' H' p a => hq _ _ (h v ca' H' p a)
  | err k c => exact h
  | no => exact h
theorem AfterLB.mono {K : PySem.W.Frag} {F G : Addr → Prop} {ca : Option Addr} {H : Hp} {R : RX} {cl : Bool} {o : Out (List D)} {Q Q' : List V → Hp → Prop} (h : AfterLB K F G ca H R cl o Q) (hq : ∀ v H', Q v H' → Q' v H') : AfterLB K F G ca H R cl o Q' := by
  cases o with
  | ok d c => exact fun v ca' H' p a => hq _ _ (h v ca' H' p a)
  | err k c => exact h
  | no => exact h
theorem TL.mono {e : E} {Q Q' : List V → Hp → Prop} (h : TL K own R Fn e σ H Q) (hq : ∀ v H', Q v H' → Q' v H') : TL K own R Fn e σ H Q' :=
  let ⟨F, ca, c, env, r, a⟩ := h
  ⟨F, ca, c, env, r, a.mono hq⟩
theorem TLb.mono {e : E} {Q Q' : List V → Hp → Prop} (h : TLb K own R Fn e σ H Q) (hq : ∀ v H', Q v H' → Q' v H') : TLb K own R Fn e σ H Q' :=
  let ⟨F, ca, c, env, r, a⟩ := h
  ⟨F, ca, c, env, r, a.mono hq⟩
/-- what an expression gives, and what is left behind it -/
structure Got (K : PySem.W.Frag) (own : List Nat) (F : Addr → Prop) (env : Env) (σ : L2.St) (e : E) (ca : Option Addr) (H : Hp) (ca1 : Option Addr) (c1 : Cu) (d : D) (v : V) (H1 : Hp) : Prop where
  rl : Rl K F own ca1 c1 env σ H1
  post : Post ca H ca1 c1 H1
  b : RepB K F (if e.clb own then Fo F own env σ else F) ca1 H1 d v
  s : e.cl own = true → Rep K (Fo F own env σ) ca1 H1 d v
  f : e.fr = true → d.lstB = true → ∃ p, v = .ref p ∧ H p = none
theorem Got.weak {e : E} {ca1 : Option Addr} {c1 : Cu} {d : D} {v : V} {H1 : Hp} (g : Got K own F env σ e ca H ca1 c1 d v H1) : Rep K F ca1 H1 d v := by
  refine RepB.rep (G := if e.clb own then Fo F own env σ else F) (fun a h => ?_) g.b
  split
  · exact .inl h
  · exact h
theorem T.bind {e : E} {k : D → Cu → Out D} (r : Rl K F own ca c env σ H) (h : After K F (Fo F own env σ) ca H R cb cl fr ((ev Fn e env c).bind k) Q) :
    T K own R Fn e σ H fun v H1 => ∃ ca1 c1 d, ev Fn e env c = .ok d c1 ∧ Got K own F env σ e ca H ca1 c1 d v H1 ∧ After K F (Fo F own env σ) ca1 H1 R cb cl fr (k d c1) Q := by
  refine ⟨F, ca, c, env, r, ?_⟩
  cases q : ev Fn e env c with
  | ok d c1 =>
    rw [q] at h
    exact fun v ca1 H1 p b s f => ⟨ca1, c1, d, rfl, ⟨r.post p, p, b, s, f⟩, After.later p h⟩
  | err k c1 =>
    rw [q] at h
    exact h
  | no =>
    rw [q] at h
    exact h
theorem TL.bind {es : E} {k : List D → Cu → Out D} (r : Rl K F own ca c env σ H) (h : After K F (Fo F own env σ) ca H R cb cl fr ((evs Fn es env c).bind k) Q) :
    TL K own R Fn es σ H fun vs H1 => ∃ ca1 c1 ds, evs Fn es env c = .ok ds c1 ∧ Rl K F own ca1 c1 env σ H1 ∧ Post ca H ca1 c1 H1 ∧ RepL K (if es.cls own then Fo F own env σ else F) ca1 H1 ds vs ∧ After K F (Fo F own env σ) ca1 H1 R cb cl fr (k ds c1) Q := by
  refine ⟨F, ca, c, env, r, ?_⟩
  cases q : evs Fn es env c with
  | ok d c1 =>
    rw [q] at h
    exact fun v ca1 H1 p b => ⟨ca1, c1, d, rfl, r.post p, p, b, After.later p h⟩
  | err k c1 =>
    rw [q] at h
    exact h
  | no =>
    rw [q] at h
    exact h
theorem TLb.bind {es : E} {k : List D → Cu → Out D} (r : Rl K F own ca c env σ H) (h : After K F (Fo F own env σ) ca H R cb cl fr ((evs Fn es env c).bind k) Q) :
    TLb K own R Fn es σ H fun vs H1 => ∃ ca1 c1 ds, evs Fn es env c = .ok ds c1 ∧ Rl K F own ca1 c1 env σ H1 ∧ Post ca H ca1 c1 H1 ∧ RepLB K F (if es.clbs own then Fo F own env σ else F) ca1 H1 ds vs ∧ After K F (Fo F own env σ) ca1 H1 R cb cl fr (k ds c1) Q := by
  refine ⟨F, ca, c, env, r, ?_⟩
  cases q : evs Fn es env c with
  | ok d c1 =>
    rw [q] at h
    exact fun v ca1 H1 p b => ⟨ca1, c1, d, rfl, r.post p, p, b, After.later p h⟩
  | err k c1 =>
    rw [q] at h
    exact h
  | no =>
    rw [q] at h
    exact h
theorem Rl.at (r : Rl K F own ca c env σ H) (b : Bool) : At F (if b then Fo F own env σ else F) ca c H := by
  cases b with
  | true => exact ⟨r.cup, fun a h => r.own_has h, fun a h => .inl h⟩
  | false => exact ⟨r.cup, r.dom, fun a h => h⟩
end
theorem PE.imp {X : Cx} {e : Expr} {t u : TE} (h : PE X e t) (hq : ∀ σ H Q, u σ H Q → t σ H Q) : PE X e u := ⟨fun pins s σ H Q I w => h.run pins s σ H Q I (hq _ _ _ w)⟩
theorem PT.imp {X : Cx} {e : Expr} {t u : TT} (h : PT X e t) (hq : ∀ σ H Q, u σ H Q → t σ H Q) : PT X e u := ⟨fun pins s σ H Q I w => h.run pins s σ H Q I (hq _ _ _ w)⟩
theorem PW.imp {X : Cx} {e : Expr} {t u : TT} (h : PW X e t) (hq : ∀ σ H Q, u σ H Q → t σ H Q) : PW X e u := ⟨fun wh pins s σ H Q I w => h.run wh pins s σ H Q I (hq _ _ _ w)⟩
theorem PA.imp {X : Cx} {e : List Expr} {t u : TA} (h : PA X e t) (hq : ∀ σ H Q, u σ H Q → t σ H Q) : PA X e u := ⟨fun pos pins s σ H Q I w => h.run pos pins s σ H Q I (hq _ _ _ w)⟩
theorem PI.imp {X : Cx} {tg e : Expr} {t u : TI} (h : PI X tg e t) (hq : ∀ σ H Q, u σ H Q → t σ H Q) : PI X tg e u := ⟨fun pins s σ H Q I w => h.run pins s σ H Q I (hq _ _ _ w)⟩
/-! ### what a def is worth: its promise -/
/-- the wish about exceptions, as the layer has it; ec: where the classes stand -/
def EK (ec : Nat → Addr) (R : RX) : XK := fun cls d H' => ∃ k ca' c', cls = .ref (ec k) ∧ d = none ∧ R k ca' c' H'
def spF (K : PySem.W.Frag) (ec : Nat → Addr) (al : Bool) (Fn : Nat → List D → Cu → Out D) (f n : Nat) : Sp := fun vs H Q E => vs.length = n ∧ ∃ F ca c ds, (∀ a, F a → H a ≠ none) ∧ CupOk ca c H ∧ RepL K F ca H ds vs ∧
  match Fn f ds c with
  | .ok d c' => ∀ v ca' H', Post ca H ca' c' H' → Rep K F ca' H' d v → Q v H'
  | .err k c' => al = true ∧ ∀ ca' H', Post ca H ca' c' H' → E (.ref (ec k)) none H'
  | .no => False
/-- what is known where a text runs -/
structure Good (cx : Cc) (CX : CXT) (ec : Nat → Addr) (R : RX) (Fn : Nat → List D → Cu → Out D) (n : Nat) (X : Cx) : Prop where
  calm : X.calm = true
  nd : X.N.Nodup
  N : X.N = cx.N
  room : Room n X.A
  bl : ∀ x ∈ bltNames, X.mg x = none
  gl : ∀ x d, cx.G.lookup x = some d → ∃ u v, X.mg x = some u ∧ RelV v u ∧ ∀ F ca H, Rep X.K F ca H d v
  fn : ∀ f x m, cx.fs[f]? = some (x, m) → ∃ fa fd ps, X.mg x = some (.ref fa) ∧ PySem.W.keepIn X.K (.ref fa) = true ∧ Binds X.K fd ps [] ∧ FnOk X.prog X.w X.K X.mg X.base CX n fa fd ps (spF X.K ec cx.al Fn f m)
  no : cx.al = false → ∀ f ds c k c', Fn f ds c = .err k c' → False
  ps : ∀ R', (∀ k ca c H, R' k ca c H → R k ca c H) → Passes CX X (EK ec R')
theorem Good.units {cx : Cc} {CX : CXT} {ec : Nat → Addr} {R : RX} {Fn : Nat → List D → Cu → Out D} {n : Nat} {X : Cx} (g : Good cx CX ec R Fn n X) : X.A.units + 66 < cLine := by
  have := g.room.un
  omega
/-- no exception comes of what may let none out -/
def Calm (CX : CXT) (ec : Nat → Addr) : Prop := ∀ outer H s u s', CX outer H s (EK ec fun _ _ _ _ => False) u s' → False
theorem Good.blk {cx : Cc} {CX : CXT} {ec : Nat → Addr} {R : RX} {Fn : Nat → List D → Cu → Out D} {n : Nat} {X : Cx} (g : Good cx CX ec R Fn n X) (hc : Calm CX ec) (s : Shared) (H : Hp) (scope : Scope) (cenv : PySem.Env) (fp : List Addr) :
    Good cx CX ec (fun _ _ _ _ => False) Fn n (X.blk s H scope cenv fp) :=
  ⟨g.calm, g.nd, g.N, g.room, g.bl, g.gl, g.fn, g.no, fun R' h pins σ H s e s' _ q => hc _ H s e s' (by
    have : R' = fun _ _ _ _ => False := by funext k ca c H; exact propext ⟨h k ca c H, False.elim⟩
    rw [this] at q
    exact q)⟩
end Ev

set_option maxRecDepth 100000
/-! ZL1: zip goes on while its last tuple is held. -/
namespace ZL
open PySem PySem.Calls PyProof.Rows PyProof.V PySem.Spec
section
variable {prog : Program} {w : World} {A : Around} {E : Value → Shared → Prop} {s : Shared} {z TI TO i1 i2 : Addr} {fp1 fp2 : List Addr} {n1 n2 : Nat} {P1 P2 : Nat → Value → Prop} {St1 St2 : Nat → Heap → Prop} {i : Nat} {a1 a2 : Value}
abbrev ZOut (h : Heap) (z TI TO T : Addr) (f : Bool) : Prop := h.get? z = some { cls := .type "zip", data := .fields #[rawInt T, .bool f, .bool false, .ref TI, .ref TO] }
/-- the way to where the items are drawn -/
theorem out_begin {Q : PySem.Fin → Shared → Prop} {T : Addr} {f : Bool} {o : Obj} (hz : ZOut s.heap z TI TO T f) (hT : s.heap.get? T = some o) (hTI : IsTupOf2 s.heap TI (.ref i1) (.ref i2)) (nTI : TI ≠ z)
    (k : ∀ h', ZOut h' z TI TO T true → Heap.SameBut z s.heap h' → wpAny (model prog w) A (Builtin.SmallTypes.nextOf (.ref i1)) (fun x s1 => wpAny (model prog w) A (Builtin.SmallTypes.nextOf (.ref i2)) (fun y s2 => wpAny (model prog w) A (newTuple [x, y]) (fun t s3 => Q (.done (.ret t)) s3) E s2) E s1) E { s with heap := h' }) :
    wpAny (model prog w) A (Builtin.«zip.__next__» ⟨[.ref z], []⟩) Q E s := by
  obtain ⟨hp, g, d, tk0, os⟩ := s
  show wpAny _ _ (field (.ref z) 2 >>= _) _ _ _
  refine wpAny_bind (wpAny_field hz rfl (x := .bool false) rfl ?_)
  show wpAny _ _ (field (.ref z) 3 >>= _) _ _ _
  refine wpAny_bind (wpAny_field hz rfl (x := .ref TI) rfl ?_)
  refine wpAny_bind (wpAny_seqItems hTI rfl ?_)
  show wpAny _ _ (Builtin.SmallTypes.ownedTupleIsFree (.ref z) >>= _) _ _ _
  refine wpAny_bind ?_
  unfold Builtin.SmallTypes.ownedTupleIsFree
  refine wpAny_bind (wpAny_field hz rfl (x := rawInt T) rfl ?_)
  show wpAny _ _ (loadIfAlive ((T : Int).toNat) >>= _) _ _ _
  rw [Int.toNat_natCast]
  refine wpAny_bind (PySem.W.kdx_alive hT ?_)
  simp only [Option.isNone_some, Bool.false_eq_true, if_false]
  refine wpAny_bind (wpAny_field hz rfl (x := .bool f) rfl ?_)
  cases f with
  | true =>
    rw [if_neg (show ¬ ((Value.bool true != Value.bool true) = true) from Bool.false_ne_true)]
    refine wpAny_pure ?_
    simp only [Bool.false_eq_true, if_false]
    simp only [List.forIn_toArray, List.forIn_cons, List.forIn_nil]
    refine wpAny_bind (wpAny_bind (wpAny_bind (wpAny_holding ?_)))
    show wpAny _ _ (Builtin.SmallTypes.nextOf (.ref i1) >>= _) _ _ _
    refine wpAny_bind (wpAny_mono (k _ hz (Heap.SameBut.refl _ _)) (fun x s1 hx => ?_) fun e s1 he => he)
    refine wpAny_pure (wpAny_pure ?_)
    refine wpAny_bind (wpAny_bind (wpAny_holding ?_))
    show wpAny _ _ (Builtin.SmallTypes.nextOf (.ref i2) >>= _) _ _ _
    refine wpAny_bind (wpAny_mono hx (fun y s2 hy => ?_) fun e s2 he => he)
    refine wpAny_pure (wpAny_pure (wpAny_pure ?_))
    refine wpAny_bind (wpAny_mono hy (fun t s3 ht => ?_) fun e s3 he => he)
    exact wpAny_pure ht
  | false =>
    rw [if_pos (show (Value.bool false != Value.bool true) = true from rfl)]
    refine wpAny_bind (wpAny_setField_rec hz (by simp) fun h3 hz3 hs3 => ?_)
    replace hs3 : Heap.SameBut z hp h3 := hs3
    replace hz3 : ZOut h3 z TI TO T true := hz3
    refine wpAny_pure ?_
    simp only [Bool.false_eq_true, if_false]
    simp only [List.forIn_toArray, List.forIn_cons, List.forIn_nil]
    refine wpAny_bind (wpAny_bind (wpAny_bind (wpAny_holding ?_)))
    show wpAny _ _ (Builtin.SmallTypes.nextOf (.ref i1) >>= _) _ _ _
    refine wpAny_bind (wpAny_mono (k _ hz3 hs3) (fun x s1 hx => ?_) fun e s1 he => he)
    refine wpAny_pure (wpAny_pure ?_)
    refine wpAny_bind (wpAny_bind (wpAny_holding ?_))
    show wpAny _ _ (Builtin.SmallTypes.nextOf (.ref i2) >>= _) _ _ _
    refine wpAny_bind (wpAny_mono hx (fun y s2 hy => ?_) fun e s2 he => he)
    refine wpAny_pure (wpAny_pure (wpAny_pure ?_))
    refine wpAny_bind (wpAny_mono hy (fun t s3 ht => ?_) fun e s3 he => he)
    exact wpAny_pure ht
/-- one item more -/
theorem out_next {Q : Option Value → Shared → Prop} {T : Addr} {f : Bool} {o : Obj} (S : ZipSep2 z TI TO i1 i2 fp1 fp2) (D1 : Draws prog w A.in1 i1 fp1 n1 P1 St1) (D2 : Draws prog w A.in1 i2 fp2 n2 P2 St2)
    (hz : ZOut s.heap z TI TO T f) (hT : s.heap.get? T = some o) (hTI : IsTupOf2 s.heap TI (.ref i1) (.ref i2)) (st1 : St1 i s.heap) (st2 : St2 i s.heap) (hlt1 : i < n1) (hlt2 : i < n2)
    (hQ : ∀ x1 x2 h' tk, P1 i x1 → P2 i x2 → ZOut h' z TI TO T true → St1 (i + 1) h' → St2 (i + 1) h' → IsTupOf2 h' s.heap.objs.size x1 x2 → h'.objs.size = s.heap.objs.size + 1 →
      (∀ c o, c ≠ z → c ≠ i1 → c ≠ i2 → s.heap.get? c = some o → h'.get? c = some o) → Q (some (.ref s.heap.objs.size)) { s with heap := h', toks := tk }) :
    wpAny (model prog w) A (pyNext (.ref z)) Q E s := by
  have ty : s.TypeIs (.ref z) "zip" := ⟨_, hz, rfl⟩
  obtain ⟨hp, g, d, tk0, os⟩ := s
  unfold pyNext
  refine wpAny_bind (wpAny_attempt (wpAny_callSpecial?_slot (name := Str.ofString "__next__") ty PySem.F.slot_zip_next (wpAny_call_entry PySem.F.slot_zip_next ty PySem.F.entry_zip_next ?_ (PySem.F.args_zip_next_1 _))))
  refine out_begin hz hT hTI S.TIz fun h0 z0 sb0 => ?_
  replace sb0 : Heap.SameBut z hp h0 := sb0
  refine D1.item i _ _ _ hlt1 (D1.over st1 sb0 S.zf1) fun x1 p1 tk1 hx1 sn1 hp1 => ?_
  replace hp1 : Heap.SameBut i1 h0 p1 := hp1
  refine D2.item i _ _ _ hlt2 (D2.over (D2.over st2 sb0 S.zf2) hp1 S.sep1_2) fun x2 p2 tk2 hx2 sn2 hp2 => ?_
  replace hp2 : Heap.SameBut i2 p1 p2 := hp2
  refine wpAny_newTuple ?_
  have hsz : p2.objs.size = hp.objs.size := by rw [hp2.1, hp1.1, sb0.1]
  have up : ∀ c o, p2.get? c = some o → (p2.push { cls := .type "tuple", data := .seq #[x1, x2] }).get? c = some o := fun c o e => Heap.get?_push_of_some _ e
  have zz : ZOut p2 z TI TO T true := hp2.extBut _ _ S.zi2 (hp1.extBut _ _ S.zi1 z0)
  refine ⟨_, rfl, wpAny_pure ?_⟩
  have fin := hQ x1 x2 (p2.push { cls := .type "tuple", data := .seq #[x1, x2] }) tk2 hx1 hx2 (up _ _ zz) (D1.frame _ _ _ (D1.over sn1 hp2 S.sep2_1) fun b _ o e => up b o e) (D2.frame _ _ _ sn2 fun b _ o e => up b o e)
    (by show (p2.push _).get? hp.objs.size = _; rw [← hsz]; exact Heap.get?_push_size _ rfl) (by show (p2.push _).objs.size = hp.objs.size + 1; rw [Heap.size_push, hsz]) fun c o c1 c2 c3 e => up c o (hp2.extBut _ _ c3 (hp1.extBut _ _ c2 (sb0.extBut _ _ c1 e)))
  show Q (some (.ref p2.objs.size)) _
  rw [hsz]
  exact fin
/-- the end -/
theorem out_done {Q : Option Value → Shared → Prop} {T : Addr} {f : Bool} {o : Obj} (S : ZipSep2 z TI TO i1 i2 fp1 fp2) (D1 : Draws prog w A.in1 i1 fp1 n1 P1 St1) (D2 : Draws prog w A.in1 i2 fp2 n2 P2 St2)
    (hz : ZOut s.heap z TI TO T f) (hT : s.heap.get? T = some o) (hTI : IsTupOf2 s.heap TI (.ref i1) (.ref i2)) (st1 : St1 i s.heap) (st2 : St2 i s.heap) (hle1 : i ≤ n1) (hle2 : i ≤ n2) (hend : i = n1 ∨ i = n2)
    (hQ : ∀ h' tk, (∀ c o, c ≠ z → c ≠ i1 → c ≠ i2 → s.heap.get? c = some o → h'.get? c = some o) → Q none { s with heap := h', toks := tk }) :
    wpAny (model prog w) A (pyNext (.ref z)) Q E s := by
  have ty : s.TypeIs (.ref z) "zip" := ⟨_, hz, rfl⟩
  obtain ⟨hp, g, d, tk0, os⟩ := s
  unfold pyNext
  refine wpAny_bind (wpAny_attempt (wpAny_callSpecial?_slot (name := Str.ofString "__next__") ty PySem.F.slot_zip_next (wpAny_call_entry PySem.F.slot_zip_next ty PySem.F.entry_zip_next ?_ (PySem.F.args_zip_next_1 _))))
  refine out_begin hz hT hTI S.TIz fun h0 z0 sb0 => ?_
  replace sb0 : Heap.SameBut z hp h0 := sb0
  by_cases hlt1 : i < n1
  · have hi2 : i = n2 := by omega
    refine D1.item i _ _ _ hlt1 (D1.over st1 sb0 S.zf1) fun x1 p1 tk1 hx1 sn1 hp1 => ?_
    replace hp1 : Heap.SameBut i1 h0 p1 := hp1
    refine D2.done _ _ _ (by rw [← hi2]; exact (D2.over (D2.over st2 sb0 S.zf2) hp1 S.sep1_2)) fun q e hq he => ?_
    replace hq : Heap.ExtBut i2 p1 q := hq
    refine wpAny_bind (wpAny_isInstance (T := "StopIteration") (b := true) he isSubtype_stop ?_)
    exact wpAny_pure (hQ _ _ fun c o c1 c2 c3 e => hq _ _ c3 (hp1.extBut _ _ c2 (sb0.extBut _ _ c1 e)))
  · have hi1 : i = n1 := by omega
    refine D1.done _ _ _ (by rw [← hi1]; exact (D1.over st1 sb0 S.zf1)) fun q e hq he => ?_
    replace hq : Heap.ExtBut i1 h0 q := hq
    refine wpAny_bind (wpAny_isInstance (T := "StopIteration") (b := true) he isSubtype_stop ?_)
    exact wpAny_pure (hQ _ _ fun c o c1 c2 c3 e => hq _ _ c2 (sb0.extBut _ _ c1 e))
end
end ZL

set_option maxRecDepth 100000
/-! ZL2: the loop that fills a list from a zip. -/
namespace ZL
open PySem PySem.Calls PyProof.Rows PyProof.V PySem.Spec
section
variable {prog : Program} {w : World} {A : Around} {E : Value → Shared → Prop} {s : Shared} {z TI TO i1 i2 : Addr} {fp1 fp2 : List Addr} {n1 n2 : Nat} {P1 P2 : Nat → Value → Prop} {St1 St2 : Nat → Heap → Prop} {i : Nat} {a1 a2 : Value}
structure ZG (P1 P2 : Nat → Value → Prop) (lo : Addr) (h : Heap) (as : List Addr) : Prop where
  rise : as.Pairwise (· < ·)
  above : ∀ a ∈ as, lo < a
  pairs : ∀ (j : Nat) (a : Addr), as[j]? = some a → ∃ x y, P1 j x ∧ P2 j y ∧ h.get? a = some { cls := .type "tuple", data := .seq #[x, y] }
def ZS (h : Heap) (z TI TO lo : Addr) : Prop := (IsZip h z TI TO .none ∧ ∃ a1 a2, IsTupOf2 h TO a1 a2) ∨ ∃ T f o, ZOut h z TI TO T f ∧ h.get? T = some o ∧ lo < T
theorem zs_next {lo : Addr} {Q : Option Value → Shared → Prop} (S : ZipSep2 z TI TO i1 i2 fp1 fp2) (D1 : Draws prog w A.in1 i1 fp1 n1 P1 St1) (D2 : Draws prog w A.in1 i2 fp2 n2 P2 St2)
    (hz : ZS s.heap z TI TO lo) (hlo : lo < s.heap.objs.size) (hzl : z ≤ lo) (h1l : i1 ≤ lo) (h2l : i2 ≤ lo) (hTI : IsTupOf2 s.heap TI (.ref i1) (.ref i2)) (st1 : St1 i s.heap) (st2 : St2 i s.heap) (hlt1 : i < n1) (hlt2 : i < n2)
    (hQ : ∀ x1 x2 h' tk, P1 i x1 → P2 i x2 → ZS h' z TI TO lo → St1 (i + 1) h' → St2 (i + 1) h' → IsTupOf2 h' s.heap.objs.size x1 x2 → h'.objs.size = s.heap.objs.size + 1 →
      (∀ c o, c ≠ z → c ≠ TO → c ≠ i1 → c ≠ i2 → s.heap.get? c = some o → h'.get? c = some o) → Q (some (.ref s.heap.objs.size)) { s with heap := h', toks := tk }) :
    wpAny (model prog w) A (pyNext (.ref z)) Q E s := by
  rcases hz with ⟨hz, a1, a2, hTO⟩ | ⟨T, f, o, hz, hT, hl⟩
  · exact wpAny_pyNext_zipD2_item S D1 D2 hz hTI hTO st1 st2 hlt1 hlt2 fun x1 x2 h' tk q1 q2 q3 _ q5 q6 q7 q8 q9 => hQ x1 x2 h' tk q1 q2 (.inr ⟨_, false, _, q3, q7, hlo⟩) q5 q6 q7 q8 q9
  · have hTz : T ≠ z := fun e => absurd (e ▸ hzl) (Nat.not_le.mpr hl)
    have hT1 : T ≠ i1 := fun e => absurd (e ▸ h1l) (Nat.not_le.mpr hl)
    have hT2 : T ≠ i2 := fun e => absurd (e ▸ h2l) (Nat.not_le.mpr hl)
    exact out_next S D1 D2 hz hT hTI st1 st2 hlt1 hlt2 fun x1 x2 h' tk q1 q2 q3 q5 q6 q7 q8 q9 => hQ x1 x2 h' tk q1 q2 (.inr ⟨T, true, o, q3, q9 T o hTz hT1 hT2 hT, hl⟩) q5 q6 q7 q8 fun c o c1 _ c3 c4 e => q9 c o c1 c3 c4 e
theorem zs_done {lo : Addr} {Q : Option Value → Shared → Prop} (S : ZipSep2 z TI TO i1 i2 fp1 fp2) (D1 : Draws prog w A.in1 i1 fp1 n1 P1 St1) (D2 : Draws prog w A.in1 i2 fp2 n2 P2 St2)
    (hz : ZS s.heap z TI TO lo) (hTI : IsTupOf2 s.heap TI (.ref i1) (.ref i2)) (st1 : St1 i s.heap) (st2 : St2 i s.heap) (hle1 : i ≤ n1) (hle2 : i ≤ n2) (hend : i = n1 ∨ i = n2)
    (hQ : ∀ h' tk, (∀ c o, c ≠ z → c ≠ TO → c ≠ i1 → c ≠ i2 → s.heap.get? c = some o → h'.get? c = some o) → Q none { s with heap := h', toks := tk }) :
    wpAny (model prog w) A (pyNext (.ref z)) Q E s := by
  rcases hz with ⟨hz, a1, a2, hTO⟩ | ⟨T, f, o, hz, hT, hl⟩
  · exact wpAny_pyNext_zipD2_end S D1 D2 hz hTI hTO st1 st2 hle1 hle2 hend hQ
  · exact out_done S D1 D2 hz hT hTI st1 st2 hle1 hle2 hend fun h' tk k => hQ h' tk fun c o c1 _ c3 c4 e => k c o c1 c3 c4 e
theorem zl_loop {R : Result → Shared → Prop} {lo SL : Addr} (res : Value) {h1 : Heap} (S : ZipSep2 z TI TO i1 i2 fp1 fp2) (D1 : Draws prog w A.in1.in1 i1 fp1 n1 P1 St1) (D2 : Draws prog w A.in1.in1 i2 fp2 n2 P2 St2)
    (hzl : z ≤ lo) (h1l : i1 ≤ lo) (h2l : i2 ≤ lo) (hSlo : SL ≤ lo) (hTIlo : TI ≤ lo) (hTOlo : TO ≤ lo) (hSz : SL ≠ z) (hSTI : SL ≠ TI) (hSTO : SL ≠ TO) (hS1 : SL ∉ fp1) (hS2 : SL ∉ fp2) (hn : min n1 n2 ≤ sizeLine)
    (hR : ∀ h' tk acc c as, (∀ b o, b ≠ SL → b ≠ z → b ≠ TO → b ≠ i1 → b ≠ i2 → h1.get? b = some o → h'.get? b = some o) → h'.get? SL = some { cls := .type "list", dict := none, data := .seq acc c, slots := #[] } → as.length = min n1 n2 → ZG P1 P2 lo h' as →
      acc.toList = as.map Value.ref → R (.ok (.ret res)) { s with heap := h', toks := tk }) :
    ∀ (k i : Nat) (h : Heap) (tk c : Nat) (acc : Array Value) (as : List Addr), min n1 n2 - i = k → i ≤ min n1 n2 → ZS h z TI TO lo → IsTupOf2 h TI (.ref i1) (.ref i2) → St1 i h → St2 i h → (∀ b o, b ≠ SL → b ≠ z → b ≠ TO → b ≠ i1 → b ≠ i2 → h1.get? b = some o → h.get? b = some o) →
      h.get? SL = some { cls := .type "list", dict := none, data := .seq acc c, slots := #[] } → acc.toList = as.map Value.ref → as.length = i → ZG P1 P2 lo h as → lo < h.objs.size →
      codeAny (model prog w) A (.builtin "list.extend.loop" ⟨[.ref SL, .ref z, res], []⟩) R { s with heap := h, toks := tk } := by
  have m1 : i1 ∈ fp1 := S.mem1
  have m2 : i2 ∈ fp2 := S.mem2
  have hSi1 : SL ≠ i1 := fun e => hS1 (e ▸ m1)
  have hSi2 : SL ≠ i2 := fun e => hS2 (e ▸ m2)
  intro k
  induction k with
  | zero =>
    intro i h tk c acc as hk hi hz hTI st1 st2 hkeep hS hacc hal hG hIs
    have hin : i = min n1 n2 := by omega
    refine codeAny_builtin PySem.F.entry_extend_loop ?_
    rw [Around.under_plainId PySem.F.plain_extend_loop _]
    show wpAny _ A.in1 (pyNext (.ref z) >>= _) _ _ _
    refine wpAny_bind (zs_done (s := { s with heap := h, toks := tk }) (A := A.in1) S D1 D2 hz hTI st1 st2 (by omega) (by omega) (by omega) fun h' tk' he => ?_)
    refine wpAny_pure (hR h' tk' acc c as (fun b o c0 c1 c2 c3 c4 e => he b o c1 c2 c3 c4 (hkeep b o c0 c1 c2 c3 c4 e)) (he SL _ hSz hSTO hSi1 hSi2 hS) (by omega) ⟨hG.rise, hG.above, fun j a hj => ?_⟩ hacc)
    obtain ⟨x, y, e1, e2, e3⟩ := hG.pairs j a hj
    have hla := hG.above a (List.mem_of_getElem? hj)
    exact ⟨x, y, e1, e2, he a _ (fun e => absurd (e ▸ hzl) (Nat.not_le.mpr hla)) (fun e => absurd (e ▸ hTOlo) (Nat.not_le.mpr hla)) (fun e => absurd (e ▸ h1l) (Nat.not_le.mpr hla)) (fun e => absurd (e ▸ h2l) (Nat.not_le.mpr hla)) e3⟩
  | succ k ih =>
    intro i h tk c acc as hk hi hz hTI st1 st2 hkeep hS hacc hal hG hIs
    have hsz : acc.size = i := by rw [← Array.length_toList, hacc, List.length_map, hal]
    refine codeAny_builtin PySem.F.entry_extend_loop ?_
    rw [Around.under_plainId PySem.F.plain_extend_loop _]
    show wpAny _ A.in1 (pyNext (.ref z) >>= _) _ _ _
    refine wpAny_bind (zs_next (s := { s with heap := h, toks := tk }) (A := A.in1) S D1 D2 hz hIs hzl h1l h2l hTI st1 st2 (by omega) (by omega) fun x1 x2 h' tk' q1 q2 hz' s1' s2' ht hsz' hkp => ?_)
    replace ht : IsTupOf2 h' h.objs.size x1 x2 := ht
    replace hsz' : h'.objs.size = h.objs.size + 1 := hsz'
    replace hkp : ∀ c o, c ≠ z → c ≠ TO → c ≠ i1 → c ≠ i2 → h.get? c = some o → h'.get? c = some o := hkp
    have hS' := hkp SL _ hSz hSTO hSi1 hSi2 hS
    have hSl : SL < h.objs.size := Heap.lt_size hS
    have up : ∀ b o, b ≠ SL → h'.get? b = some o → (h'.update SL (Obj.mapSeq (·.push (Value.ref h.objs.size)))).get? b = some o := fun b o hb e => (Heap.get?_update_other _ _ (Ne.symm hb)).trans e
    show wpAny _ A.in1 (updateSeq SL (·.push (Value.ref h.objs.size)) >>= _) _ _ _
    refine wpAny_bind ?_
    refine wpAny_updateSeq hS' rfl (wpAny_pure ⟨plainId_quiet PySem.F.plain_extend_loop _, ih (i + 1) _ tk' _ (acc.push (Value.ref h.objs.size)) (as ++ [h.objs.size]) (by omega) (by omega) ?_ (up TI _ (Ne.symm hSTI) (hkp TI _ S.TIz S.TITO S.TIi1 S.TIi2 hTI))
      (D1.frame _ _ _ s1' fun b hb o e => up b o (fun q => hS1 (q ▸ hb)) e) (D2.frame _ _ _ s2' fun b hb o e => up b o (fun q => hS2 (q ▸ hb)) e)
      (fun b o c0 c1 c2 c3 c4 e => up b o c0 (hkp b o c1 c2 c3 c4 (hkeep b o c0 c1 c2 c3 c4 e))) (Heap.get?_update_self _ hS' rfl) (by rw [Array.toList_push, hacc, List.map_append]; rfl) (by rw [List.length_append, hal]; rfl) ⟨?_, ?_, ?_⟩ ?_⟩) (by rw [hsz]; omega) (by show (acc.push (Value.ref h.objs.size)).size ≤ sizeLine + 1; rw [Array.size_push, hsz]; omega)
    · rcases hz' with ⟨hz', b1, b2, hTO⟩ | ⟨T, f, o, hz', hT, hl⟩
      · exact .inl ⟨up _ _ (Ne.symm hSz) hz', b1, b2, up _ _ (Ne.symm hSTO) hTO⟩
      · exact .inr ⟨T, f, o, up _ _ (Ne.symm hSz) hz', up _ _ (fun e => absurd (e ▸ hSlo) (Nat.not_le.mpr hl)) hT, hl⟩
    · refine List.pairwise_append.mpr ⟨hG.rise, List.pairwise_singleton _ _, fun a ha b hb => ?_⟩
      rw [List.mem_singleton.mp hb]
      obtain ⟨j, hj⟩ := List.mem_iff_getElem?.mp ha
      obtain ⟨_, _, _, _, e⟩ := hG.pairs j a hj
      exact Heap.lt_size e
    · intro a ha
      rcases List.mem_append.mp ha with ha | ha
      · exact hG.above a ha
      · rw [List.mem_singleton.mp ha]; exact hIs
    · intro j b hj
      rcases Nat.lt_trichotomy j as.length with l | l | l
      · rw [List.getElem?_append_left l] at hj
        obtain ⟨x, y, e1, e2, e3⟩ := hG.pairs j b hj
        have hla := hG.above b (List.mem_of_getElem? hj)
        have ne : ∀ {a : Addr}, a ≤ lo → b ≠ a := fun ha e => absurd (e ▸ ha) (Nat.not_le.mpr hla)
        exact ⟨x, y, e1, e2, up b _ (ne hSlo) (hkp b _ (ne hzl) (ne hTOlo) (ne h1l) (ne h2l) e3)⟩
      · subst l
        have hb : h.objs.size = b := by simpa using hj
        subst hb
        subst hal
        exact ⟨x1, x2, q1, q2, up _ _ (Nat.ne_of_gt hSl) ht⟩
      · have hnone : (as ++ [h.objs.size])[j]? = none := List.getElem?_eq_none (by rw [List.length_append, List.length_singleton]; omega)
        rw [hnone] at hj; cases hj
    · have e : (h'.update SL (Obj.mapSeq (·.push (Value.ref h.objs.size)))).get? h.objs.size = _ := up _ _ (Nat.ne_of_gt hSl) ht
      exact Nat.lt_trans hIs (Heap.lt_size e)
end
end ZL

set_option maxRecDepth 100000
/-! ZL3: list(zip(a, b)). -/
namespace ZL
open PySem PySem.Calls PyProof.Rows PyProof.V PySem.Spec
theorem zip_no_len : typeLookup (.type "zip") "__len__" = pure none := by rw [typeLookup_type, PySem.builtinLookup_eq_fast]; kernel_rfl
theorem zip_no_hint : typeLookup (.type "zip") "__length_hint__" = pure none := by rw [typeLookup_type, PySem.builtinLookup_eq_fast]; kernel_rfl
section
variable {prog : Program} {w : World} {A : Around} {E : Value → Shared → Prop} {s : Shared} {z TI TO i1 i2 : Addr} {fp1 fp2 : List Addr} {n1 n2 : Nat} {P1 P2 : Nat → Value → Prop} {St1 St2 : Nat → Heap → Prop}
theorem ZG.low {lo lo' : Addr} {h : Heap} {as : List Addr} (g : ZG P1 P2 lo h as) (hl : lo' ≤ lo) : ZG P1 P2 lo' h as := ⟨g.rise, fun a ha => Nat.lt_of_le_of_lt hl (g.above a ha), g.pairs⟩
theorem zl_extend {R : Result → Shared → Prop} {lo SL : Addr} (res : Value) {c0 : Nat} (S : ZipSep2 z TI TO i1 i2 fp1 fp2) (D1 : Draws prog w A.in1.in1 i1 fp1 n1 P1 St1) (D2 : Draws prog w A.in1.in1 i2 fp2 n2 P2 St2)
    (hzl : z ≤ lo) (h1l : i1 ≤ lo) (h2l : i2 ≤ lo) (hSlo : SL ≤ lo) (hTIlo : TI ≤ lo) (hTOlo : TO ≤ lo) (hlo : lo < s.heap.objs.size) (hSz : SL ≠ z) (hSTI : SL ≠ TI) (hSTO : SL ≠ TO) (hS1 : SL ∉ fp1) (hS2 : SL ∉ fp2) (hn : min n1 n2 ≤ sizeLine)
    (hz : ZS s.heap z TI TO lo) (hT : s.TypeIs (.ref z) "zip") (hit : ∀ (s1 : Shared) (Q : Value → Shared → Prop), s1.heap = s.heap → Q (.ref z) s1 → wpAny (model prog w) A.in1 (pyIter (.ref z)) Q (fun e s' => R (.error e) s') s1) (hTI : IsTupOf2 s.heap TI (.ref i1) (.ref i2)) (st1 : St1 0 s.heap) (st2 : St2 0 s.heap) (hS : s.heap.get? SL = some { cls := .type "list", data := .seq #[] c0 })
    (hR : ∀ h' tk acc c as, (∀ b o, b ≠ SL → b ≠ z → b ≠ TO → b ≠ i1 → b ≠ i2 → s.heap.get? b = some o → h'.get? b = some o) → h'.get? SL = some { cls := .type "list", dict := none, data := .seq acc c, slots := #[] } → as.length = min n1 n2 → ZG P1 P2 lo h' as →
      acc.toList = as.map Value.ref → R (.ok (.ret res)) { s with heap := h', toks := tk }) :
    wpAny (model prog w) A.in1 (Builtin.List.listExtendWith (.ref SL) (.ref z) res)
      (fun fin s' => match fin with | .done f => R (.ok f) s' | .again c' => c'.quiet = true ∧ codeAny (model prog w) A c' R s') (fun e s' => R (.error e) s') s := by
  unfold Builtin.List.listExtendWith
  refine wpAny_bind (wpAny_typeOf hT ?_)
  have e1 : Builtin.List.listSameRef (.ref SL) (.ref z) = false := by simp [Builtin.List.listSameRef, hSz]
  have e2 : (Value.type "zip" == Value.type "list") = false := by decide
  have e3 : (Value.type "zip" == Value.type "tuple") = false := by decide
  simp only [e1, e2, e3, Bool.or_false, Bool.false_eq_true, if_false]
  refine wpAny_bind (hit s _ rfl ?_)
  refine wpAny_bind (wpAny_holding ?_)
  unfold Builtin.List.listLengthHint
  refine wpAny_bind (wpAny_specialOf hT zip_no_len ?_)
  show wpAny _ A.in1 (specialOf (Value.ref z) (Str.ofString "__length_hint__") >>= _) _ _ _
  refine wpAny_bind (wpAny_specialOf hT zip_no_hint ?_)
  refine wpAny_pure ?_
  have go : ∀ (h : Heap) (tk c : Nat), (∀ b o, b ≠ SL → s.heap.get? b = some o → h.get? b = some o) → s.heap.objs.size ≤ h.objs.size → h.get? SL = some { cls := .type "list", data := .seq #[] c } →
      codeAny (model prog w) A (.builtin "list.extend.loop" ⟨[.ref SL, .ref z, res], []⟩) R { s with heap := h, toks := tk } := by
    intro h tk c hk hsz hS'
    refine zl_loop (h1 := s.heap) res S D1 D2 hzl h1l h2l hSlo hTIlo hTOlo hSz hSTI hSTO hS1 hS2 hn hR (min n1 n2) 0 h tk c #[] [] (Nat.sub_zero _) (Nat.zero_le _) ?_ (hk TI _ (Ne.symm hSTI) hTI)
      (D1.frame _ _ _ st1 fun b hb o e => hk b o (fun q => hS1 (q ▸ hb)) e) (D2.frame _ _ _ st2 fun b hb o e => hk b o (fun q => hS2 (q ▸ hb)) e) (fun b o c0 _ _ _ _ e => hk b o c0 e) hS' rfl rfl ⟨List.Pairwise.nil, (fun _ ha => nomatch ha), (fun j a hj => by simp at hj)⟩ (Nat.lt_of_lt_of_le hlo hsz)
    rcases hz with ⟨hz, b1, b2, hTO⟩ | ⟨T, f, o, hz, hT', hl⟩
    · exact .inl ⟨hk _ _ (Ne.symm hSz) hz, b1, b2, hk _ _ (Ne.symm hSTO) hTO⟩
    · exact .inr ⟨T, f, o, hk _ _ (Ne.symm hSz) hz, hk _ _ (fun e => absurd (e ▸ hSlo) (Nat.not_le.mpr hl)) hT', hl⟩
  show wpAny _ A.in1 (rule "list.extend.makes-room" >>= fun _ => Builtin.List.listTouch (.ref SL) >>= fun _ => again (.builtin "list.extend.loop" ⟨[.ref SL, .ref z, res], []⟩)) _ _ _
  refine wpAny_bind (wpAny_rule ?_)
  refine wpAny_bind ?_
  show wpAny _ _ (updateSeq SL (·.push .none) >>= fun _ => updateSeq SL (·.pop)) _ _ _
  refine wpAny_bind (wpAny_updateSeq hS rfl ?_)
  have hS2' := Heap.get?_update_self (Obj.mapSeq (·.push Value.none)) hS rfl
  refine wpAny_updateSeq (hz := by seq_fits) hS2' rfl ?_
  have hS3 := Heap.get?_update_self (Obj.mapSeq (·.pop)) hS2' rfl
  refine wpAny_pure ⟨plainId_quiet PySem.F.plain_extend_loop _, go _ _ _ (fun b o hb e => ?_) ?_ hS3⟩
  · exact (Heap.get?_update_other _ _ (Ne.symm hb)).trans ((Heap.get?_update_other _ _ (Ne.symm hb)).trans e)
  · exact Nat.le_of_eq ((Heap.SameBut.update (a := SL) _ _).1.trans (Heap.SameBut.update (a := SL) _ _).1).symm
theorem zl_init {R : Result → Shared → Prop} {lo SL : Addr} (S : ZipSep2 z TI TO i1 i2 fp1 fp2) (D1 : Draws prog w A.in1.in1 i1 fp1 n1 P1 St1) (D2 : Draws prog w A.in1.in1 i2 fp2 n2 P2 St2)
    (hzl : z ≤ lo) (h1l : i1 ≤ lo) (h2l : i2 ≤ lo) (hSlo : SL ≤ lo) (hTIlo : TI ≤ lo) (hTOlo : TO ≤ lo) (hlo : lo < s.heap.objs.size) (hSz : SL ≠ z) (hSTI : SL ≠ TI) (hSTO : SL ≠ TO) (hS1 : SL ∉ fp1) (hS2 : SL ∉ fp2) (hn : min n1 n2 ≤ sizeLine)
    (hz : IsZip s.heap z TI TO .none) (hTO : IsTupOf2 s.heap TO .none .none) (hTI : IsTupOf2 s.heap TI (.ref i1) (.ref i2)) (st1 : St1 0 s.heap) (st2 : St2 0 s.heap) (hS : s.heap.get? SL = some { cls := .type "list", data := .seq #[] })
    (hR : ∀ h' tk acc c as, (∀ b o, b ≠ SL → b ≠ z → b ≠ TO → b ≠ i1 → b ≠ i2 → s.heap.get? b = some o → h'.get? b = some o) → h'.get? SL = some { cls := .type "list", dict := none, data := .seq acc c, slots := #[] } → as.length = min n1 n2 → ZG P1 P2 lo h' as →
      acc.toList = as.map Value.ref → R (.ok (.ret .none)) { s with heap := h', toks := tk }) :
    wpAny (model prog w) A.in1 (Builtin.«list.__init__» ⟨[.ref SL, .ref z], []⟩)
      (fun fin s' => match fin with | .done f => R (.ok f) s' | .again c' => c'.quiet = true ∧ codeAny (model prog w) A c' R s') (fun e s' => R (.error e) s') s := by
  show wpAny _ _ (do let old ← Builtin.List.listItems (.ref SL); Builtin.List.listUpdate (.ref SL) (fun _ => #[]); letGo old.toList.reverse; Builtin.List.listExtendWith (.ref SL) (.ref z) .none) _ _ s
  refine wpAny_bind ?_
  unfold Builtin.List.listItems
  refine wpAny_bind (wpAny_seqItems hS rfl (wpAny_pure ?_))
  show wpAny _ _ (updateSeq SL (fun _ => #[]) >>= fun _ => letGo (#[] : Array Value).toList.reverse >>= fun _ => Builtin.List.listExtendWith (.ref SL) (.ref z) .none) _ _ s
  refine wpAny_bind (wpAny_updateSeq hS rfl ?_)
  have hS2' := Heap.get?_update_self (Obj.mapSeq (fun _ => (#[] : Array Value))) hS rfl
  have oth : ∀ b o, b ≠ SL → s.heap.get? b = some o → (s.heap.update SL (Obj.mapSeq (fun _ => (#[] : Array Value)))).get? b = some o := fun b o hb e => (Heap.get?_update_other _ _ (Ne.symm hb)).trans e
  have hz' := oth z _ (Ne.symm hSz) hz
  refine wpAny_bind (wpAny_letGo ?_)
  refine zl_extend (lo := lo) .none S D1 D2 hzl h1l h2l hSlo hTIlo hTOlo (by show lo < (s.heap.update SL _).objs.size; rw [(Heap.SameBut.update (a := SL) _ _).1]; exact hlo) hSz hSTI hSTO hS1 hS2 hn (.inl ⟨hz', _, _, oth TO _ (Ne.symm hSTO) hTO⟩) ⟨_, hz', rfl⟩ (fun s1 Q e q => wpAny_pyIter_zip (by rw [e]; exact hz') q)
    (oth TI _ (Ne.symm hSTI) hTI) (D1.frame _ _ _ st1 fun b hb o e => oth b o (fun q => hS1 (q ▸ hb)) e) (D2.frame _ _ _ st2 fun b hb o e => oth b o (fun q => hS2 (q ▸ hb)) e) hS2' fun h' tk acc c as hk hS' hl hG hacc => ?_
  exact hR h' tk acc c as (fun b o c0 c1 c2 c3 c4 e => hk b o c0 c1 c2 c3 c4 (oth b o c0 e)) hS' hl hG hacc
theorem zl_call {Q : Value → Shared → Prop} (S : ZipSep2 z TI TO i1 i2 fp1 fp2) (D1 : Draws prog w A.in1.in1.in1 i1 fp1 n1 P1 St1) (D2 : Draws prog w A.in1.in1.in1 i2 fp2 n2 P2 St2)
    (hzl : z < s.heap.objs.size) (h1l : i1 < s.heap.objs.size) (h2l : i2 < s.heap.objs.size) (hTIlo : TI < s.heap.objs.size) (hTOlo : TO < s.heap.objs.size) (hf1 : ∀ b ∈ fp1, b < s.heap.objs.size) (hf2 : ∀ b ∈ fp2, b < s.heap.objs.size) (hn : min n1 n2 ≤ sizeLine)
    (hz : IsZip s.heap z TI TO .none) (hTO : IsTupOf2 s.heap TO .none .none) (hTI : IsTupOf2 s.heap TI (.ref i1) (.ref i2)) (st1 : St1 0 s.heap) (st2 : St2 0 s.heap)
    (hQ : ∀ h' tk acc c as, (∀ b o, b ≠ z → b ≠ TO → b ≠ i1 → b ≠ i2 → s.heap.get? b = some o → h'.get? b = some o) → h'.get? s.heap.objs.size = some { cls := .type "list", dict := none, data := .seq acc c, slots := #[] } → as.length = min n1 n2 → ZG P1 P2 s.heap.objs.size h' as →
      acc.toList = as.map Value.ref → Q (.ref s.heap.objs.size) { s with heap := h', toks := tk }) :
    wpAny (model prog w) A (call (.type "list") [.ref z]) Q E s := by
  refine callType_codes (Q₁ := fun obj s₁ => obj = .ref s.heap.objs.size ∧ s₁ = { s with heap := s.heap.push { cls := .type "list", data := .seq #[] } }) PySem.F.called_list (PySem.F.typeCall_list_1 _) PySem.F.entry_list_init
    (code_list_new _ ⟨rfl, rfl⟩) fun obj s₁ h₁ => ?_
  obtain ⟨rfl, rfl⟩ := h₁
  have hS : (s.heap.push { cls := .type "list", data := .seq #[] }).get? s.heap.objs.size = some { cls := .type "list", data := .seq #[] } := Heap.get?_push_size _ rfl
  have up : ∀ b o, s.heap.get? b = some o → (s.heap.push { cls := .type "list", data := .seq #[] }).get? b = some o := fun b o e => Heap.get?_push_of_some _ e
  refine ⟨⟨_, hS, rfl⟩, PySem.F.args_list_init_2 _ _, zl_init (A := A.in1) (lo := s.heap.objs.size) S D1 D2 (Nat.le_of_lt hzl) (Nat.le_of_lt h1l) (Nat.le_of_lt h2l) (Nat.le_refl _) (Nat.le_of_lt hTIlo) (Nat.le_of_lt hTOlo) (by show _ < (s.heap.push _).objs.size; rw [Heap.size_push]; exact Nat.lt_succ_self _) (Nat.ne_of_gt hzl) (Nat.ne_of_gt hTIlo) (Nat.ne_of_gt hTOlo)
    (fun q => Nat.lt_irrefl _ (hf1 _ q)) (fun q => Nat.lt_irrefl _ (hf2 _ q)) hn (up _ _ hz) (up _ _ hTO) (up _ _ hTI) (D1.frame _ _ _ st1 fun b _ o e => up b o e) (D2.frame _ _ _ st2 fun b _ o e => up b o e) hS fun h' tk acc c as hk hS' hl hG hacc => ?_⟩
  exact ⟨rfl, hQ h' tk acc c as (fun b o c1 c2 c3 c4 e => hk b o (Nat.ne_of_lt (Heap.lt_size e)) c1 c2 c3 c4 (up b o e)) hS' hl hG hacc⟩
end
end ZL

set_option maxRecDepth 100000
set_option maxHeartbeats 2000000
/-! ZL4: list(zip(a, b)) as an expression. -/
namespace ZL
open PySem PySem.Spec PyProof.Rows L2
def Side (prog : Program) (w : World) (a : Addr) (its : Array Value) (h0 : Heap) : Prop := ∃ (o : Obj) (Hq : Heap → Prop), Begins (.ref a) o Hq ∧ Hq h0 ∧ ∀ (A : Around), A.handled = none → ∀ it, a ≠ it → ∃ St : Nat → Heap → Prop, Draws prog w A it [it, a] its.size (fun i v => its[i]? = some v) St ∧ ∀ h, h.get? it = some o → Hq h → St 0 h
theorem side_list {prog : Program} {w : World} {a : Addr} {its : Array Value} {h : Heap} (e : h.IsList a its) : Side prog w a its h :=
  ⟨_, _, begins_list a its, e, fun A hh it ne => ⟨_, Draws.list hh it a ne its, fun h' e1 e2 => ⟨⟨_, e1, rfl, rfl⟩, e2⟩⟩⟩
theorem side_tuple {prog : Program} {w : World} {a : Addr} {its : Array Value} {h : Heap} (e : h.IsTuple a its) : Side prog w a its h :=
  ⟨_, _, begins_tuple a its, e, fun A hh it ne => ⟨_, Draws.tuple hh it a ne its, fun h' e1 e2 => ⟨⟨_, e1, rfl, rfl⟩, e2⟩⟩⟩
theorem zl_made {prog : Program} {w : World} {A : Around} {E : Value → Shared → Prop} {s : Shared} {a b : Addr} {xs ys : Array Value} {Q : Value → Shared → Prop} (hh : A.handled = none) (ha : Side prog w a xs s.heap) (hb : Side prog w b ys s.heap) (la : a < s.heap.objs.size) (lb : b < s.heap.objs.size) (hn : min xs.size ys.size ≤ sizeLine)
    (hQ : ∀ h1 h2, h1.objs.size = s.heap.objs.size + 5 → (∀ c o, s.heap.get? c = some o → h1.get? c = some o) →
      (∀ {R : Value → Shared → Prop}, (∀ h' tk acc c as, (∀ c o, s.heap.get? c = some o → h'.get? c = some o) → h'.get? h1.objs.size = some { cls := .type "list", dict := none, data := .seq acc c, slots := #[] } → as.length = min xs.size ys.size →
        ZG (fun i v => xs[i]? = some v) (fun i v => ys[i]? = some v) h1.objs.size h' as → acc.toList = as.map Value.ref → R (.ref h1.objs.size) { s with heap := h', toks := tk }) → wpAny (model prog w) A (call (.type "list") [h2]) R E { s with heap := h1 }) → Q h2 { s with heap := h1 }) :
    wpAny (model prog w) A (call (.type "zip") [.ref a, .ref b]) Q E s := by
  obtain ⟨o1, H1, B1, q1, D1⟩ := ha
  obtain ⟨o2, H2, B2, q2, D2⟩ := hb
  refine zip_begins2 B1 B2 q1 q2 fun h' hz hTI hTO e1 e2 hsz hk => ?_
  obtain ⟨St1, d1, f1⟩ := D1 A.in1.in1.in1 hh s.heap.objs.size (Nat.ne_of_lt la)
  obtain ⟨St2, d2, f2⟩ := D2 A.in1.in1.in1 hh (s.heap.objs.size + 1) (Nat.ne_of_lt (Nat.lt_succ_of_lt lb))
  have sep := zip_sep2 (N := s.heap.objs.size) (fp1 := [a]) (fp2 := [b]) (fun c hc => by rw [List.mem_singleton.mp hc]; exact la) (fun c hc => by rw [List.mem_singleton.mp hc]; exact lb)
  refine hQ h' _ hsz hk fun {R} hR => ?_
  have lt : ∀ k, k < 5 → s.heap.objs.size + k < h'.objs.size := fun k hk => by rw [hsz]; omega
  refine zl_call (s := { s with heap := h' }) sep d1 d2 (lt 4 (by omega)) (lt 0 (by omega)) (lt 1 (by omega)) (lt 2 (by omega)) (lt 3 (by omega)) (fun c hc => ?_) (fun c hc => ?_) hn hz hTO hTI (f1 h' e1 (B1.keeps _ _ q1 hk)) (f2 h' e2 (B2.keeps _ _ q2 hk)) fun h2 tk acc c as hk2 hS hl hG hacc => ?_
  · rcases List.mem_cons.mp hc with rfl | hc
    · exact lt 0 (by omega)
    · rw [List.mem_singleton.mp hc]; show a < h'.objs.size; rw [hsz]; exact Nat.lt_of_lt_of_le la (Nat.le_add_right _ _)
  · rcases List.mem_cons.mp hc with rfl | hc
    · exact lt 1 (by omega)
    · rw [List.mem_singleton.mp hc]; show b < h'.objs.size; rw [hsz]; exact Nat.lt_of_lt_of_le lb (Nat.le_add_right _ _)
  · refine hR h2 tk acc c as (fun c o e => ?_) hS hl hG hacc
    have hc := Heap.lt_size e
    exact hk2 c o (Nat.ne_of_lt (Nat.lt_of_lt_of_le hc (Nat.le_add_right _ _))) (Nat.ne_of_lt (Nat.lt_of_lt_of_le hc (Nat.le_add_right _ _))) (Nat.ne_of_lt hc) (Nat.ne_of_lt (Nat.lt_of_lt_of_le hc (Nat.le_add_right _ _))) (hk c o e)
/-- the tuples tracked at their addresses -/
def putP : Hp → List Addr → List (V × V) → Hp
  | H, a :: as, p :: ps => putP (upd H a (.tup [p.1, p.2])) as ps
  | H, _, _ => H
theorem putP_off {b : Addr} : ∀ (as : List Addr) (ps : List (V × V)) (H : Hp), b ∉ as → putP H as ps b = H b
  | [], _, _, _ => rfl
  | _ :: _, [], _, _ => rfl
  | a :: as, p :: ps, H, h => by
    have e1 : b ≠ a := fun z => h (z ▸ List.mem_cons_self)
    show putP (upd H a (.tup [p.1, p.2])) as ps b = H b
    rw [putP_off as ps _ (fun z => h (List.mem_cons_of_mem _ z)), upd_ne e1]
theorem putP_at : ∀ (as : List Addr) (ps : List (V × V)) (H : Hp), as.length = ps.length → as.Nodup → ∀ (j : Nat) (t : Addr), as[j]? = some t → ∃ p, ps[j]? = some p ∧ putP H as ps t = some (.tup [p.1, p.2])
  | [], _, _, _, _, j, t, h => by simp at h
  | _ :: _, [], _, h, _, _, _, _ => by cases h
  | a :: as, p :: ps, H, h, hn, 0, t, e => by
    have hn' := List.nodup_cons.mp hn
    simp at e
    subst e
    refine ⟨p, rfl, ?_⟩
    show putP (upd H a (.tup [p.1, p.2])) as ps a = _
    rw [putP_off as ps _ hn'.1, upd_same]
  | a :: as, p :: ps, H, h, hn, j + 1, t, e => by
    have hn' := List.nodup_cons.mp hn
    obtain ⟨q, e1, e2⟩ := putP_at as ps (upd H a (.tup [p.1, p.2])) (Nat.succ.inj h) hn'.2 j t (by simpa using e)
    exact ⟨q, by simpa using e1, e2⟩
theorem zl_laid {X : Cx} {pins : List (Addr × Obj)} {σ : L2.St} {H : Hp} {s : Shared} {h' : Heap} {tk lo : Nat} {xs ys : List V} {us vs : List Value} {acc : Array Value} {c : Nat} {as : List Addr} (I : Inv X pins σ H s) (hz : min xs.length ys.length ≤ sizeLine) (rx : Vals xs us) (ry : Vals ys vs) (hlo : s.heap.objs.size ≤ lo)
    (hk : ∀ b o, s.heap.get? b = some o → h'.get? b = some o) (hS : h'.get? lo = some { cls := .type "list", dict := none, data := .seq acc c, slots := #[] }) (hl : as.length = min us.toArray.size vs.toArray.size)
    (hG : ZG (fun i v => us.toArray[i]? = some v) (fun i v => vs.toArray[i]? = some v) lo h' as) (hacc : acc.toList = as.map Value.ref) :
    ∃ H' : Hp, (∀ b o, H b = some o → H' b = some o) ∧ H lo = none ∧ (∀ t ∈ as, H t = none) ∧ lo ∉ as ∧ H' lo = some (.lst (as.map V.ref)) ∧ as.length = (xs.zip ys).length ∧ (∀ (j : Nat) (t : Addr), as[j]? = some t → ∃ p, (xs.zip ys)[j]? = some p ∧ H' t = some (.tup [p.1, p.2])) ∧ Inv X pins σ H' { s with heap := h', toks := tk } := by
  have lx : xs.length = us.length := rx.length
  have ly : ys.length = vs.length := ry.length
  have hl' : as.length = (xs.zip ys).length := by rw [hl, List.length_zip, lx, ly]; simp
  have hSn : lo ∉ as := fun z => Nat.lt_irrefl _ (hG.above _ z)
  have nd : as.Nodup := List.Pairwise.imp (fun {a b} (h : a < b) => Nat.ne_of_lt h) hG.rise
  have new : ∀ t ∈ as, H t = none := fun t ht => I.hok.fresh (Nat.le_trans hlo (Nat.le_of_lt (hG.above t ht)))
  have newS : H lo = none := I.hok.fresh hlo
  have atP := putP_at as (xs.zip ys) (upd H lo (.lst (as.map V.ref))) hl' nd
  have off : ∀ b, b ∉ as → b ≠ lo → putP (upd H lo (.lst (as.map V.ref))) as (xs.zip ys) b = H b := fun b h1 h2 => by rw [putP_off as _ _ h1, upd_ne h2]
  have low : ∀ b o, s.heap.get? b = some o → b ∉ as ∧ b ≠ lo := fun b o e => ⟨fun z => absurd (Heap.lt_size e) (Nat.not_lt.mpr (Nat.le_trans hlo (Nat.le_of_lt (hG.above b z)))), Nat.ne_of_lt (Nat.lt_of_lt_of_le (Heap.lt_size e) hlo)⟩
  have kp : ∀ b u, H b = some u → (putP (upd H lo (.lst (as.map V.ref))) as (xs.zip ys)) b = some u := fun b u e => by
    rw [off b (fun z => by rw [new b z] at e; cases e) (fun z => by rw [z, newS] at e; cases e)]
    exact e
  have eS : putP (upd H lo (.lst (as.map V.ref))) as (xs.zip ys) lo = some (.lst (as.map V.ref)) := by rw [putP_off as _ _ hSn, upd_same]
  refine ⟨putP (upd H lo (.lst (as.map V.ref))) as (xs.zip ys), kp, newS, new, hSn, eS, hl', atP, ?_⟩
  refine I.call' (ch := []) rfl ⟨fun b o q _ _ _ => hk b o q, fun b o q _ _ _ => ⟨o.slots, hk b o q⟩, fun b o q n _ => ?_, fun b o q _ => ⟨o, hk b o q⟩, fun b xs q => kp b _ q, fun b o u q => kp b _ q, fun b ps q => ⟨#[], by rw [kp b _ q]; simp⟩⟩ (fun b u q => ?_) I.bare fun b z => by simp at z
  · obtain ⟨z1, z2⟩ := low b o q
    rw [off b z1 z2]
    exact n
  · by_cases hb : b ∈ as
    · obtain ⟨j, hj⟩ := List.mem_iff_getElem?.mp hb
      obtain ⟨p, e1, e2⟩ := atP j b hj
      rw [e2] at q
      cases q
      obtain ⟨x, y, f1, f2, f3⟩ := hG.pairs j b hj
      have g1 : xs[j]? = some p.1 ∧ ys[j]? = some p.2 := by
        rw [List.getElem?_zip_eq_some] at e1
        exact e1
      obtain ⟨u1, k1, r1⟩ := rx.get g1.1
      obtain ⟨u2, k2, r2⟩ := ry.get g1.2
      rw [show us[j]? = some x by simpa using f1] at k1
      rw [show vs[j]? = some y by simpa using f2] at k2
      cases k1
      cases k2
      exact ⟨by show 2 ≤ sizeLine; decide, [x, y], .cons r1 (.cons r2 .nil), ⟨_, f3, rfl, _, rfl⟩⟩
    · by_cases hb2 : b = lo
      · rw [hb2] at q ⊢
        rw [eS] at q
        cases q
        refine ⟨by rw [List.length_map, hl', List.length_zip]; exact hz, acc.toList, c, by rw [hacc]; exact LiI.vals_refs as, ?_⟩
        rw [Array.toArray_toList]
        exact hS
      · rw [off b hb hb2] at q
        exact (I.hok b u q).stay (fun d v _ y => hk d v y) (fun d y => kp d _ y) fun d xs y => kp d _ y
end ZL

set_option maxRecDepth 100000
set_option maxHeartbeats 2000000
/-! ZL5: list(zip(a, b)): the rule. -/
namespace ZL
open PySem PySem.Spec PyProof.Rows L2
def SqA (K : PySem.W.Frag) (H : Hp) (a : Addr) (xs : List V) : Prop := SqL K H a xs ∨ SqT K H a xs
def rZipL (K : PySem.W.Frag) : List V → Hp → VK → Prop := fun vs H Q => ∃ a b xs ys, vs = [.ref a, .ref b] ∧ SqA K H a xs ∧ SqA K H b ys ∧
  ∀ (H' : Hp) (p : Addr) (ts : List Addr), (∀ b o, H b = some o → H' b = some o) → H p = none → (∀ t ∈ ts, H t = none) → p ∉ ts → H' p = some (.lst (ts.map V.ref)) → ts.length = (xs.zip ys).length → (∀ (j : Nat) (t : Addr), ts[j]? = some t → ∃ q, (xs.zip ys)[j]? = some q ∧ H' t = some (.tup [q.1, q.2])) → Q (.ref p) H'
def tListZip (K : PySem.W.Frag) (ta : TA) : TE := fun σ H Q => ta σ H fun vs H1 => rZipL K vs H1 Q
theorem side_of {X : Cx} {pins : List (Addr × Obj)} {σ : L2.St} {H : Hp} {s : Shared} {a : Addr} {xs : List V} (I : Inv X pins σ H s) (h : SqA X.K H a xs) : ∃ us : List Value, Vals xs us ∧ Side X.prog X.w a us.toArray s.heap ∧ a < s.heap.objs.size ∧ us.length ≤ sizeLine := by
  rcases h with h | h
  · obtain ⟨its, rv, p1, q⟩ := I.list h
    exact ⟨its, rv, side_list p1.isList, p1.lt, by rw [← rv.length]; exact q⟩
  · obtain ⟨its, rv, p1, q⟩ := I.tuple h
    exact ⟨its, rv, side_tuple p1, (let ⟨o, ho, _⟩ := p1; Heap.lt_size ho), by rw [← rv.length]; exact q⟩
theorem pe_listZip {X : Cx} {e e2 : Expr} {ta : TA} {p p2 pos pos2 : Pos} (hc : X.calm = true) (hg : Gl X "list") (hm : X.mg "list" = none) (hg2 : Gl X "zip") (hm2 : X.mg "zip" = none) (ha : PA X [e, e2] ta)
    (hs : starEach [e, e2] X.env = (false, eval e X.env) :: starEach [e2] X.env := by rfl) (hpl : (backTo pos2 (starEach [e2] X.env)).any (·.1) = false := by rfl)
    (hs2 : starEach [.Call (.Name "zip" p2) [e, e2] [] pos2] X.env = (false, eval (.Call (.Name "zip" p2) [e, e2] [] pos2) X.env) :: starEach [] X.env := by rfl) :
    PE X (.Call (.Name "list" p) [.Call (.Name "zip" p2) [e, e2] [] pos2] [] pos) (tListZip X.K ta) := by
  refine ⟨fun pins s σ H Q I hq => ?_⟩
  refine wpAny_Call_Name_kw (ld_blt I hg hm rfl ?_)
  refine PyProof.Rows.callWith_type1 ?_ hs2 rfl
  rw [hs2]
  show wpAny _ _ (spliced ((false, eval (.Call (.Name "zip" p2) [e, e2] [] pos2) X.env) :: backTo pos (starEach [] X.env))) _ _ s
  refine Calls.spliced_cons ?_
  refine Call_ (ld_blt I hg2 hm2 PyProof.Rows.boot_zip (PyProof.Rows.callWith_type1 (thn (ha.run pos2 pins s σ H _ I hq) fun us s1 ⟨vs, H1, I1, r1, q1⟩ => ?_) hs hpl))
  obtain ⟨a, b, xs, ys, rfl, hx, hy, q⟩ := q1
  obtain ⟨us1, rx, sx, la, zx⟩ := side_of I1 hx
  obtain ⟨us2, ry, sy, lb, zy⟩ := side_of I1 hy
  cases r1 with
  | cons r rr =>
    cases rr with
    | cons r' rr =>
      cases rr
      cases r
      cases r'
      refine zl_made (I1.ok.hd hc) sx sy la lb (by simp only [List.size_toArray]; exact Nat.le_trans (Nat.min_le_left _ _) zx) fun h1 h2 hsz hk1 go => ?_
      refine Calls.spliced_nil ?_
      refine go fun h' tk acc c as hk hS hl hG hacc => ?_
      obtain ⟨H', k1, k2, k3, k4, k5, k6, k7, J⟩ := zl_laid (tk := tk) I1 (Nat.le_trans (Nat.min_le_left _ _) (by rw [rx.length]; exact zx)) rx ry (by rw [hsz]; exact Nat.le_add_right _ _) hk hS hl hG hacc
      exact ⟨.ref _, H', J, rfl, q H' _ as k1 k2 k3 k4 k5 k6 k7⟩
end ZL

set_option maxRecDepth 100000
/-! EvS2: expression by expression. -/
namespace Ev
open PySem PySem.Spec PyProof.Rows L2
/-- a plain subscript, a plain argument -/
def plainX : Expr → Bool
  | .Slice _ _ _ _ => false
  | .Starred _ _ => false
  | .Set _ _ _ => false
  | _ => true
theorem plain_ix {b : Expr} (h : plainX b = true) : PlainIx b := by
  intro o i
  cases b <;> first | rfl | cases h
theorem plain_star {e : Expr} (h : plainX e = true) (es : List Expr) (env : PySem.Env) : starEach (e :: es) env = (false, eval e env) :: starEach es env := by
  cases e <;> first | rfl | cases h
theorem plain_marks {op : CmpOp} {e : Expr} (h : plainX e = true) : behindInMarks op e = false := by
  cases e <;> first | rfl | cases h
theorem plain_set {e : Expr} (h : plainX e = true) (env : PySem.Env) (x : Value) : foldedSetIterable e env x = pure x := by
  cases e <;> first | rfl | cases h
def plainL (xs : List Expr) : Bool := xs.all plainX
theorem plainL_any {pos : Pos} {env : PySem.Env} : ∀ {xs : List Expr}, plainL xs = true → (backTo pos (starEach xs env)).any (·.1) = false
  | [], _ => rfl
  | x :: xs, h => by
    have h' : (plainX x && plainL xs) = true := h
    rw [Bool.and_eq_true] at h'
    rw [plain_star h'.1]
    show (false || (backTo pos (starEach xs env)).any (·.1)) = false
    rw [plainL_any h'.2]
    rfl
section
variable {X : Cx} {own : List Nat} {R : RX} {Fn : Nat → List D → Cu → Out D} {x y z : Expr} {a b d : E} {pos : Pos}

theorem s_var {i : Nat} {nm : Str} (hN : X.N[i]? = some nm) (hv : Vis X.env.scope nm) (hd : (nm == ("__debug__" : Str)) = false) (hcd : (nm == ("__classdict__" : Str)) = false) : PE X (.Name nm pos) (T X.K own R Fn (.var i)) := by
  refine PE.imp (pe_var hN hv hd hcd) fun σ H Q ⟨F, ca, c, env, r, h⟩ => ?_
  have h : After X.K F (Fo F own env σ) ca H R true (decide (i ∉ own)) false (Out.of (gv env i) c) Q := by
    have e : (E.var i).clb own = true := by unfold E.clb E.isVar; simp
    have h' := h
    rw [e] at h'
    exact h'
  cases q : gv env i with
  | none => rw [q] at h; exact h.elim
  | some d =>
    rw [q] at h
    by_cases hob : i ∈ own ∧ d.lstB = true
    · obtain ⟨ho, hb⟩ := hob
      obtain ⟨ad, e, n, m, t⟩ := r.ownd i d ho q hb
      refine ⟨_, e, h (.ref ad) ca H (Post.refl r.cup) ?_ (fun e => by rw [decide_eq_true_eq] at e; exact absurd ho e) fun e => by cases e⟩
      cases d with
      | lst xs => obtain ⟨vs, e1, e2⟩ := t; exact ⟨ad, vs, rfl, e1, n, m, e2⟩
      | dic xs => obtain ⟨vs, e1, e2⟩ := t; exact ⟨ad, vs, rfl, e1, n, e2⟩
      | _ => exact t.elim
    · have ho : i ∉ own ∨ d.lstB = false := by
        by_cases hi : i ∈ own
        · exact .inr (by cases hb : d.lstB with | false => rfl | true => exact absurd ⟨hi, hb⟩ hob)
        · exact .inl hi
      obtain ⟨v, e, t⟩ := r.slot i d ho q
      exact ⟨v, e, h v ca H (Post.refl r.cup) (RepB.of (fun a h => .inl h) t) (fun _ => t) fun e => by cases e⟩
theorem le_if {F : Addr → Prop} {env : Env} {σ : L2.St} {b : Bool} {a : Addr} (h : F a) : (if b = true then Fo F own env σ else F) a := by
  cases b
  · exact h
  · exact .inl h
theorem s_cst {cc : Const} {dd : D} {j : Nat} (h : constB cc dd = true) : PE X (.Constant cc j pos) (T X.K own R Fn (.cst dd)) := by
  cases cc <;> cases dd <;> first | cases h | skip
  · exact PE.imp pe_non fun σ H Q ⟨F, ca, c, env, r, h⟩ => After.here h r.cup (fun _ => rfl) rfl
  · rename_i p q
    have e : p = q := by simpa [constB] using h
    subst e
    exact PE.imp pe_bl fun σ H Q ⟨F, ca, c, env, r, h⟩ => After.here h r.cup (fun _ => rfl) rfl
  · rename_i p q
    have e : p = q := of_decide_eq_true h
    subst e
    exact PE.imp pe_int fun σ H Q ⟨F, ca, c, env, r, h⟩ => After.here h r.cup (fun _ => rfl) rfl
  · rename_i p q
    have e : p = q := of_decide_eq_true h
    subst e
    exact PE.imp pe_str fun σ H Q ⟨F, ca, c, env, r, h⟩ => After.here h r.cup (fun _ => rfl) rfl
theorem s_gl {nm : Str} {dd : D} {u : Value} {v : V} (hg : Gl X nm) (hm : X.mg nm = some u) (hr : RelV v u) (hR : ∀ F ca H, Rep X.K F ca H dd v) (hd : (nm == ("__debug__" : Str)) = false) : PE X (.Name nm pos) (T X.K own R Fn (.gl nm dd)) := by
  refine PE.imp (pe_glob hg hm hr hd) fun σ H Q ⟨F, ca, c, env, r, h⟩ => ?_
  exact h v ca H (Post.refl r.cup) (RepB.of (fun a q => le_if q) (hR _ _ _)) (fun _ => hR _ _ _) fun e => by cases e
theorem s_op2 {o : Op2} (ha : PE X x (T X.K own R Fn a)) (hb : PE X y (T X.K own R Fn b)) : PE X (.BinOp x o.op y pos) (T X.K own R Fn (.op2 o a b)) := by
  refine PE.imp (pe_op (op_ok o) ha hb) fun σ H Q ⟨F, ca, c, env, r, h⟩ => ?_
  refine (T.bind r h).mono fun v1 H1 ⟨ca1, c1, d1, _, g1, h1⟩ => ?_
  refine (T.bind g1.rl h1).mono fun v2 H2 ⟨ca2, c2, d2, _, g2, h2⟩ => ?_
  cases q : opv o d1 d2 with
  | none => rw [q] at h2; exact h2.elim
  | some z =>
    rw [q] at h2
    have hcl : ∀ ad, (if (E.op2 o a b).cl own then Fo F own env σ else F) ad → (if a.clb own then Fo F own env σ else F) ad ∧ (if b.clb own then Fo F own env σ else F) ad := fun ad hz => by
      cases h1 : (E.op2 o a b).cl own with
      | true =>
        rw [h1] at hz
        have h1' : (a.clb own && b.clb own) = true := h1
        rw [Bool.and_eq_true] at h1'
        rw [h1'.1, h1'.2]
        exact ⟨hz, hz⟩
      | false =>
        rw [h1] at hz
        have hz : F ad := hz
        exact ⟨by split <;> first | exact .inl hz | exact hz, by split <;> first | exact .inl hz | exact hz⟩
    have e : (E.op2 o a b).clb own = (E.op2 o a b).cl own := by unfold E.clb E.isVar; simp
    rw [e] at h2
    exact ⟨F, _, ca2, c2, d1, d2, z, g2.rl.at ((E.op2 o a b).cl own), (g1.b.post g2.post).weakG fun ad hz => (hcl ad hz).1, g2.b.weakG fun ad hz => (hcl ad hz).2, q, After.done h2 fun ad hz => .inl hz⟩
theorem s_neg (ha : PE X x (T X.K own R Fn a)) : PE X (.UnaryOp .USub x pos) (T X.K own R Fn (.neg a)) := by
  refine PE.imp (pe_un un_neg ha) fun σ H Q ⟨F, ca, c, env, r, h⟩ => ?_
  refine (T.bind r h).mono fun v1 H1 ⟨ca1, c1, d1, _, g1, h1⟩ => ?_
  cases d1 with
  | int i => exact ⟨i, g1.b, After.here h1 g1.rl.cup (fun _ => rfl) rfl⟩
  | _ => exact h1.elim
theorem s_nt (ha : PE X x (T X.K own R Fn a)) : PE X (.UnaryOp .Not x pos) (T X.K own R Fn (.nt a)) := by
  refine PE.imp (pe_not ha) fun σ H Q ⟨F, ca, c, env, r, h⟩ => ?_
  refine (T.bind r h).mono fun v1 H1 ⟨ca1, c1, d1, _, g1, h1⟩ => ?_
  cases d1 with
  | bl i => exact ⟨i, g1.b, After.here h1 g1.rl.cup (fun _ => rfl) rfl⟩
  | _ => exact h1.elim
theorem r_cmp {o : Cop} {σ : L2.St} {H : Hp} {Q : VK} (w : T X.K own R Fn (.cmp o a b) σ H Q) : tOp (rCov X.K o) (T X.K own R Fn a) (T X.K own R Fn b) σ H Q := by
  obtain ⟨F, ca, c, env, r, h⟩ := w
  refine (T.bind r h).mono fun v1 H1 ⟨ca1, c1, d1, _, g1, h1⟩ => ?_
  refine (T.bind g1.rl h1).mono fun v2 H2 ⟨ca2, c2, d2, _, g2, h2⟩ => ?_
  cases q : cov o d1 d2 with
  | none => rw [q] at h2; exact h2.elim
  | some z =>
    rw [q] at h2
    exact ⟨F, ca2, d1, d2, z, Rep.post g2.post (fun _ h => .inl h) _ _ g1.weak, g2.weak, q, After.here h2 g2.rl.cup (fun _ => rfl) rfl⟩
theorem s_cmp {o : Cop} (hu : X.A.units + 66 < cLine) (hy : plainX y = true) (ha : PE X x (T X.K own R Fn a)) (hb : PE X y (T X.K own R Fn b)) : PE X (.Compare x [o.op] [y] pos) (T X.K own R Fn (.cmp o a b)) :=
  PE.imp (pe_cmpR (cov_ok o hu) ha hb (plain_marks hy)) fun _ _ _ => r_cmp
theorem r_chn {o p : Cop} {σ : L2.St} {H : Hp} {Q : VK} (w : T X.K own R Fn (.chn o p a b d) σ H Q) : tChain (rCov X.K o) (rCov X.K p) (T X.K own R Fn a) (T X.K own R Fn b) (T X.K own R Fn d) σ H Q := by
  obtain ⟨F, ca, c, env, r, h⟩ := w
  refine (T.bind r h).mono fun v1 H1 ⟨ca1, c1, d1, _, g1, h1⟩ => ?_
  refine (T.bind g1.rl h1).mono fun v2 H2 ⟨ca2, c2, d2, _, g2, h2⟩ => ?_
  cases q : cov o d1 d2 with
  | none => rw [q] at h2; exact h2.elim
  | some k =>
    rw [q] at h2
    refine ⟨F, ca2, d1, d2, k, Rep.post g2.post (fun _ h => .inl h) _ _ g1.weak, g2.weak, q, k, rfl, ?_⟩
    cases k with
    | false => exact After.here h2 g2.rl.cup (fun _ => rfl) rfl
    | true =>
      refine (T.bind g2.rl h2).mono fun v3 H3 ⟨ca3, c3, d3, _, g3, h3⟩ => ?_
      cases q3 : cov p d2 d3 with
      | none => rw [q3] at h3; exact h3.elim
      | some w =>
        rw [q3] at h3
        exact ⟨F, ca3, d2, d3, w, Rep.post g3.post (fun _ h => .inl h) _ _ g2.weak, g3.weak, q3, After.here h3 g3.rl.cup (fun _ => rfl) rfl⟩
theorem s_chn {o p : Cop} (hu : X.A.units + 66 < cLine) (hy : plainX y = true) (hz : plainX z = true) (ha : PE X x (T X.K own R Fn a)) (hb : PE X y (T X.K own R Fn b)) (hd : PE X z (T X.K own R Fn d)) : PE X (.Compare x [o.op, p.op] [y, z] pos) (T X.K own R Fn (.chn o p a b d)) :=
  PE.imp (pe_chain (cov_ok o hu) (cov_ok p hu) ha hb hd (show behindInMarks p.op z = false from plain_marks hz)) fun _ _ _ => r_chn
theorem s_ix (hy : plainX y = true) (ha : PE X x (T X.K own R Fn a)) (hb : PE X y (T X.K own R Fn b)) : PE X (.Subscript x y pos) (T X.K own R Fn (.ix a b)) := by
  refine PE.imp (pe_ix ixv_ok ha hb (plain_ix hy)) fun σ H Q ⟨F, ca, c, env, r, h⟩ => ?_
  refine (T.bind r h).mono fun v1 H1 ⟨ca1, c1, d1, _, g1, h1⟩ => ?_
  refine (T.bind g1.rl h1).mono fun v2 H2 ⟨ca2, c2, d2, _, g2, h2⟩ => ?_
  cases q : ixv d1 d2 c2 with
  | none => rw [q] at h2; exact h2.elim
  | some z =>
    rw [q] at h2
    have e : (E.ix a b).clb own = (E.ix a b).cl own := by unfold E.clb E.isVar; simp
    rw [e] at h2
    have e2 : (E.ix a b).cl own = a.clb own := rfl
    refine ⟨F, if (E.ix a b).cl own then Fo F own env σ else F, ca2, c2, d1, d2, z, g2.rl.at _, g1.b.post g2.post, ?_, q, After.item h2 fun ad hz => .inl hz⟩
    have hk : d2.lstB = false := by
      cases d2 <;> first | rfl | (cases d1 <;> cases q)
      all_goals (rename_i kv l; simp [ixv, D.key] at q)
    cases d2 with
    | lst _ => cases hk
    | dic _ => cases hk
    | non => exact g2.b
    | bl _ => exact g2.b
    | int _ => exact g2.b
    | str _ => exact g2.b
    | tup _ => cases d1 <;> simp [ixv, D.key] at q
    | cup => cases d1 <;> simp [ixv, D.key] at q
    | fn _ => cases d1 <;> simp [ixv, D.key] at q
    | scr _ => cases d1 <;> simp [ixv, D.key] at q
theorem evs_len : ∀ {es : E} {env : Env} {c c' : Cu} {ds : List D}, evs Fn es env c = .ok ds c' → ds.length = es.len
  | .nil, env, c, c', ds, h => by
    have h : Out.ok ([] : List D) c = .ok ds c' := h
    cases h
    rfl
  | .cons e es, env, c, c', ds, h => by
    have h : ((ev Fn e env c).bind fun d c => (evs Fn es env c).bind fun ds c => .ok (d :: ds) c) = .ok ds c' := h
    cases q : ev Fn e env c with
    | ok d c1 =>
      rw [q, bind_ok] at h
      cases q2 : evs Fn es env c1 with
      | ok ds2 c2 =>
        rw [q2, bind_ok] at h
        cases h
        show ds2.length + 1 = es.len + 1
        rw [evs_len q2]
      | err _ _ => rw [q2] at h; cases h
      | no => rw [q2] at h; cases h
    | err _ _ => rw [q] at h; cases h
    | no => rw [q] at h; cases h
theorem s_tup {xs : List Expr} {k : Nat} {es : E} (hl : es.len ≤ 1000) (ha : PA X xs (TL X.K own R Fn es)) : PE X (.Tuple xs k pos) (T X.K own R Fn (.tup es)) := by
  refine PE.imp (pe_tup ha) fun σ H Q ⟨F, ca, c, env, r, h⟩ => ?_
  refine TL.mono (TL.bind r h) fun vs H1 ⟨ca1, c1, ds, q, r1, p1, b1, h1⟩ => ⟨?_, fun p np => ?_⟩
  · rw [← b1.len, evs_len q, line_eq]; omega
  · have e : (E.tup es).clb own = (E.tup es).cl own := by unfold E.clb E.isVar; simp
    rw [e] at h1
    exact (After.done h1 fun a => .inl).newT (r1.at ((E.tup es).cl own)) b1 p np
theorem s_lst {xs : List Expr} {es : E} (hl : es.len ≤ 1000) (ha : PA X xs (TL X.K own R Fn es)) : PE X (.List xs pos) (T X.K own R Fn (.lst es)) := by
  refine PE.imp (pe_lst ha) fun σ H Q ⟨F, ca, c, env, r, h⟩ => ?_
  refine TL.mono (TL.bind r h) fun vs H1 ⟨ca1, c1, ds, q, r1, p1, b1, h1⟩ => ⟨?_, fun p np => ?_⟩
  · rw [← b1.len, evs_len q, line_eq]; omega
  · have e : (E.lst es).clb own = (E.lst es).cl own := by unfold E.clb E.isVar; simp
    rw [e] at h1
    exact (After.done h1 fun a => .inl).newL (r1.at ((E.lst es).cl own)) b1 p np
theorem s_cup (hx : plainX x = true) (hy : plainX y = true) (ha : PE X x (T X.K own R Fn a)) (hb : PE X y (T X.K own R Fn b)) : PE X (.List [x, y] pos) (T X.K own R Fn (.cupn a b)) := by
  refine PE.imp (pe_lst (pa_cons ha (pa_cons hb pa_nil (plain_star hy _ _)) (plain_star hx _ _))) fun σ H Q ⟨F, ca, c, env, r, h⟩ => ?_
  refine (T.bind r h).mono fun v1 H1 ⟨ca1, c1, d1, _, g1, h1⟩ => ?_
  refine (T.bind g1.rl h1).mono fun v2 H2 ⟨ca2, c2, d2, _, g2, h2⟩ => ?_
  refine ⟨by show 2 ≤ sizeLine; rw [line_eq]; omega, fun p np => ?_⟩
  cases d1 with
  | int i =>
    cases d2 with
    | int j =>
      cases c2 with
      | none =>
        have hc : ca2 = none := g2.rl.cup
        rw [show v1 = V.int i from g1.b, show v2 = V.int j from g2.b]
        refine h2 (.ref p) (some p) _ ⟨fun b o e => .inr (by rw [upd_ne (ne_of_none e np)]; exact e), .inr ⟨hc, p, rfl, np⟩, p, rfl, upd_same⟩ ?_ (fun _ => ⟨p, rfl, rfl⟩) fun e => by cases e
        exact ⟨p, rfl, rfl⟩
      | some ns => exact h2.elim
    | _ => exact h2.elim
  | _ => exact h2.elim
theorem s_rev {k : Nat} {p1 p2 p3 : Pos} (ha : PE X x (T X.K own R Fn a)) : PE X (.Subscript x (.Slice none none (some (.UnaryOp .USub (.Constant (.int 1) k p1) p2)) p3) pos) (T X.K own R Fn (.rev a)) := by
  refine PE.imp (pe_revL ha) fun σ H Q ⟨F, ca, c, env, r, h⟩ => ?_
  refine (T.bind r h).mono fun v1 H1 ⟨ca1, c1, d1, _, g1, h1⟩ => ?_
  have e : (E.rev a).clb own = (E.rev a).cl own := by unfold E.clb E.isVar; simp
  rw [e] at h1
  cases d1 with
  | lst xs =>
    obtain ⟨ad, vs, rfl, e1, n, m, q⟩ := g1.b
    exact ⟨ad, vs, rfl, SqL.of e1, fun p np => (After.done h1 fun a => .inl).newL (g1.rl.at ((E.rev a).cl own)) q.rev p np⟩
  | _ => exact h1.elim
/-- an optional part of a slice -/
theorem s_sl {l h : Option Expr} {lo hi : E} {p2 : Pos} (ha : PE X x (T X.K own R Fn a)) (hl : (l = none ∧ lo = .noe) ∨ ∃ y, l = some y ∧ lo ≠ .noe ∧ PE X y (T X.K own R Fn lo)) (hh : (h = none ∧ hi = .noe) ∨ ∃ y, h = some y ∧ hi ≠ .noe ∧ PE X y (T X.K own R Fn hi)) :
    PE X (.Subscript x (.Slice l h none p2) pos) (T X.K own R Fn (.sl a lo hi)) := by
  have po : ∀ {l : Option Expr} {lo : E}, ((l = none ∧ lo = .noe) ∨ ∃ y, l = some y ∧ lo ≠ .noe ∧ PE X y (T X.K own R Fn lo)) →
      PO X l (fun σ H Q => ∃ F ca c env d c1, Rl X.K F own ca c env σ H ∧ ((ev Fn lo env c = .ok d c1 ∧ ∃ i, optI lo d = some i ∧ ∀ ca1 H1, Post ca H ca1 c1 H1 → Q i H1) ∨ ∃ k, ev Fn lo env c = .err k c1 ∧ ∀ ca1 H1, Post ca H ca1 c1 H1 → R k ca1 c1 H1)) := by
    intro l lo hl
    rcases hl with ⟨rfl, rfl⟩ | ⟨y, rfl, hn, hp⟩
    · refine ⟨fun pins s σ H Q I ⟨F, ca, c, env, d, c1, r, h⟩ => po_none.run pins s σ H Q I ?_⟩
      rcases h with ⟨h1, i, h2, h3⟩ | ⟨k, h1, _⟩
      · cases h1
        cases h2
        exact h3 ca H (Post.refl r.cup)
      · cases h1
    · refine ⟨fun pins s σ H Q I ⟨F, ca, c, env, d, c1, r, h⟩ => (po_some hp).run pins s σ H Q I ⟨F, ca, c, env, r, ?_⟩⟩
      rcases h with ⟨h1, i, h2, h3⟩ | ⟨k, h1, h3⟩
      · rw [h1]
        intro v ca1 H1 p b _ _
        have : ∃ j, d = .int j ∧ i = some j := by
          cases d <;> cases lo <;> first | exact absurd rfl hn | cases h2 | skip
          all_goals exact ⟨_, rfl, rfl⟩
        obtain ⟨j, rfl, rfl⟩ := this
        exact ⟨j, b, h3 ca1 H1 p⟩
      · rw [h1]
        exact h3
  refine PE.imp (pe_slice sl_ok ha (po hl) (po hh)) fun σ H Q ⟨F, ca, c, env, r, h⟩ => ?_
  refine (T.bind r h).mono fun v1 H1 ⟨ca1, c1, d1, _, g1, h1⟩ => ?_
  cases q2 : ev Fn lo env c1 with
  | no => rw [q2] at h1; exact h1.elim
  | err k c2 =>
    rw [q2] at h1
    exact ⟨F, ca1, c1, env, .non, c2, g1.rl, .inr ⟨k, q2, h1⟩⟩
  | ok d2 c2 =>
    rw [q2, bind_ok] at h1
    cases q3 : ev Fn hi env c2 with
    | no =>
      rw [q3] at h1
      cases q4 : optI lo d2 <;> (rw [q4] at h1; exact h1.elim)
    | err k c3 =>
      rw [q3] at h1
      cases q4 : optI lo d2 with
      | none => rw [q4] at h1; exact h1.elim
      | some i =>
        rw [q4] at h1
        have h1 : ∀ ca' H', Post ca1 H1 ca' c3 H' → R k ca' c3 H' := h1
        exact ⟨F, ca1, c1, env, d2, c2, g1.rl, .inl ⟨q2, i, q4, fun ca2 H2 p2 => ⟨F, ca2, c2, env, .non, c3, g1.rl.post p2, .inr ⟨k, q3, fun ca3 H3 p3 => h1 ca3 H3 (p2.trans p3)⟩⟩⟩⟩
    | ok d3 c3 =>
      cases q4 : optI lo d2 with
      | none => rw [q4] at h1; exact h1.elim
      | some i =>
        rw [q4] at h1
        have h1 : After X.K F (Fo F own env σ) ca1 H1 R ((E.sl a lo hi).clb own) ((E.sl a lo hi).cl own) true ((ev Fn hi env c2).bind fun h c => match optI hi h with
          | some h => Out.of (slv d1 i h) c
          | none => .no) Q := h1
        rw [q3, bind_ok] at h1
        cases q5 : optI hi d3 with
        | none => rw [q5] at h1; exact h1.elim
        | some j =>
          rw [q5] at h1
          refine ⟨F, ca1, c1, env, d2, c2, g1.rl, .inl ⟨q2, i, q4, fun ca2 H2 p2 => ⟨F, ca2, c2, env, d3, c3, g1.rl.post p2, .inl ⟨q3, j, q5, fun ca3 H3 p3 => ?_⟩⟩⟩⟩
          have h1 : After X.K F (Fo F own env σ) ca1 H1 R ((E.sl a lo hi).clb own) ((E.sl a lo hi).cl own) true (Out.of (slv d1 i j) c3) Q := h1
          have h1 := After.later (p2.trans p3) h1
          cases q6 : slv d1 i j with
          | none => rw [q6] at h1; exact h1.elim
          | some z =>
            rw [q6] at h1
            have e : (E.sl a lo hi).clb own = (E.sl a lo hi).cl own := by unfold E.clb E.isVar; simp
            rw [e] at h1
            exact ⟨F, _, ca3, c3, d1, z, (g1.rl.post (p2.trans p3)).at ((E.sl a lo hi).cl own), g1.b.post (p2.trans p3), q6, After.done h1 fun a => .inl⟩
/-! ### calls -/
theorem s_call {cx : Cc} {CX : CXT} {ec : Nat → Addr} {n : Nat} (g : Good cx CX ec R Fn n X) {nm : Str} {f m : Nat} {xs : List Expr} {es : E} {p : Pos} (hf : cx.fs[f]? = some (nm, m)) (hg : Gl X nm) (hp : plainL xs = true) (hm : xs.length = m) (hl : es.len = m) (hd : (nm == ("__debug__" : Str)) = false) (ha : PA X xs (TL X.K own R Fn es)) :
    ∀ (Q' : E → TE), (∀ σ H Q, Q' es σ H Q → TL X.K own R Fn es σ H fun vs H1 => ∃ G ca1 c1 ds, evs Fn es = evs Fn es ∧ (∀ a, G a → H1 a ≠ none) ∧ CupOk ca1 c1 H1 ∧ ds.length = m ∧ RepL X.K G ca1 H1 ds vs ∧ (match Fn f ds c1 with
      | .ok d c' => ∀ v ca' H', Post ca1 H1 ca' c' H' → Rep X.K G ca' H' d v → Q v H'
      | .err k c' => ∀ ca' H', Post ca1 H1 ca' c' H' → R k ca' c' H'
      | .no => False)) → PE X (.Call (.Name nm p) xs [] pos) (Q' es) := by
  intro Q' hQ
  obtain ⟨fa, fd, ps, hmg, hk, hb, hF⟩ := g.fn f nm m hf
  have hps := g.ps R fun _ _ _ _ h => h
  have fin : ∀ (vs : List V) (H1 : Hp) (Q : VK), (∃ G ca1 c1 ds, evs Fn es = evs Fn es ∧ (∀ a, G a → H1 a ≠ none) ∧ CupOk ca1 c1 H1 ∧ ds.length = m ∧ RepL X.K G ca1 H1 ds vs ∧ (match Fn f ds c1 with
      | .ok d c' => ∀ v ca' H', Post ca1 H1 ca' c' H' → Rep X.K G ca' H' d v → Q v H'
      | .err k c' => ∀ ca' H', Post ca1 H1 ca' c' H' → R k ca' c' H'
      | .no => False)) → spF X.K ec cx.al Fn f m (vs ++ []) H1 Q (EK ec R) := by
    rintro vs H1 Q ⟨G, ca1, c1, ds, _, h1, h2, h3, h4, h5⟩
    rw [List.append_nil]
    refine ⟨by rw [← h4.len, h3], G, ca1, c1, ds, h1, h2, h4, ?_⟩
    cases q : Fn f ds c1 with
    | ok d c' => rw [q] at h5; exact h5
    | err k c' =>
      rw [q] at h5
      cases hal : cx.al with
      | true => exact ⟨rfl, fun ca' H' p => ⟨k, ca', c', rfl, rfl, h5 ca' H' p⟩⟩
      | false => exact (g.no hal f ds c1 k c' q).elim
    | no => rw [q] at h5; exact h5
  cases xs with
  | nil =>
    refine PE.imp (pe_call0 hF g.room hg hmg hk hb .nil hps hd) fun σ H Q w => ?_
    obtain ⟨F, ca, c, env, r, w⟩ := hQ σ H Q w
    show spF X.K ec cx.al Fn f m ([] ++ []) H Q (EK ec R)
    cases es with
    | nil => exact fin [] H Q (w [] ca H (Post.refl r.cup) rfl)
    | cons e es => rw [← hm] at hl; simp [E.len] at hl
    | _ => exact w.elim
  | cons x xs =>
    have hp' : (plainX x && plainL xs) = true := hp
    rw [Bool.and_eq_true] at hp'
    refine PE.imp (pe_call hF g.room hg hmg hk hb .nil hps ha hd (plain_star hp'.1 _ _) (plainL_any hp'.2)) fun σ H Q w => ?_
    exact (hQ σ H Q w).mono fun vs H1 h => fin vs H1 Q h
theorem s_call1 {cx : Cc} {CX : CXT} {ec : Nat → Addr} {n : Nat} (g : Good cx CX ec R Fn n X) {nm : Str} {f m : Nat} {xs : List Expr} {es : E} {p : Pos} (hf : cx.fs[f]? = some (nm, m)) (hg : Gl X nm) (hp : plainL xs = true) (hm : xs.length = m) (hl : es.len = m) (hd : (nm == ("__debug__" : Str)) = false) (ha : PA X xs (TL X.K own R Fn es)) :
    PE X (.Call (.Name nm p) xs [] pos) (T X.K own R Fn (.call f es)) := by
  refine s_call g hf hg hp hm hl hd ha (fun es => T X.K own R Fn (.call f es)) fun σ H Q ⟨F, ca, c, env, r, h⟩ => ?_
  refine TL.mono (TL.bind r h) fun vs H1 ⟨ca1, c1, ds, q, r1, p1, b1, h1⟩ => ⟨_, ca1, c1, ds, rfl, (r1.at (es.cls own)).dom, r1.cup, by rw [evs_len q, hl], b1, ?_⟩
  have e : (E.call f es).clb own = es.cls own := by unfold E.clb E.isVar; simp [E.cl]
  rw [e] at h1
  have h1 : After X.K F (Fo F own env σ) ca1 H1 R (es.cls own) (es.cls own) false (Fn f ds c1) Q := h1
  cases q : Fn f ds c1 with
  | ok d c' =>
    rw [q] at h1
    intro v ca' H' p' rp
    refine h1 v ca' H' p' ?_ (fun e => ?_) fun e => by cases e
    · cases hc : es.cls own with
      | true => rw [hc] at rp; exact RepB.of (fun a => .inl) rp
      | false => rw [hc] at rp; exact RepB.of (fun a h => h) rp
    · rw [e] at rp; exact rp
  | err k c' => rw [q] at h1; exact h1
  | no => rw [q] at h1; exact h1
theorem s_calln {cx : Cc} {CX : CXT} {ec : Nat → Addr} {n : Nat} (g : Good cx CX ec R Fn n X) {nm : Str} {f m : Nat} {xs : List Expr} {es : E} {p : Pos} (hf : cx.fs[f]? = some (nm, m)) (hg : Gl X nm) (hp : plainL xs = true) (hm : xs.length = m) (hl : es.len = m) (hd : (nm == ("__debug__" : Str)) = false) (ha : PA X xs (TL X.K own R Fn es)) :
    PE X (.Call (.Name nm p) xs [] pos) (T X.K own R Fn (.calln f es)) := by
  refine s_call g hf hg hp hm hl hd ha (fun es => T X.K own R Fn (.calln f es)) fun σ H Q ⟨F, ca, c, env, r, h⟩ => ?_
  refine TL.mono (TL.bind r h) fun vs H1 ⟨ca1, c1, ds, q, r1, p1, b1, h1⟩ => ⟨_, ca1, c1, ds, rfl, (r1.at (es.cls own)).dom, r1.cup, by rw [evs_len q, hl], b1, ?_⟩
  have h1 : After X.K F (Fo F own env σ) ca1 H1 R true true false ((Fn f ds c1).bind fun d c => match d.noL with
    | true => .ok d c
    | false => .no) Q := h1
  cases q : Fn f ds c1 with
  | ok d c' =>
    rw [q, bind_ok] at h1
    intro v ca' H' p' rp
    cases hn : d.noL with
    | false => rw [hn] at h1; exact h1.elim
    | true =>
      rw [hn] at h1
      have rp := Rep.noL (G := Fo F own env σ) _ _ hn rp
      exact h1 v ca' H' p' (RepB.of (fun a => .inl) rp) (fun _ => rp) fun e => by cases e
  | err k c' => rw [q] at h1; exact h1
  | no => rw [q] at h1; exact h1
theorem s_callf {cx : Cc} {CX : CXT} {ec : Nat → Addr} {n : Nat} (g : Good cx CX ec R Fn n X) {nm : Str} {f m : Nat} {xs : List Expr} {es : E} {p : Pos} (hf : cx.fs[f]? = some (nm, m)) (hg : Gl X nm) (hp : plainL xs = true) (hm : xs.length = m) (hl : es.len = m) (hd : (nm == ("__debug__" : Str)) = false) (ha : PA X xs (TL X.K own R Fn es)) :
    PE X (.Call (.Name nm p) xs [] pos) (T X.K own R Fn (.callf f es)) := by
  refine s_call g hf hg hp hm hl hd ha (fun es => T X.K own R Fn (.callf f es)) fun σ H Q ⟨F, ca, c, env, r, h⟩ => ?_
  refine TL.mono (TL.bind r h) fun vs H1 ⟨ca1, c1, ds, q, r1, p1, b1, h1⟩ => ?_
  have h1 : After X.K F (Fo F own env σ) ca1 H1 R true true true (match D.noLL ds with
    | true => Fn f ds c1
    | false => .no) Q := h1
  cases hn : D.noLL ds with
  | false => rw [hn] at h1; exact h1.elim
  | true =>
    rw [hn] at h1
    refine ⟨fun a => H1 a ≠ none, ca1, c1, ds, rfl, fun a h => h, r1.cup, by rw [evs_len q, hl], RepL.noL _ _ hn b1, ?_⟩
    have h1 : After X.K F (Fo F own env σ) ca1 H1 R true true true (Fn f ds c1) Q := h1
    cases q : Fn f ds c1 with
    | ok d c' =>
      rw [q] at h1
      intro v ca' H' p' rp
      have rp2 : Rep X.K (Fo F own env σ) ca' H' d v := Rep.weak (fun a h => r1.own_has h) _ _ rp
      refine h1 v ca' H' p' (RepB.of (fun a => .inl) rp2) (fun _ => rp2) fun _ e => ?_
      cases d with
      | lst xs =>
        obtain ⟨a, vs, rfl, _, nF, _⟩ := rp
        refine ⟨a, rfl, ?_⟩
        cases hz : H1 a with
        | none => rfl
        | some o => exact absurd (show H1 a ≠ none by rw [hz]; simp) nF
      | dic xs =>
        obtain ⟨a, vs, rfl, _, nF, _⟩ := rp
        refine ⟨a, rfl, ?_⟩
        cases hz : H1 a with
        | none => rfl
        | some o => exact absurd (show H1 a ≠ none by rw [hz]; simp) nF
      | _ => cases e
    | err k c' => rw [q] at h1; exact h1
    | no => rw [q] at h1; exact h1
theorem bf_boot (b : Bf) (hs : b ≠ .sset) : bootBuiltins b.nm = some b.val ∧ b.nm ∈ bltNames ∧ b.nm ≠ ("__name__" : Str) ∧ (b.nm == ("__debug__" : Str)) = false := by
  cases b <;> first | exact absurd rfl hs | exact ⟨by decide +kernel, by decide +kernel, by decide +kernel, by decide +kernel⟩
theorem s_bf {b : Bf} {xs : List Expr} {es : E} {p : Pos} (hs : b ≠ .sset) (hc : X.calm = true) (hg : Gl X b.nm) (hm : X.mg b.nm = none) (hp : plainL xs = true) (hne : xs ≠ []) (ha : PA X xs (TLb X.K own R Fn es)) : PE X (.Call (.Name b.nm p) xs [] pos) (T X.K own R Fn (.bf b es)) := by
  obtain ⟨h1, _, h2, h3⟩ := bf_boot b hs
  have key : ∀ σ H Q, T X.K own R Fn (.bf b es) σ H Q → TLb X.K own R Fn es σ H fun vs H1 => rBfv X.K b vs H1 Q := fun σ H Q ⟨F, ca, c, env, r, h⟩ => by
    refine TLb.mono (TLb.bind r h) fun vs H1 ⟨ca1, c1, ds, q, r1, p1, b1, h1⟩ => ?_
    have e : (E.bf b es).clb own = es.clbs own := by unfold E.clb E.isVar; simp [E.cl]
    rw [e] at h1
    have h1 : After X.K F (Fo F own env σ) ca1 H1 R (es.clbs own) (es.clbs own) true (Out.of (bfv b ds) c1) Q := h1
    cases q : bfv b ds with
    | none => rw [q] at h1; exact h1.elim
    | some z =>
      rw [q] at h1
      exact ⟨F, _, ca1, c1, ds, z, r1.at (es.clbs own), b1, q, After.done h1 fun a => .inl⟩
  cases xs with
  | nil => exact absurd rfl hne
  | cons x xs =>
    have hp' : (plainX x && plainL xs) = true := hp
    rw [Bool.and_eq_true] at hp'
    have B := bfv_ok (X := X) hc b
    cases b <;> first
      | exact absurd rfl hs
      | exact PE.imp (pe_callB B hg hm h1 ha h2 h3 (plain_star hp'.1 _ _) (plainL_any hp'.2)) key
      | exact PE.imp (pe_callTy B hg hm h1 ha h2 h3 (plain_star hp'.1 _ _) (plainL_any hp'.2)) key
theorem repL_of {K : PySem.W.Frag} {G : Addr → Prop} {ca : Option Addr} {H : Hp} : ∀ {ds : List D} {vs : List V}, ds.length = vs.length → (∀ (j : Nat) (d : D) (v : V), ds[j]? = some d → vs[j]? = some v → Rep K G ca H d v) → RepL K G ca H ds vs
  | [], [], _, _ => rfl
  | [], _ :: _, h, _ => by simp at h
  | _ :: _, [], h, _ => by simp at h
  | d :: ds, v :: vs, h, hr => ⟨v, vs, rfl, hr 0 d v rfl rfl, repL_of (by simpa using h) fun j d v h1 h2 => hr (j + 1) d v (by simpa using h1) (by simpa using h2)⟩
theorem side_rep {K : PySem.W.Frag} {F G : Addr → Prop} {ca : Option Addr} {H : Hp} {x : D} {v : V} {xs : List D} (h : RepB K F G ca H x v) (e : itemsOf x = some xs) : ∃ a vs, v = .ref a ∧ ZL.SqA K H a vs ∧ RepL K G ca H xs vs := by
  cases x with
  | tup ys =>
    cases e
    obtain ⟨a, vs, rfl, h1, k1⟩ := h
    exact ⟨a, vs, rfl, .inr h1, k1⟩
  | lst ys =>
    cases e
    obtain ⟨a, vs, rfl, h1, _, _, k1⟩ := h
    exact ⟨a, vs, rfl, .inl (SqL.of h1), k1⟩
  | _ => cases e
theorem s_lz {x y : Expr} {es : E} {p p2 pos2 : Pos} (hc : X.calm = true) (hg : Gl X "list") (hm : X.mg "list" = none) (hg2 : Gl X "zip") (hm2 : X.mg "zip" = none) (hp : plainX x = true) (hp2 : plainX y = true) (ha : PA X [x, y] (TLb X.K own R Fn es)) :
    PE X (.Call (.Name "list" p) [.Call (.Name "zip" p2) [x, y] [] pos2] [] pos) (T X.K own R Fn (.lz es)) := by
  have key : ∀ σ H Q, T X.K own R Fn (.lz es) σ H Q → TLb X.K own R Fn es σ H fun vs H1 => ZL.rZipL X.K vs H1 Q := fun σ H Q ⟨F, ca, c, env, r, h⟩ => by
    refine TLb.mono (TLb.bind r h) fun vs H1 ⟨ca1, c1, ds, q, r1, p1, b1, h1⟩ => ?_
    have e : (E.lz es).clb own = es.clbs own := by unfold E.clb E.isVar; simp [E.cl]
    rw [e] at h1
    have h1 : After X.K F (Fo F own env σ) ca1 H1 R (es.clbs own) (es.clbs own) true (Out.of (lzv ds) c1) Q := h1
    match ds, b1, h1 with
    | [], _, h1 => exact h1.elim
    | [_], _, h1 => exact h1.elim
    | _ :: _ :: _ :: _, _, h1 => exact h1.elim
    | [d1, d2], b1, h1 =>
      obtain ⟨v1, vr, rfl, rb1, v2, vr2, rfl, rb2, e3⟩ := b1
      have e3 : vr2 = [] := e3
      subst e3
      have h1 : After X.K F (Fo F own env σ) ca1 H1 R (es.clbs own) (es.clbs own) true (Out.of (lzv2 (itemsOf d1) (itemsOf d2)) c1) Q := h1
      cases i1 : itemsOf d1 with
      | none => rw [i1] at h1; exact h1.elim
      | some xs =>
        cases i2 : itemsOf d2 with
        | none => rw [i1, i2] at h1; exact h1.elim
        | some ys =>
          rw [i1, i2] at h1
          have at1 := r1.at (es.clbs own)
          have h1 := After.done h1 fun a => .inl
          obtain ⟨a, us, rfl, sa, ra⟩ := side_rep rb1 i1
          obtain ⟨b, ws, rfl, sb, rb⟩ := side_rep rb2 i2
          refine ⟨a, b, us, ws, rfl, sa, sb, fun H' p ts k1 k2 k3 k4 k5 k6 k7 => ?_⟩
          have pst : Post ca1 H1 ca1 c1 H' := ⟨fun b o e => .inr (k1 b o e), .inl rfl, by
            have := at1.cup
            cases c1 with
            | none => exact this
            | some ns => obtain ⟨b, e1, e2⟩ := this; exact ⟨b, e1, k1 _ _ e2⟩⟩
          refine h1 _ _ pst ⟨p, _, rfl, k5, at1.newG k2, at1.newC k2, repL_of ?_ fun j d v hd hv => ?_⟩ fun _ => ⟨p, rfl, k2⟩
          · unfold zipD
            rw [List.length_map, k6, List.length_zipWith, List.length_zip, ra.len, rb.len]
          · unfold zipD at hd
            rw [List.getElem?_map] at hv
            obtain ⟨t, ht, rfl⟩ := Option.map_eq_some_iff.mp hv
            obtain ⟨q, q1, q2⟩ := k7 j t ht
            rw [List.getElem?_zip_eq_some] at q1
            rw [List.getElem?_zipWith] at hd
            cases hx : xs[j]? with
            | none => rw [hx] at hd; cases hd
            | some x =>
              cases hy : ys[j]? with
              | none => rw [hx, hy] at hd; cases hd
              | some y =>
                rw [hx, hy] at hd
                cases hd
                obtain ⟨w1, z1, z2⟩ := ra.get hx
                obtain ⟨w2, z3, z4⟩ := rb.get hy
                rw [q1.1] at z1
                rw [q1.2] at z3
                cases z1
                cases z3
                exact ⟨t, _, rfl, .inl (.inl q2), _, _, rfl, Rep.post pst (fun _ z => .inl z) _ _ z2, _, _, rfl, Rep.post pst (fun _ z => .inl z) _ _ z4, rfl⟩
  exact PE.imp (ZL.pe_listZip hc hg hm hg2 hm2 ha (plain_star hp _ _) (plainL_any (xs := [y]) (by show (plainX y && true) = true; rw [hp2]; rfl)) rfl) key
theorem s_isi {t : Ty} {p p2 : Pos} (hg : Gl X "isinstance") (hm : X.mg "isinstance" = none) (hg2 : Gl X t.nmS) (hm2 : X.mg t.nmS = none) (hp : plainX x = true) (ha : PE X x (T X.K own R Fn a)) : PE X (.Call (.Name "isinstance" p) [x, .Name t.nmS p2] [] pos) (T X.K own R Fn (.isi a t)) := by
  have hb : bootBuiltins t.nmS = some (.type t.nm) := by cases t <;> decide +kernel
  have hn : t.nmS ≠ ("__name__" : Str) := by cases t <;> decide +kernel
  have hd : (t.nmS == ("__debug__" : Str)) = false := by cases t <;> decide +kernel
  refine PE.imp (pe_callB (tyv_ok t) hg hm (by decide +kernel) (pa_cons ha (pa_cons (pe_bltn hg2 hm2 hb (show RelV (.ty t.nm) (.type t.nm) from rfl) hn hd) pa_nil rfl) (plain_star hp _ _)) (by decide +kernel) (by decide +kernel) (plain_star hp _ _) (plainL_any (xs := [.Name t.nmS p2]) rfl)) fun σ H Q ⟨F, ca, c, env, r, h⟩ => ?_
  refine (T.bind r h).mono fun v1 H1 ⟨ca1, c1, d1, _, g1, h1⟩ => ?_
  cases q : tyv t d1 with
  | none => rw [q] at h1; exact h1.elim
  | some k =>
    rw [q] at h1
    exact ⟨F, ca1, d1, v1, k, rfl, g1.weak, q, After.here h1 g1.rl.cup (fun _ => rfl) rfl⟩
theorem s_ife (hc : PT X x (TB X.K own R Fn a)) (ha : PE X y (T X.K own R Fn b)) (hb : PE X z (T X.K own R Fn d)) : PE X (.IfExp x y z pos) (T X.K own R Fn (.ife a b d)) := by
  refine PE.imp (pe_ifExp hc ha hb) fun σ H Q ⟨F, ca, c, env, r, h⟩ => ?_
  refine ⟨F, ca, c, env, r, ?_⟩
  have hcb : ∀ {e : E} (o : Out D) (ca1 : Option Addr) (H1 : Hp), (e = b ∨ e = d) → After X.K F (Fo F own env σ) ca1 H1 R ((E.ife a b d).clb own) ((E.ife a b d).cl own) (E.ife a b d).fr o Q → After X.K F (Fo F own env σ) ca1 H1 R (e.clb own) (e.cl own) e.fr o Q := by
    intro e o ca1 H1 he h
    cases o with
    | err k c => exact h
    | no => exact h
    | ok dd c2 =>
      intro v ca' H' p rb rs rf
      refine h v ca' H' p ?_ (fun e1 => ?_) fun e1 e2 => ?_
      · have e3 : (E.ife a b d).clb own = (b.cl own && d.cl own) := by unfold E.clb E.isVar; simp [E.cl]
        rw [e3]
        cases e4 : (b.cl own && d.cl own) with
        | true =>
          rw [Bool.and_eq_true] at e4
          have : e.cl own = true := by rcases he with rfl | rfl; exact e4.1; exact e4.2
          exact RepB.of (fun a => .inl) (rs this)
        | false => exact rb.weakG fun a h => le_if h
      · have e4 : (b.cl own && d.cl own) = true := e1
        rw [Bool.and_eq_true] at e4
        exact rs (by rcases he with rfl | rfl; exact e4.1; exact e4.2)
      · have e4 : (b.fr && d.fr) = true := e1
        rw [Bool.and_eq_true] at e4
        exact rf (by rcases he with rfl | rfl; exact e4.1; exact e4.2) e2
  have h : After X.K F (Fo F own env σ) ca H R ((E.ife a b d).clb own) ((E.ife a b d).cl own) (E.ife a b d).fr ((ev Fn a env c).bind fun x c => match x with
    | .bl true => ev Fn b env c
    | .bl false => ev Fn d env c
    | _ => .no) Q := h
  cases q : ev Fn a env c with
  | no => rw [q] at h; exact h.elim
  | err k c1 => rw [q] at h; exact h
  | ok x1 c1 =>
    rw [q, bind_ok] at h
    cases x1 with
    | bl k =>
      intro ca1 H1 p1
      cases k with
      | true => exact ⟨F, ca1, c1, env, r.post p1, hcb _ ca1 H1 (.inl rfl) (After.later p1 h)⟩
      | false => exact ⟨F, ca1, c1, env, r.post p1, hcb _ ca1 H1 (.inr rfl) (After.later p1 h)⟩
    | _ => exact h.elim
end
end Ev

set_option maxRecDepth 100000
/-! EvLa: later heaps, where lists may have changed; stores into slots. -/
namespace Ev
open PySem PySem.Spec PyProof.Rows L2
def Mu (o : HO) : Prop := (∃ xs, o = .lst xs) ∨ ∃ ws, o = .dK ws
structure Later (M : Addr → Prop) (ca : Option Addr) (H : Hp) (ca' : Option Addr) (c' : Cu) (H' : Hp) : Prop where
  ext : ∀ b o, H b = some o → (some b = ca ∧ ∃ xs, o = .lst xs) ∨ (M b ∧ Mu o ∧ H' b ≠ none ∧ some b ≠ ca) ∨ H' b = some o
  le : ca' = ca ∨ (ca = none ∧ ∃ p, ca' = some p ∧ H p = none)
  cup : CupOk ca' c' H'
section
variable {K : PySem.W.Frag} {F G M N : Addr → Prop} {own : List Nat} {ca ca' ca'' : Option Addr} {c c' c'' : Cu} {H H' H'' : Hp} {env : Env} {σ : L2.St}
theorem Post.later (p : Post ca H ca' c' H') : Later M ca H ca' c' H' := ⟨fun b o e => (p.ext b o e).imp id .inr, p.le, p.cup⟩
theorem Later.refl (h : CupOk ca c H) : Later M ca H ca c H := (Post.refl h).later
theorem Later.cupHas (p : Later M ca H ca' c' H') {b : Addr} (h : some b = ca') : H' b ≠ none := by
  have := p.cup
  cases c' with
  | none => rw [show ca' = none from this] at h; cases h
  | some ns =>
    obtain ⟨a, ea, eh⟩ := this
    rw [ea] at h; cases h
    rw [eh]; simp
theorem Later.has (p : Later M ca H ca' c' H') {b : Addr} (h : H b ≠ none) : H' b ≠ none := by
  obtain ⟨o, e⟩ := Option.ne_none_iff_exists'.mp h
  rcases p.ext b o e with ⟨e1, _⟩ | ⟨_, _, e1, _⟩ | e1
  · rcases p.le with rfl | ⟨rfl, _⟩
    · exact p.cupHas e1
    · cases e1
  · exact e1
  · rw [e1]; simp
theorem Later.free (p : Later M ca H ca' c' H') {b : Addr} (h : H' b = none) : H b = none := by
  cases q : H b with
  | none => rfl
  | some o => exact absurd h (p.has (by rw [q]; simp))
theorem Later.cupN (p : Later M ca H ca' c' H') {a : Addr} (hn : H a ≠ none) (n : some a ≠ ca) : some a ≠ ca' := by
  rcases p.le with rfl | ⟨rfl, b, rfl, hb⟩
  · exact n
  · intro q
    cases q
    exact hn hb
theorem Later.trans (p : Later M ca H ca' c' H') (q : Later N ca' H' ca'' c'' H'') (h : ∀ a, N a → M a ∨ H a = none) : Later M ca H ca'' c'' H'' := by
  refine ⟨fun b o e => ?_, ?_, q.cup⟩
  · have hb : H b ≠ none := by rw [e]; simp
    by_cases hc : some b = ca
    · rcases p.ext b o e with h1 | ⟨_, h2, _, h4⟩ | h1
      · exact .inl h1
      · exact absurd hc h4
      · rcases p.le with rfl | ⟨rfl, _⟩
        · rcases q.ext b o h1 with h | ⟨_, _, _, h⟩ | h
          · exact .inl h
          · exact absurd hc h
          · exact .inr (.inr h)
        · cases hc
    · rcases p.ext b o e with ⟨h1, _⟩ | ⟨h1, h2, h3, h4⟩ | h1
      · exact absurd h1 hc
      · exact .inr (.inl ⟨h1, h2, q.has h3, h4⟩)
      · rcases q.ext b o h1 with ⟨h2, _⟩ | ⟨h2, h3, h4, _⟩ | h2
        · exact absurd h2 (p.cupN hb hc)
        · rcases h b h2 with h | h
          · exact .inr (.inl ⟨h, h3, h4, hc⟩)
          · exact absurd h hb
        · exact .inr (.inr h2)
  · rcases p.le with rfl | ⟨rfl, a, rfl, ha⟩
    · rcases q.le with rfl | ⟨rfl, a, rfl, ha⟩
      · exact .inl rfl
      · exact .inr ⟨rfl, a, rfl, p.free ha⟩
    · rcases q.le with rfl | ⟨h, _⟩
      · exact .inr ⟨rfl, a, rfl, ha⟩
      · cases h
theorem Later.weak (p : Later M ca H ca' c' H') (h : ∀ a, M a → N a) : Later N ca H ca' c' H' := ⟨fun b o e => (p.ext b o e).imp id (.imp (.imp (h b) id) id), p.le, p.cup⟩
/-- a list or dict at a new content -/
theorem Later.upd (h : CupOk ca c H) {a : Addr} {o o' : HO} (e : H a = some o) (m : Mu o) (n : some a ≠ ca) : Later (fun b => b = a) ca H ca c (upd H a o') := by
  refine ⟨fun b q e1 => ?_, .inl rfl, ?_⟩
  · by_cases hb : b = a
    · subst hb
      rw [e] at e1; cases e1
      exact .inr (.inl ⟨rfl, m, by rw [upd_same]; simp, n⟩)
    · rw [upd_ne hb]; exact .inr (.inr e1)
  · cases c with
    | none => exact h
    | some ns =>
      obtain ⟨b, e1, e2⟩ := h
      refine ⟨b, e1, ?_⟩
      rw [upd_ne (fun z => n (by rw [e1, z]))]
      exact e2
theorem Later.oth (p : Later M ca H ca' c' H') {a : Addr} {o : HO} (h : H a = some o) (n : ¬ Mu o) : H' a = some o :=
  (p.ext a o h).elim (fun ⟨_, xs, e⟩ => absurd (.inl ⟨xs, e⟩) n) fun z => z.elim (fun z => absurd z.2.1 n) id
theorem Later.lst (p : Later M ca H ca' c' H') {a : Addr} {o : HO} (h : H a = some o) (n : some a ≠ ca) (m : ¬ M a) : H' a = some o ∧ some a ≠ ca' :=
  ⟨(p.ext a o h).elim (fun z => absurd z.1 n) fun z => z.elim (fun z => absurd z.1 m) id, p.cupN (by rw [h]; simp) n⟩
theorem mu_tup {xs : List V} : ¬ Mu (.tup xs) := fun h => h.elim (fun ⟨_, e⟩ => by cases e) fun ⟨_, e⟩ => by cases e
theorem Later.sqT (p : Later M ca H ca' c' H') {a : Addr} {vs : List V} (h : SqT K H a vs) : SqT K H' a vs := by
  rcases h with (h | ⟨o, h⟩) | h
  · exact .inl (.inl (p.oth h mu_tup))
  · exact .inl (.inr ⟨o, p.oth h fun h => h.elim (fun ⟨_, e⟩ => by cases e) fun ⟨_, e⟩ => by cases e⟩)
  · exact .inr h
mutual
theorem Rep.later (p : Later M ca H ca' c' H') (hm : ∀ a, M a → F a ∨ H a = none) (hg : ∀ a, G a → F a ∨ H a = none) : ∀ (d : D) (v : V), Rep K F ca H d v → Rep K G ca' H' d v
  | .non, _, h => h
  | .bl _, _, h => h
  | .int _, _, h => h
  | .str _, _, h => h
  | .tup xs, _, ⟨a, vs, e, q, r⟩ => ⟨a, vs, e, p.sqT q, RepL.later p hm hg xs vs r⟩
  | .lst xs, _, ⟨a, vs, e, q, n, m, r⟩ => by
    have q' := p.lst q m fun z => (hm a z).elim n fun z => (by rw [q] at z; cases z)
    exact ⟨a, vs, e, q'.1, fun z => (hg a z).elim n fun z => (by rw [q] at z; cases z), q'.2, RepL.later p hm hg xs vs r⟩
  | .dic kvs, _, ⟨a, ws, e, q, n, r⟩ => by
    refine ⟨a, ws, e, ?_, fun z => (hg a z).elim n fun z => (by rw [q] at z; cases z), RepK.later p hm hg kvs ws r⟩
    rcases p.ext a _ q with ⟨_, xs, e⟩ | ⟨e, _⟩ | e
    · cases e
    · exact ((hm a e).elim n fun z => (by rw [q] at z; cases z)).elim
    · exact e
  | .cup, _, ⟨a, e, q⟩ => ⟨a, e, by
      rcases p.le with z | ⟨z, _⟩
      · rw [z]; exact q
      · rw [z] at q; cases q⟩
  | .fn _, _, h => h
  | .scr ns, _, ⟨a, e, q⟩ => ⟨a, e, q.imp (fun ⟨o, q⟩ => ⟨o, p.oth q fun h => h.elim (fun ⟨_, e⟩ => by cases e) fun ⟨_, e⟩ => by cases e⟩) id⟩
theorem RepL.later (p : Later M ca H ca' c' H') (hm : ∀ a, M a → F a ∨ H a = none) (hg : ∀ a, G a → F a ∨ H a = none) : ∀ (ds : List D) (vs : List V), RepL K F ca H ds vs → RepL K G ca' H' ds vs
  | [], _, h => h
  | x :: xs, _, ⟨v, r, e, h1, h2⟩ => ⟨v, r, e, Rep.later p hm hg x v h1, RepL.later p hm hg xs r h2⟩
theorem RepK.later (p : Later M ca H ca' c' H') (hm : ∀ a, M a → F a ∨ H a = none) (hg : ∀ a, G a → F a ∨ H a = none) : ∀ (ds : List (D × D)) (vs : List (Key × V)), RepK K F ca H ds vs → RepK K G ca' H' ds vs
  | [], _, h => h
  | (k, x) :: xs, _, ⟨k', v, r, e, h0, h1, h2⟩ => ⟨k', v, r, e, h0, Rep.later p hm hg x v h1, RepK.later p hm hg xs r h2⟩
end
theorem RepTop.later (p : Later M ca H ca' c' H') (hm : ∀ a, M a → F a ∨ H a = none) (hg : ∀ a, G a → F a ∨ H a = none) {d : D} {a : Addr} (n : some a ≠ ca) (m : ¬ M a) (h : RepTop K F ca H d a) : RepTop K G ca' H' d a := by
  cases d with
  | lst xs => obtain ⟨vs, e, r⟩ := h; exact ⟨vs, (p.lst e n m).1, RepL.later p hm hg _ _ r⟩
  | dic kvs => obtain ⟨vs, e, r⟩ := h; exact ⟨vs, (p.lst e n m).1, RepK.later p hm hg _ _ r⟩
  | _ => exact h.elim
/-- lists that no slot knows may change -/
theorem Rl.later (r : Rl K F own ca c env σ H) (p : Later M ca H ca' c' H') (hm : ∀ a, M a → F a ∨ H a = none) : Rl K F own ca' c' env σ H' where
  len := r.len
  dom := fun a h => p.has (r.dom a h)
  cup := p.cup
  slot := fun i d hi hd => by
    obtain ⟨v, e, q⟩ := r.slot i d hi hd
    exact ⟨v, e, Rep.later p (fun a h => (hm a h).imp .inl id) (fun _ h => .inl h) d v q⟩
  ownd := fun i d hi hd hb => by
    obtain ⟨a, e, n, m, q⟩ := r.ownd i d hi hd hb
    exact ⟨a, e, n, p.cupN q.has m, q.later p (fun a h => (hm a h).imp .inl id) (fun _ h => .inl h) m fun z => (hm a z).elim n fun z => absurd z q.has⟩
  inj := r.inj
/-- one more address out of bounds -/
theorem Rl.more (r : Rl K F own ca c env σ H) (hg : ∀ a, G a → F a ∨ H a = none) (hd : ∀ a, G a → H' a ≠ none) (p : Post ca H ca' c' H') : Rl K G own ca' c' env σ H' where
  len := r.len
  dom := hd
  cup := p.cup
  slot := fun i d hi hd => by
    obtain ⟨v, e, q⟩ := r.slot i d hi hd
    refine ⟨v, e, Rep.post p (fun a h => ?_) d v q⟩
    rcases h with h | h
    · exact (hg a h).imp .inl id
    · exact .inl (.inr h)
  ownd := fun i d hi hd hb => by
    obtain ⟨a, e, n, m, q⟩ := r.ownd i d hi hd hb
    refine ⟨a, e, fun z => (hg a z).elim n fun z => absurd z q.has, p.cupN q.has m, q.post p (fun a h => ?_) m⟩
    rcases h with h | h
    · exact (hg a h).imp .inl id
    · exact .inl (.inr h)
  inj := r.inj
theorem gv_set {i j : Nat} {d : Option D} : gv (env.set i d) j = if i = j then (if j < env.length then d else none) else gv env j := by
  unfold gv
  by_cases h : i = j
  · subst h
    rw [if_pos rfl]
    by_cases hl : i < env.length
    · rw [List.getElem?_set_self hl, if_pos hl]
      cases d <;> rfl
    · rw [List.getElem?_eq_none (by simpa using hl), if_neg hl]
  · rw [List.getElem?_set_ne h, if_neg h]
theorem gv_lt {i : Nat} {d : D} (h : gv env i = some d) : i < env.length := by
  unfold gv at h
  by_cases hl : i < env.length
  · exact hl
  · rw [List.getElem?_eq_none (by omega)] at h; cases h
theorem ownA_setN {i : Nat} {d : D} {v : V} (hi : i ∉ own) {a : Addr} : OwnA own (env.set i (some d)) (σ.set i (some v)) a ↔ OwnA own env σ a := by
  constructor
  · rintro ⟨j, hj, ⟨e, he, hb⟩, hs⟩
    have hne : i ≠ j := fun z => hi (z ▸ hj)
    rw [gv_set, if_neg hne] at he
    rw [List.getElem?_set_ne hne] at hs
    exact ⟨j, hj, ⟨e, he, hb⟩, hs⟩
  · rintro ⟨j, hj, ⟨e, he, hb⟩, hs⟩
    have hne : i ≠ j := fun z => hi (z ▸ hj)
    exact ⟨j, hj, ⟨e, by rw [gv_set, if_neg hne]; exact he, hb⟩, by rw [List.getElem?_set_ne hne]; exact hs⟩
theorem Rl.setN (r : Rl K F own ca c env σ H) {i : Nat} {d : D} {v : V} (hi : i ∉ own) (h : Rep K (Fo F own env σ) ca H d v) : Rl K F own ca c (env.set i (some d)) (σ.set i (some v)) H where
  len := by simpa using r.len
  dom := r.dom
  cup := r.cup
  slot := fun j e hj he => by
    have hw : ∀ a, Fo F own (env.set i (some d)) (σ.set i (some v)) a → Fo F own env σ a := fun a h => h.imp id (ownA_setN hi).mp
    rw [gv_set] at he
    by_cases hij : i = j
    · subst hij
      rw [if_pos rfl] at he
      by_cases hl : i < env.length
      · rw [if_pos hl] at he
        cases he
        exact ⟨v, List.getElem?_set_self (by rw [← r.len]; exact hl), Rep.weak hw _ _ h⟩
      · rw [if_neg hl] at he; cases he
    · rw [if_neg hij] at he
      obtain ⟨w, e1, e2⟩ := r.slot j e hj he
      exact ⟨w, by rw [List.getElem?_set_ne hij]; exact e1, Rep.weak hw _ _ e2⟩
  ownd := fun j e hj he hb => by
    have hw : ∀ a, Fo F own (env.set i (some d)) (σ.set i (some v)) a → Fo F own env σ a := fun a h => h.imp id (ownA_setN hi).mp
    have hij : i ≠ j := fun z => hi (z ▸ hj)
    rw [gv_set, if_neg hij] at he
    obtain ⟨a, e1, n, m, t⟩ := r.ownd j e hj he hb
    refine ⟨a, by rw [List.getElem?_set_ne hij]; exact e1, n, m, ?_⟩
    cases e with
    | lst xs => obtain ⟨vs, e, q⟩ := t; exact ⟨vs, e, RepL.weak hw _ _ q⟩
    | dic kvs => obtain ⟨vs, e, q⟩ := t; exact ⟨vs, e, RepK.weak hw _ _ q⟩
    | _ => exact t.elim
  inj := fun j k d e a hj hk h1 h2 b1 b2 h3 h4 => by
    have nj : i ≠ j := fun z => hi (z ▸ hj)
    have nk : i ≠ k := fun z => hi (z ▸ hk)
    rw [gv_set, if_neg nj] at h1
    rw [gv_set, if_neg nk] at h2
    rw [List.getElem?_set_ne nj] at h3
    rw [List.getElem?_set_ne nk] at h4
    exact r.inj j k d e a hj hk h1 h2 b1 b2 h3 h4
theorem ownA_setP {i : Nat} {d : D} {v : V} (hb : d.lstB = false) {a : Addr} : OwnA own (env.set i (some d)) (σ.set i (some v)) a → OwnA own env σ a := by
  rintro ⟨j, hj, ⟨e, he, hb2⟩, hs⟩
  rw [gv_set] at he
  by_cases hne : i = j
  · subst hne
    rw [if_pos rfl] at he
    by_cases hl : i < env.length
    · rw [if_pos hl] at he
      cases he
      rw [hb] at hb2; cases hb2
    · rw [if_neg hl] at he; cases he
  · rw [if_neg hne] at he
    rw [List.getElem?_set_ne hne] at hs
    exact ⟨j, hj, ⟨e, he, hb2⟩, hs⟩
theorem Rl.setP (r : Rl K F own ca c env σ H) {i : Nat} {d : D} {v : V} (hd : d.lstB = false) (h : Rep K (Fo F own env σ) ca H d v) : Rl K F own ca c (env.set i (some d)) (σ.set i (some v)) H where
  len := by simpa using r.len
  dom := r.dom
  cup := r.cup
  slot := fun j e hj he => by
    have hw : ∀ a, Fo F own (env.set i (some d)) (σ.set i (some v)) a → Fo F own env σ a := fun a h => h.imp id (ownA_setP hd)
    rw [gv_set] at he
    by_cases hij : i = j
    · subst hij
      rw [if_pos rfl] at he
      by_cases hl : i < env.length
      · rw [if_pos hl] at he
        cases he
        exact ⟨v, List.getElem?_set_self (by rw [← r.len]; exact hl), Rep.weak hw _ _ h⟩
      · rw [if_neg hl] at he; cases he
    · rw [if_neg hij] at he
      obtain ⟨w, e1, e2⟩ := r.slot j e hj he
      exact ⟨w, by rw [List.getElem?_set_ne hij]; exact e1, Rep.weak hw _ _ e2⟩
  ownd := fun j e hj he hb => by
    have hw : ∀ a, Fo F own (env.set i (some d)) (σ.set i (some v)) a → Fo F own env σ a := fun a h => h.imp id (ownA_setP hd)
    rw [gv_set] at he
    by_cases hij : i = j
    · subst hij
      rw [if_pos rfl] at he
      by_cases hl : i < env.length
      · rw [if_pos hl] at he
        cases he
        rw [hd] at hb; cases hb
      · rw [if_neg hl] at he; cases he
    · rw [if_neg hij] at he
      obtain ⟨a, e1, n, m, t⟩ := r.ownd j e hj he hb
      refine ⟨a, by rw [List.getElem?_set_ne hij]; exact e1, n, m, ?_⟩
      cases e with
      | lst xs => obtain ⟨vs, e, q⟩ := t; exact ⟨vs, e, RepL.weak hw _ _ q⟩
      | dic kvs => obtain ⟨vs, e, q⟩ := t; exact ⟨vs, e, RepK.weak hw _ _ q⟩
      | _ => exact t.elim
  inj := fun j k d2 e a hj hk h1 h2 b1 b2 h3 h4 => by
    have key : ∀ j e, gv (env.set i (some d)) j = some e → e.lstB = true → i ≠ j := fun j e h b z => by
      subst z
      rw [gv_set, if_pos rfl] at h
      by_cases hl : i < env.length
      · rw [if_pos hl] at h
        cases h
        rw [hd] at b; cases b
      · rw [if_neg hl] at h; cases h
    have nj := key j d2 h1 b1
    have nk := key k e h2 b2
    rw [gv_set, if_neg nj] at h1
    rw [gv_set, if_neg nk] at h2
    rw [List.getElem?_set_ne nj] at h3
    rw [List.getElem?_set_ne nk] at h4
    exact r.inj j k d2 e a hj hk h1 h2 b1 b2 h3 h4
/-! ### targets -/
def gT (K : PySem.W.Frag) (own : List Nat) (t : Tg) : TG := fun x σ H Q => ∃ F ca c env d env', Rl K F own ca c env σ H ∧ Rep K (Fo F own env σ) ca H d x ∧ bindT t d env = some env' ∧
  ∀ σ', Rl K F own ca c env' σ' H → (∀ a, OwnA own env' σ' a → OwnA own env σ a) → (t.noO = true → ∀ a, OwnA own env σ a → OwnA own env' σ' a) → (∀ i, i ∉ t.slots → σ'[i]? = σ[i]?) → Q σ' H
def gTs (K : PySem.W.Frag) (own : List Nat) (t : Tg) : TGs := fun x σ H Q => ∃ F ca c env d env', Rl K F own ca c env σ H ∧ RepL K (Fo F own env σ) ca H d x ∧ bindL t d env = some env' ∧
  ∀ σ', Rl K F own ca c env' σ' H → (∀ a, OwnA own env' σ' a → OwnA own env σ a) → (t.noO = true → ∀ a, OwnA own env σ a → OwnA own env' σ' a) → (∀ i, i ∉ t.slots → σ'[i]? = σ[i]?) → Q σ' H
end
theorem PG.imp {X : Cx} {e : Expr} {t u : TG} (h : PG X e t) (hq : ∀ v σ H Q, u v σ H Q → t v σ H Q) : PG X e u := ⟨fun pins s σ H v w Q I r z => h.run pins s σ H v w Q I r (hq _ _ _ _ z)⟩
theorem PGs.imp {X : Cx} {e : List Expr} {t u : TGs} (h : PGs X e t) (hq : ∀ v σ H Q, u v σ H Q → t v σ H Q) : PGs X e u := ⟨fun pins s σ H v w Q I r z => h.run pins s σ H v w Q I r (hq _ _ _ _ z)⟩
theorem tg_plain {cx : Cc} {sc : Scope} {t : Tg} {e : Expr} (h : chkTg cx t sc e = true) : (∃ x p, e = .Name x p) ∨ ∃ xs k p, e = .Tuple xs k p := by
  cases t with
  | nm i => cases e <;> first | exact .inl ⟨_, _, rfl⟩ | cases h
  | tp ts => cases e <;> first | exact .inr ⟨_, _, _, rfl⟩ | cases h
  | nil => cases e <;> cases h
  | cons t ts => cases e <;> cases h
  | nmo i => cases e <;> first | exact .inl ⟨_, _, rfl⟩ | cases h
theorem tgs_len {cx : Cc} {sc : Scope} {t : Tg} : ∀ {xs : List Expr}, chkTg.chkTgs cx t sc xs = true → ∀ {env : PySem.Env}, (assignEach xs env).length = xs.length ∧ (assignEach xs env).findIdx? (·.1) = none := by
  intro xs
  induction xs generalizing t with
  | nil => intro _ env; exact ⟨rfl, rfl⟩
  | cons x xs ih =>
    intro h env
    cases t with
    | cons t ts =>
      have h : (chkTg cx t sc x && chkTg.chkTgs cx ts sc xs) = true := h
      rw [Bool.and_eq_true] at h
      obtain ⟨h1, h2⟩ := ih h.2 (env := env)
      have e : assignEach (x :: xs) env = (false, assign x env) :: assignEach xs env := by
        rcases tg_plain h.1 with ⟨y, p, rfl⟩ | ⟨ys, k, p, rfl⟩ <;> rfl
      rw [e]
      refine ⟨by simp [h1], ?_⟩
      rw [List.findIdx?_cons, if_neg (by simp), h2]
      rfl
    | _ => cases h
mutual
theorem pg_T {X : Cx} {cx : Cc} {sc : Scope} (hc : X.calm = true) (hN : X.N.Nodup) (eN : X.N = cx.N) (hf : ∀ x, locB sc x = true → Loc X.env.scope x ∧ (X.fn x = true ∨ X.env.scope.names.lookup x = some .local)) : ∀ (t : Tg) (e : Expr), chkTg cx t sc e = true → PG X e (gT X.K cx.own t)
  | .nm i, e, h => by
    obtain ⟨y, p, rfl⟩ | ⟨xs, k, p, rfl⟩ := tg_plain h
    · have h : (decide (cx.N[i]? = some y) && locB sc y && decide (i ∉ cx.own)) = true := h
      rw [Bool.and_eq_true, Bool.and_eq_true, decide_eq_true_eq, decide_eq_true_eq] at h
      obtain ⟨⟨h1, h2⟩, h3⟩ := h
      have hx := hf y h2
      refine PG.imp (pg_name hN (by rw [eN]; exact h1) hx.1 hx.2) fun v σ H Q ⟨F, ca, c, env, d, env', r, rp, hb, h⟩ => ?_
      have hb : some (env.set i (some d)) = some env' := hb
      cases hb
      refine h _ (r.setN h3 rp) (fun a => (ownA_setN h3).mp) (fun _ a => (ownA_setN h3).mpr) fun j hj => ?_
      rw [List.getElem?_set_ne]
      exact fun z => hj (by rw [z]; exact List.mem_cons_self)
    · cases h
  | .tp ts, e, h => by
    obtain ⟨y, p, rfl⟩ | ⟨xs, k, p, rfl⟩ := tg_plain h
    · cases h
    · have h : chkTg.chkTgs cx ts sc xs = true := h
      refine PG.imp (pg_tup hc (pgs_T hc hN eN hf ts xs h) (tgs_len h).1 (tgs_len h).2) fun v σ H Q ⟨F, ca, c, env, d, env', r, rp, hb, h'⟩ => ?_
      cases d with
      | tup ds =>
        obtain ⟨a, vs, rfl, q, rl⟩ := rp
        refine ⟨a, vs, rfl, q, ?_, F, ca, c, env, ds, env', r, rl, hb, h'⟩
        rw [← rl.len]
        have key : ∀ (ts : Tg) (ds : List D) (env env' : Env) (xs : List Expr), bindL ts ds env = some env' → chkTg.chkTgs cx ts sc xs = true → ds.length = xs.length := by
          intro ts ds
          induction ds generalizing ts with
          | nil =>
            intro env env' xs hb hk
            cases ts with
            | nil => cases xs <;> first | rfl | cases hk
            | _ => cases hb
          | cons d ds ih =>
            intro env env' xs hb hk
            cases ts with
            | cons t ts =>
              cases xs with
              | nil => cases hk
              | cons x xs =>
                have hk : (chkTg cx t sc x && chkTg.chkTgs cx ts sc xs) = true := hk
                rw [Bool.and_eq_true] at hk
                have hb : (match bindT t d env with
                  | some env' => bindL ts ds env'
                  | none => none) = some env' := hb
                split at hb
                · rw [List.length_cons, List.length_cons, ih _ _ _ _ hb hk.2]
                · cases hb
            | _ => cases hb
        exact key ts ds env env' xs hb h
      | _ => cases hb
  | .nil, e, h => by cases e <;> cases h
  | .nmo i, e, h => by
    obtain ⟨y, p, rfl⟩ | ⟨xs, k, p, rfl⟩ := tg_plain h
    · have h : (decide (cx.N[i]? = some y) && locB sc y) = true := h
      rw [Bool.and_eq_true, decide_eq_true_eq] at h
      obtain ⟨h1, h2⟩ := h
      have hx := hf y h2
      refine PG.imp (pg_name hN (by rw [eN]; exact h1) hx.1 hx.2) fun v σ H Q ⟨F, ca, c, env, d, env', r, rp, hb, h⟩ => ?_
      have hb : (match d.lstB with
        | true => none
        | false => some (env.set i (some d))) = some env' := hb
      cases hl : d.lstB with
      | true => rw [hl] at hb; cases hb
      | false =>
        rw [hl] at hb
        cases hb
        refine h _ (r.setP hl rp) (fun a => ownA_setP hl) (fun z => by cases z) fun j hj => ?_
        rw [List.getElem?_set_ne]
        exact fun z => hj (by rw [z]; exact List.mem_cons_self)
    · cases h
  | .cons _ _, e, h => by cases e <;> cases h
theorem pgs_T {X : Cx} {cx : Cc} {sc : Scope} (hc : X.calm = true) (hN : X.N.Nodup) (eN : X.N = cx.N) (hf : ∀ x, locB sc x = true → Loc X.env.scope x ∧ (X.fn x = true ∨ X.env.scope.names.lookup x = some .local)) : ∀ (t : Tg) (e : List Expr), chkTg.chkTgs cx t sc e = true → PGs X e (gTs X.K cx.own t)
  | .nil, e, h => by
    cases e with
    | nil =>
      refine PGs.imp pgs_nil fun v σ H Q ⟨F, ca, c, env, d, env', r, rp, hb, h⟩ => ?_
      cases d with
      | nil =>
        have hb : some env = some env' := hb
        cases hb
        exact ⟨rp, h σ r (fun a => id) (fun _ a => id) fun _ _ => rfl⟩
      | cons _ _ => cases hb
    | cons _ _ => cases h
  | .cons t ts, e, h => by
    cases e with
    | nil => cases h
    | cons x xs =>
      have h : (chkTg cx t sc x && chkTg.chkTgs cx ts sc xs) = true := h
      rw [Bool.and_eq_true] at h
      have e : (assignEach (x :: xs) X.env).map (·.2) = assign x X.env :: (assignEach xs X.env).map (·.2) := by
        rcases tg_plain h.1 with ⟨y, p, rfl⟩ | ⟨ys, k, p, rfl⟩ <;> rfl
      refine PGs.imp (pgs_cons (pg_T hc hN eN hf t x h.1) (pgs_T hc hN eN hf ts xs h.2) e) fun v σ H Q ⟨F, ca, c, env, d, env', r, rp, hb, h⟩ => ?_
      cases d with
      | nil => cases hb
      | cons d ds =>
        obtain ⟨w, rs, rfl, r1, r2⟩ := rp
        have hb : (match bindT t d env with
          | some env' => bindL ts ds env'
          | none => none) = some env' := hb
        split at hb
        · rename_i env1 hb1
          refine ⟨w, rs, rfl, F, ca, c, env, d, env1, r, r1, hb1, fun σ1 rl1 ow1 ow1' k1 => ?_⟩
          refine ⟨F, ca, c, env1, ds, env', rl1, RepL.weak (fun a z => z.imp id (ow1 a)) _ _ r2, hb, fun σ2 rl2 ow2 ow2' k2 => h σ2 rl2 (fun a z => ow1 a (ow2 a z)) (fun z a y => ow2' (Bool.and_eq_true_iff.mp (show (t.noO && ts.noO) = true from z)).2 a (ow1' (Bool.and_eq_true_iff.mp (show (t.noO && ts.noO) = true from z)).1 a y)) fun i hi => ?_⟩
          have hi : i ∉ t.slots ++ ts.slots := hi
          rw [List.mem_append, not_or] at hi
          rw [k2 i hi.2, k1 i hi.1]
        · cases hb
  | .nm _, e, h => by cases e <;> cases h
  | .tp _, e, h => by cases e <;> cases h
end
end Ev

set_option maxRecDepth 100000
/-! EvLb: comprehensions with any number of clauses: the turns. -/
namespace Ev
open PySem PySem.Spec PyProof.Rows L2
theorem compTurnK_last {elt t i : Expr} {ifs : List Expr} {gens : List Comprehension} {k : Nat} (h : gens[k]? = some ⟨t, i, ifs, 0⟩) (h1 : gens[k + 1]? = none) (scope : Scope) (pos : Pos) (it acc : Value) (env : PySem.Env) :
    compTurn (.ListComp elt gens scope pos) k it acc env = (do
      standAt i.pos
      match ← pyNext it with
      | none => pure (.done .next)
      | some v =>
        letOwnedTupleGo t it v
        assign t env v
        let mut ok := true
        for c in ifs do
          if ok then ok ← isTrue c env (eval c env)
        if ok then
          (do let _ ← call (.builtin "list.append") [acc, ← eval elt env])
        again (.compLoop (.ListComp elt gens scope pos) k it acc env)) := by
  unfold compTurn
  simp only [h, h1]
  rfl
theorem compTurnK_mid {elt t i t1 i1 : Expr} {ifs ifs1 : List Expr} {gens : List Comprehension} {k : Nat} (h : gens[k]? = some ⟨t, i, ifs, 0⟩) (h1 : gens[k + 1]? = some ⟨t1, i1, ifs1, 0⟩) (scope : Scope) (pos : Pos) (it acc : Value) (env : PySem.Env) :
    compTurn (.ListComp elt gens scope pos) k it acc env = (do
      standAt i.pos
      match ← pyNext it with
      | none => pure (.done .next)
      | some v =>
        letOwnedTupleGo t it v
        assign t env v
        let mut ok := true
        for c in ifs do
          if ok then ok ← isTrue c env (eval c env)
        if ok then
          let x ← eval i1 env
          standAt i1.pos
          let x ← foldedSetIterable i1 env x
          let _ ← runOwn (.compStart (.ListComp elt gens scope pos) (k + 1) (← holding [x] (pyIter x)) acc env) env
        again (.compLoop (.ListComp elt gens scope pos) k it acc env)) := by
  unfold compTurn
  simp only [h, h1]
  rfl
section
variable {prog : Program} {w : World} {A : Around} {R : Result → Shared → Prop} {s : Shared} {elt t i t1 i1 : Expr} {ifs ifs1 : List Expr} {gens : List Comprehension} {k : Nat} {scope : Scope} {pos : Pos} {it acc : Value} {env : PySem.Env}
theorem compLoopK_mid (hs : ∀ x, foldedSetIterable i1 env x = pure x) (h : gens[k]? = some ⟨t, i, ifs, 0⟩) (h1 : gens[k + 1]? = some ⟨t1, i1, ifs1, 0⟩) (I : Nat → Shared → Prop)
    (turn : ∀ n s, I n s → wpAny (model prog w) A (pyNext it) (fun r s₁ => match r with
      | none => R (.ok .next) s₁
      | some v => wpAny (model prog w) A (letOwnedTupleGo t it v) (fun _ s₁' => wpAny (model prog w) A (assign t env v) (fun _ s₂ =>
          wpAny (model prog w) A (forIn ifs true fun c r => if r = true then do let ok ← isTrue c env (eval c env); pure (ForInStep.yield ok) else pure (ForInStep.yield r)) (fun ok s₃ =>
            if ok = true then wpAny (model prog w) A (eval i1 env) (fun x s₄ => wpAny (model prog w) A (pyIter x) (fun it1 s₅ =>
              codeAny (model prog w) A (.compStart (.ListComp elt gens scope pos) (k + 1) it1 acc env) (fun r s' => match r with
                | .ok _ => ∃ m, m < n ∧ I m s'
                | .error _ => False) s₅) (fun _ _ => False) s₄) (fun _ _ => False) s₃
            else ∃ m, m < n ∧ I m s₃) (fun _ _ => False) s₂) (fun _ _ => False) s₁') (fun _ _ => False) s₁) (fun _ _ => False) s)
    (n : Nat) (h : I n s) :
    codeAny (model prog w) A (.compLoop (.ListComp elt gens scope pos) k it acc env) R s := by
  refine codeAny_loop rfl I (fun n s hI => ?_) n h
  show wpAny _ A ((compTurn (.ListComp elt gens scope pos) k it acc env).onRaise (fun x => do noteFrame x env; theTreesLotGoes x)) _ _ s
  refine wpAny_noted ?_
  rename_i hh _
  rw [compTurnK_mid hh h1]
  refine wpAny_bind (wpAny_standAt (wpAny_bind (wpAny_mono (turn n s hI) (fun r s₁ h₁ => ?_) fun _ _ h' => h'.elim)))
  cases r with
  | none => exact wpAny_pure h₁
  | some v =>
    refine wpAny_bind (wpAny_mono h₁ (fun _ s₁' h₁' => ?_) fun _ _ h' => h'.elim)
    refine wpAny_bind (wpAny_mono h₁' (fun _ s₂ h₂ => wpAny_bind (wpAny_mono h₂ (fun ok s₃ h₃ => ?_) fun _ _ h' => h'.elim)) fun _ _ h' => h'.elim)
    cases ok with
    | false => exact wpAny_pure ⟨rfl, h₃⟩
    | true =>
      refine wpAny_bind (wpAny_mono h₃ (fun x s₄ h₄ => ?_) fun _ _ h' => h'.elim)
      refine wpAny_bind (wpAny_standAt (wpAny_bind (wpAny_of_eq (hs x) (wpAny_bind (wpAny_holding (wpAny_mono h₄ (fun it1 s₅ h₅ => ?_) fun _ _ h' => h'.elim))))))
      refine wpAny_bind (wpAny_runOwn ?_)
      rw [Around.mark_none]
      refine codeAny_mono h₅ fun r s' hr => ?_
      cases r with
      | ok f =>
        first
          | exact wpAny_pure ⟨rfl, hr⟩
          | exact wpAny_bind (wpAny_pure (wpAny_pure ⟨rfl, hr⟩))
      | error e => exact hr.elim
theorem compLoopK_last (h : gens[k]? = some ⟨t, i, ifs, 0⟩) (h1 : gens[k + 1]? = none) (I : Nat → Shared → Prop)
    (turn : ∀ n s, I n s → wpAny (model prog w) A (pyNext it) (fun r s₁ => match r with
      | none => R (.ok .next) s₁
      | some v => wpAny (model prog w) A (letOwnedTupleGo t it v) (fun _ s₁' => wpAny (model prog w) A (assign t env v) (fun _ s₂ =>
          wpAny (model prog w) A (forIn ifs true fun c r => if r = true then do let ok ← isTrue c env (eval c env); pure (ForInStep.yield ok) else pure (ForInStep.yield r)) (fun ok s₃ =>
            if ok = true then wpAny (model prog w) A (eval elt env) (fun x s₄ =>
              wpAny (model prog w) A (call (.builtin "list.append") [acc, x]) (fun _ s₅ => ∃ m, m < n ∧ I m s₅) (fun _ _ => False) s₄) (fun _ _ => False) s₃
            else ∃ m, m < n ∧ I m s₃) (fun _ _ => False) s₂) (fun _ _ => False) s₁') (fun _ _ => False) s₁) (fun _ _ => False) s)
    (n : Nat) (h : I n s) :
    codeAny (model prog w) A (.compLoop (.ListComp elt gens scope pos) k it acc env) R s := by
  refine codeAny_loop rfl I (fun n s hI => ?_) n h
  show wpAny _ A ((compTurn (.ListComp elt gens scope pos) k it acc env).onRaise (fun x => do noteFrame x env; theTreesLotGoes x)) _ _ s
  refine wpAny_noted ?_
  rename_i hh _
  rw [compTurnK_last hh h1]
  refine wpAny_bind (wpAny_standAt (wpAny_bind (wpAny_mono (turn n s hI) (fun r s₁ h₁ => ?_) fun _ _ h' => h'.elim)))
  cases r with
  | none => exact wpAny_pure h₁
  | some v =>
    refine wpAny_bind (wpAny_mono h₁ (fun _ s₁' h₁' => ?_) fun _ _ h' => h'.elim)
    refine wpAny_bind (wpAny_mono h₁' (fun _ s₂ h₂ => wpAny_bind (wpAny_mono h₂ (fun ok s₃ h₃ => ?_) fun _ _ h' => h'.elim)) fun _ _ h' => h'.elim)
    cases ok with
    | false => exact wpAny_pure ⟨rfl, h₃⟩
    | true =>
      exact wpAny_bind (wpAny_bind (wpAny_mono h₃ (fun x s₄ h₄ => wpAny_bind (wpAny_mono h₄ (fun _ s₅ h₅ => wpAny_pure (wpAny_pure ⟨rfl, h₅⟩)) fun _ _ h' => h'.elim)) fun _ _ h' => h'.elim))
theorem compStartK (h : gens[k]? = some ⟨t, i, ifs, 0⟩) (h0 : codeAny (model prog w) A (.compLoop (.ListComp elt gens scope pos) k it acc env) R s)
    (h2 : wpAny (model prog w) A (pyIter it) (fun it' s' => codeAny (model prog w) A (.compLoop (.ListComp elt gens scope pos) k it' acc env) R s')
      (fun _ _ => False) s) :
    codeAny (model prog w) A (.compStart (.ListComp elt gens scope pos) k it acc env) R s := by
  refine codeAny_of_tree ?_
  show wpAny _ _ ((compStart (.ListComp elt gens scope pos) k it acc env).onRaise (fun x => do noteFrame x env; standAt theWindowsPlace)) _ _ s
  refine wpAny_notedAt ?_
  unfold compStart
  have hc : (clausesOf (.ListComp elt gens scope pos))[k]? = some ⟨t, i, ifs, 0⟩ := h
  rw [hc]
  show wpAny _ _ (ask >>= _) _ _ s
  refine wpAny_bind (wpAny_askSetting (wpAny_ite ?_))
  split
  · first
      | exact wpAny_bind (wpAny_pure (wpAny_pure (And.intro rfl h0)))
      | exact wpAny_pure (And.intro rfl h0)
  · refine wpAny_bind (wpAny_rule ?_)
    exact wpAny_bind (wpAny_standAt (wpAny_bind (wpAny_mono h2 (fun it' s' h' => wpAny_pure (And.intro rfl h')) fun _ _ x => x.elim)))
end
end Ev

set_option maxRecDepth 100000
/-! EvLi: what is walked, in data. -/
namespace Ev
open PySem PySem.Spec PyProof.Rows L2
def WalkD (K : PySem.W.Frag) (Fl G : Addr → Prop) (ca0 : Option Addr) (H0 : Hp) (J : It) (items : List D) : Prop := ∀ M, (∀ a, M a → Fl a ∨ H0 a = none) → ∀ ca c H, Later M ca0 H0 ca c H →
  J.stop items.length H ∧ ∀ i d, items[i]? = some d → J.go i H ∧ ∀ x H', J.yld i H x H' → Post ca H ca c H' ∧ ∀ G' : Addr → Prop, (∀ a, G' a → G a ∨ H0 a = none) → Rep K G' ca H' d x
section
variable {K : PySem.W.Frag} {F Fl G : Addr → Prop} {ca ca' : Option Addr} {c c' : Cu} {H H' : Hp}
/-- a list or tuple, as it stands later on -/
def Stay (K : PySem.W.Frag) (Fl G : Addr → Prop) (ca : Option Addr) (H : Hp) (k : Bool) (a : Addr) (xs : List D) (vs : List V) : Prop := ∀ M, (∀ a, M a → Fl a ∨ H a = none) → ∀ ca' c' H', Later M ca H ca' c' H' → SqK k K H' a vs ∧ ∀ G' : Addr → Prop, (∀ a, G' a → G a ∨ H a = none) → RepL K G' ca' H' xs vs
theorem stay_tup {a : Addr} {xs : List D} {vs : List V} (hg : ∀ a, Fl a → G a) (q : SqT K H a vs) (r : RepL K G ca H xs vs) : Stay K Fl G ca H false a xs vs :=
  fun M hm ca' c' H' p => ⟨p.sqT q, fun G' hG => RepL.later p (fun a z => (hm a z).imp (hg a) id) hG _ _ r⟩
theorem stay_lst {a : Addr} {xs : List D} {vs : List V} (hg : ∀ a, Fl a → G a) (q : H a = some (.lst vs)) (n : ¬ Fl a) (m : some a ≠ ca) (r : RepL K G ca H xs vs) : Stay K Fl G ca H true a xs vs :=
  fun M hm ca' c' H' p => ⟨SqL.of (p.lst q m fun z => (hm a z).elim n fun z => (by rw [q] at z; cases z)).1, fun G' hG => RepL.later p (fun a z => (hm a z).imp (hg a) id) hG _ _ r⟩
theorem seqC {d : D} {xs : List D} {v : V} {cb cl : Bool} (hi : itemsOf d = some xs) (hb : cl = true → cb = true) (hg : ∀ a, F a → G a) (h : RepB K F (if cb then G else F) ca H d v) (h2 : cl = true → Rep K G ca H d v) : ∃ k a vs, v = .ref a ∧ SqK k K H a vs ∧
    Stay K F (if cb then G else F) ca H k a xs vs ∧ (cl = true → Stay K G G ca H k a xs vs) := by
  have hg' : ∀ a, F a → (if cb then G else F) a := fun a z => by
    cases cb
    · exact z
    · exact hg a z
  cases d with
  | tup ys =>
    have hi : some ys = some xs := hi
    cases hi
    obtain ⟨a, vs, rfl, q, r⟩ := h
    refine ⟨false, a, vs, rfl, q, stay_tup hg' q r, fun e => ?_⟩
    rw [hb e] at r
    exact stay_tup (fun a z => z) q r
  | lst ys =>
    have hi : some ys = some xs := hi
    cases hi
    obtain ⟨a, vs, rfl, q, n, m, r⟩ := h
    refine ⟨true, a, vs, rfl, SqL.of q, stay_lst hg' q n m r, fun e => ?_⟩
    obtain ⟨a', vs', e', q', n', m', r'⟩ := h2 e
    cases e'
    rw [q] at q'; cases q'
    exact stay_lst (fun a z => z) q n' m' r'
  | _ => cases hi
theorem walk_seq {xs : List D} {k : Bool} {a : Addr} {vs : List V} (h : Stay K Fl G ca H k a xs vs) : WalkD K Fl G ca H (ItS k K a) xs := fun M hm ca' c' H' p => by
  obtain ⟨q, r0⟩ := h M hm ca' c' H' p
  have r := r0 G fun a => .inl
  have hl := r.len
  cases k with
  | true =>
    refine ⟨⟨vs, q, by omega⟩, fun i d hd => ?_⟩
    obtain ⟨v, e1, e2⟩ := r.get hd
    refine ⟨⟨vs, v, q, e1⟩, fun x H2 ⟨e, y⟩ => ?_⟩
    subst e
    have := y vs q
    rw [e1] at this; cases this
    refine ⟨Post.refl p.cup, fun G' hG => ?_⟩
    obtain ⟨v', e1', e2'⟩ := (r0 G' hG).get hd
    rw [e1] at e1'; cases e1'
    exact e2'
  | false =>
    refine ⟨⟨vs, q, by omega⟩, fun i d hd => ?_⟩
    obtain ⟨v, e1, e2⟩ := r.get hd
    refine ⟨⟨vs, v, q, e1⟩, fun x H2 ⟨e, y⟩ => ?_⟩
    subst e
    have := y vs q
    rw [e1] at this; cases this
    refine ⟨Post.refl p.cup, fun G' hG => ?_⟩
    obtain ⟨v', e1', e2'⟩ := (r0 G' hG).get hd
    rw [e1] at e1'; cases e1'
    exact e2'
theorem walk_rng {lo : Int} {n : Nat} : WalkD K Fl G ca H (Itr lo n) (rngL lo n) := fun M hm ca' c' H' p => by
  refine ⟨?_, fun i d hd => ?_⟩
  · show n ≤ _
    unfold rngL
    simp
  · unfold rngL at hd
    rw [List.getElem?_map] at hd
    by_cases hi : i < n
    · rw [List.getElem?_range hi] at hd
      cases hd
      refine ⟨hi, fun x H2 ⟨e, y⟩ => ?_⟩
      subst e
      exact ⟨Post.refl p.cup, fun _ _ => y⟩
    · rw [List.getElem?_eq_none (by simpa using hi)] at hd; cases hd
theorem enumL_get {xs : List D} {i : Nat} {d : D} (h : (enumL xs)[i]? = some d) : ∃ x, xs[i]? = some x ∧ d = .tup [.int (i : Nat), x] := by
  unfold enumL at h
  rw [List.getElem?_zipWith] at h
  by_cases hi : i < xs.length
  · rw [List.getElem?_range hi, List.getElem?_eq_getElem hi] at h
    cases h
    exact ⟨_, List.getElem?_eq_getElem hi, rfl⟩
  · rw [List.getElem?_eq_none (l := List.range xs.length) (by simpa using hi)] at h; cases h
theorem enumL_len (xs : List D) : (enumL xs).length = xs.length := by unfold enumL; simp
theorem walk_enum {xs : List D} {k : Bool} {a : Addr} {vs : List V} (h : Stay K Fl G ca H k a xs vs) : WalkD K Fl G ca H (ItE k K a) (enumL xs) := fun M hm ca' c' H' p => by
  obtain ⟨q, r0⟩ := h M hm ca' c' H' p
  have r := r0 G fun a => .inl
  have hl := r.len
  refine ⟨⟨vs, q, by rw [enumL_len]; omega⟩, fun i d hd => ?_⟩
  obtain ⟨x, e0, rfl⟩ := enumL_get hd
  obtain ⟨v, e1, e2⟩ := r.get e0
  refine ⟨⟨vs, v, q, e1⟩, fun x2 H2 ⟨T, w, e3, nT, e4, y⟩ => ?_⟩
  subst e4
  have := y vs q
  rw [e1] at this; cases this
  have pp := (Post.refl p.cup).up (o := .tup [.int (i : Nat), v]) nT
  refine ⟨pp, fun G' hG => ?_⟩
  obtain ⟨v', e1', e2'⟩ := (r0 G' hG).get e0
  rw [e1] at e1'; cases e1'
  exact ⟨T, [.int (i : Nat), v], e3, SqT.of upd_same, .int (i : Nat), [v], rfl, rfl, v, [], rfl, Rep.post pp (fun _ => .inl) _ _ e2', rfl⟩
theorem walk_zip {xs ys : List D} {k l : Bool} {a b : Addr} {vs ws : List V} (h : Stay K Fl G ca H k a xs vs)
    (h2 : Stay K Fl G ca H l b ys ws) : WalkD K Fl G ca H (ItZ k l K a b) (zipD xs ys) := fun M hm ca' c' H' p => by
  obtain ⟨q, r0⟩ := h M hm ca' c' H' p
  obtain ⟨q', r0'⟩ := h2 M hm ca' c' H' p
  have r := r0 G fun a => .inl
  have r' := r0' G fun a => .inl
  have hl := r.len
  have hl' := r'.len
  have hz : (zipD xs ys).length = min xs.length ys.length := by unfold zipD; simp
  refine ⟨⟨vs, ws, q, q', by rw [hz]; omega, by rw [hz]; omega, by rw [hz]; omega⟩, fun i d hd => ?_⟩
  unfold zipD at hd
  rw [List.getElem?_zipWith] at hd
  cases e0 : xs[i]? with
  | none => rw [e0] at hd; cases hd
  | some x =>
    cases e0' : ys[i]? with
    | none => rw [e0, e0'] at hd; cases hd
    | some y =>
      rw [e0, e0'] at hd
      cases hd
      obtain ⟨v, e1, e2⟩ := r.get e0
      obtain ⟨w, e1', e2'⟩ := r'.get e0'
      refine ⟨⟨vs, ws, v, w, q, q', e1, e1'⟩, fun x2 H2 ⟨T, v', w', e3, nT, e4, y1, y2⟩ => ?_⟩
      subst e4
      have := y1 vs q
      rw [e1] at this; cases this
      have := y2 ws q'
      rw [e1'] at this; cases this
      have pp := (Post.refl p.cup).up (o := .tup [v, w]) nT
      refine ⟨pp, fun G' hG => ?_⟩
      obtain ⟨v3, f1, f2⟩ := (r0 G' hG).get e0
      rw [e1] at f1; cases f1
      obtain ⟨w3, g1, g2⟩ := (r0' G' hG).get e0'
      rw [e1'] at g1; cases g1
      exact ⟨T, [v, w], e3, SqT.of upd_same, v, [w], rfl, Rep.post pp (fun _ => .inl) _ _ f2, w, [], rfl, Rep.post pp (fun _ => .inl) _ _ g2, rfl⟩
end
def AfterI (K : PySem.W.Frag) (F G : Addr → Prop) (ca : Option Addr) (H : Hp) (R : RX) (cb cl : Bool) (o : Out (List D)) (Q : It → Hp → Prop) : Prop := match o with
  | .ok items c' => ∀ J ca' H', Post ca H ca' c' H' → WalkD K F (if cb then G else F) ca' H' J items → (cl = true → WalkD K G G ca' H' J items) → Q J H'
  | .err k c' => ∀ ca' H', Post ca H ca' c' H' → R k ca' c' H'
  | .no => False
section
variable (K : PySem.W.Frag) (own : List Nat) (R : RX) (Fn : Nat → List D → Cu → Out D)
def TIt (it : E) : TI := fun σ H Q => ∃ F ca c env, Rl K F own ca c env σ H ∧ AfterI K F (Fo F own env σ) ca H R (it.itb own) (it.itc own) (evI Fn it env c) Q
end
theorem AfterI.later {K : PySem.W.Frag} {F G : Addr → Prop} {ca ca1 : Option Addr} {c1 : Cu} {H H1 : Hp} {R : RX} {cb cl : Bool} {o : Out (List D)} {Q : It → Hp → Prop} (p : Post ca H ca1 c1 H1) (h : AfterI K F G ca H R cb cl o Q) : AfterI K F G ca1 H1 R cb cl o Q := by
  cases o with
  | ok d c => exact fun J ca' H' p' a b => h J ca' H' (p.trans p') a b
  | err k c => exact fun ca' H' p' => h ca' H' (p.trans p')
  | no => exact h
section
variable {K : PySem.W.Frag} {own : List Nat} {R : RX} {Fn : Nat → List D → Cu → Out D} {F : Addr → Prop} {ca : Option Addr} {c : Cu} {env : Env} {σ : L2.St} {H : Hp} {Q : It → Hp → Prop} {cb cl : Bool}
theorem T.bindI {e : E} {k : D → Cu → Out (List D)} (r : Rl K F own ca c env σ H) (h : AfterI K F (Fo F own env σ) ca H R cb cl ((ev Fn e env c).bind k) Q) :
    T K own R Fn e σ H fun v H1 => ∃ ca1 c1 d, ev Fn e env c = .ok d c1 ∧ Got K own F env σ e ca H ca1 c1 d v H1 ∧ AfterI K F (Fo F own env σ) ca1 H1 R cb cl (k d c1) Q := by
  refine ⟨F, ca, c, env, r, ?_⟩
  cases q : ev Fn e env c with
  | ok d c1 =>
    rw [q] at h
    exact fun v ca1 H1 p b s f => ⟨ca1, c1, d, rfl, ⟨r.post p, p, b, s, f⟩, AfterI.later p h⟩
  | err k c1 =>
    rw [q] at h
    exact h
  | no =>
    rw [q] at h
    exact h
theorem TL.bindI {es : E} {k : List D → Cu → Out (List D)} (r : Rl K F own ca c env σ H) (h : AfterI K F (Fo F own env σ) ca H R cb cl ((evs Fn es env c).bind k) Q) :
    TL K own R Fn es σ H fun vs H1 => ∃ ca1 c1 ds, evs Fn es env c = .ok ds c1 ∧ Rl K F own ca1 c1 env σ H1 ∧ Post ca H ca1 c1 H1 ∧ RepL K (if es.cls own then Fo F own env σ else F) ca1 H1 ds vs ∧ AfterI K F (Fo F own env σ) ca1 H1 R cb cl (k ds c1) Q := by
  refine ⟨F, ca, c, env, r, ?_⟩
  cases q : evs Fn es env c with
  | ok d c1 =>
    rw [q] at h
    exact fun v ca1 H1 p b => ⟨ca1, c1, d, rfl, r.post p, p, b, AfterI.later p h⟩
  | err k c1 =>
    rw [q] at h
    exact h
  | no =>
    rw [q] at h
    exact h
end
section
variable {X : Cx} {own : List Nat} {R : RX} {Fn : Nat → List D → Cu → Out D} {x y tg : Expr} {a b : E} {pos : Pos}
theorem cl_clb {e : E} (h : e.cl own = true) : e.clb own = true := by unfold E.clb; rw [h]; rfl
theorem i_seq (ha : PE X x (T X.K own R Fn a)) : PI X tg x (TIt X.K own R Fn (.itE a)) := by
  refine PI.imp (pi_seqK ha) fun σ H Q ⟨F, ca, c, env, r, h⟩ => ?_
  refine (T.bindI r h).mono fun v1 H1 ⟨ca1, c1, d1, _, g1, h1⟩ => ?_
  cases q : itemsOf d1 with
  | none => rw [q] at h1; exact h1.elim
  | some xs =>
    rw [q] at h1
    obtain ⟨k, ad, vs, e, q1, w1, w2⟩ := seqC q cl_clb (fun a h => .inl h) g1.b g1.s
    exact ⟨k, ad, vs, e, q1, h1 _ ca1 H1 (Post.refl g1.rl.cup) (walk_seq w1) fun hcl => walk_seq (w2 hcl)⟩
theorem i_enum {elts : List Expr} {kk : Nat} {p tpos : Pos} (hg : Gl X "enumerate") (hm : X.mg "enumerate" = none) (hx : plainX x = true) (ha : PE X x (T X.K own R Fn a)) : PI X (.Tuple elts kk tpos) (.Call (.Name "enumerate" p) [x] [] pos) (TIt X.K own R Fn (.itN a)) := by
  refine PI.imp (pi_enumK hg hm (pa_cons ha pa_nil (plain_star hx _ _)) (plain_star hx _ _)) fun σ H Q ⟨F, ca, c, env, r, h⟩ => ?_
  refine (T.bindI r h).mono fun v1 H1 ⟨ca1, c1, d1, _, g1, h1⟩ => ?_
  cases q : itemsOf d1 with
  | none => rw [q] at h1; exact h1.elim
  | some xs =>
    rw [q] at h1
    obtain ⟨k, ad, vs, e, q1, w1, w2⟩ := seqC q cl_clb (fun a h => .inl h) g1.b g1.s
    exact ⟨k, ad, vs, by rw [e], q1, h1 _ ca1 H1 (Post.refl g1.rl.cup) (walk_enum w1) fun hcl => walk_enum (w2 hcl)⟩
theorem i_rng {xs : List Expr} {es : E} {p : Pos} (hg : Gl X "range") (hm : X.mg "range" = none) (hp : plainL xs = true) (hl : xs.length = 1 ∨ xs.length = 2) (hle : es.len = xs.length) (ha : PA X xs (TL X.K own R Fn es)) : PI X tg (.Call (.Name "range" p) xs [] pos) (TIt X.K own R Fn (.itR es)) := by
  cases xs with
  | nil => simp at hl
  | cons x xs =>
    have hp' : (plainX x && plainL xs) = true := hp
    rw [Bool.and_eq_true] at hp'
    cases xs with
    | nil =>
      refine PI.imp (pi_range1 hg hm ha (plain_star hp'.1 _ _)) fun σ H Q ⟨F, ca, c, env, r, h⟩ => ?_
      refine (TL.bindI r h).mono fun vs H1 ⟨ca1, c1, ds, q, r1, p1, b1, h1⟩ => ?_
      have hd := evs_len q
      rw [hle] at hd
      cases q2 : rngv ds with
      | none => rw [q2] at h1; exact h1.elim
      | some items =>
        rw [q2] at h1
        match ds, hd, q2, b1 with
        | [.int n], _, q2, ⟨v, r, e1, h3, h4⟩ =>
          have q2 : (if smallI n then some (rngL 0 n.toNat) else none) = some items := q2
          split at q2
          · rename_i hs
            cases q2
            have hs : -(2 ^ 62) ≤ n ∧ n < 2 ^ 62 := smallI_iff.mp hs
            rw [e1, show v = .int n from h3, show r = [] from h4]
            exact ⟨n, rfl, hs.1, hs.2, h1 _ ca1 H1 (Post.refl r1.cup) walk_rng fun _ => walk_rng⟩
          · cases q2
    | cons y ys =>
      cases ys with
      | nil =>
        have hp2 : (plainX y && true) = true := hp'.2
        rw [Bool.and_true] at hp2
        refine PI.imp (pi_range2 hg hm ha (by rw [plain_star hp'.1, plain_star hp2]; rfl) (plain_star hp2 _ _)) fun σ H Q ⟨F, ca, c, env, r, h⟩ => ?_
        refine (TL.bindI r h).mono fun vs H1 ⟨ca1, c1, ds, q, r1, p1, b1, h1⟩ => ?_
        have hd := evs_len q
        rw [hle] at hd
        cases q2 : rngv ds with
        | none => rw [q2] at h1; exact h1.elim
        | some items =>
          rw [q2] at h1
          match ds, hd, q2, b1 with
          | [.int n, .int m], _, q2, ⟨v, r, e1, h3, v', r', e1', h3', h4⟩ =>
            have q2 : (if smallI n && smallI m then some (rngL n (m - n).toNat) else none) = some items := q2
            split at q2
            · rename_i hs
              cases q2
              rw [Bool.and_eq_true] at hs
              have hs1 : -(2 ^ 62) ≤ n ∧ n < 2 ^ 62 := smallI_iff.mp hs.1
              have hs2 : -(2 ^ 62) ≤ m ∧ m < 2 ^ 62 := smallI_iff.mp hs.2
              rw [e1, e1', show v = .int n from h3, show v' = .int m from h3', show r' = [] from h4]
              exact ⟨n, m, rfl, ⟨hs1.1, hs1.2, hs2.1, hs2.2⟩, h1 _ ca1 H1 (Post.refl r1.cup) walk_rng fun _ => walk_rng⟩
            · cases q2
      | cons _ _ => simp at hl
theorem i_zip {elts : List Expr} {kk : Nat} {p tpos : Pos} (hg : Gl X "zip") (hm : X.mg "zip" = none) (hx : plainX x = true) (hy : plainX y = true) (ha : PE X x (T X.K own R Fn a)) (hb : PE X y (T X.K own R Fn b)) : PI X (.Tuple elts kk tpos) (.Call (.Name "zip" p) [x, y] [] pos) (TIt X.K own R Fn (.itZ a b)) := by
  refine PI.imp (pi_zipK hg hm (pa_cons ha (pa_cons hb pa_nil (plain_star hy _ _)) (plain_star hx _ _)) (plain_star hx _ _) (plainL_any (xs := [y]) (by show (plainX y && true) = true; rw [hy]; rfl))) fun σ H Q ⟨F, ca, c, env, r, h⟩ => ?_
  refine (T.bindI r h).mono fun v1 H1 ⟨ca1, c1, d1, _, g1, h1⟩ => ?_
  refine (T.bindI g1.rl h1).mono fun v2 H2 ⟨ca2, c2, d2, _, g2, h2⟩ => ?_
  cases q : itemsOf d1 with
  | none => rw [q] at h2; exact h2.elim
  | some xs =>
    cases q' : itemsOf d2 with
    | none => rw [q, q'] at h2; exact h2.elim
    | some ys =>
      rw [q, q'] at h2
      have hpost : ∀ a, Fo F own env σ a → Fo F own env σ a ∨ H1 a = none := fun a => .inl
      obtain ⟨k, ad, vs, e, q1, w1, w2⟩ := seqC q cl_clb (fun a h => .inl h) (g1.b.post g2.post) (fun z => Rep.post g2.post hpost _ _ (g1.s z))
      obtain ⟨l, bd, ws, e', q1', w1', w2'⟩ := seqC q' cl_clb (fun a h => .inl h) g2.b g2.s
      refine ⟨k, l, ad, bd, vs, ws, by rw [e, e'], q1, q1', h2 _ ca2 H2 (Post.refl g2.rl.cup) ?_ fun hcl => ?_⟩
      · cases hcb : (E.itZ a b).itb own with
        | true =>
          have hcb : (a.clb own && b.clb own) = true := hcb
          rw [Bool.and_eq_true] at hcb
          rw [hcb.1] at w1; rw [hcb.2] at w1'
          exact walk_zip w1 w1'
        | false =>
          have wk : ∀ {b : Bool} {k a xs vs}, Stay X.K F (if b then Fo F own env σ else F) ca2 H2 k a xs vs → Stay X.K F F ca2 H2 k a xs vs := fun {b k a xs vs} w => by
            cases b
            · exact w
            · exact fun M hm ca' c' H' p => ⟨(w M hm ca' c' H' p).1, fun G' hG => (w M hm ca' c' H' p).2 G' fun a z => (hG a z).imp .inl id⟩
          exact walk_zip (wk w1) (wk w1')
      · have hcl : (a.cl own && b.cl own) = true := hcl
        rw [Bool.and_eq_true] at hcl
        exact walk_zip (w2 hcl.1) (w2' hcl.2)
end
end Ev

set_option maxRecDepth 100000
/-! EvLc: the loops of a comprehension's block. -/
namespace Ev
open PySem PySem.Spec PyProof.Rows L2
abbrev R0 : RX := fun _ _ _ _ => False
def TTs (K : PySem.W.Frag) (own : List Nat) (R : RX) (Fn : Nat → List D → Cu → Out D) (ifs : E) : TT := fun σ H Q => ∃ F ca c env, Rl K F own ca c env σ H ∧ AfterB ca H R (evT Fn ifs env c) Q
def ClOk (B : Cx) (own : List Nat) (Fn : Nat → List D → Cu → Out D) (elt : Expr) : Bool → E → List Comprehension → Prop
  | fst, .gn t it ifs gs, g :: rest => (∃ tg iter is, g = ⟨tg, iter, is, 0⟩ ∧ (PG B tg (gT B.K own t) ∧ t.noO = true) ∧ (fst = false → PI B tg iter (TIt B.K own R0 Fn it) ∧ it.itb own = true ∧ plainX iter = true) ∧ PTs B is (TTs B.K own R0 Fn ifs)) ∧ ClOk B own Fn elt false gs rest
  | _, .el a, [] => PE B elt (T B.K own R0 Fn a) ∧ a.cl own = true
  | _, _, _ => False
def turnF (Fn : Nat → List D → Cu → Out D) (t : Tg) (ifs gs : E) (env : Env) : D → Cu → Out (List D) := fun x c => match bindT t x env with
  | some env' => (evT Fn ifs env' c).bind fun b c => match b with
    | true => evG Fn gs env' env' c
    | false => .ok [] c
  | none => .no
def LoopS (B : Cx) (own : List Nat) (Fn : Nat → List D → Cu → Out D) (e : Expr) (D0 : Addr) (tg : Expr) (t : Tg) (ifs gs : E) (sl : List Nat) (k : Nat) : Prop :=
  ∀ (pins : List (Addr × Obj)) (s : Shared) (σ : L2.St) (H : Hp) (it : Addr) (fp : List Addr) (tn : Nat → Heap → Prop) (J : It) (items : List D) (F : Addr → Prop) (ca : Option Addr) (c c' : Cu) (env : Env) (acc : List V) (ds : List D) (R' : Result → Shared → Prop),
    Inv B pins σ H s → Turn B.prog B.w B.K tg J fp it tn → tn 0 s.heap → (∀ b ∈ fp, FpOk B pins H b) → Rl B.K F own ca c env σ H → F D0 → H D0 = some (.lst acc) → some D0 ≠ ca →
    WalkD B.K F (Fo F own env σ) ca H J items → (∀ i ∈ sl, ∀ v, σ[i]? ≠ some (some v)) →
    loopL (turnF Fn t ifs gs env) items c = .ok ds c' → acc.length + ds.length ≤ sizeLine →
    (∀ s' H' ca' vs, Inv B pins σ H' s' → Later (fun a => a = D0) ca H ca' c' H' → H' D0 = some (.lst (acc ++ vs)) → RepL B.K (Fo F own env σ) ca' H' ds vs → R' (.ok .next) s') →
    codeAny (model B.prog B.w) B.A (.compLoop e k (.ref it) (.ref D0) B.env) R' s
theorem loopL_cons {f : D → Cu → Out (List D)} {x : D} {xs ds : List D} {c c' : Cu} (h : loopL f (x :: xs) c = .ok ds c') : ∃ r c1 q, f x c = .ok r c1 ∧ loopL f xs c1 = .ok q c' ∧ ds = r ++ q := by
  have h : ((f x c).bind fun r c1 => (loopL f xs c1).bind fun q c2 => .ok (r ++ q) c2) = .ok ds c' := h
  cases h1 : f x c with
  | ok r c1 =>
    rw [h1, bind_ok] at h
    cases h2 : loopL f xs c1 with
    | ok q c2 =>
      rw [h2, bind_ok] at h
      cases h
      exact ⟨r, c1, q, rfl, h2, rfl⟩
    | err _ _ => rw [h2] at h; cases h
    | no => rw [h2] at h; cases h
  | err _ _ => rw [h1] at h; cases h
  | no => rw [h1] at h; cases h
section
variable {B : Cx} {own : List Nat} {Fn : Nat → List D → Cu → Out D} {elt : Expr} {gens : List Comprehension} {scope : Scope} {pos : Pos}
theorem fo_iff {F : Addr → Prop} {env env' : Env} {σ σ' : L2.St} (h : ∀ a, OwnA own env' σ' a ↔ OwnA own env σ a) : Fo F own env' σ' = Fo F own env σ := by
  funext a
  exact propext ⟨fun z => z.imp id (h a).mp, fun z => z.imp id (h a).mpr⟩
theorem loop_all (hxe : B.xe = fun _ _ => False) (hc : B.calm = true) (D0 : Addr) : ∀ (gs : E) (t : Tg) (it ifs : E) (fst : Bool) (tg iter : Expr) (is : List Expr) (rest : List Comprehension) (k : Nat),
    gens[k]? = some ⟨tg, iter, is, 0⟩ → (∀ j, gens[k + 1 + j]? = rest[j]?) → ClOk B own Fn elt fst (.gn t it ifs gs) (⟨tg, iter, is, 0⟩ :: rest) → (E.gn t it ifs gs).slots.Nodup →
    LoopS B own Fn (.ListComp elt gens scope pos) D0 tg t ifs gs (E.gn t it ifs gs).slots k := by
  intro gs
  induction gs with
  | el a _ =>
    rintro t it ifs fst tg iter is rest k hk hr ⟨⟨tg', iter', is', e, ⟨hG, hno⟩, _, hT⟩, hE⟩ hnd
    cases e
    cases rest with
    | cons _ _ => exact hE.elim
    | nil =>
      obtain ⟨hE, hcl⟩ := hE
      intro pins s σ H ita fp tn J items F ca c c' env acc ds R' I Tn st f0 rl fD hD nca hW hsl hL hz hR
      have hk1 : gens[k + 1]? = none := by have := hr 0; simpa using this
      refine compLoopK_last hk hk1 (fun n s' => ∃ i H' ca' ci vsI dsI dsR, Inv B pins σ H' s' ∧ tn i s'.heap ∧ (∀ b ∈ fp, H' b = none) ∧ n = items.length - i ∧ i ≤ items.length ∧ Later (fun a => a = D0) ca H ca' ci H' ∧
        H' D0 = some (.lst (acc ++ vsI)) ∧ RepL B.K (Fo F own env σ) ca' H' dsI vsI ∧ loopL (turnF Fn t ifs (.el a) env) (items.drop i) ci = .ok dsR c' ∧ ds = dsI ++ dsR) ?_ items.length
        ⟨0, H, ca, c, [], [], ds, I, st, fun b hb => (f0 b hb).1, by simp, Nat.zero_le _, Later.refl rl.cup, by rw [List.append_nil]; exact hD, rfl, by simpa using hL, rfl⟩
      rintro n s5 ⟨i, H5, ca5, c5, vsI, dsI, dsR, I5, st5, n5, hn, hi, lt5, hD5, rp5, hL5, hds⟩
      have stat : ∀ {H' : Hp}, (∀ b ∈ fp, H' b = none) → ∀ b ∈ fp, FpOk B pins H' b := fun hn b hb => ⟨hn b hb, (f0 b hb).2⟩
      have hM : ∀ a, a = D0 → F a ∨ H a = none := fun a e => .inl (e ▸ fD)
      obtain ⟨hstop, hgo⟩ := hW _ hM ca5 c5 H5 lt5
      by_cases hlt : i < items.length
      · have hd : items[i]? = some items[i] := List.getElem?_eq_getElem hlt
        obtain ⟨go, yl⟩ := hgo i _ hd
        rw [List.drop_eq_getElem_cons hlt] at hL5
        obtain ⟨r, c6, q, hf, hq, hrq⟩ := loopL_cons hL5
        refine thnF (Tn.item B rfl rfl rfl hc i pins s5 σ H5 (fun _ _ => False) I5 (stat n5) st5 go) fun r1 s6 ⟨u, hr1, h6⟩ => ?_
        subst hr1
        refine thnF h6 fun _ s7 ⟨x, H7, I7, r7, y7, st7, n7⟩ => ?_
        obtain ⟨p7, rx0⟩ := yl x H7 y7
        have rx := rx0 (Fo F own env σ) fun a => .inl
        have I7' := I7.pinned (stat n7) (Tn.obj _ _ st7)
        have lt7 := lt5.trans p7.later (N := fun a => a = D0) fun a => .inl
        have rl7 := rl.later lt7 hM
        unfold turnF at hf
        cases hb : bindT t items[i] env with
        | none => rw [hb] at hf; cases hf
        | some env' =>
          rw [hb] at hf
          have hf : ((evT Fn ifs env' c5).bind fun b c => match b with
            | true => evG Fn (.el a) env' env' c
            | false => .ok [] c) = .ok r c6 := hf
          have pgr := hG.run _ s7 σ H7 x u (fun σ8 H8 => H8 = H7 ∧ Rl B.K F own ca5 c5 env' σ8 H7 ∧ (∀ a, OwnA own env' σ8 a ↔ OwnA own env σ a) ∧ (∀ i, i ∉ t.slots → σ8[i]? = σ[i]?)) I7' r7
            ⟨F, ca5, c5, env, _, env', rl7, rx, hb, fun σ' a b b2 c => ⟨rfl, a, fun x => ⟨b x, b2 hno x⟩, c⟩⟩
          rw [hxe] at pgr
          refine thnF pgr fun _ s8 ⟨σ8, H8, I8, e8, rl8, ow8, k8⟩ => ?_
          subst e8
          have fin : ∀ {s' : Shared} {H' : Hp} {ca' : Option Addr} {vsR : List V}, Inv B (pins ++ pinsAt fp s7.heap) σ8 H' s' → Later (fun a => a = D0) ca H ca' c6 H' → H' D0 = some (.lst (acc ++ vsI ++ vsR)) → RepL B.K (Fo F own env σ) ca' H' (dsI ++ r) (vsI ++ vsR) →
              ∃ m, m < n ∧ ∃ i H' ca' ci vsI dsI dsR, Inv B pins σ H' s' ∧ tn i s'.heap ∧ (∀ b ∈ fp, H' b = none) ∧ m = items.length - i ∧ i ≤ items.length ∧ Later (fun a => a = D0) ca H ca' ci H' ∧
                H' D0 = some (.lst (acc ++ vsI)) ∧ RepL B.K (Fo F own env σ) ca' H' dsI vsI ∧ loopL (turnF Fn t ifs (.el a) env) (items.drop i) ci = .ok dsR c' ∧ ds = dsI ++ dsR := fun {s' H' ca' vsR} I' lt' hD' rp' => by
            have pin' : ∀ b ∈ fp, ∀ o, s7.heap.get? b = some o → s'.heap.get? b = some o ∧ H' b = none := fun b hb o e =>
              let z := I'.pin (b, o) (List.mem_append_right _ (List.mem_append_right _ (mem_pinsAt hb e)))
              ⟨z.1, z.2.1⟩
            refine ⟨items.length - (i + 1), by omega, i + 1, H', ca', c6, vsI ++ vsR, dsI ++ r, q, (I'.unpinned (pins := pins)).weak (by rw [I5.len, I'.len]) (fun j v e => ?_), Tn.keep _ _ _ st7 fun b hb o e => (pin' b hb o e).1, fun b hb => ?_, rfl, hlt, lt', by rw [← List.append_assoc]; exact hD', rp', hq, by rw [hds, hrq, List.append_assoc]⟩
            · have hj : j ∉ t.slots := fun z => hsl j (List.mem_append_left _ z) v e
              rw [k8 j hj]; exact e
            · obtain ⟨o, e, _⟩ := Tn.obj _ _ st7 b hb
              exact (pin' b hb o e).2
          cases ht : evT Fn ifs env' c5 with
          | err _ _ => rw [ht] at hf; cases hf
          | no => rw [ht] at hf; cases hf
          | ok b c7 =>
            rw [ht, bind_ok] at hf
            have ptr := hT.run _ s8 σ8 H8 (fun b' H9 => b' = b ∧ ∃ ca9, Post ca5 H8 ca9 c7 H9) I8 ⟨F, ca5, c5, env', rl8, by rw [ht]; exact fun ca' H' p => ⟨rfl, ca', p⟩⟩
            rw [hxe] at ptr
            refine thnF ptr fun b' s9 ⟨H9, I9, e9, ca9, p9⟩ => ?_
            subst e9
            have lt9 := lt7.trans p9.later (N := fun a => a = D0) fun a => .inl
            have nca5 : some D0 ≠ ca5 := lt5.cupN (by rw [hD]; simp) nca
            have hD9 : H9 D0 = some (.lst (acc ++ vsI)) ∧ some D0 ≠ ca9 := p9.lst (p7.lst hD5 nca5).1 (p7.lst hD5 nca5).2
            have rp9 : RepL B.K (Fo F own env σ) ca9 H9 dsI vsI := RepL.post (p7.trans p9) (fun a => .inl) _ _ rp5
            cases b' with
            | false =>
              simp only [Bool.false_eq_true, if_false]
              have hf : Out.ok [] c7 = .ok r c6 := hf
              cases hf
              refine fin (vsR := []) I9 lt9 (by rw [List.append_nil]; exact hD9.1) (by rw [List.append_nil, List.append_nil]; exact rp9)
            | true =>
              simp only [if_true]
              have hf : ((ev Fn a env' c7).bind fun d c => .ok [d] c) = .ok r c6 := hf
              cases he : ev Fn a env' c7 with
              | err _ _ => rw [he] at hf; cases hf
              | no => rw [he] at hf; cases hf
              | ok dd c8 =>
                rw [he, bind_ok] at hf
                cases hf
                have per := hE.run _ s9 σ8 H9 (fun y H10 => ∃ ca10, Post ca9 H9 ca10 c6 H10 ∧ Rep B.K (Fo F own env' σ8) ca10 H10 dd y) I9 ⟨F, ca9, c7, env', rl8.post p9, by
                  rw [he]; exact fun v ca' H' p rb rs _ => ⟨ca', p, rs hcl⟩⟩
                rw [hxe] at per
                refine thnF per fun z s10 ⟨y, H10, I10, r10, ca10, p10, rp10⟩ => ?_
                rw [fo_iff ow8] at rp10
                have hD10 := p10.lst hD9.1 hD9.2
                have lt10 := lt9.trans p10.later (N := fun a => a = D0) fun a => .inl
                have hlen : (acc ++ vsI).length < sizeLine := by
                  rw [List.length_append, ← rp5.len]
                  rw [hds, hrq] at hz
                  simp at hz
                  omega
                refine app_ok I10 hD10.1 hlen r10 fun s11 I11 => ?_
                have up := Later.upd (o' := .lst (acc ++ vsI ++ [y])) p10.cup hD10.1 (.inl ⟨_, rfl⟩) hD10.2
                have nf : ∀ a, a = D0 → Fo F own env σ a ∨ H10 a = none := fun a e => .inl (.inl (e ▸ fD))
                refine fin (vsR := [y]) I11 (lt10.trans up fun a => .inl) upd_same ?_
                exact RepL.app (RepL.later up nf (fun a => .inl) _ _ (RepL.post p10 (fun a => .inl) _ _ rp9)) ⟨y, [], rfl, Rep.later up nf (fun a => .inl) _ _ rp10, rfl⟩
      · have ei : i = items.length := by omega
        subst ei
        refine thnF (Tn.done B rfl rfl rfl hc _ pins s5 σ H5 (fun _ _ => False) I5 (stat n5) st5 hstop) fun r1 s6 ⟨hr1, I6⟩ => ?_
        subst hr1
        rw [List.drop_length] at hL5
        have hL5 : Out.ok [] c5 = .ok dsR c' := hL5
        cases hL5
        rw [List.append_nil] at hds
        subst hds
        exact hR s6 H5 ca5 vsI I6 lt5 hD5 rp5
  | gn t1 it1 ifs1 gs1 _ _ ih =>
    rintro t it ifs fst tg iter is rest k hk hr ⟨⟨tg', iter', is', e, ⟨hG, hno⟩, _, hT⟩, hE⟩ hnd
    cases e
    cases rest with
    | nil => exact hE.elim
    | cons g1 rest =>
      have hE0 := hE
      obtain ⟨⟨tg1, iter1, is1, e1, hG1, hI1, hT1⟩, hE1⟩ := hE
      obtain ⟨hI1, hib, hpl⟩ := hI1 rfl
      subst e1
      have hk1 : gens[k + 1]? = some ⟨tg1, iter1, is1, 0⟩ := by have := hr 0; simpa using this
      have hnd' : (t.slots ++ (E.gn t1 it1 ifs1 gs1).slots).Nodup := hnd
      have inner := ih t1 it1 ifs1 false tg1 iter1 is1 rest (k + 1) hk1 (fun j => by have := hr (j + 1); rw [show k + 1 + (j + 1) = k + 1 + 1 + j by omega] at this; simpa using this) hE0 (List.nodup_append.mp hnd').2.1
      intro pins s σ H ita fp tn J items F ca c c' env acc ds R' I Tn st f0 rl fD hD nca hW hsl hL hz hR
      refine compLoopK_mid (fun x => plain_set hpl _ x) hk hk1 (fun n s' => ∃ i H' ca' ci vsI dsI dsR, Inv B pins σ H' s' ∧ tn i s'.heap ∧ (∀ b ∈ fp, H' b = none) ∧ n = items.length - i ∧ i ≤ items.length ∧ Later (fun a => a = D0) ca H ca' ci H' ∧
        H' D0 = some (.lst (acc ++ vsI)) ∧ RepL B.K (Fo F own env σ) ca' H' dsI vsI ∧ loopL (turnF Fn t ifs (.gn t1 it1 ifs1 gs1) env) (items.drop i) ci = .ok dsR c' ∧ ds = dsI ++ dsR) ?_ items.length
        ⟨0, H, ca, c, [], [], ds, I, st, fun b hb => (f0 b hb).1, by simp, Nat.zero_le _, Later.refl rl.cup, by rw [List.append_nil]; exact hD, rfl, by simpa using hL, rfl⟩
      rintro n s5 ⟨i, H5, ca5, c5, vsI, dsI, dsR, I5, st5, n5, hn, hi, lt5, hD5, rp5, hL5, hds⟩
      have stat : ∀ {H' : Hp}, (∀ b ∈ fp, H' b = none) → ∀ b ∈ fp, FpOk B pins H' b := fun hn b hb => ⟨hn b hb, (f0 b hb).2⟩
      have hM : ∀ a, a = D0 → F a ∨ H a = none := fun a e => .inl (e ▸ fD)
      obtain ⟨hstop, hgo⟩ := hW _ hM ca5 c5 H5 lt5
      by_cases hlt : i < items.length
      · have hd : items[i]? = some items[i] := List.getElem?_eq_getElem hlt
        obtain ⟨go, yl⟩ := hgo i _ hd
        rw [List.drop_eq_getElem_cons hlt] at hL5
        obtain ⟨r, c6, q, hf, hq, hrq⟩ := loopL_cons hL5
        refine thnF (Tn.item B rfl rfl rfl hc i pins s5 σ H5 (fun _ _ => False) I5 (stat n5) st5 go) fun r1 s6 ⟨u, hr1, h6⟩ => ?_
        subst hr1
        refine thnF h6 fun _ s7 ⟨x, H7, I7, r7, y7, st7, n7⟩ => ?_
        obtain ⟨p7, rx0⟩ := yl x H7 y7
        have rx := rx0 (Fo F own env σ) fun a => .inl
        have I7' := I7.pinned (stat n7) (Tn.obj _ _ st7)
        have lt7 := lt5.trans p7.later (N := fun a => a = D0) fun a => .inl
        have rl7 := rl.later lt7 hM
        unfold turnF at hf
        cases hb : bindT t items[i] env with
        | none => rw [hb] at hf; cases hf
        | some env' =>
          rw [hb] at hf
          have hf : ((evT Fn ifs env' c5).bind fun b c => match b with
            | true => evG Fn (.gn t1 it1 ifs1 gs1) env' env' c
            | false => .ok [] c) = .ok r c6 := hf
          have pgr := hG.run _ s7 σ H7 x u (fun σ8 H8 => H8 = H7 ∧ Rl B.K F own ca5 c5 env' σ8 H7 ∧ (∀ a, OwnA own env' σ8 a ↔ OwnA own env σ a) ∧ (∀ i, i ∉ t.slots → σ8[i]? = σ[i]?)) I7' r7
            ⟨F, ca5, c5, env, _, env', rl7, rx, hb, fun σ' a b b2 c => ⟨rfl, a, fun x => ⟨b x, b2 hno x⟩, c⟩⟩
          rw [hxe] at pgr
          refine thnF pgr fun _ s8 ⟨σ8, H8, I8, e8, rl8, ow8, k8⟩ => ?_
          subst e8
          have fin : ∀ {s' : Shared} {H' : Hp} {ca' : Option Addr} {vsR : List V}, Inv B (pins ++ pinsAt fp s7.heap) σ8 H' s' → Later (fun a => a = D0) ca H ca' c6 H' → H' D0 = some (.lst (acc ++ vsI ++ vsR)) → RepL B.K (Fo F own env σ) ca' H' (dsI ++ r) (vsI ++ vsR) →
              ∃ m, m < n ∧ ∃ i H' ca' ci vsI dsI dsR, Inv B pins σ H' s' ∧ tn i s'.heap ∧ (∀ b ∈ fp, H' b = none) ∧ m = items.length - i ∧ i ≤ items.length ∧ Later (fun a => a = D0) ca H ca' ci H' ∧
                H' D0 = some (.lst (acc ++ vsI)) ∧ RepL B.K (Fo F own env σ) ca' H' dsI vsI ∧ loopL (turnF Fn t ifs (.gn t1 it1 ifs1 gs1) env) (items.drop i) ci = .ok dsR c' ∧ ds = dsI ++ dsR := fun {s' H' ca' vsR} I' lt' hD' rp' => by
            have pin' : ∀ b ∈ fp, ∀ o, s7.heap.get? b = some o → s'.heap.get? b = some o ∧ H' b = none := fun b hb o e =>
              let z := I'.pin (b, o) (List.mem_append_right _ (List.mem_append_right _ (mem_pinsAt hb e)))
              ⟨z.1, z.2.1⟩
            refine ⟨items.length - (i + 1), by omega, i + 1, H', ca', c6, vsI ++ vsR, dsI ++ r, q, (I'.unpinned (pins := pins)).weak (by rw [I5.len, I'.len]) (fun j v e => ?_), Tn.keep _ _ _ st7 fun b hb o e => (pin' b hb o e).1, fun b hb => ?_, rfl, hlt, lt', by rw [← List.append_assoc]; exact hD', rp', hq, by rw [hds, hrq, List.append_assoc]⟩
            · have hj : j ∉ t.slots := fun z => hsl j (List.mem_append_left _ z) v e
              rw [k8 j hj]; exact e
            · obtain ⟨o, e, _⟩ := Tn.obj _ _ st7 b hb
              exact (pin' b hb o e).2
          cases ht : evT Fn ifs env' c5 with
          | err _ _ => rw [ht] at hf; cases hf
          | no => rw [ht] at hf; cases hf
          | ok b c7 =>
            rw [ht, bind_ok] at hf
            have ptr := hT.run _ s8 σ8 H8 (fun b' H9 => b' = b ∧ ∃ ca9, Post ca5 H8 ca9 c7 H9) I8 ⟨F, ca5, c5, env', rl8, by rw [ht]; exact fun ca' H' p => ⟨rfl, ca', p⟩⟩
            rw [hxe] at ptr
            refine thnF ptr fun b' s9 ⟨H9, I9, e9, ca9, p9⟩ => ?_
            subst e9
            have lt9 := lt7.trans p9.later (N := fun a => a = D0) fun a => .inl
            have nca5 : some D0 ≠ ca5 := lt5.cupN (by rw [hD]; simp) nca
            have hD9 : H9 D0 = some (.lst (acc ++ vsI)) ∧ some D0 ≠ ca9 := p9.lst (p7.lst hD5 nca5).1 (p7.lst hD5 nca5).2
            have rp9 : RepL B.K (Fo F own env σ) ca9 H9 dsI vsI := RepL.post (p7.trans p9) (fun a => .inl) _ _ rp5
            cases b' with
            | false =>
              simp only [Bool.false_eq_true, if_false]
              have hf : Out.ok [] c7 = .ok r c6 := hf
              cases hf
              refine fin (vsR := []) I9 lt9 (by rw [List.append_nil]; exact hD9.1) (by rw [List.append_nil, List.append_nil]; exact rp9)
            | true =>
              simp only [if_true]
              have hf : ((evI Fn it1 env' c7).bind fun items c => loopL (turnF Fn t1 ifs1 gs1 env') items c) = .ok r c6 := hf
              cases he : evI Fn it1 env' c7 with
              | err _ _ => rw [he] at hf; cases hf
              | no => rw [he] at hf; cases hf
              | ok items1 c8 =>
                rw [he, bind_ok] at hf
                have pir := hI1.run _ s9 σ8 H9 (fun J1 H10 => ∃ ca10, Post ca9 H9 ca10 c8 H10 ∧ WalkD B.K F (Fo F own env' σ8) ca10 H10 J1 items1) I9 ⟨F, ca9, c7, env', rl8.post p9, by
                  rw [he, hib]; exact fun J1 ca' H' p w _ => ⟨ca', p, w⟩⟩
                rw [hxe] at pir
                refine thnF pir fun xv s10 hx => thnF hx fun itv s11 h11 => ?_
                obtain ⟨ita1, fp1, tn1, J1, H11, e1, I11, T1, st11, f11, ca11, p11, w11⟩ := h11
                subst e1
                have hD11 := p11.lst hD9.1 hD9.2
                have lt11 := lt9.trans p11.later (N := fun a => a = D0) fun a => .inl
                have loop1 := inner _ s11 σ8 H11 ita1 fp1 tn1 J1 items1 F ca11 c8 c6 env' (acc ++ vsI) r (fun r s' => match r with
                  | .ok _ => ∃ m, m < n ∧ ∃ i H' ca' ci vsI dsI dsR, Inv B pins σ H' s' ∧ tn i s'.heap ∧ (∀ b ∈ fp, H' b = none) ∧ m = items.length - i ∧ i ≤ items.length ∧ Later (fun a => a = D0) ca H ca' ci H' ∧
                    H' D0 = some (.lst (acc ++ vsI)) ∧ RepL B.K (Fo F own env σ) ca' H' dsI vsI ∧ loopL (turnF Fn t ifs (.gn t1 it1 ifs1 gs1) env) (items.drop i) ci = .ok dsR c' ∧ ds = dsI ++ dsR
                  | .error _ => False) I11 T1 st11 f11 ((rl8.post p9).post p11) fD hD11.1 hD11.2 w11 (fun j hj v e => ?_) hf (by
                    rw [List.length_append, ← rp5.len]
                    rw [hds, hrq] at hz
                    simp at hz
                    omega) fun s' H' ca' vs I' lt' hD' rp' => ?_
                · refine compStartK hk1 loop1 (T1.self B.A 0 _ _ _ st11 loop1)
                · have hj2 : j ∉ t.slots := fun z => (List.nodup_append.mp hnd').2.2 j z j hj rfl
                  rw [k8 j hj2] at e
                  exact hsl j (List.mem_append_right _ hj) v e
                · rw [fo_iff ow8] at rp'
                  have nf : ∀ a, a = D0 → Fo F own env σ a ∨ H11 a = none := fun a e => .inl (.inl (e ▸ fD))
                  exact fin (vsR := vs) I' (lt11.trans lt' fun a => .inl) hD' (RepL.app (RepL.later lt' nf (fun a => .inl) _ _ (RepL.post p11 (fun a => .inl) _ _ rp9)) rp')
      · have ei : i = items.length := by omega
        subst ei
        refine thnF (Tn.done B rfl rfl rfl hc _ pins s5 σ H5 (fun _ _ => False) I5 (stat n5) st5 hstop) fun r1 s6 ⟨hr1, I6⟩ => ?_
        subst hr1
        rw [List.drop_length] at hL5
        have hL5 : Out.ok [] c5 = .ok dsR c' := hL5
        cases hL5
        rw [List.append_nil] at hds
        subst hds
        exact hR s6 H5 ca5 vsI I6 lt5 hD5 rp5
  | _ =>
    rintro t it ifs fst tg iter is rest k hk hr ⟨_, hE⟩ hnd
    cases rest <;> exact hE.elim
end
end Ev

set_option maxRecDepth 100000
/-! EvLd: a comprehension as a whole. -/
namespace Ev
open PySem PySem.Spec PyProof.Rows L2
theorem Later.post {M : Addr → Prop} {ca ca' : Option Addr} {c' : Cu} {H H' : Hp} (p : Later M ca H ca' c' H') (h : ∀ a, M a → H a = none) : Post ca H ca' c' H' :=
  ⟨fun b o e => (p.ext b o e).imp id fun z => z.elim (fun z => by rw [h b z.1] at e; cases e) id, p.le, p.cup⟩
theorem wipeE_length (env : Env) : ∀ vs : List Nat, (wipeE env vs).length = env.length
  | [] => rfl
  | v :: vs => by unfold wipeE; rw [List.length_set, wipeE_length env vs]
theorem gv_wipe {env : Env} {i : Nat} : ∀ {vs : List Nat}, gv (wipeE env vs) i = if i ∈ vs then none else gv env i
  | [] => rfl
  | v :: vs => by
    unfold wipeE
    rw [gv_set]
    by_cases h : v = i
    · subst h
      rw [if_pos rfl, if_pos List.mem_cons_self]
      split <;> rfl
    · rw [if_neg h, gv_wipe]
      have : (i ∈ v :: vs) ↔ i ∈ vs := by
        rw [List.mem_cons]
        exact ⟨fun z => z.elim (fun z => absurd z.symm h) id, .inr⟩
      by_cases hi : i ∈ vs
      · rw [if_pos hi, if_pos (this.mpr hi)]
      · rw [if_neg hi, if_neg (fun z => hi (this.mp z))]
section
variable {K : PySem.W.Frag} {F : Addr → Prop} {own vs : List Nat} {ca : Option Addr} {c : Cu} {H : Hp} {env : Env} {σ : L2.St}
theorem ownA_wipe (hv : ∀ i ∈ vs, i ∉ own) (a : Addr) : OwnA own (wipeE env vs) (wipe σ vs) a ↔ OwnA own env σ a := by
  constructor
  · rintro ⟨i, hi, ⟨d, hd⟩, e⟩
    rw [gv_wipe] at hd
    by_cases h : i ∈ vs
    · exact absurd hi (hv i h)
    · rw [if_neg h] at hd
      rw [wipe_out h] at e
      exact ⟨i, hi, ⟨d, hd⟩, e⟩
  · rintro ⟨i, hi, ⟨d, hd, hb⟩, e⟩
    have h : i ∉ vs := fun h => hv i h hi
    exact ⟨i, hi, ⟨d, by rw [gv_wipe, if_neg h]; exact hd, hb⟩, by rw [wipe_out h]; exact e⟩
theorem Rl.wipe (r : Rl K F own ca c env σ H) (hv : ∀ i ∈ vs, i ∉ own) : Rl K F own ca c (wipeE env vs) (L2.wipe σ vs) H where
  len := by rw [wipeE_length, wipe_length]; exact r.len
  dom := r.dom
  cup := r.cup
  slot := fun i d hi hd => by
    rw [gv_wipe] at hd
    by_cases h : i ∈ vs
    · rw [if_pos h] at hd; cases hd
    · rw [if_neg h] at hd
      obtain ⟨v, e, q⟩ := r.slot i d hi hd
      exact ⟨v, by rw [wipe_out h]; exact e, by rw [fo_iff (ownA_wipe hv)]; exact q⟩
  ownd := fun i d hi hd hb => by
    have h : i ∉ vs := fun h => hv i h hi
    rw [gv_wipe, if_neg h] at hd
    obtain ⟨a, e, n, m, q⟩ := r.ownd i d hi hd hb
    exact ⟨a, by rw [wipe_out h]; exact e, n, m, by rw [fo_iff (ownA_wipe hv)]; exact q⟩
  inj := fun i j d e a hi hj h1 h2 b1 b2 h3 h4 => by
    have ni : i ∉ vs := fun h => hv i h hi
    have nj : j ∉ vs := fun h => hv j h hj
    rw [gv_wipe, if_neg ni] at h1
    rw [gv_wipe, if_neg nj] at h2
    rw [wipe_out ni] at h3
    rw [wipe_out nj] at h4
    exact r.inj i j d e a hi hj h1 h2 b1 b2 h3 h4
theorem WalkD.up {K : PySem.W.Frag} {Fl G Fl' G' : Addr → Prop} {ca : Option Addr} {c : Cu} {H : Hp} {J : It} {items : List D} {D0 : Addr} {o : HO} (w : WalkD K Fl G ca H J items) (hc : CupOk ca c H) (n : H D0 = none) (h : ∀ a, Fl' a → Fl a ∨ a = D0) (h' : ∀ a, G' a → G a ∨ a = D0) : WalkD K Fl' G' ca (upd H D0 o) J items := fun M hm ca' c' H' p => by
  have hn : ∀ a, upd H D0 o a = none → H a = none := fun a z => by
    by_cases e : a = D0
    · rw [e]; exact n
    · rw [upd_ne e] at z; exact z
  have up := ((Post.refl hc).up (o := o) n).later (M := M)
  have hM : ∀ a, M a → Fl a ∨ H a = none := fun a z => (hm a z).elim (fun z => (h a z).imp id fun e => by rw [e]; exact n) fun z => .inr (hn a z)
  obtain ⟨h1, h2⟩ := w M hM ca' c' H' (up.trans p fun a z => .inl z)
  refine ⟨h1, fun i d hd => ?_⟩
  obtain ⟨h3, h4⟩ := h2 i d hd
  refine ⟨h3, fun x H2 y => ?_⟩
  obtain ⟨h5, h6⟩ := h4 x H2 y
  exact ⟨h5, fun G2 hG => h6 G2 fun a z => (hG a z).elim (fun z => (h' a z).imp id fun e => by rw [e]; exact n) fun z => .inr (hn a z)⟩
end
section
variable {X : Cx}
theorem lc_coreE {pins : List (Addr × Obj)} {s : Shared} {σ : L2.St} {H : Hp} {R : RX} {Fn : Nat → List D → Cu → Out D} {elt tg iter : Expr} {is : List Expr} {rest : List Comprehension} {scope : Scope} {ownb : List (Str × Nat)} {own : List Nat} {t : Tg} {it ifs gs : E} {pos pos' : Pos} {use : Option (Value → Sem Unit)} {Qf : Value → Shared → Prop}
    {F : Addr → Prop} {ca : Option Addr} {c c' : Cu} {env : Env} {ds : List D}
    (hc : X.calm = true) (hN : X.N.Nodup) (I : Inv X pins σ H s) (hi : PI X tg iter (TIt X.K own R Fn it)) (hib : it.itb own = true) (hpl : plainX iter = true) (ok : BlkOk X.N X.env.scope scope ownb)
    (hcl : ∀ (s : Shared) (H : Hp) (C : Addr) (cl : List (Str × Addr)) (fp : List Addr), ClOk (X.blk s H scope (compEnvC scope cl C X.env) fp) own Fn elt true (.gn t it ifs gs) (⟨tg, iter, is, 0⟩ :: rest))
    (hnd : (E.gn t it ifs gs).slots.Nodup) (hsl : ∀ i ∈ (E.gn t it ifs gs).slots, i ∈ ownb.map (·.2)) (hown : ∀ i ∈ ownb.map (·.2), i ∉ own)
    (rl : Rl X.K F own ca c env σ H) (he : evG Fn (.gn t it ifs gs) (wipeE env (ownb.map (·.2))) env c = .ok ds c') (hz : ds.length ≤ sizeLine)
    (hRR : ∀ D C s' m H' ca' vs, Inv X pins σ H' s' → Post ca H ca' c' H' → H D = none → H' D = some (.lst vs) → ¬ Fo F own env σ D → some D ≠ ca' → RepL X.K (Fo F own env σ) ca' H' ds vs → s'.heap.Ns C m → FpOk X pins H' C → compPost (model X.prog X.w) X.A X.xe use Qf (.ref D) C (.ok .next) s') :
    wpAny (model X.prog X.w) X.A (comprehension (.ListComp elt (⟨tg, iter, is, 0⟩ :: rest) scope pos) scope X.env pos' (newList []) false (eval iter X.env) use) Qf X.xe s := by
  have he : ((evI Fn it env c).bind fun items c => loopL (turnF Fn t ifs gs (wipeE env (ownb.map (·.2)))) items c) = .ok ds c' := he
  cases hi1 : evI Fn it env c with
  | err _ _ => rw [hi1] at he; cases he
  | no => rw [hi1] at he; cases he
  | ok items c1 =>
  rw [hi1, bind_ok] at he
  have hfree : ∀ y ∈ scope.names, y.2 = .free → ∃ c, X.env.cells.lookup y.1 = some c := fun y hy e => by
    rcases ok.free y hy e with k | k
    · exact I.ok.has _ (.inl k)
    · exact I.ok.has _ (.inr k)
  refine wpAny_comprehension_free (use := use) rfl (fun x => plain_set hpl _ x) (closure_ok hfree) ok.kind (fun y hy e => by rw [ok.uniq y hy, e])
    (thn (hi.run pins s σ H (fun J H2 => ∃ ca1, Post ca H ca1 c1 H2 ∧ WalkD X.K F (Fo F own env σ) ca1 H2 J items) I ⟨F, ca, c, env, rl, by
      rw [hi1, hib]; exact fun J ca' H' p w _ => ⟨ca', p, w⟩⟩) fun xv s1 hx => thn hx fun itv s2 h2 => ?_)
  obtain ⟨ita, fp, tn, J, H2, e, I2, Tn, st2, f2, ca1, p2, w2⟩ := h2
  subst e
  refine wpAny_newObj_type (newEnv_comp ?_) (by show 0 ≤ sizeLine; decide)
  generalize hD : s2.heap.objs.size = D
  have hDn : H2 D = none := I2.hok.fresh (Nat.le_of_eq hD)
  have rl2 := rl.post p2
  have hDF := rl2.new hDn
  have hDc := rl2.newC hDn
  -- the new list
  generalize hs3 : ({ s2 with heap := s2.heap.push { cls := .type "list", data := .seq ([] : List Value).toArray } } : Shared) = s3
  have I3 : Inv X pins σ (upd H2 D (.lst [])) s3 := by
    rw [← hs3]
    refine I2.laid (t' := s2.toks) (fun b o e => Heap.get?_push_of_some _ e) (Nat.le_of_eq hD) ⟨Nat.zero_le _, [], 0, .nil, ?_⟩
    rw [← hD]
    exact Heap.get?_push_size _ rfl
  have h3 : s3.heap = s2.heap.push { cls := .type "list", data := .seq ([] : List Value).toArray } := by rw [← hs3]
  have sz : ∀ b ∈ fp, b < s2.heap.objs.size := fun b hb => by
    obtain ⟨o, e, _⟩ := Tn.obj _ _ st2 b hb
    exact Heap.lt_size e
  have f3 : ∀ b ∈ fp, FpOk X pins (upd H2 D (.lst [])) b ∧ b < s3.heap.objs.size := fun b hb => by
    have hlt := sz b hb
    refine ⟨⟨?_, (f2 b hb).2⟩, by rw [h3, Heap.size_push]; exact Nat.lt_succ_of_lt hlt⟩
    rw [upd_ne (by rw [← hD]; exact Nat.ne_of_lt hlt)]
    exact (f2 b hb).1
  have st3 : tn 0 s3.heap := Tn.keep _ _ _ st2 fun b _ o e => by rw [h3]; exact Heap.get?_push_of_some _ e
  have I4 := block_start I3 ok hN f3
  have pcl := hcl s3 (upd H2 D (.lst [])) s3.heap.objs.size (cellsFrom (s3.heap.objs.size + 1) scope.names (cloFrom X.env.cells scope.names [])) fp
  show codeAny _ _ (.compStart (.ListComp elt (⟨tg, iter, is, 0⟩ :: rest) scope pos) 0 (.ref ita) (.ref D) (compEnvC scope (cellsFrom (s3.heap.objs.size + 1) scope.names (cloFrom X.env.cells scope.names [])) s3.heap.objs.size X.env)) (compPost (model X.prog X.w) X.A X.xe use Qf (.ref D) s3.heap.objs.size) { s3 with heap := pushCells (s3.heap.push { cls := .type "dict", data := .dict #[] }) scope.names }
  have nfp : ∀ b ∈ fp, (upd H2 D (.lst [])) b = none := fun b hb => (f3 b hb).1.1
  generalize hce : compEnvC scope (cellsFrom (s3.heap.objs.size + 1) scope.names (cloFrom X.env.cells scope.names [])) s3.heap.objs.size X.env = ce at I4 pcl ⊢
  have cL : ce.locals = s3.heap.objs.size := by subst hce; rfl
  generalize hH3 : upd H2 D (.lst []) = H3 at I3 I4 pcl nfp f3
  generalize hs4 : ({ s3 with heap := pushCells (s3.heap.push { cls := .type "dict", data := .dict #[] }) scope.names } : Shared) = s4 at I4 ⊢
  have st4 : tn 0 s4.heap := Tn.keep _ _ _ st3 fun b _ o e => by rw [← hs4]; exact pushCells_keeps _ _ _ _ (Heap.get?_push_of_some _ e)
  have stat : ∀ {σ' : L2.St} {H' : Hp} {s' : Shared}, Inv (X.blk s3 H3 scope ce fp) [] σ' H' s' → (∀ b ∈ fp, H' b = none) → ∀ b ∈ fp, FpOk (X.blk s3 H3 scope ce fp) [] H' b := fun {σ' H' s'} I' hn b hb =>
    ⟨hn b hb, (I'.ok.exf b hb).1, I'.ok.exfs b hb, .inl hb, fun x c e => (I'.ok.exf b hb).2 x c e, fun p hp => absurd (show p ∈ ([] : List (Addr × Obj)) ++ [] from hp) (by simp)⟩
  have p3 : Post ca H ca1 c1 H3 := by rw [← hH3]; exact p2.up hDn
  have rl4 : Rl X.K (fun a => F a ∨ a = D) own ca1 c1 (wipeE env (ownb.map (·.2))) (wipe σ (ownb.map (·.2))) H3 := by
    refine Rl.wipe (rl2.more (G := fun a => F a ∨ a = D) (fun a z => z.imp id fun e => by rw [e]; exact hDn) (fun a z => ?_) (H' := H3) (c' := c1) (ca' := ca1) (by rw [← hH3]; exact (Post.refl rl2.cup).up hDn)) hown
    rcases z with z | z
    · exact p3.has (rl.dom a z)
    · rw [z, ← hH3, upd_same]; simp
  have ow := ownA_wipe (env := env) (σ := σ) hown
  have w4 : WalkD X.K (fun a => F a ∨ a = D) (Fo (fun a => F a ∨ a = D) own (wipeE env (ownb.map (·.2))) (wipe σ (ownb.map (·.2)))) ca1 H3 J items := by
    rw [← hH3]
    refine w2.up rl2.cup hDn (fun a => id) fun a z => ?_
    rcases z with (z | z) | z
    · exact .inl (.inl z)
    · exact .inr z
    · exact .inl (.inr ((ow a).mp z))
  have loop : codeAny (model X.prog X.w) X.A (.compLoop (.ListComp elt (⟨tg, iter, is, 0⟩ :: rest) scope pos) 0 (.ref ita) (.ref D) ce) (compPost (model X.prog X.w) X.A X.xe use Qf (.ref D) s3.heap.objs.size) s4 := by
    refine loop_all (B := X.blk s3 H3 scope ce fp) (gens := ⟨tg, iter, is, 0⟩ :: rest) rfl hc D gs t it ifs true tg iter is rest 0 rfl (fun j => by rw [show 0 + 1 + j = j + 1 by omega]; rfl) pcl hnd [] s4 _ H3 ita fp tn J items (fun a => F a ∨ a = D) ca1 c1 c' _ [] ds _ I4 Tn st4 (stat I4 nfp) rl4 (.inr rfl) (by rw [← hH3]; exact upd_same) hDc w4 (fun i hi v e => ?_) he (by simpa using hz) ?_
    · exact (wipe_some e).2 (hsl i hi)
    · intro s6 H6 ca6 vs I6 lt6 hD6 rp6
      rw [List.nil_append] at hD6
      have I7 : Inv X pins σ H6 s6 := I3.call' (ch := fp) I6.os I6.base I6.hok I6.bare fun b hb => ⟨(f3 b hb).1.2.2.2.1, (f3 b hb).1.2.1, (f3 b hb).1.2.2.2.2.1, (f3 b hb).1.2.2.2.2.2⟩
      have nC : H6 s3.heap.objs.size = none := by
        have z : H6 ce.locals = none := I6.free
        rw [cL] at z
        exact z
      obtain ⟨m, hn, _⟩ := I6.loc
      have hn : s6.heap.Ns ce.locals m := hn
      rw [cL] at hn
      have hDH : H D = none := p2.free hDn
      refine hRR D s3.heap.objs.size s6 m H6 ca6 vs I7 ((p3.later.trans lt6 fun a => .inl).post fun a e => by rw [e]; exact hDH) hDH hD6 hDF (lt6.cupN (by rw [← hH3, upd_same]; simp) hDc) (RepL.weak (fun a z => ?_) _ _ rp6) hn (I3.fpOk (Nat.le_refl _) nC)
      rcases z with z | z
      · exact .inl (.inl z)
      · exact .inr ((ow a).mpr z)
  exact codeAny_compStart_list loop (Tn.self X.A 0 _ _ _ st4 loop)
/-- as a value -/
theorem s_lc {R : RX} {Fn : Nat → List D → Cu → Out D} {elt tg iter : Expr} {is : List Expr} {rest : List Comprehension} {scope : Scope} {ownb : List (Str × Nat)} {own : List Nat} {t : Tg} {it ifs gs : E} {pos : Pos}
    (hc : X.calm = true) (hN : X.N.Nodup) (hi : PI X tg iter (TIt X.K own R Fn it)) (hib : it.itb own = true) (hpl : plainX iter = true) (ok : BlkOk X.N X.env.scope scope ownb)
    (hcl : ∀ (s : Shared) (H : Hp) (C : Addr) (cl : List (Str × Addr)) (fp : List Addr), ClOk (X.blk s H scope (compEnvC scope cl C X.env) fp) own Fn elt true (.gn t it ifs gs) (⟨tg, iter, is, 0⟩ :: rest))
    (hnd : (E.gn t it ifs gs).slots.Nodup) (hsl : ∀ i ∈ (E.gn t it ifs gs).slots, i ∈ ownb.map (·.2)) (hown : ∀ i ∈ ownb.map (·.2), i ∉ own) :
    PE X (.ListComp elt (⟨tg, iter, is, 0⟩ :: rest) scope pos) (T X.K own R Fn (.lc (ownb.map (·.2)) (.gn t it ifs gs))) := by
  refine ⟨fun pins s σ H Q I ⟨F, ca, c, env, rl, h⟩ => ?_⟩
  have h : After X.K F (Fo F own env σ) ca H R true true true (match evG Fn (.gn t it ifs gs) (wipeE env (ownb.map (·.2))) env c with
    | .ok ds c => (match big ds.length with
      | true => .ok (.lst ds) c
      | false => .no)
    | _ => .no) Q := h
  cases he : evG Fn (.gn t it ifs gs) (wipeE env (ownb.map (·.2))) env c with
  | err _ _ => rw [he] at h; exact h.elim
  | no => rw [he] at h; exact h.elim
  | ok ds c' =>
    rw [he] at h
    have h : After X.K F (Fo F own env σ) ca H R true true true (match big ds.length with | true => Out.ok (D.lst ds) c' | false => .no) Q := h
    cases hb : big ds.length with
    | false => rw [hb] at h; exact h.elim
    | true =>
      rw [hb] at h
      rw [eval_ListComp]
      refine lc_coreE hc hN I hi hib hpl ok hcl hnd hsl hown rl he (by rw [line_eq]; exact of_decide_eq_true hb) fun D C s' m H' ca' vs I' p hn hD nF nc rp hNs f => ⟨m, hNs, fun h'' sb => ?_⟩
      obtain ⟨f0, f1, f2, f3, f4, f5⟩ := f
      have rr : Rep X.K (Fo F own env σ) ca' H' (.lst ds) (.ref D) := ⟨D, vs, rfl, hD, nF, nc, rp⟩
      exact ⟨.ref D, H', I'.turned (t' := s'.toks) (fun b o hb e => (sb.2 b hb).trans e) f0 f1 f3 f4 f5, rfl, h (.ref D) ca' H' p (RepB.of (fun a => .inl) rr) (fun _ => rr) fun _ _ => ⟨D, rfl, hn⟩⟩
/-- name = [..] on one line, the name a local -/
theorem ps_setLcE {R : RX} {Fn : Nat → List D → Cu → Out D} {elt tg iter : Expr} {is : List Expr} {rest : List Comprehension} {scope : Scope} {ownb : List (Str × Nat)} {own : List Nat} {t : Tg} {it ifs gs : E} {pos spos py : Pos} {i : Nat} {y : Str}
    (hc : X.calm = true) (hN : X.N.Nodup) (hy : X.N[i]? = some y) (hyl : X.env.scope.names.lookup y = some .local)
    (hsw : swapsWith (.ListComp elt (⟨tg, iter, is, 0⟩ :: rest) scope pos) (some (.Name y py)) spos.line X.env = pure true) (hi : PI X tg iter (TIt X.K own R Fn it)) (hib : it.itb own = true) (hpl : plainX iter = true) (ok : BlkOk X.N X.env.scope scope ownb)
    (hcl : ∀ (s : Shared) (H : Hp) (C : Addr) (cl : List (Str × Addr)) (fp : List Addr), ClOk (X.blk s H scope (compEnvC scope cl C X.env) fp) own Fn elt true (.gn t it ifs gs) (⟨tg, iter, is, 0⟩ :: rest))
    (hnd : (E.gn t it ifs gs).slots.Nodup) (hsl : ∀ i ∈ (E.gn t it ifs gs).slots, i ∈ ownb.map (·.2)) (hown : ∀ i ∈ ownb.map (·.2), i ∉ own) :
    PS X (.Assign [.Name y py] (.ListComp elt (⟨tg, iter, is, 0⟩ :: rest) scope pos) spos) (tAsg (T X.K own R Fn (.lc (ownb.map (·.2)) (.gn t it ifs gs))) (gName i)) := by
  refine ⟨fun pins s σ H D9 I h => ?_⟩
  obtain ⟨F, ca, c, env, rl, h⟩ := h
  have h : After X.K F (Fo F own env σ) ca H R true true true (match evG Fn (.gn t it ifs gs) (wipeE env (ownb.map (·.2))) env c with
    | .ok ds c => (match big ds.length with
      | true => .ok (.lst ds) c
      | false => .no)
    | _ => .no) (fun x H1 => gName i x σ H1 D9.nx) := h
  cases he : evG Fn (.gn t it ifs gs) (wipeE env (ownb.map (·.2))) env c with
  | err _ _ => rw [he] at h; exact h.elim
  | no => rw [he] at h; exact h.elim
  | ok ds c' =>
    rw [he] at h
    have h : After X.K F (Fo F own env σ) ca H R true true true (match big ds.length with | true => Out.ok (D.lst ds) c' | false => .no) (fun x H1 => gName i x σ H1 D9.nx) := h
    cases hb : big ds.length with
    | false => rw [hb] at h; exact h.elim
    | true =>
      rw [hb] at h
      rw [exec_Assign_Name_used _ _ _ _ hsw]
      refine wpAny_bind (wpAny_standAt (wpAny_bind ?_))
      show wpAny _ X.A (do let _ ← comprehension (.ListComp elt (⟨tg, iter, is, 0⟩ :: rest) scope pos) scope X.env (firstIterPos (⟨tg, iter, is, 0⟩ :: rest) pos) (newList []) false (eval iter X.env) (some (assign (.Name y py) X.env))) _ _ s
      refine wpAny_bind (thn (lc_coreE (Qf := fun _ s' => SP X pins D9 .next s') hc hN I hi hib hpl ok hcl hnd hsl hown rl he (by rw [line_eq]; exact of_decide_eq_true hb) fun L C s' m H' ca' vs I' p hnn hD nF nc rp hn f => ?_) fun _ s' hq => wpAny_pure (wpAny_pure hq))
      show wpAny _ _ (assign (.Name y py) X.env (.ref L)) _ _ _
      refine wpAny_assign_Name (store_ok2 (v := V.ref L) I' hN hy (.inl hyl) rfl (fun s2 I2 ⟨a, sb, ha⟩ => ?_) (.inr hyl))
      obtain ⟨f0, f1, f2, f3, f4, f5⟩ := f
      have haC : C ≠ a := by
        rcases ha with z | z
        · rw [z]; exact f1
        · exact fun e => f4 y a z e.symm
      refine ⟨m, hn.sameBut sb haC, fun h3 sb3 => ?_⟩
      have rr : Rep X.K (Fo F own env σ) ca' H' (.lst ds) (.ref L) := ⟨L, vs, rfl, hD, nF, nc, rp⟩
      exact ⟨_, H', I2.turned (t' := s2.toks) (fun b o hb e => (sb3.2 b hb).trans e) f0 f1 f3 f4 f5, h (.ref L) ca' H' p (RepB.of (fun a => .inl) rr) (fun _ => rr) fun _ _ => ⟨L, rfl, hnn⟩⟩
end
end Ev

set_option maxRecDepth 100000
/-! EvSa: tests, and, or, argument lists. -/
namespace Ev
open PySem PySem.Spec PyProof.Rows L2
section
variable {K : PySem.W.Frag} {own : List Nat} {R : RX} {Fn : Nat → List D → Cu → Out D} {F : Addr → Prop} {ca ca1 : Option Addr} {c c1 : Cu} {env : Env} {σ : L2.St} {H H1 : Hp} {cb cl fr : Bool}
theorem outB_ok {o : Out D} {b : Bool} (h : outB o = .ok b c) : o = .ok (.bl b) c := by
  cases o with
  | ok d c2 =>
    cases d with
    | bl k =>
      have h : Out.ok k c2 = .ok b c := h
      cases h
      rfl
    | _ => cases h
  | err _ _ => cases h
  | no => cases h
/-- a test as a value -/
theorem TB_T {e : E} {Q : Bool → Hp → Prop} (w : TB K own R Fn e σ H Q) : T K own R Fn e σ H fun v H' => ∃ k, v = .bl k ∧ Q k H' := by
  obtain ⟨F, ca, c, env, r, h⟩ := w
  refine ⟨F, ca, c, env, r, ?_⟩
  cases q : ev Fn e env c with
  | ok d c1 =>
    rw [q] at h
    cases d with
    | bl k => exact fun v ca' H' p rb _ _ => ⟨k, rb, h ca' H' p⟩
    | _ => exact h.elim
  | err k c1 => rw [q] at h; exact h
  | no => rw [q] at h; exact h
theorem AfterB.mono {R : RX} {o : Out Bool} {Q Q' : Bool → Hp → Prop} (h : AfterB ca H R o Q) (hq : ∀ b H', Q b H' → Q' b H') : AfterB ca H R o Q' := by
  cases o with
  | ok d c => exact fun ca' H' p => hq _ _ (h ca' H' p)
  | err k c => exact h
  | no => exact h
theorem TB.mono {e : E} {Q Q' : Bool → Hp → Prop} (h : TB K own R Fn e σ H Q) (hq : ∀ v H', Q v H' → Q' v H') : TB K own R Fn e σ H Q' :=
  let ⟨F, ca, c, env, r, a⟩ := h
  ⟨F, ca, c, env, r, a.mono hq⟩
theorem TB.bind {e : E} {k : Bool → Cu → Out Bool} {Q : Bool → Hp → Prop} (r : Rl K F own ca c env σ H) (h : AfterB ca H R ((outB (ev Fn e env c)).bind k) Q) :
    TB K own R Fn e σ H fun b H1 => ∃ ca1 c1, ev Fn e env c = .ok (.bl b) c1 ∧ Rl K F own ca1 c1 env σ H1 ∧ AfterB ca1 H1 R (k b c1) Q := by
  refine ⟨F, ca, c, env, r, ?_⟩
  cases q : outB (ev Fn e env c) with
  | ok b c1 =>
    rw [q] at h
    exact fun ca1 H1 p => ⟨ca1, c1, outB_ok q, r.post p, AfterB.later p h⟩
  | err k c1 => rw [q] at h; exact h
  | no => rw [q] at h; exact h
def TAnd (K : PySem.W.Frag) (own : List Nat) (R : RX) (Fn : Nat → List D → Cu → Out D) (es : E) : TE := fun σ H Q => ∃ F ca c env, Rl K F own ca c env σ H ∧ After K F (Fo F own env σ) ca H R true true false (evAnd Fn es env c) Q
def TOr (K : PySem.W.Frag) (own : List Nat) (R : RX) (Fn : Nat → List D → Cu → Out D) (es : E) : TE := fun σ H Q => ∃ F ca c env, Rl K F own ca c env σ H ∧ After K F (Fo F own env σ) ca H R true true false (evOr Fn es env c) Q
def TBAnd (K : PySem.W.Frag) (own : List Nat) (R : RX) (Fn : Nat → List D → Cu → Out D) (es : E) : TT := fun σ H Q => ∃ F ca c env, Rl K F own ca c env σ H ∧ AfterB ca H R (outB (evAnd Fn es env c)) Q
def TBOr (K : PySem.W.Frag) (own : List Nat) (R : RX) (Fn : Nat → List D → Cu → Out D) (es : E) : TT := fun σ H Q => ∃ F ca c env, Rl K F own ca c env σ H ∧ AfterB ca H R (outB (evOr Fn es env c)) Q
theorem evAnd_two {e f es : E} : evAnd Fn (.cons e (.cons f es)) env c = (ev Fn e env c).bind fun x c => match x with
    | .bl true => evAnd Fn (.cons f es) env c
    | .bl false => .ok (.bl false) c
    | _ => .no := rfl
theorem evAnd_one {e : E} : evAnd Fn (.cons e .nil) env c = (ev Fn e env c).bind fun x c => match x with
    | .bl b => .ok (.bl b) c
    | _ => .no := rfl
theorem evOr_two {e f es : E} : evOr Fn (.cons e (.cons f es)) env c = (ev Fn e env c).bind fun x c => match x with
    | .bl false => evOr Fn (.cons f es) env c
    | .bl true => .ok (.bl true) c
    | _ => .no := rfl
theorem evOr_one {e : E} : evOr Fn (.cons e .nil) env c = (ev Fn e env c).bind fun x c => match x with
    | .bl b => .ok (.bl b) c
    | _ => .no := rfl
theorem outB_bind {o : Out D} {f : D → Cu → Out D} {g : Bool → Cu → Out Bool} (h : ∀ b c, outB (f (.bl b) c) = g b c) (h2 : ∀ d c, (∀ b, d ≠ .bl b) → outB (f d c) = .no) : outB (o.bind f) = (outB o).bind g := by
  cases o with
  | ok d c =>
    cases d with
    | bl b => exact h b c
    | _ => exact h2 _ _ (fun b z => by cases z)
  | err _ _ => rfl
  | no => rfl
end
section
variable {X : Cx} {own : List Nat} {R : RX} {Fn : Nat → List D → Cu → Out D} {x y : Expr} {xs : List Expr} {a b es : E} {pos : Pos}
theorem s_and1 (ha : PE X x (T X.K own R Fn a)) : PE X (.BoolOp .And [x] pos) (TAnd X.K own R Fn (.cons a .nil)) := by
  refine PE.imp (pe_one ha) fun σ H Q ⟨F, ca, c, env, r, h⟩ => ?_
  rw [evAnd_one] at h
  refine (T.bind r h).mono fun v1 H1 ⟨ca1, c1, d1, _, g1, h1⟩ => ?_
  cases d1 with
  | bl k => rw [show v1 = .bl k from g1.b]; exact After.here h1 g1.rl.cup (fun _ => rfl) rfl
  | _ => exact h1.elim
theorem s_or1 (ha : PE X x (T X.K own R Fn a)) : PE X (.BoolOp .Or [x] pos) (TOr X.K own R Fn (.cons a .nil)) := by
  refine PE.imp (pe_one ha) fun σ H Q ⟨F, ca, c, env, r, h⟩ => ?_
  rw [evOr_one] at h
  refine (T.bind r h).mono fun v1 H1 ⟨ca1, c1, d1, _, g1, h1⟩ => ?_
  cases d1 with
  | bl k => rw [show v1 = .bl k from g1.b]; exact After.here h1 g1.rl.cup (fun _ => rfl) rfl
  | _ => exact h1.elim
theorem s_and2 (ha : PE X x (T X.K own R Fn a)) (hb : PE X (.BoolOp .And (y :: xs) pos) (TAnd X.K own R Fn (.cons b es))) : PE X (.BoolOp .And (x :: y :: xs) pos) (TAnd X.K own R Fn (.cons a (.cons b es))) := by
  refine PE.imp (pe_and ha hb) fun σ H Q ⟨F, ca, c, env, r, h⟩ => ?_
  rw [evAnd_two] at h
  refine (T.bind r h).mono fun v1 H1 ⟨ca1, c1, d1, _, g1, h1⟩ => ?_
  cases d1 with
  | bl k =>
    refine ⟨k, g1.b, ?_⟩
    cases k with
    | true => exact ⟨F, ca1, c1, env, g1.rl, h1⟩
    | false => exact After.here h1 g1.rl.cup (fun _ => rfl) rfl
  | _ => exact h1.elim
theorem s_or2 (ha : PE X x (T X.K own R Fn a)) (hb : PE X (.BoolOp .Or (y :: xs) pos) (TOr X.K own R Fn (.cons b es))) : PE X (.BoolOp .Or (x :: y :: xs) pos) (TOr X.K own R Fn (.cons a (.cons b es))) := by
  refine PE.imp (pe_or ha hb) fun σ H Q ⟨F, ca, c, env, r, h⟩ => ?_
  rw [evOr_two] at h
  refine (T.bind r h).mono fun v1 H1 ⟨ca1, c1, d1, _, g1, h1⟩ => ?_
  cases d1 with
  | bl k =>
    refine ⟨k, g1.b, ?_⟩
    cases k with
    | false => exact ⟨F, ca1, c1, env, g1.rl, h1⟩
    | true => exact After.here h1 g1.rl.cup (fun _ => rfl) rfl
  | _ => exact h1.elim
theorem t_and1 (ha : PT X x (TB X.K own R Fn a)) : PW X (.BoolOp .And [x] pos) (TBAnd X.K own R Fn (.cons a .nil)) := by
  refine PW.imp (pw_and1 ha) fun σ H Q ⟨F, ca, c, env, r, h⟩ => ⟨F, ca, c, env, r, ?_⟩
  rw [evAnd_one, outB_bind (g := fun b c => .ok b c) (fun b c => rfl) (fun d c h => by cases d <;> first | rfl | exact absurd rfl (h _))] at h
  cases q : outB (ev Fn a env c) <;> (rw [q] at h; exact h)
theorem t_or1 (ha : PT X x (TB X.K own R Fn a)) : PW X (.BoolOp .Or [x] pos) (TBOr X.K own R Fn (.cons a .nil)) := by
  refine PW.imp (pw_or1 ha) fun σ H Q ⟨F, ca, c, env, r, h⟩ => ⟨F, ca, c, env, r, ?_⟩
  rw [evOr_one, outB_bind (g := fun b c => .ok b c) (fun b c => rfl) (fun d c h => by cases d <;> first | rfl | exact absurd rfl (h _))] at h
  cases q : outB (ev Fn a env c) <;> (rw [q] at h; exact h)
theorem t_and2 (ha : PT X x (TB X.K own R Fn a)) (hb : PW X (.BoolOp .And (y :: xs) pos) (TBAnd X.K own R Fn (.cons b es))) : PW X (.BoolOp .And (x :: y :: xs) pos) (TBAnd X.K own R Fn (.cons a (.cons b es))) := by
  refine PW.imp (pw_and ha hb) fun σ H Q ⟨F, ca, c, env, r, h⟩ => ?_
  rw [evAnd_two, outB_bind (g := fun k c => match k with
    | true => outB (evAnd Fn (.cons b es) env c)
    | false => .ok false c) (fun k c => by cases k <;> rfl) (fun d c h => by cases d <;> first | rfl | exact absurd rfl (h _))] at h
  refine (TB.bind r h).mono fun k H1 ⟨ca1, c1, _, r1, h1⟩ => ?_
  cases k with
  | true => exact ⟨F, ca1, c1, env, r1, h1⟩
  | false => exact h1 ca1 H1 (Post.refl r1.cup)
theorem t_or2 (ha : PT X x (TB X.K own R Fn a)) (hb : PW X (.BoolOp .Or (y :: xs) pos) (TBOr X.K own R Fn (.cons b es))) : PW X (.BoolOp .Or (x :: y :: xs) pos) (TBOr X.K own R Fn (.cons a (.cons b es))) := by
  refine PW.imp (pw_or ha hb) fun σ H Q ⟨F, ca, c, env, r, h⟩ => ?_
  rw [evOr_two, outB_bind (g := fun k c => match k with
    | false => outB (evOr Fn (.cons b es) env c)
    | true => .ok true c) (fun k c => by cases k <;> rfl) (fun d c h => by cases d <;> first | rfl | exact absurd rfl (h _))] at h
  refine (TB.bind r h).mono fun k H1 ⟨ca1, c1, _, r1, h1⟩ => ?_
  cases k with
  | false => exact ⟨F, ca1, c1, env, r1, h1⟩
  | true => exact h1 ca1 H1 (Post.refl r1.cup)
theorem t_nt (ha : PT X x (TB X.K own R Fn a)) : PT X (.UnaryOp .Not x pos) (TB X.K own R Fn (.nt a)) := by
  refine PT.imp (pt_not ha) fun σ H Q ⟨F, ca, c, env, r, h⟩ => ?_
  have h : AfterB ca H R (outB ((ev Fn a env c).bind fun x c => match x with
    | .bl b => .ok (.bl (!b)) c
    | _ => .no)) Q := h
  rw [outB_bind (g := fun k c => .ok (!k) c) (fun k c => rfl) (fun d c h => by cases d <;> first | rfl | exact absurd rfl (h _))] at h
  refine (TB.bind r h).mono fun k H1 ⟨ca1, c1, _, r1, h1⟩ => h1 ca1 H1 (Post.refl r1.cup)
theorem t_cmp {o : Cop} (hu : X.A.units + 66 < cLine) (hy : plainX y = true) (ha : PE X x (T X.K own R Fn a)) (hb : PE X y (T X.K own R Fn b)) : PT X (.Compare x [o.op] [y] pos) (TB X.K own R Fn (.cmp o a b)) :=
  PT.imp (pt_cmpR (cov_ok o hu) ha hb (plain_marks hy)) fun _ _ _ w => r_cmp (TB_T w)
theorem t_chn {o p : Cop} {z : Expr} {d : E} (hu : X.A.units + 66 < cLine) (hz : plainX z = true) (ha : PE X x (T X.K own R Fn a)) (hb : PE X y (T X.K own R Fn b)) (hd : PE X z (T X.K own R Fn d)) : PT X (.Compare x [o.op, p.op] [y, z] pos) (TB X.K own R Fn (.chn o p a b d)) :=
  PT.imp (pt_chain (cov_ok o hu) (cov_ok p hu) ha hb hd (show behindInMarks p.op z = false from plain_marks hz)) fun _ _ _ w => r_chn (TB_T w)
theorem t_val (h : PE X x (T X.K own R Fn a)) (he : ∀ whole, isTrue x X.env whole = (do let v ← whole; standAt x.pos; holding [v] (truthy v))) : PT X x (TB X.K own R Fn a) :=
  PT.imp (pt_val h he) fun _ _ _ w => TB_T w
/-! ### argument lists -/
theorem a_nil : PA X [] (TL X.K own R Fn .nil) := PA.imp pa_nil fun σ H Q ⟨F, ca, c, env, r, h⟩ => h [] ca H (Post.refl r.cup) rfl
theorem a_nilB : PA X [] (TLb X.K own R Fn .nil) := PA.imp pa_nil fun σ H Q ⟨F, ca, c, env, r, h⟩ => h [] ca H (Post.refl r.cup) rfl
theorem a_cons (hp : plainX x = true) (ha : PE X x (T X.K own R Fn a)) (hs : PA X xs (TL X.K own R Fn es)) : PA X (x :: xs) (TL X.K own R Fn (.cons a es)) := by
  refine PA.imp (pa_cons ha hs (plain_star hp _ _)) fun σ H Q ⟨F, ca, c, env, r, h⟩ => ⟨F, ca, c, env, r, ?_⟩
  have h : AfterL X.K F (Fo F own env σ) ca H R (a.cl own && es.cls own) ((ev Fn a env c).bind fun d c => (evs Fn es env c).bind fun ds c => .ok (d :: ds) c) Q := h
  cases q : ev Fn a env c with
  | err k c1 => rw [q] at h; exact h
  | no => rw [q] at h; exact h
  | ok d c1 =>
    rw [q, bind_ok] at h
    intro v ca1 H1 p1 b1 s1 f1
    have r1 := r.post p1
    refine ⟨F, ca1, c1, env, r1, ?_⟩
    cases q2 : evs Fn es env c1 with
    | err k c2 => rw [q2] at h; exact fun ca2 H2 p2 => h ca2 H2 (p1.trans p2)
    | no => rw [q2] at h; exact h
    | ok ds c2 =>
      rw [q2, bind_ok] at h
      intro vs ca2 H2 p2 b2
      refine h (v :: vs) ca2 H2 (p1.trans p2) ⟨v, vs, rfl, ?_, ?_⟩
      · cases hcl : (a.cl own && es.cls own) with
        | true =>
          rw [Bool.and_eq_true] at hcl
          exact Rep.post p2 (fun a => .inl) _ _ (s1 hcl.1)
        | false =>
          exact Rep.post p2 (fun a => .inl) _ _ (RepB.rep (fun ad z => le_if (own := own) (env := env) (σ := σ) z) b1)
      · cases hcl : (a.cl own && es.cls own) with
        | true =>
          rw [Bool.and_eq_true] at hcl
          rw [hcl.2] at b2
          exact b2
        | false => exact RepL.weak (fun ad z => le_if (own := own) (env := env) (σ := σ) z) _ _ b2
theorem RepLB.weakG {K : PySem.W.Frag} {F G G' : Addr → Prop} {ca : Option Addr} {H : Hp} (hg : ∀ a, G' a → G a) : ∀ {d : List D} {v : List V}, RepLB K F G ca H d v → RepLB K F G' ca H d v
  | [], _, h => h
  | x :: xs, _, ⟨v, r, e, h1, h2⟩ => ⟨v, r, e, h1.weakG hg, RepLB.weakG hg h2⟩
theorem a_consB (hp : plainX x = true) (ha : PE X x (T X.K own R Fn a)) (hs : PA X xs (TLb X.K own R Fn es)) : PA X (x :: xs) (TLb X.K own R Fn (.cons a es)) := by
  refine PA.imp (pa_cons ha hs (plain_star hp _ _)) fun σ H Q ⟨F, ca, c, env, r, h⟩ => ⟨F, ca, c, env, r, ?_⟩
  have h : AfterLB X.K F (Fo F own env σ) ca H R (a.clb own && es.clbs own) ((ev Fn a env c).bind fun d c => (evs Fn es env c).bind fun ds c => .ok (d :: ds) c) Q := h
  cases q : ev Fn a env c with
  | err k c1 => rw [q] at h; exact h
  | no => rw [q] at h; exact h
  | ok d c1 =>
    rw [q, bind_ok] at h
    intro v ca1 H1 p1 b1 s1 f1
    have r1 := r.post p1
    refine ⟨F, ca1, c1, env, r1, ?_⟩
    cases q2 : evs Fn es env c1 with
    | err k c2 => rw [q2] at h; exact fun ca2 H2 p2 => h ca2 H2 (p1.trans p2)
    | no => rw [q2] at h; exact h
    | ok ds c2 =>
      rw [q2, bind_ok] at h
      intro vs ca2 H2 p2 b2
      refine h (v :: vs) ca2 H2 (p1.trans p2) ⟨v, vs, rfl, ?_, ?_⟩
      · cases hcl : (a.clb own && es.clbs own) with
        | true =>
          rw [Bool.and_eq_true] at hcl
          rw [hcl.1] at b1
          exact b1.post p2
        | false => exact (b1.post p2).weakG fun ad z => le_if (own := own) (env := env) (σ := σ) z
      · cases hcl : (a.clb own && es.clbs own) with
        | true =>
          rw [Bool.and_eq_true] at hcl
          rw [hcl.2] at b2
          exact b2
        | false => exact b2.weakG fun ad z => le_if (own := own) (env := env) (σ := σ) z
theorem ts_nil : PTs X [] (TTs X.K own R Fn .nil) := ⟨fun pins s σ H Q I ⟨F, ca, c, env, r, h⟩ => pts_nil.run pins s σ H Q I (h ca H (Post.refl r.cup))⟩
theorem ts_one (h : PT X x (TB X.K own R Fn a)) : PTs X [x] (TTs X.K own R Fn (.cons a .nil)) := ⟨fun pins s σ H Q I ⟨F, ca, c, env, r, w⟩ => (pts_one h).run pins s σ H Q I ⟨F, ca, c, env, r, by
  have w : AfterB ca H R ((ev Fn a env c).bind fun x c => match x with
    | .bl true => .ok true c
    | .bl false => .ok false c
    | _ => .no) Q := w
  cases q : ev Fn a env c with
  | ok d c1 =>
    rw [q, bind_ok] at w
    cases d with
    | bl k => cases k <;> exact w
    | _ => exact w
  | err _ _ => rw [q] at w; exact w
  | no => rw [q] at w; exact w⟩⟩
end
end Ev

set_option maxRecDepth 100000
set_option maxHeartbeats 2000000
/-! EvSnd: what is checked is sound: expressions. -/
namespace Ev
open PySem PySem.Spec PyProof.Rows L2
theorem vis_of {sc : Scope} {x : Str} (h : visB sc x = true) : Vis sc x := by
  unfold visB at h
  split at h <;> first | exact .inl (by assumption) | exact .inr (.inl (by assumption)) | exact .inr (.inr (by assumption)) | cases h
theorem gl_of {X : Cx} {x : Str} (h : glB X.env.scope x = true) : Gl X x := by
  unfold glB at h
  split at h <;> first | assumption | cases h
theorem okn_of {x : Str} (h : okn x = true) : (x == ("__debug__" : Str)) = false ∧ (x == ("__classdict__" : Str)) = false ∧ x ≠ "__name__" := by
  unfold okn at h
  simp only [Bool.and_eq_true, decide_eq_true_eq] at h
  exact ⟨by simpa using h.1.1, by simpa using h.1.2, h.2⟩
def hF (X : Cx) (raw : Scope) : Prop := ∀ x, locB raw x = true → Loc X.env.scope x ∧ (X.fn x = true ∨ X.env.scope.names.lookup x = some .local)
def chkO (cx : Cc) (e : E) (sc : Scope) : Option Expr → Bool
  | none => e.isNoe
  | some l => chk cx e sc l
structure Snd (e : E) : Prop where
  pe : ∀ {cx : Cc} {CX : CXT} {ec : Nat → Addr} {n : Nat} {R : RX} {Fn : Nat → List D → Cu → Out D} {X : Cx}, Good cx CX ec R Fn n X → Calm CX ec → ∀ x, chk cx e X.env.scope x = true → PE X x (T X.K cx.own R Fn e) ∧ plainX x = true
  pt : ∀ {cx : Cc} {CX : CXT} {ec : Nat → Addr} {n : Nat} {R : RX} {Fn : Nat → List D → Cu → Out D} {X : Cx}, Good cx CX ec R Fn n X → Calm CX ec → ∀ x, chk cx e X.env.scope x = true → e.tst = true → PT X x (TB X.K cx.own R Fn e)
  pa : ∀ {cx : Cc} {CX : CXT} {ec : Nat → Addr} {n : Nat} {R : RX} {Fn : Nat → List D → Cu → Out D} {X : Cx}, Good cx CX ec R Fn n X → Calm CX ec → ∀ xs, chks cx e X.env.scope xs = true → PA X xs (TL X.K cx.own R Fn e) ∧ PA X xs (TLb X.K cx.own R Fn e) ∧ plainL xs = true ∧ e.len = xs.length
  bo : ∀ {cx : Cc} {CX : CXT} {ec : Nat → Addr} {n : Nat} {R : RX} {Fn : Nat → List D → Cu → Out D} {X : Cx}, Good cx CX ec R Fn n X → Calm CX ec → ∀ x xs, chks cx e X.env.scope (x :: xs) = true → ∀ pos,
    (PE X (.BoolOp .And (x :: xs) pos) (TAnd X.K cx.own R Fn e) ∧ PE X (.BoolOp .Or (x :: xs) pos) (TOr X.K cx.own R Fn e)) ∧ (e.tst = true → PW X (.BoolOp .And (x :: xs) pos) (TBAnd X.K cx.own R Fn e) ∧ PW X (.BoolOp .Or (x :: xs) pos) (TBOr X.K cx.own R Fn e))
  ps : ∀ {cx : Cc} {CX : CXT} {ec : Nat → Addr} {n : Nat} {R : RX} {Fn : Nat → List D → Cu → Out D} {X : Cx}, Good cx CX ec R Fn n X → Calm CX ec → ∀ xs, chks cx e X.env.scope xs = true → oneT e = true → e.tst = true → PTs X xs (TTs X.K cx.own R Fn e)
  pi : ∀ {cx : Cc} {CX : CXT} {ec : Nat → Addr} {n : Nat} {R : RX} {Fn : Nat → List D → Cu → Out D} {X : Cx}, Good cx CX ec R Fn n X → Calm CX ec → ∀ tg x, chkI cx e X.env.scope tg x = true → PI X tg x (TIt X.K cx.own R Fn e) ∧ plainX x = true
  cl : ∀ {cx : Cc} {CX : CXT} {ec : Nat → Addr} {n : Nat} {Fn : Nat → List D → Cu → Out D} {X : Cx}, Good cx CX ec R0 Fn n X → Calm CX ec → ∀ raw sc0 elt gens fst, hF X raw → (fst = false → sc0 = X.env.scope) → chkG cx e raw sc0 X.env.scope gens elt = true → ClOk X cx.own Fn elt fst e gens
theorem and3 {a b c : Bool} (h : (a && b && c) = true) : a = true ∧ b = true ∧ c = true := by simp only [Bool.and_eq_true] at h; exact ⟨h.1.1, h.1.2, h.2⟩
theorem snd_nope {e : E} (h1 : ∀ cx sc x, chk cx e sc x = false) (h2 : ∀ cx sc xs, chks cx e sc xs = false) (h3 : ∀ cx sc tg x, chkI cx e sc tg x = false) (h4 : ∀ cx raw sc0 sc gens elt, chkG cx e raw sc0 sc gens elt = false) : Snd e where
  pe := fun _ _ x h => by rw [h1] at h; cases h
  pt := fun _ _ x h => by rw [h1] at h; cases h
  pa := fun _ _ x h => by rw [h2] at h; cases h
  bo := fun _ _ x xs h => by rw [h2] at h; cases h
  ps := fun _ _ xs h => by rw [h2] at h; cases h
  pi := fun _ _ tg x h => by rw [h3] at h; cases h
  cl := fun _ _ raw sc0 elt gens fst _ _ h => by rw [h4] at h; cases h
/-- an expression -/
theorem snd_e {e : E} (pe : ∀ {cx : Cc} {CX : CXT} {ec : Nat → Addr} {n : Nat} {R : RX} {Fn : Nat → List D → Cu → Out D} {X : Cx}, Good cx CX ec R Fn n X → Calm CX ec → ∀ x, chk cx e X.env.scope x = true → PE X x (T X.K cx.own R Fn e) ∧ plainX x = true)
    (pt : ∀ {cx : Cc} {CX : CXT} {ec : Nat → Addr} {n : Nat} {R : RX} {Fn : Nat → List D → Cu → Out D} {X : Cx}, Good cx CX ec R Fn n X → Calm CX ec → ∀ x, chk cx e X.env.scope x = true → e.tst = true → PT X x (TB X.K cx.own R Fn e))
    (h2 : ∀ cx sc xs, chks cx e sc xs = false) (h3 : ∀ cx sc tg x, chkI cx e sc tg x = false) (h4 : ∀ cx raw sc0 sc gens elt, chkG cx e raw sc0 sc gens elt = false) : Snd e where
  pe := pe
  pt := pt
  pa := fun _ _ x h => by rw [h2] at h; cases h
  bo := fun _ _ x xs h => by rw [h2] at h; cases h
  ps := fun _ _ xs h => by rw [h2] at h; cases h
  pi := fun _ _ tg x h => by rw [h3] at h; cases h
  cl := fun _ _ raw sc0 elt gens fst _ _ h => by rw [h4] at h; cases h
/-- .. whose test is its value's -/
theorem snd_v {e : E} (pe : ∀ {cx : Cc} {CX : CXT} {ec : Nat → Addr} {n : Nat} {R : RX} {Fn : Nat → List D → Cu → Out D} {X : Cx}, Good cx CX ec R Fn n X → Calm CX ec → ∀ x, chk cx e X.env.scope x = true → (PE X x (T X.K cx.own R Fn e) ∧ plainX x = true) ∧ (e.tst = true → ∀ whole, isTrue x X.env whole = (do let v ← whole; standAt x.pos; holding [v] (truthy v))))
    (h2 : ∀ cx sc xs, chks cx e sc xs = false := by intro _ _ xs; cases xs <;> rfl) (h3 : ∀ cx sc tg x, chkI cx e sc tg x = false := by intro _ _ tg x; rfl) (h4 : ∀ cx raw sc0 sc gens elt, chkG cx e raw sc0 sc gens elt = false := by intro _ _ _ _ gens elt; rfl) : Snd e :=
  snd_e (fun g hc x h => (pe g hc x h).1) (fun g hc x h ht => t_val (pe g hc x h).1.1 ((pe g hc x h).2 ht)) h2 h3 h4
theorem snd_var (i : Nat) : Snd (.var i) := snd_v fun {cx CX ec n R Fn X} g hc x h => by
  cases x <;> first | cases h | skip
  rename_i nm p
  obtain ⟨h1, h2, h3⟩ := and3 (show (decide (cx.N[i]? = some nm) && visB X.env.scope nm && okn nm) = true from h)
  rw [decide_eq_true_eq] at h1
  exact ⟨⟨s_var (by rw [g.N]; exact h1) (vis_of h2) (okn_of h3).1 (okn_of h3).2.1, rfl⟩, fun _ _ => rfl⟩
theorem snd_cst (d : D) : Snd (.cst d) := snd_v fun {cx CX ec n R Fn X} g hc x h => by
  cases x <;> first | cases h | skip
  exact ⟨⟨s_cst h, rfl⟩, fun _ _ => rfl⟩
theorem snd_gl (y : Str) (d : D) : Snd (.gl y d) := snd_v fun {cx CX ec n R Fn X} g hc x h => by
  cases x <;> first | cases h | skip
  rename_i nm p
  have h' : (decide (nm = y) && glB X.env.scope nm && okn nm && (match cx.G.lookup y with
    | some d' => d'.same d
    | none => false)) = true := h
  rw [Bool.and_eq_true] at h'
  obtain ⟨h1, h2, h3⟩ := and3 h'.1
  rw [decide_eq_true_eq] at h1
  subst h1
  have h4 := h'.2
  split at h4
  · rename_i d' q
    have := D.same_eq h4
    subst this
    obtain ⟨u, v, e1, e2, e3⟩ := g.gl _ _ q
    exact ⟨⟨s_gl (gl_of h2) e1 e2 e3 (okn_of h3).1, rfl⟩, fun _ _ => rfl⟩
  · cases h4
theorem snd_tup (es : E) (ih : Snd es) : Snd (.tup es) := snd_v fun {cx CX ec n R Fn X} g hc x h => by
  cases x <;> first | cases h | skip
  rename_i xs k p
  have h' : (chks cx es X.env.scope xs && decide (xs.length ≤ 1000)) = true := h
  rw [Bool.and_eq_true, decide_eq_true_eq] at h'
  obtain ⟨a1, a2, a3, a4⟩ := ih.pa g hc xs h'.1
  exact ⟨⟨s_tup (by omega) a1, rfl⟩, fun _ _ => rfl⟩
theorem snd_lst (es : E) (ih : Snd es) : Snd (.lst es) := snd_v fun {cx CX ec n R Fn X} g hc x h => by
  cases x <;> first | cases h | skip
  rename_i xs p
  have h' : (chks cx es X.env.scope xs && decide (xs.length ≤ 1000)) = true := h
  rw [Bool.and_eq_true, decide_eq_true_eq] at h'
  obtain ⟨a1, a2, a3, a4⟩ := ih.pa g hc xs h'.1
  exact ⟨⟨s_lst (by omega) a1, rfl⟩, fun _ _ => rfl⟩
theorem snd_cupn (a b : E) (iha : Snd a) (ihb : Snd b) : Snd (.cupn a b) := snd_v fun {cx CX ec n R Fn X} g hc x h => by
  cases x <;> first | cases h | skip
  rename_i xs p
  match xs, h with
  | [x, y], h =>
    have h' : (chk cx a X.env.scope x && chk cx b X.env.scope y) = true := h
    rw [Bool.and_eq_true] at h'
    obtain ⟨a1, a2⟩ := iha.pe g hc x h'.1
    obtain ⟨b1, b2⟩ := ihb.pe g hc y h'.2
    exact ⟨⟨s_cup a2 b2 a1 b1, rfl⟩, fun _ _ => rfl⟩
theorem snd_op2 (o : Op2) (a b : E) (iha : Snd a) (ihb : Snd b) : Snd (.op2 o a b) := snd_v fun {cx CX ec n R Fn X} g hc x h => by
  cases x <;> first | cases h | skip
  rename_i x op y p
  obtain ⟨h1, h2, h3⟩ := and3 (show (decide (op = o.op) && chk cx a X.env.scope x && chk cx b X.env.scope y) = true from h)
  rw [decide_eq_true_eq] at h1
  subst h1
  exact ⟨⟨s_op2 (iha.pe g hc x h2).1 (ihb.pe g hc y h3).1, rfl⟩, fun _ _ => rfl⟩
theorem snd_neg (a : E) (iha : Snd a) : Snd (.neg a) := snd_v fun {cx CX ec n R Fn X} g hc x h => by
  cases x <;> first | cases h | skip
  rename_i op x p
  have h' : (decide (op = .USub) && chk cx a X.env.scope x) = true := h
  rw [Bool.and_eq_true, decide_eq_true_eq] at h'
  obtain ⟨rfl, h2⟩ := h'
  exact ⟨⟨s_neg (iha.pe g hc x h2).1, rfl⟩, fun _ _ => rfl⟩
theorem snd_ife (c a b : E) (ihc : Snd c) (iha : Snd a) (ihb : Snd b) : Snd (.ife c a b) := snd_v fun {cx CX ec n R Fn X} g hc x h => by
  cases x <;> first | cases h | skip
  rename_i x y z p
  have h' : (chk cx c X.env.scope x && chk cx a X.env.scope y && chk cx b X.env.scope z && c.tst) = true := h
  rw [Bool.and_eq_true] at h'
  obtain ⟨h1, h2, h3⟩ := and3 h'.1
  exact ⟨⟨s_ife (ihc.pt g hc x h1 h'.2) (iha.pe g hc y h2).1 (ihb.pe g hc z h3).1, rfl⟩, fun e => by cases e⟩
theorem snd_ix (a i : E) (iha : Snd a) (ihi : Snd i) : Snd (.ix a i) := snd_v fun {cx CX ec n R Fn X} g hc x h => by
  cases x <;> first | cases h | skip
  rename_i x y p
  have h' : (chk cx a X.env.scope x && chk cx i X.env.scope y) = true := h
  rw [Bool.and_eq_true] at h'
  obtain ⟨a1, a2⟩ := iha.pe g hc x h'.1
  obtain ⟨b1, b2⟩ := ihi.pe g hc y h'.2
  exact ⟨⟨s_ix b2 a1 b1, rfl⟩, fun _ _ => rfl⟩
theorem snd_sl (a lo hi : E) (iha : Snd a) (ihl : Snd lo) (ihh : Snd hi) : Snd (.sl a lo hi) := snd_v fun {cx CX ec n R Fn X} g hc x h => by
  cases x <;> first | cases h | skip
  rename_i x y p
  cases y <;> first | cases h | skip
  rename_i l h0 st p2
  cases st with
  | some _ => cases h
  | none =>
    obtain ⟨h1, h2, h3⟩ := and3 (show (chk cx a X.env.scope x && chkO cx lo X.env.scope l && chkO cx hi X.env.scope h0) = true by cases l <;> cases h0 <;> exact h)
    have key : ∀ {e : E} (ih : Snd e) (l : Option Expr), chkO cx e X.env.scope l = true → (l = none ∧ e = .noe) ∨ ∃ y, l = some y ∧ e ≠ .noe ∧ PE X y (T X.K cx.own R Fn e) := fun {e} ih l h => by
      cases l with
      | none =>
        have h : e.isNoe = true := h
        cases e <;> first | exact .inl ⟨rfl, rfl⟩ | cases h
      | some y =>
        have h : chk cx e X.env.scope y = true := h
        refine .inr ⟨y, rfl, fun e1 => ?_, (ih.pe g hc y h).1⟩
        subst e1
        cases h
    exact ⟨⟨s_sl (iha.pe g hc x h1).1 (key ihl l h2) (key ihh h0 h3), rfl⟩, fun _ _ => rfl⟩
theorem snd_rev (a : E) (iha : Snd a) : Snd (.rev a) := snd_v fun {cx CX ec n R Fn X} g hc x h => by
  cases x <;> first | cases h | skip
  rename_i x y p
  cases y <;> first | cases h | skip
  rename_i l h0 st p2
  match st, h with
  | some (.UnaryOp op (.Constant (.int i) _ _) _), h =>
    have h' : (chk cx a X.env.scope x && l.isNone && h0.isNone && decide (op = .USub) && decide (i = 1)) = true := h
    simp only [Bool.and_eq_true, decide_eq_true_eq] at h'
    obtain ⟨⟨⟨⟨h1, h2⟩, h3⟩, rfl⟩, rfl⟩ := h'
    cases l with
    | some _ => cases h2
    | none =>
      cases h0 with
      | some _ => cases h3
      | none => exact ⟨⟨s_rev (iha.pe g hc x h1).1, rfl⟩, fun _ _ => rfl⟩
theorem snd_call (f : Nat) (es : E) (ih : Snd es) : Snd (.call f es) := snd_v fun {cx CX ec n R Fn X} g hc x h => by
  cases x <;> first | cases h | skip
  rename_i fx xs ks p
  cases fx <;> first | cases h | skip
  rename_i nm p2
  have h' : (ks.isEmpty && glB X.env.scope nm && okn nm && decide (cx.fs[f]? = some (nm, xs.length)) && chks cx es X.env.scope xs) = true := h
  simp only [Bool.and_eq_true, decide_eq_true_eq] at h'
  obtain ⟨⟨⟨⟨h1, h2⟩, h3⟩, h4⟩, h5⟩ := h'
  obtain ⟨a1, a2, a3, a4⟩ := ih.pa g hc xs h5
  cases ks with
  | nil => exact ⟨⟨s_call1 g h4 (gl_of h2) a3 rfl a4 (okn_of h3).1 a1, rfl⟩, fun _ _ => rfl⟩
  | cons _ _ => cases h1
theorem snd_calln (f : Nat) (es : E) (ih : Snd es) : Snd (.calln f es) := snd_v fun {cx CX ec n R Fn X} g hc x h => by
  cases x <;> first | cases h | skip
  rename_i fx xs ks p
  cases fx <;> first | cases h | skip
  rename_i nm p2
  have h' : (ks.isEmpty && glB X.env.scope nm && okn nm && decide (cx.fs[f]? = some (nm, xs.length)) && chks cx es X.env.scope xs) = true := h
  simp only [Bool.and_eq_true, decide_eq_true_eq] at h'
  obtain ⟨⟨⟨⟨h1, h2⟩, h3⟩, h4⟩, h5⟩ := h'
  obtain ⟨a1, a2, a3, a4⟩ := ih.pa g hc xs h5
  cases ks with
  | nil => exact ⟨⟨s_calln g h4 (gl_of h2) a3 rfl a4 (okn_of h3).1 a1, rfl⟩, fun _ _ => rfl⟩
  | cons _ _ => cases h1
theorem snd_callf (f : Nat) (es : E) (ih : Snd es) : Snd (.callf f es) := snd_v fun {cx CX ec n R Fn X} g hc x h => by
  cases x <;> first | cases h | skip
  rename_i fx xs ks p
  cases fx <;> first | cases h | skip
  rename_i nm p2
  have h' : (ks.isEmpty && glB X.env.scope nm && okn nm && decide (cx.fs[f]? = some (nm, xs.length)) && chks cx es X.env.scope xs) = true := h
  simp only [Bool.and_eq_true, decide_eq_true_eq] at h'
  obtain ⟨⟨⟨⟨h1, h2⟩, h3⟩, h4⟩, h5⟩ := h'
  obtain ⟨a1, a2, a3, a4⟩ := ih.pa g hc xs h5
  cases ks with
  | nil => exact ⟨⟨s_callf g h4 (gl_of h2) a3 rfl a4 (okn_of h3).1 a1, rfl⟩, fun _ _ => rfl⟩
  | cons _ _ => cases h1
theorem snd_bf (b : Bf) (es : E) (ih : Snd es) : Snd (.bf b es) := snd_v fun {cx CX ec n R Fn X} g hc x h => by
  cases x <;> first | cases h | skip
  rename_i fx xs ks p
  cases fx <;> first | cases h | skip
  rename_i nm p2
  have h' : (ks.isEmpty && glB X.env.scope nm && decide (nm = b.nm) && decide (b ≠ .sset) && chks cx es X.env.scope xs && !xs.isEmpty) = true := h
  simp only [Bool.and_eq_true, decide_eq_true_eq] at h'
  obtain ⟨⟨⟨⟨⟨h1, h2⟩, rfl⟩, h3⟩, h4⟩, h5⟩ := h'
  obtain ⟨a1, a2, a3, a4⟩ := ih.pa g hc xs h4
  cases ks with
  | nil => exact ⟨⟨s_bf h3 g.calm (gl_of h2) (g.bl _ (bf_boot b h3).2.1) a3 (fun e => by subst e; cases h5) a2, rfl⟩, fun _ _ => rfl⟩
  | cons _ _ => cases h1
theorem snd_lz (es : E) (ih : Snd es) : Snd (.lz es) := snd_v fun {cx CX ec n R Fn X} g hc x h => by
  cases x <;> first | cases h | skip
  rename_i fx xs ks p
  cases fx <;> first | cases h | skip
  rename_i nm p2
  rcases xs with _ | ⟨x1, _ | ⟨x2, r⟩⟩
  · simp [chk] at h
  · cases x1 <;> first | (simp [chk] at h; done) | skip
    rename_i fy ys ks2 p4
    cases fy <;> first | (simp [chk] at h; done) | skip
    rename_i y p3
    have h' : (ks.isEmpty && glB X.env.scope nm && decide (nm = ("list" : Str)) && (ks2.isEmpty && glB X.env.scope y && decide (y = ("zip" : Str)) && chks cx es X.env.scope ys && decide (ys.length = 2))) = true := h
    simp only [Bool.and_eq_true, decide_eq_true_eq] at h'
    obtain ⟨⟨⟨h1, h2⟩, rfl⟩, ⟨⟨⟨h3, h4⟩, rfl⟩, h5⟩, h6⟩ := h'
    obtain ⟨a1, a2, a3, a4⟩ := ih.pa g hc ys h5
    cases ks with
    | cons _ _ => cases h1
    | nil =>
      cases ks2 with
      | cons _ _ => cases h3
      | nil =>
        match ys, h6, a2, a3 with
        | [u, v], _, a2, a3 =>
          have a3 : (plainX u && (plainX v && true)) = true := a3
          rw [Bool.and_eq_true, Bool.and_true] at a3
          exact ⟨⟨s_lz g.calm (gl_of h2) (g.bl _ (by decide +kernel)) (gl_of h4) (g.bl _ (by decide +kernel)) a3.1 a3.2 a2, rfl⟩, fun _ _ => rfl⟩
  · simp [chk] at h
theorem snd_isi (a : E) (t : Ty) (iha : Snd a) : Snd (.isi a t) := snd_v fun {cx CX ec n R Fn X} g hc x h => by
  cases x <;> first | cases h | skip
  rename_i fx xs ks p
  cases fx <;> first | cases h | skip
  rename_i nm p2
  match xs, h with
  | [y, tz], h =>
    cases tz with
    | Name z p3 =>
      have h' : (ks.isEmpty && glB X.env.scope nm && decide (nm = ("isinstance" : Str)) && (chk cx a X.env.scope y && decide (z = t.nmS) && glB X.env.scope z)) = true := h
      simp only [Bool.and_eq_true, decide_eq_true_eq] at h'
      obtain ⟨⟨⟨h1, h2⟩, rfl⟩, ⟨h3, rfl⟩, h4⟩ := h'
      obtain ⟨a1, a2⟩ := iha.pe g hc y h3
      cases ks with
      | nil => exact ⟨⟨s_isi (gl_of h2) (g.bl _ (by decide +kernel)) (gl_of h4) (g.bl _ (by cases t <;> decide +kernel)) a2 a1, rfl⟩, fun _ _ => rfl⟩
      | cons _ _ => cases h1
    | _ => simp [chk] at h
  | [], h => simp [chk] at h
  | [_], h => simp [chk] at h
  | _ :: _ :: _ :: _, h => simp [chk] at h
theorem snd_nt (a : E) (iha : Snd a) : Snd (.nt a) := by
  refine snd_e (fun {cx CX ec n R Fn X} g hc x h => ?_) (fun {cx CX ec n R Fn X} g hc x h ht => ?_) (by intro _ _ xs; cases xs <;> rfl) (by intros; rfl) (by intros; rfl)
  all_goals (cases x <;> first | cases h | skip)
  all_goals (rename_i op x p; have h' : (decide (op = .Not) && chk cx a X.env.scope x) = true := h; rw [Bool.and_eq_true, decide_eq_true_eq] at h'; obtain ⟨rfl, h2⟩ := h')
  · exact ⟨s_nt (iha.pe g hc x h2).1, rfl⟩
  · exact t_nt (iha.pt g hc x h2 ht)
theorem snd_and (es : E) (ih : Snd es) : Snd (.and_ es) := by
  refine snd_e (fun {cx CX ec n R Fn X} g hc x h => ?_) (fun {cx CX ec n R Fn X} g hc x h ht => ?_) (by intro _ _ xs; cases xs <;> rfl) (by intros; rfl) (by intros; rfl)
  all_goals (cases x <;> first | cases h | skip)
  all_goals (rename_i op xs p; obtain ⟨h1, h2, h3⟩ := and3 (show (decide (op = .And) && chks cx es X.env.scope xs && !xs.isEmpty) = true from h); rw [decide_eq_true_eq] at h1; subst h1)
  · cases xs with
    | nil => cases h3
    | cons x xs => exact ⟨(ih.bo g hc x xs h2 p).1.1, rfl⟩
  · cases xs with
    | nil => cases h3
    | cons x xs => exact ((ih.bo g hc x xs h2 p).2 ht).1.pt
theorem snd_or (es : E) (ih : Snd es) : Snd (.or_ es) := by
  refine snd_e (fun {cx CX ec n R Fn X} g hc x h => ?_) (fun {cx CX ec n R Fn X} g hc x h ht => ?_) (by intro _ _ xs; cases xs <;> rfl) (by intros; rfl) (by intros; rfl)
  all_goals (cases x <;> first | cases h | skip)
  all_goals (rename_i op xs p; obtain ⟨h1, h2, h3⟩ := and3 (show (decide (op = .Or) && chks cx es X.env.scope xs && !xs.isEmpty) = true from h); rw [decide_eq_true_eq] at h1; subst h1)
  · cases xs with
    | nil => cases h3
    | cons x xs => exact ⟨(ih.bo g hc x xs h2 p).1.2, rfl⟩
  · cases xs with
    | nil => cases h3
    | cons x xs => exact ((ih.bo g hc x xs h2 p).2 ht).2.pt
theorem snd_cmp (o : Cop) (a b : E) (iha : Snd a) (ihb : Snd b) : Snd (.cmp o a b) := by
  refine snd_e (fun {cx CX ec n R Fn X} g hc x h => ?_) (fun {cx CX ec n R Fn X} g hc x h ht => ?_) (by intro _ _ xs; cases xs <;> rfl) (by intros; rfl) (by intros; rfl)
  all_goals (cases x <;> first | cases h | skip)
  all_goals
    rename_i x ops ys p
    match ops, ys, h with
    | [op], [y], h =>
    obtain ⟨h1, h2, h3⟩ := and3 (show (decide (op = o.op) && chk cx a X.env.scope x && chk cx b X.env.scope y) = true from h)
    rw [decide_eq_true_eq] at h1
    subst h1
    obtain ⟨a1, a2⟩ := iha.pe g hc x h2
    obtain ⟨b1, b2⟩ := ihb.pe g hc y h3
    first
      | exact ⟨s_cmp g.units b2 a1 b1, rfl⟩
      | exact t_cmp g.units b2 a1 b1
theorem snd_chn (o q : Cop) (a b c : E) (iha : Snd a) (ihb : Snd b) (ihc : Snd c) : Snd (.chn o q a b c) := by
  refine snd_e (fun {cx CX ec n R Fn X} g hc x h => ?_) (fun {cx CX ec n R Fn X} g hc x h ht => ?_) (by intro _ _ xs; cases xs <;> rfl) (by intros; rfl) (by intros; rfl)
  all_goals (cases x <;> first | cases h | skip)
  all_goals
    rename_i x ops ys p
    match ops, ys, h with
    | [op, op'], [y, z], h =>
    have h' : (decide (op = o.op) && decide (op' = q.op) && chk cx a X.env.scope x && chk cx b X.env.scope y && chk cx c X.env.scope z) = true := h
    simp only [Bool.and_eq_true, decide_eq_true_eq] at h'
    obtain ⟨⟨⟨⟨rfl, rfl⟩, h2⟩, h3⟩, h4⟩ := h'
    obtain ⟨a1, a2⟩ := iha.pe g hc x h2
    obtain ⟨b1, b2⟩ := ihb.pe g hc y h3
    obtain ⟨c1, c2⟩ := ihc.pe g hc z h4
    first
      | exact ⟨s_chn g.units b2 c2 a1 b1 c1, rfl⟩
      | exact t_chn g.units c2 a1 b1 c1
theorem snd_nil : Snd .nil where
  pe := fun _ _ x h => by cases x <;> cases h
  pt := fun _ _ x h => by cases x <;> cases h
  pa := fun _ _ xs h => by
    cases xs with
    | nil => exact ⟨a_nil, a_nilB, rfl, rfl⟩
    | cons _ _ => cases h
  bo := fun _ _ x xs h => by cases h
  ps := fun _ _ xs h _ _ => by
    cases xs with
    | nil => exact ts_nil
    | cons _ _ => cases h
  pi := fun _ _ tg x h => by cases tg <;> cases x <;> cases h
  cl := fun _ _ raw sc0 elt gens fst _ _ h => by cases gens <;> cases h
theorem snd_cons (e es : E) (ihe : Snd e) (ih : Snd es) : Snd (.cons e es) where
  pe := fun _ _ x h => by cases x <;> cases h
  pt := fun _ _ x h => by cases x <;> cases h
  pa := fun {cx CX ec n R Fn X} g hc xs h => by
    cases xs with
    | nil => cases h
    | cons x xs =>
      have h' : (chk cx e X.env.scope x && chks cx es X.env.scope xs) = true := h
      rw [Bool.and_eq_true] at h'
      obtain ⟨a1, a2⟩ := ihe.pe g hc x h'.1
      obtain ⟨b1, b2, b3, b4⟩ := ih.pa g hc xs h'.2
      refine ⟨a_cons a2 a1 b1, a_consB a2 a1 b2, ?_, ?_⟩
      · show (plainX x && plainL xs) = true
        rw [a2, b3]; rfl
      · show es.len + 1 = xs.length + 1
        rw [b4]
  bo := fun {cx CX ec n R Fn X} g hc x xs h pos => by
    have h' : (chk cx e X.env.scope x && chks cx es X.env.scope xs) = true := h
    rw [Bool.and_eq_true] at h'
    obtain ⟨a1, a2⟩ := ihe.pe g hc x h'.1
    cases xs with
    | nil =>
      cases es <;> first | cases h'.2 | skip
      refine ⟨⟨s_and1 a1, s_or1 a1⟩, fun ht => ?_⟩
      have ht : (e.tst && E.tst .nil) = true := ht
      rw [Bool.and_eq_true] at ht
      exact ⟨t_and1 (ihe.pt g hc x h'.1 ht.1), t_or1 (ihe.pt g hc x h'.1 ht.1)⟩
    | cons y ys =>
      cases es <;> first | cases h'.2 | skip
      rename_i b es
      obtain ⟨⟨b1, b2⟩, b3⟩ := ih.bo g hc y ys h'.2 pos
      refine ⟨⟨s_and2 a1 b1, s_or2 a1 b2⟩, fun ht => ?_⟩
      have ht : (e.tst && E.tst (.cons b es)) = true := ht
      rw [Bool.and_eq_true] at ht
      exact ⟨t_and2 (ihe.pt g hc x h'.1 ht.1) (b3 ht.2).1, t_or2 (ihe.pt g hc x h'.1 ht.1) (b3 ht.2).2⟩
  ps := fun {cx CX ec n R Fn X} g hc xs h h1 ht => by
    cases xs with
    | nil => cases h
    | cons x xs =>
      have h' : (chk cx e X.env.scope x && chks cx es X.env.scope xs) = true := h
      rw [Bool.and_eq_true] at h'
      have ht : (e.tst && es.tst) = true := ht
      rw [Bool.and_eq_true] at ht
      cases es <;> first | cases h1 | skip
      cases xs with
      | nil => exact ts_one (ihe.pt g hc x h'.1 ht.1)
      | cons _ _ => cases h'.2
  pi := fun _ _ tg x h => by cases tg <;> cases x <;> cases h
  cl := fun _ _ raw sc0 elt gens fst _ _ h => by cases gens <;> cases h
theorem snd_el (a : E) (iha : Snd a) : Snd (.el a) where
  pe := fun _ _ x h => by cases x <;> cases h
  pt := fun _ _ x h => by cases x <;> cases h
  pa := fun _ _ xs h => by cases xs <;> cases h
  bo := fun _ _ x xs h => by cases h
  ps := fun _ _ xs h => by cases xs <;> cases h
  pi := fun _ _ tg x h => by cases tg <;> cases x <;> cases h
  cl := fun {cx CX ec n Fn X} g hc raw sc0 elt gens fst _ _ h => by
    cases gens with
    | cons _ _ => cases h
    | nil =>
      have h' : (chk cx a X.env.scope elt && a.cl cx.own) = true := h
      rw [Bool.and_eq_true] at h'
      exact ⟨(iha.pe g hc elt h'.1).1, h'.2⟩
theorem snd_it {e : E} (pi : ∀ {cx : Cc} {CX : CXT} {ec : Nat → Addr} {n : Nat} {R : RX} {Fn : Nat → List D → Cu → Out D} {X : Cx}, Good cx CX ec R Fn n X → Calm CX ec → ∀ tg x, chkI cx e X.env.scope tg x = true → PI X tg x (TIt X.K cx.own R Fn e) ∧ plainX x = true)
    (h1 : ∀ cx sc x, chk cx e sc x = false := by intro _ _ x; cases x <;> rfl) (h2 : ∀ cx sc xs, chks cx e sc xs = false := by intro _ _ xs; cases xs <;> rfl) (h4 : ∀ cx raw sc0 sc gens elt, chkG cx e raw sc0 sc gens elt = false := by intro _ _ _ _ gens elt; rfl) : Snd e where
  pe := fun _ _ x h => by rw [h1] at h; cases h
  pt := fun _ _ x h => by rw [h1] at h; cases h
  pa := fun _ _ x h => by rw [h2] at h; cases h
  bo := fun _ _ x xs h => by rw [h2] at h; cases h
  ps := fun _ _ xs h => by rw [h2] at h; cases h
  pi := pi
  cl := fun _ _ raw sc0 elt gens fst _ _ h => by rw [h4] at h; cases h
theorem snd_itE (a : E) (iha : Snd a) : Snd (.itE a) := snd_it fun {cx CX ec n R Fn X} g hc tg x h => by
  have h' : chk cx a X.env.scope x = true := h
  obtain ⟨a1, a2⟩ := iha.pe g hc x h'
  exact ⟨i_seq a1, a2⟩
theorem snd_itR (es : E) (ih : Snd es) : Snd (.itR es) := snd_it fun {cx CX ec n R Fn X} g hc tg x h => by
  cases x <;> first | cases h | skip
  rename_i fx xs ks p
  cases fx <;> first | cases h | skip
  rename_i nm p2
  have h' : (ks.isEmpty && glB X.env.scope nm && decide (nm = ("range" : Str)) && chks cx es X.env.scope xs && decide (xs.length = 1 ∨ xs.length = 2)) = true := h
  simp only [Bool.and_eq_true, decide_eq_true_eq] at h'
  obtain ⟨⟨⟨⟨h1, h2⟩, rfl⟩, h4⟩, h5⟩ := h'
  obtain ⟨a1, a2, a3, a4⟩ := ih.pa g hc xs h4
  cases ks with
  | nil => exact ⟨i_rng (gl_of h2) (g.bl _ (by decide +kernel)) a3 h5 a4 a1, rfl⟩
  | cons _ _ => cases h1
theorem snd_itN (a : E) (iha : Snd a) : Snd (.itN a) := snd_it fun {cx CX ec n R Fn X} g hc tg x h => by
  cases tg <;> first | cases h | skip
  cases x <;> first | cases h | skip
  rename_i fx xs ks p
  cases fx <;> first | cases h | skip
  rename_i nm p2
  match xs, h with
  | [y], h =>
    have h' : (ks.isEmpty && glB X.env.scope nm && decide (nm = ("enumerate" : Str)) && chk cx a X.env.scope y) = true := h
    simp only [Bool.and_eq_true, decide_eq_true_eq] at h'
    obtain ⟨⟨⟨h1, h2⟩, rfl⟩, h4⟩ := h'
    obtain ⟨a1, a2⟩ := iha.pe g hc y h4
    cases ks with
    | nil => exact ⟨i_enum (gl_of h2) (g.bl _ (by decide +kernel)) a2 a1, rfl⟩
    | cons _ _ => cases h1
  | [], h => cases ks <;> simp [chkI] at h
  | _ :: _ :: _, h => cases ks <;> simp [chkI] at h
theorem snd_itZ (a b : E) (iha : Snd a) (ihb : Snd b) : Snd (.itZ a b) := snd_it fun {cx CX ec n R Fn X} g hc tg x h => by
  cases tg <;> first | cases h | skip
  cases x <;> first | cases h | skip
  rename_i fx xs ks p
  cases fx <;> first | cases h | skip
  rename_i nm p2
  match xs, h with
  | [y, z], h =>
    have h' : (ks.isEmpty && glB X.env.scope nm && decide (nm = ("zip" : Str)) && (chk cx a X.env.scope y && chk cx b X.env.scope z)) = true := h
    simp only [Bool.and_eq_true, decide_eq_true_eq] at h'
    obtain ⟨⟨⟨h1, h2⟩, rfl⟩, h4, h5⟩ := h'
    obtain ⟨a1, a2⟩ := iha.pe g hc y h4
    obtain ⟨b1, b2⟩ := ihb.pe g hc z h5
    cases ks with
    | nil => exact ⟨i_zip (gl_of h2) (g.bl _ (by decide +kernel)) a2 b2 a1 b1, rfl⟩
    | cons _ _ => cases h1
  | [], h => cases ks <;> simp [chkI] at h
  | [_], h => cases ks <;> simp [chkI] at h
  | _ :: _ :: _ :: _, h => cases ks <;> simp [chkI] at h
theorem snd_gn (t : Tg) (it ifs gs : E) (ihi : Snd it) (iht : Snd ifs) (ihg : Snd gs) : Snd (.gn t it ifs gs) where
  pe := fun _ _ x h => by cases x <;> cases h
  pt := fun _ _ x h => by cases x <;> cases h
  pa := fun _ _ xs h => by cases xs <;> cases h
  bo := fun _ _ x xs h => by cases h
  ps := fun _ _ xs h => by cases xs <;> cases h
  pi := fun _ _ tg x h => by cases tg <;> cases x <;> cases h
  cl := fun {cx CX ec n Fn X} g hc raw sc0 elt gens fst hf hs h => by
    cases gens with
    | nil => cases h
    | cons g1 rest =>
      obtain ⟨tg, iter, is, as⟩ := g1
      have h' : (decide (as = 0) && (chkTg cx t raw tg && t.noO) && chkI cx it sc0 tg iter && it.itb cx.own && chks cx ifs X.env.scope is && oneT ifs && ifs.tst && chkG cx gs raw X.env.scope X.env.scope rest elt) = true := h
      simp only [Bool.and_eq_true, decide_eq_true_eq] at h'
      obtain ⟨⟨⟨⟨⟨⟨⟨rfl, h1, hno⟩, h2⟩, h3⟩, h4⟩, h5⟩, h6⟩, h7⟩ := h'
      refine ⟨⟨tg, iter, is, rfl, ⟨pg_T g.calm g.nd g.N hf t tg h1, hno⟩, fun e => ?_, iht.ps g hc is h4 h5 h6⟩, ihg.cl g hc raw X.env.scope elt rest false hf (fun _ => rfl) h7⟩
      rw [hs e] at h2
      obtain ⟨a1, a2⟩ := ihi.pi g hc tg iter h2
      exact ⟨a1, h3, a2⟩
theorem hF_blk {X : Cx} {s : Shared} {H : Hp} {scope : Scope} {C : Addr} {cl : List (Str × Addr)} {fp : List Addr} : hF (X.blk s H scope (compEnvC scope cl C X.env) fp) scope := fun x h => by
  have e : (X.blk s H scope (compEnvC scope cl C X.env) fp).env.scope = relS scope X.env.scope := rfl
  rw [e]
  unfold locB at h
  split at h
  · rename_i q
    have := lookup_relS_keep (sc := X.env.scope) (k := .local) (by decide) q
    exact ⟨.inl this, .inr this⟩
  · rename_i q
    have := lookup_relS_keep (sc := X.env.scope) (k := .cell) (by decide) q
    refine ⟨.inr this, .inl ?_⟩
    show (scope.names.lookup x == some .cell) = true
    rw [q]; rfl
  · cases h
theorem lc_facts {cx : Cc} {CX : CXT} {ec : Nat → Addr} {n : Nat} {R : RX} {Fn : Nat → List D → Cu → Out D} {X : Cx} (g : Good cx CX ec R Fn n X) (hc : Calm CX ec) {own : List Nat} {t : Tg} {it ifs gs : E} (ihi : Snd it) (ih : Snd (.gn t it ifs gs)) {elt : Expr} {gens : List Comprehension} {scope : Scope} {pos : Pos}
    (h : chk cx (.lc own (.gn t it ifs gs)) X.env.scope (.ListComp elt gens scope pos) = true) : ∃ tg iter is rest ownb, gens = ⟨tg, iter, is, 0⟩ :: rest ∧ ownb.map (·.2) = own ∧ PI X tg iter (TIt X.K cx.own R Fn it) ∧ it.itb cx.own = true ∧ plainX iter = true ∧ BlkOk X.N X.env.scope scope ownb ∧
      (∀ (s : Shared) (H : Hp) (C : Addr) (cl : List (Str × Addr)) (fp : List Addr), ClOk (X.blk s H scope (compEnvC scope cl C X.env) fp) cx.own Fn elt true (.gn t it ifs gs) (⟨tg, iter, is, 0⟩ :: rest)) ∧
      (E.gn t it ifs gs).slots.Nodup ∧ (∀ i ∈ (E.gn t it ifs gs).slots, i ∈ ownb.map (·.2)) ∧ ∀ i ∈ ownb.map (·.2), i ∉ cx.own := by
  have h' : (blkC cx.N X.env.scope scope (own.map fun i => (cx.N.getD i (Str.ofString ""), i)) && chkG cx (.gn t it ifs gs) scope X.env.scope (relS scope X.env.scope) gens elt &&
      decide ((E.gn t it ifs gs).slots.Nodup) && (E.gn t it ifs gs).slots.all (fun i => decide (i ∈ own)) && own.all (fun i => decide (i ∉ cx.own)) && !gens.isEmpty) = true := h
  simp only [Bool.and_eq_true, decide_eq_true_eq, List.all_eq_true] at h'
  obtain ⟨⟨⟨⟨⟨h1, h2⟩, h3⟩, h4⟩, h5⟩, h6⟩ := h'
  have em : (own.map fun i => (cx.N.getD i (Str.ofString ""), i)).map (·.2) = own := by
    rw [List.map_map]
    exact List.map_id _
  cases gens with
  | nil => cases h2
  | cons g1 rest =>
    obtain ⟨tg, iter, is, as⟩ := g1
    have h7 : (decide (as = 0) && (chkTg cx t scope tg && t.noO) && chkI cx it X.env.scope tg iter && it.itb cx.own && chks cx ifs (relS scope X.env.scope) is && oneT ifs && ifs.tst && chkG cx gs scope (relS scope X.env.scope) (relS scope X.env.scope) rest elt) = true := h2
    simp only [Bool.and_eq_true, decide_eq_true_eq] at h7
    obtain ⟨⟨⟨⟨⟨⟨⟨rfl, k1, _⟩, k2⟩, k3⟩, k4⟩, k5⟩, k6⟩, k7⟩ := h7
    obtain ⟨a1, a2⟩ := ihi.pi g hc tg iter k2
    rw [← g.N] at h1
    refine ⟨tg, iter, is, rest, own.map fun i => (X.N.getD i (Str.ofString ""), i), rfl, by rw [g.N]; exact em, a1, k3, a2, blkOk_by h1, fun s H C cl fp => ?_, h3, ?_, ?_⟩
    · exact ih.cl (g.blk hc s H scope (compEnvC scope cl C X.env) fp) hc scope X.env.scope elt (⟨tg, iter, is, 0⟩ :: rest) true hF_blk (fun e => by cases e) h2
    · rw [g.N, em]; exact h4
    · rw [g.N, em]; exact h5
theorem snd_lc (own : List Nat) (gs : E) (hg : ∀ t it ifs gs', gs = .gn t it ifs gs' → Snd it) (ih : Snd gs) : Snd (.lc own gs) := snd_v fun {cx CX ec n R Fn X} g hc x h => by
  cases x <;> first | cases h | skip
  rename_i elt gens scope p
  cases gs with
  | gn t it ifs gs =>
    obtain ⟨tg, iter, is, rest, ownb, rfl, rfl, a1, a2, a3, a4, a5, a6, a7, a8⟩ := lc_facts g hc (hg _ _ _ _ rfl) ih h
    exact ⟨⟨s_lc g.calm g.nd a1 a2 a3 a4 a5 a6 a7 a8, rfl⟩, fun _ _ => rfl⟩
  | _ =>
    exfalso
    have h' := (and3 (show (((_ && _) && _ && _ && _) && _) = true from h)).1
    cases gens <;> simp [chk, chkG] at h
theorem snd_no (e : E) (h : e = .noe ∨ ∃ m a es, e = .met m a es) : Snd e := by
  rcases h with rfl | ⟨m, a, es, rfl⟩
  · exact snd_nope (by intro _ _ x; cases x <;> rfl) (by intro _ _ xs; cases xs <;> rfl) (by intros; rfl) (by intros; rfl)
  · exact snd_nope (by intro _ _ x; cases x <;> rfl) (by intro _ _ xs; cases xs <;> rfl) (by intros; rfl) (by intros; rfl)
theorem snd (e : E) : Snd e ∧ ∀ t it ifs gs', e = .gn t it ifs gs' → Snd it := by
  induction e with
  | var i => exact ⟨snd_var i, by intro _ _ _ _ h; cases h⟩
  | cst d => exact ⟨snd_cst d, by intro _ _ _ _ h; cases h⟩
  | gl x d => exact ⟨snd_gl x d, by intro _ _ _ _ h; cases h⟩
  | tup es ih => exact ⟨snd_tup es ih.1, by intro _ _ _ _ h; cases h⟩
  | lst es ih => exact ⟨snd_lst es ih.1, by intro _ _ _ _ h; cases h⟩
  | cupn a b iha ihb => exact ⟨snd_cupn a b iha.1 ihb.1, by intro _ _ _ _ h; cases h⟩
  | op2 o a b iha ihb => exact ⟨snd_op2 o a b iha.1 ihb.1, by intro _ _ _ _ h; cases h⟩
  | neg a iha => exact ⟨snd_neg a iha.1, by intro _ _ _ _ h; cases h⟩
  | nt a iha => exact ⟨snd_nt a iha.1, by intro _ _ _ _ h; cases h⟩
  | and_ es ih => exact ⟨snd_and es ih.1, by intro _ _ _ _ h; cases h⟩
  | or_ es ih => exact ⟨snd_or es ih.1, by intro _ _ _ _ h; cases h⟩
  | ife c a b ihc iha ihb => exact ⟨snd_ife c a b ihc.1 iha.1 ihb.1, by intro _ _ _ _ h; cases h⟩
  | cmp o a b iha ihb => exact ⟨snd_cmp o a b iha.1 ihb.1, by intro _ _ _ _ h; cases h⟩
  | chn o p a b c iha ihb ihc => exact ⟨snd_chn o p a b c iha.1 ihb.1 ihc.1, by intro _ _ _ _ h; cases h⟩
  | ix a i iha ihi => exact ⟨snd_ix a i iha.1 ihi.1, by intro _ _ _ _ h; cases h⟩
  | sl a lo hi iha ihl ihh => exact ⟨snd_sl a lo hi iha.1 ihl.1 ihh.1, by intro _ _ _ _ h; cases h⟩
  | noe => exact ⟨snd_no _ (.inl rfl), by intro _ _ _ _ h; cases h⟩
  | rev a iha => exact ⟨snd_rev a iha.1, by intro _ _ _ _ h; cases h⟩
  | call f es ih => exact ⟨snd_call f es ih.1, by intro _ _ _ _ h; cases h⟩
  | calln f es ih => exact ⟨snd_calln f es ih.1, by intro _ _ _ _ h; cases h⟩
  | callf f es ih => exact ⟨snd_callf f es ih.1, by intro _ _ _ _ h; cases h⟩
  | bf b es ih => exact ⟨snd_bf b es ih.1, by intro _ _ _ _ h; cases h⟩
  | lz es ih => exact ⟨snd_lz es ih.1, by intro _ _ _ _ h; cases h⟩
  | isi a t iha => exact ⟨snd_isi a t iha.1, by intro _ _ _ _ h; cases h⟩
  | met m a es _ _ => exact ⟨snd_no _ (.inr ⟨m, a, es, rfl⟩), by intro _ _ _ _ h; cases h⟩
  | lc own gs ih => exact ⟨snd_lc own gs ih.2 ih.1, by intro _ _ _ _ h; cases h⟩
  | el a iha => exact ⟨snd_el a iha.1, by intro _ _ _ _ h; cases h⟩
  | nil => exact ⟨snd_nil, by intro _ _ _ _ h; cases h⟩
  | cons e es ihe ih => exact ⟨snd_cons e es ihe.1 ih.1, by intro _ _ _ _ h; cases h⟩
  | gn t it ifs gs ihi iht ihg => exact ⟨snd_gn t it ifs gs ihi.1 iht.1 ihg.1, by intro _ _ _ _ h; cases h; exact ihi.1⟩
  | itE a iha => exact ⟨snd_itE a iha.1, by intro _ _ _ _ h; cases h⟩
  | itR es ih => exact ⟨snd_itR es ih.1, by intro _ _ _ _ h; cases h⟩
  | itN a iha => exact ⟨snd_itN a iha.1, by intro _ _ _ _ h; cases h⟩
  | itZ a b iha ihb => exact ⟨snd_itZ a b iha.1 ihb.1, by intro _ _ _ _ h; cases h⟩
end Ev

set_option maxRecDepth 100000
/-! EvSt: statements, one by one. -/
namespace Ev
open PySem PySem.Spec PyProof.Rows L2
def AfterS (K : PySem.W.Frag) (F : Addr → Prop) (own : List Nat) (ca : Option Addr) (H : Hp) (env : Env) (σ : L2.St) (R : RX) (o : Out Fl) (Dd : Ends) : Prop := match o with
  | .ok (.nx env') c' => ∀ σ' ca' H', Later (OwnA own env σ) ca H ca' c' H' → Rl K F own ca' c' env' σ' H' → (∀ a, OwnA own env' σ' a → OwnA own env σ a ∨ H a = none) → Dd.nx σ' H'
  | .ok (.rt d) c' => ∀ v ca' H', Later (OwnA own env σ) ca H ca' c' H' → Rep K F ca' H' d v → Dd.rt v H'
  | .err k c' => ∀ ca' H', Later (OwnA own env σ) ca H ca' c' H' → R k ca' c' H'
  | .no => False
def TSx (K : PySem.W.Frag) (own : List Nat) (R : RX) (Fn : Nat → List D → Cu → Out D) (s : S) : TS := fun Dd σ H => ∃ F ca c env, Rl K F own ca c env σ H ∧ AfterS K F own ca H env σ R (ex Fn s env c) Dd
section
variable {K : PySem.W.Frag} {F : Addr → Prop} {own : List Nat} {R : RX} {Fn : Nat → List D → Cu → Out D} {ca ca1 : Option Addr} {c c1 : Cu} {H H1 : Hp} {env env1 : Env} {σ σ1 : L2.St} {Dd : Ends}
theorem AfterS.later {o : Out Fl} (l : Later (OwnA own env σ) ca H ca1 c1 H1) (ho : ∀ a, OwnA own env1 σ1 a → OwnA own env σ a ∨ H a = none) (h : AfterS K F own ca H env σ R o Dd) : AfterS K F own ca1 H1 env1 σ1 R o Dd := by
  cases o with
  | ok f c =>
    cases f with
    | nx env' =>
      intro σ' ca' H' l' r' o'
      refine h σ' ca' H' (l.trans l' ho) r' fun a z => ?_
      rcases o' a z with z | z
      · exact ho a z
      · exact .inr (l.free z)
    | rt d => exact fun v ca' H' l' r' => h v ca' H' (l.trans l' ho) r'
  | err k c => exact fun ca' H' l' => h ca' H' (l.trans l' ho)
  | no => exact h
theorem AfterS.post {o : Out Fl} (p : Post ca H ca1 c1 H1) (h : AfterS K F own ca H env σ R o Dd) : AfterS K F own ca1 H1 env σ R o Dd := AfterS.later p.later (fun _ => .inl) h
theorem T.bindS {e : E} {k : D → Cu → Out Fl} (r : Rl K F own ca c env σ H) (h : AfterS K F own ca H env σ R ((ev Fn e env c).bind k) Dd) :
    T K own R Fn e σ H fun v H1 => ∃ ca1 c1 d, ev Fn e env c = .ok d c1 ∧ Got K own F env σ e ca H ca1 c1 d v H1 ∧ AfterS K F own ca1 H1 env σ R (k d c1) Dd := by
  refine ⟨F, ca, c, env, r, ?_⟩
  cases q : ev Fn e env c with
  | ok d c1 =>
    rw [q] at h
    exact fun v ca1 H1 p b s f => ⟨ca1, c1, d, rfl, ⟨r.post p, p, b, s, f⟩, AfterS.post p h⟩
  | err k c1 => rw [q] at h; exact fun ca' H' p => h ca' H' p.later
  | no => rw [q] at h; exact h
theorem TL.bindS {es : E} {k : List D → Cu → Out Fl} (r : Rl K F own ca c env σ H) (h : AfterS K F own ca H env σ R ((evs Fn es env c).bind k) Dd) :
    TL K own R Fn es σ H fun vs H1 => ∃ ca1 c1 ds, evs Fn es env c = .ok ds c1 ∧ Rl K F own ca1 c1 env σ H1 ∧ Post ca H ca1 c1 H1 ∧ RepL K (if es.cls own then Fo F own env σ else F) ca1 H1 ds vs ∧ AfterS K F own ca1 H1 env σ R (k ds c1) Dd := by
  refine ⟨F, ca, c, env, r, ?_⟩
  cases q : evs Fn es env c with
  | ok d c1 => rw [q] at h; exact fun v ca1 H1 p b => ⟨ca1, c1, d, rfl, r.post p, p, b, AfterS.post p h⟩
  | err k c1 => rw [q] at h; exact fun ca' H' p => h ca' H' p.later
  | no => rw [q] at h; exact h
theorem TB.bindS {e : E} {k : Bool → Cu → Out Fl} (r : Rl K F own ca c env σ H) (h : AfterS K F own ca H env σ R ((outB (ev Fn e env c)).bind k) Dd) :
    TB K own R Fn e σ H fun b H1 => ∃ ca1 c1, ev Fn e env c = .ok (.bl b) c1 ∧ Rl K F own ca1 c1 env σ H1 ∧ Post ca H ca1 c1 H1 ∧ AfterS K F own ca1 H1 env σ R (k b c1) Dd := by
  refine ⟨F, ca, c, env, r, ?_⟩
  cases q : outB (ev Fn e env c) with
  | ok b c1 => rw [q] at h; exact fun ca1 H1 p => ⟨ca1, c1, outB_ok q, r.post p, p, AfterS.post p h⟩
  | err k c1 => rw [q] at h; exact fun ca' H' p => h ca' H' p.later
  | no => rw [q] at h; exact h
theorem TIt.bindS {e : E} {k : List D → Cu → Out Fl} (r : Rl K F own ca c env σ H) (h : AfterS K F own ca H env σ R ((evI Fn e env c).bind k) Dd) :
    TIt K own R Fn e σ H fun J H1 => ∃ ca1 c1 ds, evI Fn e env c = .ok ds c1 ∧ Rl K F own ca1 c1 env σ H1 ∧ Post ca H ca1 c1 H1 ∧ (e.itc own = true → WalkD K (Fo F own env σ) (Fo F own env σ) ca1 H1 J ds) ∧ AfterS K F own ca1 H1 env σ R (k ds c1) Dd := by
  refine ⟨F, ca, c, env, r, ?_⟩
  cases q : evI Fn e env c with
  | ok d c1 => rw [q] at h; exact fun J ca1 H1 p w w2 => ⟨ca1, c1, d, rfl, r.post p, p, w2, AfterS.post p h⟩
  | err k c1 => rw [q] at h; exact fun ca' H' p => h ca' H' p.later
  | no => rw [q] at h; exact h
/-! ### owned slots -/
theorem RepTop.weak {F G : Addr → Prop} (hg : ∀ a, G a → F a) {d : D} {a : Addr} (h : RepTop K F ca H d a) : RepTop K G ca H d a := by
  cases d with
  | lst xs => obtain ⟨vs, e, q⟩ := h; exact ⟨vs, e, RepL.weak hg _ _ q⟩
  | dic kvs => obtain ⟨vs, e, q⟩ := h; exact ⟨vs, e, RepK.weak hg _ _ q⟩
  | _ => exact h.elim
theorem RepK.noL {F G : Addr → Prop} : ∀ (kvs : List (D × D)) (ws : List (Key × V)), (kvs.all fun kv => kv.2.noL) = true → RepK K F ca H kvs ws → RepK K G ca H kvs ws
  | [], _, _, h => h
  | (k, x) :: xs, _, e, ⟨k', v, r, e1, h0, h1, h2⟩ => by
    simp only [List.all_cons, Bool.and_eq_true] at e
    exact ⟨k', v, r, e1, h0, Rep.noL x v e.1 h1, RepK.noL xs r e.2 h2⟩
/-- what an owned slot may be given -/
theorem repB_top {F G G' : Addr → Prop} {d : D} {v : V} (hd : d.ownOk = true) (hc : CupOk ca c H) (h : RepB K F G ca H d v) : ∃ a, v = .ref a ∧ ¬ F a ∧ some a ≠ ca ∧ RepTop K G' ca H d a := by
  cases d with
  | lst xs => obtain ⟨a, vs, e, q, n, m, r⟩ := h; exact ⟨a, e, n, m, vs, q, RepL.noL _ _ hd r⟩
  | dic xs =>
    obtain ⟨a, vs, e, q, n, r⟩ := h
    refine ⟨a, e, n, fun z => ?_, vs, q, RepK.noL _ _ hd r⟩
    cases c with
    | none => rw [show ca = none from hc] at z; cases z
    | some ns =>
      obtain ⟨b, e1, e2⟩ := hc
      rw [e1] at z; cases z
      rw [q] at e2; cases e2
  | _ => cases hd
theorem RepTop.lstB {d : D} {a : Addr} (h : RepTop K F ca H d a) : d.lstB = true := by
  cases d with
  | lst _ => rfl
  | dic _ => rfl
  | _ => exact h.elim
theorem Rl.setO {ca0 : Option Addr} {c0 : Cu} {H0 : Hp} (r0 : Rl K F own ca0 c0 env σ H0) (p : Post ca0 H0 ca c H) {i : Nat} (hi : i ∈ own) {d : D} {a : Addr} (n : H0 a = none) (nF : ¬ F a) (nc : some a ≠ ca) (t : ∀ G, RepTop K G ca H d a) :
    Rl K F own ca c (env.set i (some d)) (σ.set i (some (.ref a))) H ∧ ∀ b, OwnA own (env.set i (some d)) (σ.set i (some (.ref a))) b → OwnA own env σ b ∨ H0 b = none := by
  have hw : ∀ b, OwnA own (env.set i (some d)) (σ.set i (some (.ref a))) b → OwnA own env σ b ∨ b = a := fun b ⟨j, hj, ⟨e, he, hb⟩, hs⟩ => by
    by_cases hij : i = j
    · subst hij
      rw [gv_set, if_pos rfl] at he
      by_cases hl : i < env.length
      · rw [List.getElem?_set_self (by rw [← r0.len]; exact hl)] at hs
        cases hs
        exact .inr rfl
      · rw [if_neg hl] at he; cases he
    · rw [gv_set, if_neg hij] at he
      rw [List.getElem?_set_ne hij] at hs
      exact .inl ⟨j, hj, ⟨e, he, hb⟩, hs⟩
  have hw2 : ∀ b, Fo F own (env.set i (some d)) (σ.set i (some (.ref a))) b → Fo F own env σ b ∨ H0 b = none := fun b z => by
    rcases z with z | z
    · exact .inl (.inl z)
    · exact (hw b z).imp .inr fun e => by rw [e]; exact n
  refine ⟨⟨by simpa using r0.len, fun b z => p.has (r0.dom b z), p.cup, fun j e hj he => ?_, fun j e hj he hb => ?_, fun j k e f b hj hk h1 h2 b1 b2 h3 h4 => ?_⟩, fun b z => (hw b z).imp id fun e => by rw [e]; exact n⟩
  · have hij : i ≠ j := fun z => by
      subst z
      rcases hj with hj | hj
      · exact hj hi
      · rw [gv_set, if_pos rfl] at he
        split at he
        · cases he
          rw [(t F).lstB] at hj; cases hj
        · cases he
    rw [gv_set, if_neg hij] at he
    obtain ⟨w, e1, e2⟩ := r0.slot j e hj he
    exact ⟨w, by rw [List.getElem?_set_ne hij]; exact e1, Rep.post p hw2 _ _ e2⟩
  · rw [gv_set] at he
    by_cases hij : i = j
    · subst hij
      rw [if_pos rfl] at he
      by_cases hl : i < env.length
      · rw [if_pos hl] at he
        cases he
        exact ⟨a, List.getElem?_set_self (by rw [← r0.len]; exact hl), nF, nc, t _⟩
      · rw [if_neg hl] at he; cases he
    · rw [if_neg hij] at he
      obtain ⟨b, e1, n1, m1, t1⟩ := r0.ownd j e hj he hb
      exact ⟨b, by rw [List.getElem?_set_ne hij]; exact e1, n1, p.cupN t1.has m1, t1.post p hw2 m1⟩
  · have key : ∀ j e, j ∈ own → gv (env.set i (some d)) j = some e → e.lstB = true → (σ.set i (some (.ref a)))[j]? = some (some (.ref b)) → (j = i ∧ b = a) ∨ (j ≠ i ∧ gv env j = some e ∧ σ[j]? = some (some (.ref b)) ∧ b ≠ a) := fun j e hj h1 hb h3 => by
      rw [gv_set] at h1
      by_cases hij : i = j
      · subst hij
        rw [if_pos rfl] at h1
        by_cases hl : i < env.length
        · rw [List.getElem?_set_self (by rw [← r0.len]; exact hl)] at h3
          cases h3
          exact .inl ⟨rfl, rfl⟩
        · rw [if_neg hl] at h1; cases h1
      · rw [if_neg hij] at h1
        rw [List.getElem?_set_ne hij] at h3
        refine .inr ⟨fun z => hij z.symm, h1, h3, fun z => ?_⟩
        obtain ⟨b', e1, _, _, t1⟩ := r0.ownd j e hj h1 hb
        rw [h3] at e1; cases e1
        exact t1.has (by rw [z]; exact n)
    rcases key j e hj h1 b1 h3 with ⟨rfl, q⟩ | ⟨n1, g1, s1, q1⟩ <;> rcases key k f hk h2 b2 h4 with ⟨rfl, q'⟩ | ⟨n2, g2, s2, q2⟩
    · rfl
    · exact absurd q q2
    · exact absurd q' q1
    · exact r0.inj j k e f b hj hk g1 g2 b1 b2 s1 s2
theorem ownA_upd {i : Nat} {d d' : D} (hd : gv env i = some d) (hb : d.lstB = true) (hb' : d'.lstB = true) {b : Addr} : OwnA own (env.set i (some d')) σ b ↔ OwnA own env σ b := by
  constructor
  · rintro ⟨j, hj, ⟨e, he, hbe⟩, hs⟩
    by_cases hij : i = j
    · subst hij; exact ⟨i, hj, ⟨d, hd, hb⟩, hs⟩
    · rw [gv_set, if_neg hij] at he; exact ⟨j, hj, ⟨e, he, hbe⟩, hs⟩
  · rintro ⟨j, hj, ⟨e, he, hbe⟩, hs⟩
    by_cases hij : i = j
    · subst hij; exact ⟨i, hj, ⟨d', by rw [gv_set, if_pos rfl, if_pos (gv_lt hd)], hb'⟩, hs⟩
    · exact ⟨j, hj, ⟨e, by rw [gv_set, if_neg hij]; exact he, hbe⟩, hs⟩
/-- an owned list or dict at a new content -/
theorem Rl.updO (r : Rl K F own ca c env σ H) {i : Nat} (hi : i ∈ own) {d d' : D} (hd : gv env i = some d) (hb : d.lstB = true) {a : Addr} (ha : σ[i]? = some (some (.ref a))) {o o' : HO} (ho : H a = some o) (mo : Mu o)
    (t : RepTop K (Fo F own env σ) ca (upd H a o') d' a) : Rl K F own ca c (env.set i (some d')) σ (upd H a o') ∧ Later (OwnA own env σ) ca H ca c (upd H a o') := by
  obtain ⟨a', e1, n, m, t0⟩ := r.ownd i d hi hd hb
  rw [ha] at e1; cases e1
  have own_a : OwnA own env σ a := ⟨i, hi, ⟨d, hd, hb⟩, ha⟩
  have up := Later.upd (o' := o') r.cup ho mo m
  have hM : ∀ b, b = a → Fo F own env σ b ∨ H b = none := fun b e => .inl (.inr (e ▸ own_a))
  have fo : Fo F own (env.set i (some d')) σ = Fo F own env σ := fo_iff (env' := env.set i (some d')) (σ' := σ) fun b => ownA_upd hd hb t.lstB
  refine ⟨⟨by simpa using r.len, fun b z => up.has (r.dom b z), up.cup, fun j e hj he => ?_, fun j e hj he hbe => ?_, fun j k e f b hj hk h1 h2 b1 b2 h3 h4 => ?_⟩, up.weak fun b e => e ▸ own_a⟩
  · have hij : i ≠ j := fun z => by
      subst z
      rcases hj with hj | hj
      · exact hj hi
      · rw [gv_set, if_pos rfl] at he
        split at he
        · cases he
          rw [t.lstB] at hj; cases hj
        · cases he
    rw [gv_set, if_neg hij] at he
    obtain ⟨w, e1, e2⟩ := r.slot j e hj he
    rw [fo]
    exact ⟨w, e1, Rep.later up hM (fun _ => .inl) _ _ e2⟩
  · rw [gv_set] at he
    rw [fo]
    by_cases hij : i = j
    · subst hij
      rw [if_pos rfl, if_pos (gv_lt hd)] at he
      cases he
      exact ⟨a, ha, n, m, t⟩
    · rw [if_neg hij] at he
      obtain ⟨b, e1, n1, m1, t1⟩ := r.ownd j e hj he hbe
      refine ⟨b, e1, n1, m1, t1.later up hM (fun _ => .inl) m1 fun z => ?_⟩
      subst z
      exact hij (r.inj i j d e b hi hj hd he hb hbe ha e1)
  · have key : ∀ j e, gv (env.set i (some d')) j = some e → e.lstB = true → ∃ e', gv env j = some e' ∧ e'.lstB = true := fun j e h hbe => by
      rw [gv_set] at h
      by_cases hij : i = j
      · subst hij; exact ⟨d, hd, hb⟩
      · rw [if_neg hij] at h; exact ⟨e, h, hbe⟩
    obtain ⟨e', h1', g1⟩ := key j e h1 b1
    obtain ⟨f', h2', g2⟩ := key k f h2 b2
    exact r.inj j k e' f' b hj hk h1' h2' g1 g2 h3 h4
/-- an owned list in another's place -/
theorem Rl.mov (r : Rl K F own ca c env σ H) {i j : Nat} (hi : i ∈ own) (hj : j ∈ own) {d : D} (hd : gv env i = some d) (hb : d.lstB = true) {a : Addr} (ha : σ[i]? = some (some (.ref a))) :
    Rl K F own ca c ((env.set i none).set j (some d)) (σ.set j (some (.ref a))) H ∧ ∀ b, OwnA own ((env.set i none).set j (some d)) (σ.set j (some (.ref a))) b → OwnA own env σ b := by
  have key : ∀ l e, gv ((env.set i none).set j (some d)) l = some e → (l = j ∧ e = d ∧ (σ.set j (some (.ref a)))[l]? = some (some (.ref a))) ∨ (l ≠ j ∧ l ≠ i ∧ gv env l = some e ∧ (σ.set j (some (.ref a)))[l]? = σ[l]?) := fun l e h => by
    rw [gv_set] at h
    by_cases hl : j = l
    · subst hl
      rw [if_pos rfl] at h
      by_cases hz : j < (env.set i none).length
      · rw [if_pos hz] at h
        cases h
        rw [List.length_set] at hz
        exact .inl ⟨rfl, rfl, List.getElem?_set_self (by rw [← r.len]; exact hz)⟩
      · rw [if_neg hz] at h; cases h
    · rw [if_neg hl, gv_set] at h
      by_cases hil : i = l
      · rw [if_pos hil] at h
        split at h <;> cases h
      · rw [if_neg hil] at h
        exact .inr ⟨fun z => hl z.symm, fun z => hil z.symm, h, List.getElem?_set_ne hl⟩
  have ow : ∀ b, OwnA own ((env.set i none).set j (some d)) (σ.set j (some (.ref a))) b → OwnA own env σ b := fun b ⟨l, hl, ⟨e, he, hbe⟩, hs⟩ => by
    rcases key l e he with ⟨_, _, q⟩ | ⟨_, _, q1, q2⟩
    · rw [q] at hs; cases hs
      exact ⟨i, hi, ⟨d, hd, hb⟩, ha⟩
    · rw [q2] at hs
      exact ⟨l, hl, ⟨e, q1, hbe⟩, hs⟩
  have hw : ∀ b, Fo F own ((env.set i none).set j (some d)) (σ.set j (some (.ref a))) b → Fo F own env σ b := fun b z => z.imp id (ow b)
  refine ⟨⟨by simpa using r.len, r.dom, r.cup, fun l e hl he => ?_, fun l e hl he hbe => ?_, fun l m e f b hl hm h1 h2 b1 b2 h3 h4 => ?_⟩, ow⟩
  · rcases key l e he with ⟨q, eq, _⟩ | ⟨_, _, q1, q2⟩
    · rcases hl with hl | hl
      · exact absurd hj (q ▸ hl)
      · rw [eq, hb] at hl; cases hl
    · obtain ⟨w, e1, e2⟩ := r.slot l e hl q1
      exact ⟨w, by rw [q2]; exact e1, Rep.weak hw _ _ e2⟩
  · rcases key l e he with ⟨_, rfl, q⟩ | ⟨_, _, q1, q2⟩
    · obtain ⟨a', e1, n, m, t⟩ := r.ownd i e hi hd hbe
      rw [ha] at e1; cases e1
      exact ⟨a, q, n, m, t.weak hw⟩
    · obtain ⟨b, e1, n, m, t⟩ := r.ownd l e hl q1 hbe
      exact ⟨b, by rw [q2]; exact e1, n, m, t.weak hw⟩
  · rcases key l e h1 with ⟨q, _, s1⟩ | ⟨n1, n2, g1, s1⟩ <;> rcases key m f h2 with ⟨q', _, s2⟩ | ⟨n3, n4, g2, s2⟩
    · rw [q, q']
    · rw [s1] at h3; cases h3
      rw [s2] at h4
      exact absurd (r.inj i m d f a hi hm hd g2 hb b2 ha h4).symm n4
    · rw [s2] at h4; cases h4
      rw [s1] at h3
      exact absurd (r.inj i l d e a hi hl hd g1 hb b1 ha h3).symm n2
    · rw [s1] at h3
      rw [s2] at h4
      exact r.inj l m e f b hl hm g1 g2 b1 b2 h3 h4
end
theorem PS.imp {X : Cx} {e : Stmt} {t u : TS} (h : PS X e t) (hq : ∀ Dd σ H, u Dd σ H → t Dd σ H) : PS X e u := ⟨fun pins s σ H Q I w => h.run pins s σ H Q I (hq _ _ _ w)⟩
theorem PSs.imp {X : Cx} {e : List Stmt} {t u : TS} (h : PSs X e t) (hq : ∀ Dd σ H, u Dd σ H → t Dd σ H) : PSs X e u := ⟨fun pins s σ H Q I w => h.run pins s σ H Q I (hq _ _ _ w)⟩
section
variable {X : Cx} {own : List Nat} {R : RX} {Fn : Nat → List D → Cu → Out D} {x y z : Expr} {a b e : E} {s1 s2 : S} {st : Stmt} {sts sts2 : List Stmt} {pos : Pos}
theorem u_nil : PSs X [] (TSx X.K own R Fn .nil) := PSs.imp pss_nil fun Dd σ H ⟨F, ca, c, env, r, h⟩ => h σ ca H (Later.refl r.cup) r fun _ => .inl
theorem u_seq (h1 : PS X st (TSx X.K own R Fn s1)) (h2 : PSs X sts (TSx X.K own R Fn s2)) : PSs X (st :: sts) (TSx X.K own R Fn (.cons s1 s2)) := by
  refine PSs.imp (pss_cons h1 h2) fun Dd σ H ⟨F, ca, c, env, r, h⟩ => ⟨F, ca, c, env, r, ?_⟩
  have h : AfterS X.K F own ca H env σ R ((ex Fn s1 env c).bind fun r c => match r with
    | .nx env => ex Fn s2 env c
    | .rt d => .ok (.rt d) c) Dd := h
  cases q : ex Fn s1 env c with
  | ok f c1 =>
    rw [q, bind_ok] at h
    cases f with
    | nx env' => exact fun σ' ca' H' l' r' o' => ⟨F, ca', c1, env', r', AfterS.later l' o' h⟩
    | rt d => exact h
  | err k c1 => rw [q] at h; exact h
  | no => rw [q] at h; exact h
theorem u_pass : PS X (.Pass pos) (TSx X.K own R Fn .pass) := PS.imp ps_pass fun Dd σ H ⟨F, ca, c, env, r, h⟩ => h σ ca H (Later.refl r.cup) r fun _ => .inl
theorem u_ret (h : PE X x (T X.K own R Fn e)) : PS X (.Return (some x) pos) (TSx X.K own R Fn (.ret e)) := PS.imp (ps_ret h) fun Dd σ H ⟨F, ca, c, env, r, h⟩ =>
  (T.bindS r h).mono fun v1 H1 ⟨ca1, c1, d1, _, g1, h1⟩ => h1 v1 ca1 H1 (Later.refl g1.rl.cup) g1.weak
theorem u_ex (h : PE X x (T X.K own R Fn e)) (hs : swapsWith x none pos.line X.env = pure false) : PS X (.Expr x pos) (TSx X.K own R Fn (.ex e)) := PS.imp (ps_expr h hs) fun Dd σ H ⟨F, ca, c, env, r, h⟩ =>
  (T.bindS r h).mono fun v1 H1 ⟨ca1, c1, d1, _, g1, h1⟩ => h1 σ ca1 H1 (Later.refl g1.rl.cup) g1.rl fun _ => .inl
theorem u_ife (h : PT X x (TB X.K own R Fn e)) (h1 : PSs X sts (TSx X.K own R Fn s1)) (h2 : PSs X sts2 (TSx X.K own R Fn s2)) : PS X (.If x sts sts2 pos) (TSx X.K own R Fn (.ife e s1 s2)) := PS.imp (ps_if h h1 h2) fun Dd σ H ⟨F, ca, c, env, r, h⟩ => by
  have h : AfterS X.K F own ca H env σ R ((ev Fn e env c).bind fun x c => match x with
    | .bl true => ex Fn s1 env c
    | .bl false => ex Fn s2 env c
    | _ => .no) Dd := h
  have e1 : ((ev Fn e env c).bind fun x c => match x with
    | .bl true => ex Fn s1 env c
    | .bl false => ex Fn s2 env c
    | _ => .no) = (outB (ev Fn e env c)).bind fun b c => match b with
    | true => ex Fn s1 env c
    | false => ex Fn s2 env c := by
    cases ev Fn e env c with
    | ok d c1 => cases d <;> first | rfl | (rename_i b; cases b <;> rfl)
    | err _ _ => rfl
    | no => rfl
  rw [e1] at h
  refine (TB.bindS r h).mono fun b H1 ⟨ca1, c1, _, r1, p1, h1⟩ => ?_
  cases b with
  | true => exact ⟨F, ca1, c1, env, r1, h1⟩
  | false => exact ⟨F, ca1, c1, env, r1, h1⟩
theorem u_never {k : Nat} : PS X st (TSx X.K own R0 Fn (.rais k)) := PS.imp ps_never fun Dd σ H ⟨F, ca, c, env, r, h⟩ => h ca H (Later.refl r.cup)
/-! ### stores -/
theorem r_set {i : Nat} (hi : i ∉ own) (hcl : e.cl own = true) {Dd : Ends} {σ : L2.St} {H : Hp} (w : TSx X.K own R Fn (.set i e) Dd σ H) : tAsg (T X.K own R Fn e) (gName i) Dd σ H := by
  obtain ⟨F, ca, c, env, r, h⟩ := w
  refine (T.bindS r h).mono fun v1 H1 ⟨ca1, c1, d1, _, g1, h1⟩ => ?_
  exact h1 _ ca1 H1 (Later.refl g1.rl.cup) (g1.rl.setN hi (g1.s hcl)) fun a z => .inl ((ownA_setN hi).mp z)
theorem r_seto {i : Nat} (hi : i ∈ own) (hfr : e.fr = true) {Dd : Ends} {σ : L2.St} {H : Hp} (w : TSx X.K own R Fn (.seto i e) Dd σ H) : tAsg (T X.K own R Fn e) (gName i) Dd σ H := by
  obtain ⟨F, ca, c, env, r, h⟩ := w
  have h : AfterS X.K F own ca H env σ R ((ev Fn e env c).bind fun d c => match d.ownOk with
    | true => .ok (.nx (env.set i (some d))) c
    | false => .no) Dd := h
  -- the old heap is kept in sight
  refine ⟨F, ca, c, env, r, ?_⟩
  cases q : ev Fn e env c with
  | err k c1 => rw [q] at h; exact fun ca' H' p => h ca' H' p.later
  | no => rw [q] at h; exact h
  | ok d c1 =>
    rw [q, bind_ok] at h
    cases ho : d.ownOk with
    | false => rw [ho] at h; exact h.elim
    | true =>
      rw [ho] at h
      intro v ca1 H1 p b s f
      have hl : d.lstB = true := by cases d <;> first | rfl | cases ho
      obtain ⟨a, rfl, n⟩ := f hfr hl
      obtain ⟨a', e', nF, nc, _⟩ := repB_top (G' := F) ho p.cup b
      cases e'
      have t : ∀ G, RepTop X.K G ca1 H1 d a := fun G => by
        obtain ⟨a', e', _, _, t⟩ := repB_top (G' := G) ho p.cup b
        cases e'
        exact t
      obtain ⟨r1, o1⟩ := r.setO p hi n nF nc t
      exact h _ ca1 H1 p.later r1 o1
theorem u_set {i : Nat} {nm : Str} {px : Pos} (hN : X.N.Nodup) (hi : X.N[i]? = some nm) (hx : Loc X.env.scope nm) (hf : X.fn nm = true ∨ X.env.scope.names.lookup nm = some .local) (ho : i ∉ own) (hcl : e.cl own = true)
    (h : PE X x (T X.K own R Fn e)) (hs : swapsWith x (some (.Name nm px)) pos.line X.env = pure false) : PS X (.Assign [.Name nm px] x pos) (TSx X.K own R Fn (.set i e)) := PS.imp (ps_set hN hi hx h hs hf) fun _ _ _ => r_set ho hcl
theorem u_seto {i : Nat} {nm : Str} {px : Pos} (hN : X.N.Nodup) (hi : X.N[i]? = some nm) (hx : Loc X.env.scope nm) (hf : X.fn nm = true ∨ X.env.scope.names.lookup nm = some .local) (ho : i ∈ own) (hfr : e.fr = true)
    (h : PE X x (T X.K own R Fn e)) (hs : swapsWith x (some (.Name nm px)) pos.line X.env = pure false) : PS X (.Assign [.Name nm px] x pos) (TSx X.K own R Fn (.seto i e)) := PS.imp (ps_set hN hi hx h hs hf) fun _ _ _ => r_seto ho hfr
theorem u_mov {i j : Nat} {nm nm2 : Str} {px py : Pos} (hN : X.N.Nodup) (hj : X.N[j]? = some nm) (hi : X.N[i]? = some nm2) (hx : Loc X.env.scope nm) (hf : X.fn nm = true ∨ X.env.scope.names.lookup nm = some .local) (hv : Vis X.env.scope nm2) (hd : (nm2 == ("__debug__" : Str)) = false) (hcd : (nm2 == ("__classdict__" : Str)) = false)
    (ho : j ∈ own) (ho2 : i ∈ own) : PS X (.Assign [.Name nm px] (.Name nm2 py) pos) (TSx X.K own R Fn (.mov j i)) := by
  refine PS.imp (ps_set hN hj hx (pe_var hi hv hd hcd) rfl hf) fun Dd σ H ⟨F, ca, c, env, r, h⟩ => ?_
  have h : AfterS X.K F own ca H env σ R (match gv env i with
    | some d => (match d.lstB with
      | true => .ok (.nx ((env.set i none).set j (some d))) c
      | false => .no)
    | none => .no) Dd := h
  cases q : gv env i with
  | none => rw [q] at h; exact h.elim
  | some d =>
    rw [q] at h
    have h : AfterS X.K F own ca H env σ R (match d.lstB with
      | true => .ok (.nx ((env.set i none).set j (some d))) c
      | false => .no) Dd := h
    cases hb : d.lstB with
    | false => rw [hb] at h; exact h.elim
    | true =>
      rw [hb] at h
      obtain ⟨ad, e1, n, m, t⟩ := r.ownd i d ho2 q hb
      obtain ⟨r1, o1⟩ := r.mov ho2 ho q hb e1
      exact ⟨.ref ad, e1, h _ ca H (Later.refl r.cup) r1 fun a z => .inl (o1 a z)⟩
theorem r_asg {t : Tg} (hcl : e.cl own = true) {Dd : Ends} {σ : L2.St} {H : Hp} (w : TSx X.K own R Fn (.asg t e) Dd σ H) : tAsg (T X.K own R Fn e) (gT X.K own t) Dd σ H := by
  obtain ⟨F, ca, c, env, r, h⟩ := w
  refine (T.bindS r h).mono fun v1 H1 ⟨ca1, c1, d1, _, g1, h1⟩ => ?_
  cases q : bindT t d1 env with
  | none => rw [q] at h1; exact h1.elim
  | some env' =>
    rw [q] at h1
    exact ⟨F, ca1, c1, env, d1, env', g1.rl, g1.s hcl, q, fun σ' r' o' _ _ => h1 σ' ca1 H1 (Later.refl g1.rl.cup) r' fun a z => .inl (o' a z)⟩
theorem u_asg {t : Tg} {tg : Expr} (hcl : e.cl own = true) (hg : PG X tg (gT X.K own t)) (h : PE X x (T X.K own R Fn e)) (hs : swapsWithSole [tg] x pos.line X.env = pure false) (hw : swappedStores [tg] x X.env = pure none) (h1 : (assignEach [tg] X.env).map (·.2) = [assign tg X.env]) :
    PS X (.Assign [tg] x pos) (TSx X.K own R Fn (.asg t e)) := PS.imp (ps_asg h hg hs hw h1) fun _ _ _ => r_asg hcl
theorem u_par {i j : Nat} {nm nm2 : Str} {px py pt : Pos} {kt k2 : Nat} {pt2 : Pos} {es : E} (hc : X.calm = true) (hN : X.N.Nodup) (hi : X.N[i]? = some nm) (hj : X.N[j]? = some nm2) (hij : i ≠ j) (hx : X.env.scope.names.lookup nm = some .local) (hy : X.env.scope.names.lookup nm2 = some .local)
    (oi : i ∉ own) (oj : j ∉ own) (hcl : es.cls own = true) (ha : PA X [x, y] (TL X.K own R Fn es))
    (hw : swappedStores [.Tuple [.Name nm px, .Name nm2 py] kt pt] (.Tuple [x, y] k2 pt2) X.env = pure (some [nm, nm2])) :
    PS X (.Assign [.Tuple [.Name nm px, .Name nm2 py] kt pt] (.Tuple [x, y] k2 pt2) pos) (TSx X.K own R Fn (.asg (.tp (.cons (.nm i) (.cons (.nm j) .nil))) (.tup es))) := by
  refine PS.imp (ps_par hc hN hi hj hij hx hy ha hw) fun Dd σ H ⟨F, ca, c, env, r, h⟩ => ?_
  have h : AfterS X.K F own ca H env σ R (((evs Fn es env c).bind fun ds c => .ok (.tup ds) c).bind fun d c => match bindT (.tp (.cons (.nm i) (.cons (.nm j) .nil))) d env with
    | some env => .ok (.nx env) c
    | none => .no) Dd := h
  have e1 : (((evs Fn es env c).bind fun ds c => Out.ok (D.tup ds) c).bind fun d c => match bindT (.tp (.cons (.nm i) (.cons (.nm j) .nil))) d env with
    | some env => Out.ok (Fl.nx env) c
    | none => Out.no) = (evs Fn es env c).bind fun ds c => match bindL (.cons (.nm i) (.cons (.nm j) .nil)) ds env with
    | some env => Out.ok (Fl.nx env) c
    | none => Out.no := by cases evs Fn es env c <;> rfl
  rw [e1] at h
  refine (TL.bindS r h).mono fun vs H1 ⟨ca1, c1, ds, q, r1, p1, b1, h1⟩ => ?_
  rw [hcl] at b1
  match ds, b1, h1 with
  | [d1, d2], ⟨v1, _, e1, k1, v2, _, e2, k2', e3⟩, h1 =>
    subst e1; subst e2
    rw [show _ = [] from e3]
    have h1 : AfterS X.K F own ca1 H1 env σ R (.ok (.nx ((env.set i (some d1)).set j (some d2))) c1) Dd := h1
    refine ⟨v1, v2, rfl, h1 _ ca1 H1 (Later.refl r1.cup) ((r1.setN oi k1).setN oj ?_) fun a z => .inl ((ownA_setN oi).mp ((ownA_setN oj).mp z))⟩
    rw [fo_iff (env' := env.set i (some d1)) (σ' := σ.set i (some v1)) fun a => ownA_setN oi]
    exact k2'
  | [], _, h1 => exact h1.elim
  | [_], _, h1 => exact h1.elim
  | _ :: _ :: _ :: _, _, h1 => exact h1.elim
theorem u_paro {i j : Nat} {nm nm2 : Str} {px py pt : Pos} {kt k2 : Nat} {pt2 : Pos} {es : E} (hc : X.calm = true) (hN : X.N.Nodup) (hi : X.N[i]? = some nm) (hj : X.N[j]? = some nm2) (hij : i ≠ j) (hx : X.env.scope.names.lookup nm = some .local) (hy : X.env.scope.names.lookup nm2 = some .local)
    (oj : j ∉ own) (hcl : es.cls own = true) (ha : PA X [x, y] (TL X.K own R Fn es))
    (hw : swappedStores [.Tuple [.Name nm px, .Name nm2 py] kt pt] (.Tuple [x, y] k2 pt2) X.env = pure (some [nm, nm2])) :
    PS X (.Assign [.Tuple [.Name nm px, .Name nm2 py] kt pt] (.Tuple [x, y] k2 pt2) pos) (TSx X.K own R Fn (.asg (.tp (.cons (.nmo i) (.cons (.nm j) .nil))) (.tup es))) := by
  refine PS.imp (ps_par hc hN hi hj hij hx hy ha hw) fun Dd σ H ⟨F, ca, c, env, r, h⟩ => ?_
  have h : AfterS X.K F own ca H env σ R (((evs Fn es env c).bind fun ds c => .ok (.tup ds) c).bind fun d c => match bindT (.tp (.cons (.nmo i) (.cons (.nm j) .nil))) d env with
    | some env => .ok (.nx env) c
    | none => .no) Dd := h
  have e1 : (((evs Fn es env c).bind fun ds c => Out.ok (D.tup ds) c).bind fun d c => match bindT (.tp (.cons (.nmo i) (.cons (.nm j) .nil))) d env with
    | some env => Out.ok (Fl.nx env) c
    | none => Out.no) = (evs Fn es env c).bind fun ds c => match bindL (.cons (.nmo i) (.cons (.nm j) .nil)) ds env with
    | some env => Out.ok (Fl.nx env) c
    | none => Out.no := by cases evs Fn es env c <;> rfl
  rw [e1] at h
  refine (TL.bindS r h).mono fun vs H1 ⟨ca1, c1, ds, q, r1, p1, b1, h1⟩ => ?_
  rw [hcl] at b1
  match ds, b1, h1 with
  | [d1, d2], ⟨v1, _, e1, k1, v2, _, e2, k2', e3⟩, h1 =>
    subst e1; subst e2
    rw [show _ = [] from e3]
    cases hb : d1.lstB with
    | true =>
      simp only [bindL, bindT, hb] at h1
      exact h1.elim
    | false =>
      simp only [bindL, bindT, hb] at h1
      have h1 : AfterS X.K F own ca1 H1 env σ R (.ok (.nx ((env.set i (some d1)).set j (some d2))) c1) Dd := h1
      refine ⟨v1, v2, rfl, h1 _ ca1 H1 (Later.refl r1.cup) ((r1.setP hb k1).setN oj (Rep.weak (fun a z => z.imp id (ownA_setP hb)) _ _ k2')) fun a z => .inl (ownA_setP hb ((ownA_setN oj).mp z))⟩
  | [], _, h1 => exact h1.elim
  | [d1], _, h1 =>
    cases hb : d1.lstB <;> (simp only [bindL, bindT, hb] at h1; exact h1.elim)
  | d1 :: _ :: _ :: _, _, h1 =>
    cases hb : d1.lstB <;> (simp only [bindL, bindT, hb] at h1; exact h1.elim)
theorem u_par3 {i j l : Nat} {nm nm2 nm3 : Str} {px py pz pt : Pos} {kt k2 : Nat} {pt2 : Pos} {es : E} (hc : X.calm = true) (hN : X.N.Nodup) (hi : X.N[i]? = some nm) (hj : X.N[j]? = some nm2) (hl : X.N[l]? = some nm3) (hij : i ≠ j) (hil : i ≠ l) (hjl : j ≠ l) (hx : X.env.scope.names.lookup nm = some .local) (hy : X.env.scope.names.lookup nm2 = some .local) (hz : X.env.scope.names.lookup nm3 = some .local)
    (oi : i ∉ own) (oj : j ∉ own) (ol : l ∉ own) (hcl : es.cls own = true) (ha : PA X [x, y, z] (TL X.K own R Fn es))
    (hw : swappedStores [.Tuple [.Name nm px, .Name nm2 py, .Name nm3 pz] kt pt] (.Tuple [x, y, z] k2 pt2) X.env = pure (some [nm, nm2, nm3])) :
    PS X (.Assign [.Tuple [.Name nm px, .Name nm2 py, .Name nm3 pz] kt pt] (.Tuple [x, y, z] k2 pt2) pos) (TSx X.K own R Fn (.asg (.tp (.cons (.nm i) (.cons (.nm j) (.cons (.nm l) .nil)))) (.tup es))) := by
  refine PS.imp (ps_par3 hc hN hi hj hl hij hil hjl hx hy hz ha hw) fun Dd σ H ⟨F, ca, c, env, r, h⟩ => ?_
  have h : AfterS X.K F own ca H env σ R (((evs Fn es env c).bind fun ds c => .ok (.tup ds) c).bind fun d c => match bindT (.tp (.cons (.nm i) (.cons (.nm j) (.cons (.nm l) .nil)))) d env with
    | some env => .ok (.nx env) c
    | none => .no) Dd := h
  have e1 : (((evs Fn es env c).bind fun ds c => Out.ok (D.tup ds) c).bind fun d c => match bindT (.tp (.cons (.nm i) (.cons (.nm j) (.cons (.nm l) .nil)))) d env with
    | some env => Out.ok (Fl.nx env) c
    | none => Out.no) = (evs Fn es env c).bind fun ds c => match bindL (.cons (.nm i) (.cons (.nm j) (.cons (.nm l) .nil))) ds env with
    | some env => Out.ok (Fl.nx env) c
    | none => Out.no := by cases evs Fn es env c <;> rfl
  rw [e1] at h
  refine (TL.bindS r h).mono fun vs H1 ⟨ca1, c1, ds, q, r1, p1, b1, h1⟩ => ?_
  rw [hcl] at b1
  match ds, b1, h1 with
  | [d1, d2, d3], ⟨v1, _, e1, k1, v2, _, e2, k2', v3, _, e3, k3, e4⟩, h1 =>
    subst e1; subst e2; subst e3
    rw [show _ = [] from e4]
    have h1 : AfterS X.K F own ca1 H1 env σ R (.ok (.nx (((env.set i (some d1)).set j (some d2)).set l (some d3))) c1) Dd := h1
    have f1 := fo_iff (F := F) (env' := env.set i (some d1)) (σ' := σ.set i (some v1)) fun a => ownA_setN (own := own) (env := env) (σ := σ) (d := d1) (v := v1) oi (a := a)
    have f2 := fo_iff (F := F) (env' := (env.set i (some d1)).set j (some d2)) (σ' := (σ.set i (some v1)).set j (some v2)) fun a => ownA_setN (own := own) (env := env.set i (some d1)) (σ := σ.set i (some v1)) (d := d2) (v := v2) oj (a := a)
    refine ⟨v1, v2, v3, rfl, h1 _ ca1 H1 (Later.refl r1.cup) (((r1.setN oi k1).setN oj ?_).setN ol ?_) fun a z => .inl ((ownA_setN oi).mp ((ownA_setN oj).mp ((ownA_setN ol).mp z)))⟩
    · rw [f1]; exact k2'
    · rw [f2, f1]; exact k3
  | [], _, h1 => exact h1.elim
  | [_], _, h1 => exact h1.elim
  | [_, _], _, h1 => exact h1.elim
  | _ :: _ :: _ :: _ :: _, _, h1 => exact h1.elim
/-! ### changes of owned lists and dicts -/
theorem kD_key {k : D} {k' : Key} (h : kD k = some k') : (∃ i, k = .int i ∧ k' = .inl i) ∨ ∃ x, k = .str x ∧ k' = .inr x := by
  cases k <;> first | cases h | skip
  · exact .inl ⟨_, rfl, rfl⟩
  · exact .inr ⟨_, rfl, rfl⟩
theorem kD_eqv {a b : D} {a' b' : Key} (h : kD a = some a') (h' : kD b = some b') : D.eqv a b = decide (a' = b') := by
  rcases kD_key h with ⟨i, rfl, rfl⟩ | ⟨x, rfl, rfl⟩ <;> rcases kD_key h' with ⟨j, rfl, rfl⟩ | ⟨y, rfl, rfl⟩
  · rw [Bool.eq_iff_iff]; simp [D.eqv]
  · simp [D.eqv]
  · simp [D.eqv]
  · rw [Bool.eq_iff_iff]; simp [D.eqv]
theorem repK_any {K : PySem.W.Frag} {F : Addr → Prop} {ca : Option Addr} {H : Hp} {k : D} {k' : Key} (hk : kD k = some k') : ∀ {kvs : List (D × D)} {ws : List (Key × V)}, RepK K F ca H kvs ws → (kvs.any fun kv => D.eqv kv.1 k) = (ws.any fun kv => decide (kv.1 = k'))
  | [], _, h => by rw [show _ = [] from h]; rfl
  | (q, x) :: r, _, ⟨q', v, w, e, h0, h1, h2⟩ => by
    subst e
    rw [List.any_cons, List.any_cons, repK_any hk h2, kD_eqv h0 hk]
theorem repK_len {K : PySem.W.Frag} {F : Addr → Prop} {ca : Option Addr} {H : Hp} : ∀ {kvs : List (D × D)} {ws : List (Key × V)}, RepK K F ca H kvs ws → kvs.length = ws.length
  | [], _, h => by rw [show _ = [] from h]; rfl
  | (q, x) :: r, _, ⟨q', v, w, e, h0, h1, h2⟩ => by
    subst e
    rw [List.length_cons, List.length_cons, repK_len h2]
theorem repK_map {K : PySem.W.Frag} {F : Addr → Prop} {ca : Option Addr} {H : Hp} {k d : D} {k' : Key} {v : V} (hk : kD k = some k') (hv : Rep K F ca H d v) : ∀ {kvs : List (D × D)} {ws : List (Key × V)}, RepK K F ca H kvs ws →
    RepK K F ca H (kvs.map (fun kv => if D.eqv kv.1 k = true then (kv.1, d) else kv)) (ws.map (fun kv => if kv.1 = k' then (kv.1, v) else kv))
  | [], _, h => by rw [show _ = [] from h]; rfl
  | (q, x) :: r, _, ⟨q', u, w, e, h0, h1, h2⟩ => by
    subst e
    rw [List.map_cons, List.map_cons]
    by_cases hq : q' = k'
    · rw [if_pos (by rw [kD_eqv h0 hk]; exact decide_eq_true hq), if_pos hq]
      exact ⟨q', v, _, rfl, h0, hv, repK_map hk hv h2⟩
    · rw [if_neg (by rw [kD_eqv h0 hk, decide_eq_true_eq]; exact hq), if_neg hq]
      exact ⟨q', u, _, rfl, h0, h1, repK_map hk hv h2⟩
theorem repK_app {K : PySem.W.Frag} {F : Addr → Prop} {ca : Option Addr} {H : Hp} {k d : D} {k' : Key} {v : V} (hk : kD k = some k') (hv : Rep K F ca H d v) : ∀ {kvs : List (D × D)} {ws : List (Key × V)}, RepK K F ca H kvs ws → RepK K F ca H (kvs ++ [(k, d)]) (ws ++ [(k', v)])
  | [], _, h => by rw [show _ = [] from h]; exact ⟨k', v, [], rfl, hk, hv, rfl⟩
  | (q, x) :: r, _, ⟨q', u, w, e, h0, h1, h2⟩ => by
    subst e
    exact ⟨q', u, _, rfl, h0, h1, repK_app hk hv h2⟩
theorem dput_rep {K : PySem.W.Frag} {F : Addr → Prop} {ca : Option Addr} {H : Hp} {k d : D} {k' : Key} {v : V} (hk : kD k = some k') (hv : Rep K F ca H d v) {kvs : List (D × D)} {ws : List (Key × V)} (h : RepK K F ca H kvs ws) : RepK K F ca H (dput kvs k d) (putK ws k' v) := by
  unfold dput putK
  rw [repK_any hk h]
  split
  · exact repK_map hk hv h
  · exact repK_app hk hv h
def rSt : TSet := fun o i v H Q => rSetL o i v H Q ∨ rSetD o i v H Q
theorem set_st (hu : X.A.units + 1 < cLine) : PSet X rSt := fun pins s σ H o i v ov iv u Q I ro ri rv h => h.elim (set_list pins s σ H o i v ov iv u Q I ro ri rv) (set_dict hu pins s σ H o i v ov iv u Q I ro ri rv)
theorem key_rep {K : PySem.W.Frag} {F G : Addr → Prop} {ca : Option Addr} {H : Hp} {d : D} {v : V} (hk : d.key = true) (h : RepB K F G ca H d v) : ∃ k', kD d = some k' ∧ v = kV k' := by
  cases d <;> first | cases hk | skip
  · rename_i i; exact ⟨.inl i, rfl, h⟩
  · rename_i x; exact ⟨.inr x, rfl, h⟩
theorem Post.cupSet {ca : Option Addr} {H : Hp} {ns ns' : List Int} {a : Addr} (hc : CupOk ca (some ns) H) (ha : ca = some a) : Post ca H ca (some ns') (upd H a (.lst (ns'.map V.int))) := by
  refine ⟨fun b o e => ?_, .inl rfl, a, ha, upd_same⟩
  by_cases hb : b = a
  · subst hb
    obtain ⟨a', e1, e2⟩ := hc
    rw [ha] at e1; cases e1
    rw [e] at e2; cases e2
    exact .inl ⟨ha.symm, _, rfl⟩
  · rw [upd_ne hb]; exact .inr e
theorem u_stx {i : Nat} {nm : Str} {px ps : Pos} {k : E} (hu : X.A.units + 1 < cLine) (hi : X.N[i]? = some nm) (hv : Vis X.env.scope nm) (hd : (nm == ("__debug__" : Str)) = false) (hcd : (nm == ("__classdict__" : Str)) = false) (hp : plainX y = true) (ho : i ∈ own)
    (hcl : e.cl own = true) (he : PE X x (T X.K own R Fn e)) (hk : PE X y (T X.K own R Fn k)) (hs : swapsWithSole [.Subscript (.Name nm px) y ps] x pos.line X.env = pure false) (hw : swappedStores [.Subscript (.Name nm px) y ps] x X.env = pure none) : PS X (.Assign [.Subscript (.Name nm px) y ps] x pos) (TSx X.K own R Fn (.stx i k e)) := by
  have ha : ∀ v, assign (.Subscript (.Name nm px) y ps) X.env v = (do
      let ov ← holding [v] (eval (.Name nm px) X.env)
      let iv ← holding [v, ov] (eval y X.env)
      standAt ps
      holding [v, ov, iv] (setItem ov iv v)
      release [v, ov, iv] []) := by intro v; cases y <;> first | rfl | cases hp
  refine PS.imp (ps_asg he (pg_sub (pe_var hi hv hd hcd) hk (set_st hu) ha) hs hw rfl) fun Dd σ H ⟨F, ca, c, env, r, h⟩ => ?_
  refine (T.bindS r h).mono fun v1 H1 ⟨ca1, c1, d1, _, g1, h1⟩ => ?_
  cases q : gv env i with
  | none => rw [q] at h1; exact h1.elim
  | some o =>
    rw [q] at h1
    have hbo : o.lstB = true := by
      cases hb : o.lstB with
      | true => rfl
      | false =>
        have h1 : AfterS X.K F own ca1 H1 env σ R (match o.lstB with
          | true => (ev Fn k env c1).bind fun kk c => putv env i (stv o kk d1) c
          | false => .no) Dd := h1
        rw [hb] at h1
        exact h1.elim
    have h1 : AfterS X.K F own ca1 H1 env σ R (match o.lstB with
      | true => (ev Fn k env c1).bind fun kk c => putv env i (stv o kk d1) c
      | false => .no) Dd := h1
    rw [hbo] at h1
    obtain ⟨a, e1, n, m, t⟩ := g1.rl.ownd i o ho q hbo
    refine ⟨.ref a, e1, ?_⟩
    refine (T.bindS g1.rl h1).mono fun v2 H2 ⟨ca2, c2, d2, _, g2, h2⟩ => ?_
    have rv : Rep X.K (Fo F own env σ) ca2 H2 d1 v1 := Rep.post g2.post (fun _ => .inl) _ _ (g1.s hcl)
    have t2 := t.post g2.post (fun _ => .inl) m
    have hM : ∀ b, b = a → Fo F own env σ b ∨ H2 b = none := fun b e => .inl (.inr (e ▸ ⟨i, ho, ⟨_, q, hbo⟩, e1⟩))
    cases q5 : stv o d2 d1 with
    | none => rw [q5] at h2; exact h2.elim
    | some o' =>
      rw [q5] at h2
      cases o with
      | lst xs =>
        obtain ⟨vs, q1, q2⟩ := t2
        cases d2 with
        | int j =>
          have q5 : (match ixN xs.length j with
            | some j => some (D.lst (xs.set j d1))
            | none => none) = some o' := q5
          cases q3 : ixN xs.length j with
          | none => rw [q3] at q5; cases q5
          | some l =>
            rw [q3] at q5
            cases q5
            refine .inl ⟨a, vs, j, l, rfl, g2.b, q1, by rw [← q2.len]; exact q3, ?_⟩
            have up := Later.upd (o' := .lst (vs.set l v1)) g2.rl.cup q1 (.inl ⟨_, rfl⟩) (g2.post.cupN t.has m)
            obtain ⟨r3, l3⟩ := g2.rl.updO ho q rfl e1 q1 (.inl ⟨_, rfl⟩) (o' := .lst (vs.set l v1)) (d' := .lst (xs.set l d1)) ⟨_, upd_same, RepL.later up hM (fun _ => .inl) _ _ (q2.set l rv)⟩
            exact h2 _ ca2 _ l3 r3 fun b z => .inl ((ownA_upd q rfl rfl).mp z)
        | _ => cases q5
      | dic kvs =>
        obtain ⟨ws, q1, q2⟩ := t2
        have q5 : (if d2.key && decide (kvs.length < 16777216) then some (D.dic (dput kvs d2 d1)) else none) = some o' := by cases d2 <;> exact q5
        cases hk' : d2.key && decide (kvs.length < 16777216) with
        | false => rw [hk'] at q5; cases q5
        | true =>
          rw [hk'] at q5
          cases q5
          rw [Bool.and_eq_true, decide_eq_true_eq] at hk'
          obtain ⟨k', e3, e4⟩ := key_rep hk'.1 g2.b
          refine .inr ⟨a, upd H2 a (.dK (putK ws k' v1)), rfl, ?_, ?_⟩
          · rw [e4]; exact DPut.k q1 (by rw [← repK_len q2, line_eq]; exact hk'.2)
          have up := Later.upd (o' := .dK (putK ws k' v1)) g2.rl.cup q1 (.inr ⟨_, rfl⟩) (g2.post.cupN t.has m)
          obtain ⟨r3, l3⟩ := g2.rl.updO ho q rfl e1 q1 (.inr ⟨_, rfl⟩) (o' := .dK (putK ws k' v1)) (d' := .dic (dput kvs d2 d1)) ⟨_, upd_same, RepK.later up hM (fun _ => .inl) _ _ (dput_rep e3 rv q2)⟩
          exact h2 _ ca2 _ l3 r3 fun b z => .inl ((ownA_upd q rfl rfl).mp z)
      | _ => exact t.elim
theorem assign_sub {nm : Str} {px ps : Pos} {y : Expr} (hp : plainX y = true) (env : PySem.Env) : ∀ v, assign (.Subscript (.Name nm px) y ps) env v = (do
      let ov ← holding [v] (eval (.Name nm px) env)
      let iv ← holding [v, ov] (eval y env)
      standAt ps
      holding [v, ov, iv] (setItem ov iv v)
      release [v, ov, iv] []) := by intro v; cases y <;> first | rfl | cases hp
theorem u_stc {i : Nat} {nm : Str} {px ps : Pos} {k : E} (hi : X.N[i]? = some nm) (hv : Vis X.env.scope nm) (hd : (nm == ("__debug__" : Str)) = false) (hcd : (nm == ("__classdict__" : Str)) = false) (hp : plainX y = true) (ho : i ∉ own)
    (he : PE X x (T X.K own R Fn e)) (hk : PE X y (T X.K own R Fn k)) (hs : swapsWithSole [.Subscript (.Name nm px) y ps] x pos.line X.env = pure false) (hw : swappedStores [.Subscript (.Name nm px) y ps] x X.env = pure none) : PS X (.Assign [.Subscript (.Name nm px) y ps] x pos) (TSx X.K own R Fn (.stc i k e)) := by
  refine PS.imp (ps_asg he (pg_sub (pe_var hi hv hd hcd) hk set_list (assign_sub hp _)) hs hw rfl) fun Dd σ H ⟨F, ca, c, env, r, h⟩ => ?_
  refine (T.bindS r h).mono fun v1 H1 ⟨ca1, c1, d1, _, g1, h1⟩ => ?_
  cases q : gv env i with
  | none => rw [q] at h1; exact h1.elim
  | some o =>
    rw [q] at h1
    cases o with
    | cup =>
      obtain ⟨w, e1, t⟩ := g1.rl.slot i _ (.inl ho) q
      obtain ⟨a, rfl, ea⟩ := t
      refine ⟨.ref a, e1, ?_⟩
      have h1 : AfterS X.K F own ca1 H1 env σ R ((ev Fn k env c1).bind fun k c => match (generalizing := false) k, d1, c with
        | .int k, .int v, some ns => (match ixN ns.length k with
          | some j => .ok (.nx env) (some (ns.set j v))
          | none => .no)
        | _, _, _ => .no) Dd := h1
      refine (T.bindS g1.rl h1).mono fun v2 H2 ⟨ca2, c2, d2, _, g2, h2⟩ => ?_
      have ea2 : ca2 = some a := by
        rcases g2.post.le with z | ⟨z, _⟩
        · rw [z, ea]
        · rw [z] at ea; cases ea
      cases d2 with
      | int j =>
        cases d1 with
        | int w =>
          cases c2 with
          | none => exact h2.elim
          | some ns =>
            have h2 : AfterS X.K F own ca2 H2 env σ R (match ixN ns.length j with
              | some j => .ok (.nx env) (some (ns.set j w))
              | none => .no) Dd := h2
            cases q3 : ixN ns.length j with
            | none => rw [q3] at h2; exact h2.elim
            | some l =>
              rw [q3] at h2
              obtain ⟨a', e3, e4⟩ := g2.rl.cup
              rw [ea2] at e3; cases e3
              refine ⟨a, ns.map V.int, j, l, rfl, g2.b, e4, by simpa using q3, ?_⟩
              rw [show v1 = V.int w from g1.b, ← List.map_set]
              have pp := Post.cupSet (ns' := ns.set l w) g2.rl.cup ea2
              exact h2 _ ca2 _ pp.later (g2.rl.post pp) fun b z => .inl z
        | _ => cases c2 <;> exact h2.elim
      | _ => cases d1 <;> cases c2 <;> exact h2.elim
    | _ => exact h1.elim
/-- name op= value, ints -/
theorem u_augi {i : Nat} {nm : Str} {px : Pos} (hN : X.N.Nodup) (hi : X.N[i]? = some nm) (hx : Loc X.env.scope nm) (hf : X.fn nm = true ∨ X.env.scope.names.lookup nm = some .local) (ho : i ∉ own) (he : PE X x (T X.K own R Fn e)) : PS X (.AugAssign (.Name nm px) .Add x pos) (TSx X.K own R Fn (.augi i e)) := by
  refine PS.imp (ps_aug hN hi hx he ip_add hf) fun Dd σ H ⟨F, ca, c, env, r, h⟩ => ?_
  have h : AfterS X.K F own ca H env σ R (match gv env i with
    | some (.int a) => (ev Fn e env c).bind fun v c => match v with
      | .int b => .ok (.nx (env.set i (some (.int (a + b))))) c
      | _ => .no
    | _ => .no) Dd := h
  cases q : gv env i with
  | none => rw [q] at h; exact h.elim
  | some o =>
    rw [q] at h
    cases o with
    | int k =>
      obtain ⟨w, e1, t⟩ := r.slot i _ (.inl ho) q
      refine ⟨w, e1, ?_⟩
      refine (T.bindS r h).mono fun v1 H1 ⟨ca1, c1, d1, _, g1, h1⟩ => ?_
      cases d1 with
      | int l => exact ⟨k, l, t, g1.b, h1 _ ca1 H1 (Later.refl g1.rl.cup) (g1.rl.setN ho rfl) fun a z => .inl ((ownA_setN ho).mp z)⟩
      | _ => exact h1.elim
    | _ => exact h.elim
theorem PIp.of {X : Cx} {op : Operator} {r : R2} (h : OpR X (inplaceOp op) r) : PIp X op r := fun pins s σ H x y v u Q I r1 r2 q => h pins s σ H x y v u Q I r1 r2 q
theorem u_auga {i : Nat} {nm : Str} {px : Pos} (hN : X.N.Nodup) (hi : X.N[i]? = some nm) (hx : Loc X.env.scope nm) (hf : X.fn nm = true ∨ X.env.scope.names.lookup nm = some .local) (ho : i ∈ own) (hcl : e.cl own = true) (he : PE X x (T X.K own R Fn e)) : PS X (.AugAssign (.Name nm px) .Add x pos) (TSx X.K own R Fn (.auga i e)) := by
  refine PS.imp (ps_aug hN hi hx he (PIp.of iop_ext) hf) fun Dd σ H ⟨F, ca, c, env, r, h⟩ => ?_
  have h : AfterS X.K F own ca H env σ R (match gv env i with
    | some (.lst xs) => (ev Fn e env c).bind fun v c => putv env i (catv (.lst xs) v) c
    | _ => .no) Dd := h
  cases q : gv env i with
  | none => rw [q] at h; exact h.elim
  | some o =>
    rw [q] at h
    cases o with
    | lst xs =>
      obtain ⟨a, e1, n, m, t⟩ := r.ownd i _ ho q rfl
      refine ⟨.ref a, e1, ?_⟩
      refine (T.bindS r h).mono fun v1 H1 ⟨ca1, c1, d1, _, g1, h1⟩ => ?_
      have t2 := t.post g1.post (fun _ => .inl) m
      have rv := g1.s hcl
      have hM : ∀ b, b = a → Fo F own env σ b ∨ H1 b = none := fun b e => .inl (.inr (e ▸ ⟨i, ho, ⟨_, q, rfl⟩, e1⟩))
      cases q5 : catv (.lst xs) d1 with
      | none => rw [q5] at h1; exact h1.elim
      | some o' =>
        rw [q5] at h1
        cases d1 with
        | lst ys =>
          have q5 : (if big (xs.length + ys.length) then some (D.lst (xs ++ ys)) else none) = some o' := q5
          split at q5
          · rename_i hb
            cases q5
            obtain ⟨vs, q1, q2⟩ := t2
            obtain ⟨b, ws, rfl, q3, _, _, q4⟩ := rv
            refine ⟨a, b, vs, ws, rfl, rfl, q1, q3, by rw [← q2.len, ← q4.len, line_eq]; exact of_decide_eq_true hb, ?_⟩
            have up := Later.upd (o' := .lst (vs ++ ws)) g1.rl.cup q1 (.inl ⟨_, rfl⟩) (g1.post.cupN t.has m)
            obtain ⟨r3, l3⟩ := g1.rl.updO ho q rfl e1 q1 (.inl ⟨_, rfl⟩) (o' := .lst (vs ++ ws)) (d' := .lst (xs ++ ys)) ⟨_, upd_same, RepL.later up hM (fun _ => .inl) _ _ (q2.app q4)⟩
            have es : σ.set i (some (.ref a)) = σ := by
              apply List.ext_getElem?
              intro j
              by_cases hj : i = j
              · subst hj
                have hl : i < σ.length := (List.getElem?_eq_some_iff.mp e1).1
                rw [List.getElem?_set_self hl, e1]
              · rw [List.getElem?_set_ne hj]
            show Dd.nx (σ.set i (some (.ref a))) _
            rw [es]
            exact h1 _ ca1 _ l3 r3 fun b z => .inl ((ownA_upd q rfl rfl).mp z)
          · cases q5
        | _ => cases q5
    | _ => exact h.elim
/-- name.append(value), as a statement -/
theorem few1 {x : Expr} (hp : plainX x = true) (cpos : Pos) (env : PySem.Env) : ((backTo cpos (starEach [x] env)).all (fun x => !x.1) && (backToKw cpos (keywordEach [] env)).all (fun x => x.1.isSome)
      && decide ([x].length + ([] : List Keyword).length + (if ([] : List Keyword).isEmpty then 0 else 1) < 30)) = true := by
  rw [plain_star hp]
  rfl
theorem u_app {i : Nat} {nm : Str} {px pa pc : Pos} (hi : X.N[i]? = some nm) (hv : Vis X.env.scope nm) (hd : (nm == ("__debug__" : Str)) = false) (hcd : (nm == ("__classdict__" : Str)) = false) (ho : i ∈ own) (hcl : e.cl own = true) (hp : plainX x = true) (hl : (pa.endLine == pc.line) = true)
    (he : PE X x (T X.K own R Fn e)) : PS X (.Expr (.Call (.Attribute (.Name nm px) "append" pa) [x] [] pc) pos) (TSx X.K own R Fn (.app i e)) := by
  refine PS.imp (ps_expr (pe_bm PySem.F.plainAttrs_list PySem.F.slot_list_append PySem.F.type_list_append mt_append (pe_var hi hv hd hcd) (pa_cons he pa_nil (plain_star hp _ _)) rfl (few1 hp _ _) hl (plain_star hp _ _) rfl) rfl) fun Dd σ H ⟨F, ca, c, env, r, h⟩ => ?_
  have h : AfterS X.K F own ca H env σ R (match gv env i with
    | some (.lst xs) => (ev Fn e env c).bind fun v c => putv env i (catv (.lst xs) (.lst [v])) c
    | _ => .no) Dd := h
  cases q : gv env i with
  | none => rw [q] at h; exact h.elim
  | some o =>
    rw [q] at h
    cases o with
    | lst xs =>
      obtain ⟨a, e1, n, m, t⟩ := r.ownd i _ ho q rfl
      obtain ⟨vs0, q0, _⟩ := id t
      refine ⟨.ref a, e1, .inl ⟨rfl, vs0, SqL.of q0⟩, ?_⟩
      refine (T.bindS r h).mono fun v1 H1 ⟨ca1, c1, d1, _, g1, h1⟩ => ?_
      obtain ⟨vs, q1, q2⟩ := t.post g1.post (fun _ => .inl) m
      have rv := g1.s hcl
      have hM : ∀ b, b = a → Fo F own env σ b ∨ H1 b = none := fun b e => .inl (.inr (e ▸ ⟨i, ho, ⟨_, q, rfl⟩, e1⟩))
      have h1 : AfterS X.K F own ca1 H1 env σ R (putv env i (if big (xs.length + [d1].length) then some (D.lst (xs ++ [d1])) else none) c1) Dd := h1
      cases hb : big (xs.length + [d1].length) with
      | false => rw [hb] at h1; exact h1.elim
      | true =>
        rw [hb] at h1
        have hb' := of_decide_eq_true hb
        refine ⟨a, vs, v1, rfl, rfl, q1, by rw [← q2.len, line_eq]; simp at hb'; omega, ?_⟩
        have up := Later.upd (o' := .lst (vs ++ [v1])) g1.rl.cup q1 (.inl ⟨_, rfl⟩) (g1.post.cupN t.has m)
        obtain ⟨r3, l3⟩ := g1.rl.updO ho q rfl e1 q1 (.inl ⟨_, rfl⟩) (o' := .lst (vs ++ [v1])) (d' := .lst (xs ++ [d1])) ⟨_, upd_same, RepL.later up hM (fun _ => .inl) _ _ (q2.app ⟨v1, [], rfl, rv, rfl⟩)⟩
        exact h1 _ ca1 _ l3 r3 fun b z => .inl ((ownA_upd q rfl rfl).mp z)
    | _ => exact h.elim
end
end Ev

set_option maxRecDepth 100000
/-! EvSu: loops. -/
namespace Ev
open PySem PySem.Spec PyProof.Rows L2
section
variable {X : Cx} {own : List Nat} {R : RX} {Fn : Nat → List D → Cu → Out D} {x tg : Expr} {e : E} {s1 : S} {sts : List Stmt} {pos : Pos}
theorem u_wh (hp : PassesOwn (model X.prog X.w) X.A X.env X.xe) (hc : PT X x (TB X.K own R Fn e)) (hb : PSs X sts (TSx X.K own R Fn s1)) : PS X (.While x sts [] pos) (TSx X.K own R Fn (.wh e s1)) := by
  refine PS.imp (ps_while hp hc hb) fun Dd σ H ⟨F, ca, c, env, r, h⟩ => ?_
  have h : AfterS X.K F own ca H env σ R (whL (fun env c => ev Fn e env c) (fun env c => ex Fn s1 env c) WH env c) Dd := h
  refine ⟨fun m σ' H' => ∃ env' ca' c', Rl X.K F own ca' c' env' σ' H' ∧ AfterS X.K F own ca' H' env' σ' R (whL (fun env c => ev Fn e env c) (fun env c => ex Fn s1 env c) m env' c') Dd, ⟨WH, env, ca, c, r, h⟩, ?_⟩
  rintro m σ' H' ⟨env', ca', c', r', h'⟩
  cases m with
  | zero => exact h'.elim
  | succ m =>
    have e1 : whL (fun env c => ev Fn e env c) (fun env c => ex Fn s1 env c) (m + 1) env' c' = (outB (ev Fn e env' c')).bind fun b c => match b with
      | true => (ex Fn s1 env' c).bind fun r c => match r with
        | .nx env => whL (fun env c => ev Fn e env c) (fun env c => ex Fn s1 env c) m env c
        | .rt d => .ok (.rt d) c
      | false => .ok (.nx env') c := by
      show ((ev Fn e env' c').bind _) = _
      cases ev Fn e env' c' with
      | ok d c1 => cases d <;> first | rfl | (rename_i b; cases b <;> rfl)
      | err _ _ => rfl
      | no => rfl
    rw [e1] at h'
    refine (TB.bindS r' h').mono fun b H1 ⟨ca1, c1, _, r1, p1, h1⟩ => ?_
    cases b with
    | false => exact h1 σ' ca1 H1 (Later.refl r1.cup) r1 fun _ => .inl
    | true =>
      rw [if_pos rfl]
      refine ⟨fun σ2 H2 => ∃ env' ca' c', Rl X.K F own ca' c' env' σ2 H2 ∧ AfterS X.K F own ca' H2 env' σ2 R (whL (fun env c => ev Fn e env c) (fun env c => ex Fn s1 env c) m env' c') Dd, fun σ2 H2 w => ⟨m, Nat.lt_succ_self m, w⟩, F, ca1, c1, env', r1, ?_⟩
      have h1 : AfterS X.K F own ca1 H1 env' σ' R ((ex Fn s1 env' c1).bind fun r c => match r with
        | .nx env => whL (fun env c => ev Fn e env c) (fun env c => ex Fn s1 env c) m env c
        | .rt d => .ok (.rt d) c) Dd := h1
      cases q : ex Fn s1 env' c1 with
      | ok f c2 =>
        rw [q, bind_ok] at h1
        cases f with
        | nx env2 => exact fun σ2 ca2 H2 l2 r2 o2 => ⟨env2, ca2, c2, r2, AfterS.later l2 o2 h1⟩
        | rt d => exact h1
      | err k c2 => rw [q] at h1; exact h1
      | no => rw [q] at h1; exact h1
theorem u_for {t : Tg} (hp : PassesOwn (model X.prog X.w) X.A X.env X.xe) (hc : X.calm = true) (hi : PI X tg x (TIt X.K own R Fn e)) (hic : e.itc own = true) (hpl : plainX x = true) (hg : PG X tg (gT X.K own t)) (hb : PSs X sts (TSx X.K own R Fn s1)) : PS X (.For tg x sts [] pos) (TSx X.K own R Fn (.for_ t e s1)) := by
  refine PS.imp (ps_for hp hc hi hg hb fun v => plain_set hpl _ v) fun Dd σ H ⟨F, ca, c, env, r, h⟩ => ?_
  have h : AfterS X.K F own ca H env σ R ((evI Fn e env c).bind fun items c => forL (fun x env c => match bindT t x env with
      | some env => ex Fn s1 env c
      | none => .no) items env c) Dd := h
  obtain ⟨F', ca', c', env', r', h'⟩ := TIt.bindS r h
  refine ⟨F', ca', c', env', r', ?_⟩
  cases qo : evI Fn e env' c' with
  | no => rw [qo] at h'; exact h'
  | err k c1 => rw [qo] at h'; exact h'
  | ok its c1 =>
    rw [qo] at h'
    intro J ca1 H1 p w w2
    obtain ⟨ca2, c2, ds, q, r1, p1, hw, h1⟩ := h' J ca1 H1 p w w2
    have W := hw hic
    refine ⟨fun i m σ' H' => m = ds.length - i ∧ i ≤ ds.length ∧ ∃ env' ca' c', Later (OwnA own env σ) ca2 H1 ca' c' H' ∧ Rl X.K F own ca' c' env' σ' H' ∧ (∀ a, OwnA own env' σ' a → OwnA own env σ a ∨ H1 a = none) ∧
      AfterS X.K F own ca' H' env' σ' R (forL (fun x env c => match bindT t x env with
      | some env => ex Fn s1 env c
      | none => .no) (ds.drop i) env' c') Dd, ⟨ds.length, by simp, Nat.zero_le _, env, ca2, c2, Later.refl r1.cup, r1, fun _ => .inl, h1⟩, ?_⟩
    rintro i m σ' H' ⟨rfl, hi, env', ca', c', l', r', o', h'⟩
    obtain ⟨hstop, hgo⟩ := W (OwnA own env σ) (fun a z => .inl (.inr z)) ca' c' H' l'
    by_cases hlt : i < ds.length
    · have hd : ds[i]? = some ds[i] := List.getElem?_eq_getElem hlt
      obtain ⟨go, yl⟩ := hgo i _ hd
      rw [List.drop_eq_getElem_cons hlt] at h'
      refine .inr ⟨go, fun σ2 H2 => ∃ env' ca' c', Later (OwnA own env σ) ca2 H1 ca' c' H2 ∧ Rl X.K F own ca' c' env' σ2 H2 ∧ (∀ a, OwnA own env' σ2 a → OwnA own env σ a ∨ H1 a = none) ∧
        AfterS X.K F own ca' H2 env' σ2 R (forL (fun x env c => match bindT t x env with
        | some env => ex Fn s1 env c
        | none => .no) (ds.drop (i + 1)) env' c') Dd, fun σ2 H2 w => ⟨ds.length - (i + 1), by omega, rfl, hlt, w⟩, fun v H3 y => ?_⟩
      obtain ⟨p3, rv⟩ := yl v H3 y
      have h' : AfterS X.K F own ca' H' env' σ' R ((match bindT t ds[i] env' with
        | some env => ex Fn s1 env c'
        | none => .no).bind fun r c => match r with
        | .nx env => forL (fun x env c => match bindT t x env with
          | some env => ex Fn s1 env c
          | none => .no) (ds.drop (i + 1)) env c
        | .rt d => .ok (.rt d) c) Dd := h'
      cases hb : bindT t ds[i] env' with
      | none => rw [hb] at h'; exact h'.elim
      | some env2 =>
        rw [hb] at h'
        have r3 := r'.post p3
        have rv' := rv (Fo F own env' σ') fun a z => by
          rcases z with z | z
          · exact .inl (.inl z)
          · exact (o' a z).imp .inr id
        refine ⟨F, ca', c', env', ds[i], env2, r3, rv', hb, fun σ2 r2 o2 _ _ => ⟨F, ca', c', env2, r2, ?_⟩⟩
        have h3 := AfterS.post p3 h'
        have h4 := AfterS.later (env1 := env2) (σ1 := σ2) (Later.refl r2.cup) (fun a z => .inl (o2 a z)) h3
        have h4 : AfterS X.K F own ca' H3 env2 σ2 R ((ex Fn s1 env2 c').bind fun r c => match r with
          | .nx env => forL (fun x env c => match bindT t x env with
            | some env => ex Fn s1 env c
            | none => .no) (ds.drop (i + 1)) env c
          | .rt d => .ok (.rt d) c) Dd := h4
        have l3 : Later (OwnA own env σ) ca2 H1 ca' c' H3 := l'.trans p3.later (N := OwnA own env σ) fun a => .inl
        have o3 : ∀ a, OwnA own env2 σ2 a → OwnA own env σ a ∨ H1 a = none := fun a z => o' a (o2 a z)
        cases q : ex Fn s1 env2 c' with
        | ok f c4 =>
          rw [q, bind_ok] at h4
          cases f with
          | nx env4 =>
            intro σ4 ca4 H4 l4 r4 o4
            refine ⟨env4, ca4, c4, l3.trans l4 o3, r4, fun a z => ?_, AfterS.later l4 o4 h4⟩
            rcases o4 a z with z | z
            · exact o3 a z
            · exact .inr (l3.free z)
          | rt d => exact h4
        | err k c4 => rw [q] at h4; exact h4
        | no => rw [q] at h4; exact h4
    · have ei : i = ds.length := by omega
      subst ei
      rw [List.drop_length] at h'
      exact .inl ⟨hstop, h' σ' ca' H' (Later.refl r'.cup) r' fun _ => .inl⟩
end
end Ev

set_option maxRecDepth 100000
set_option maxHeartbeats 1000000
/-! EvFn: statements held against their text; defs. -/
namespace Ev
open PySem PySem.Spec PyProof.Rows L2
/-! ### which stores come in which order -/
def swNames (sc : Scope) (ts : List Expr) : List Str :=
  let line := (ts.head?.map (·.pos.line)).getD 0
  ts.filterMap fun
    | .Name id pos => if sc.names.lookup id == some .local && pos.line == line then some id else none
    | _ => none
def starB : Expr → Bool
  | .Starred .. => true
  | _ => false
def swD (sc : Scope) (ts vs : List Expr) : Option (Option (List Str)) :=
  if (!(ts.length == 2 || ts.length == 3) || vs.length != ts.length) = true then some none
  else if (vs.any starB) = true then some none
  else if ((swNames sc ts).length != ts.length || (swNames sc ts).eraseDups.length != (swNames sc ts).length) = true then some none
  else if (vs.all (foldedForSure 8)) = true then some none
  else if (vs.all (constantsAlone 8)) = true then none
  else some (some (swNames sc ts))
theorem swD_ok {env : PySem.Env} (hk : env.scope.kind = .function) {ts vs : List Expr} {k k2 : Nat} {p p2 : Pos} {o : Option (List Str)} (h : swD env.scope ts vs = some o) : swappedStores [.Tuple ts k p] (.Tuple vs k2 p2) env = pure o := by
  have hb : (env.blockKind != .function) = false := by unfold Env.blockKind; rw [hk]; rfl
  have e2 : (vs.any fun | .Starred .. => true | _ => false) = vs.any starB := rfl
  have e3 : (ts.filterMap fun
    | .Name id pos => if env.kindOf id == some .local && pos.line == (ts.head?.map (·.pos.line)).getD 0 then some id else none
    | _ => none) = swNames env.scope ts := rfl
  unfold swD at h
  unfold swappedStores
  simp only [hb, Bool.or_false]
  split at h
  · rename_i q
    cases h
    simp only [q, if_true]
    try rfl
  · rename_i q
    simp only [q, if_false, Bool.false_eq_true]
    split at h
    · rename_i q2
      cases h
      show (if (vs.any starB) = true then pure none else _) = _
      rw [if_pos q2]
    · rename_i q2
      show (if (vs.any starB) = true then pure none else _) = _
      rw [if_neg q2]
      split at h
      · rename_i q3
        cases h
        show (if ((swNames env.scope ts).length != ts.length || (swNames env.scope ts).eraseDups.length != (swNames env.scope ts).length) = true then pure none else _) = _
        rw [if_pos q3]
      · rename_i q3
        show (if ((swNames env.scope ts).length != ts.length || (swNames env.scope ts).eraseDups.length != (swNames env.scope ts).length) = true then pure none else _) = _
        rw [if_neg q3]
        split at h
        · rename_i q4
          cases h
          show (if (vs.all (foldedForSure 8)) = true then pure none else _) = _
          rw [if_pos q4]
        · rename_i q4
          show (if (vs.all (foldedForSure 8)) = true then pure none else _) = _
          rw [if_neg q4]
          split at h
          · cases h
          · rename_i q5
            cases h
            show (if (vs.all (constantsAlone 8)) = true then _ else _) = _
            rw [if_neg q5]
            rfl
/-- a comprehension's value goes into the name ahead of the block's end -/
def swL (sc : Scope) (x : Str) (px : Pos) : Expr → Bool
  | .ListComp _ _ s p => sc.names.lookup x == some .local && px.line == p.line && !(s.names.any fun (n, k) => n == x && (k == .local || k == .cell))
  | _ => false
def isLc : Expr → Bool
  | .ListComp _ _ _ _ => true
  | _ => false
def isTupE : Expr → Bool
  | .Tuple _ _ _ => true
  | _ => false
def tupOf : Expr → List Expr
  | .Tuple xs _ _ => xs
  | _ => []
section
variable (cx : Cc)
def chkA (t : Tg) (e : E) (sc : Scope) (tg v : Expr) : Bool := chkTg cx t sc tg && chk cx e sc v && e.cl cx.own && isTupE tg && (!isTupE v || (match swD sc (tupOf tg) (tupOf v) with
  | some none => true
  | _ => false))
def loc1 (sc : Scope) (i : Nat) (x : Str) : Bool := decide (cx.N[i]? = some x) && decide (sc.names.lookup x = some .local) && decide (i ∉ cx.own)
def chkP2 : Tg → E → Scope → Expr → Expr → Bool
  | .tp (.cons (.nm i) (.cons (.nm j) .nil)), .tup es, sc, .Tuple [.Name x px, .Name y py] kt pt, .Tuple [a, b] k2 pt2 => loc1 cx sc i x && loc1 cx sc j y && decide (i ≠ j) && es.cls cx.own && chks cx es sc [a, b] &&
    decide (swD sc [.Name x px, .Name y py] [a, b] = some (some [x, y]))
  | _, _, _, _, _ => false
def chkP3 : Tg → E → Scope → Expr → Expr → Bool
  | .tp (.cons (.nm i) (.cons (.nm j) (.cons (.nm l) .nil))), .tup es, sc, .Tuple [.Name x px, .Name y py, .Name z pz] kt pt, .Tuple [a, b, c] k2 pt2 => loc1 cx sc i x && loc1 cx sc j y && loc1 cx sc l z && decide (i ≠ j) && decide (i ≠ l) && decide (j ≠ l) && es.cls cx.own && chks cx es sc [a, b, c] &&
    decide (swD sc [.Name x px, .Name y py, .Name z pz] [a, b, c] = some (some [x, y, z]))
  | _, _, _, _, _ => false
def loc0 (sc : Scope) (i : Nat) (x : Str) : Bool := decide (cx.N[i]? = some x) && decide (sc.names.lookup x = some .local)
def chkPo : Tg → E → Scope → Expr → Expr → Bool
  | .tp (.cons (.nmo i) (.cons (.nm j) .nil)), .tup es, sc, .Tuple [.Name x px, .Name y py] kt pt, .Tuple [a, b] k2 pt2 => loc0 cx sc i x && loc1 cx sc j y && decide (i ≠ j) && es.cls cx.own && chks cx es sc [a, b] &&
    decide (swD sc [.Name x px, .Name y py] [a, b] = some (some [x, y]))
  | _, _, _, _, _ => false
def var1 (sc : Scope) (i : Nat) (x : Str) : Bool := decide (cx.N[i]? = some x) && visB sc x && okn x
def sgl : List Expr → Bool
  | [_] => true
  | _ => false
def hd1 : List Expr → Expr
  | [t] => t
  | _ => .Tuple [] 0 ⟨0, 0, 0, 0⟩
def chkT : S → Scope → Expr → Expr → Bool
  | .set i e, sc, .Name x _, v => decide (cx.N[i]? = some x) && locB sc x && decide (i ∉ cx.own) && chk cx e sc v && e.cl cx.own
  | .seto i e, sc, .Name x _, v => decide (cx.N[i]? = some x) && locB sc x && decide (i ∈ cx.own) && chk cx e sc v && e.fr
  | .mov j i, sc, .Name x _, .Name y _ => decide (cx.N[j]? = some x) && locB sc x && decide (j ∈ cx.own) && decide (i ∈ cx.own) && var1 cx sc i y
  | .asg t e, sc, tg, v => chkA cx t e sc tg v || chkP2 cx t e sc tg v || chkP3 cx t e sc tg v || chkPo cx t e sc tg v
  | .stx i k e, sc, .Subscript (.Name x _) y _, v => var1 cx sc i x && decide (i ∈ cx.own) && chk cx k sc y && chk cx e sc v && e.cl cx.own && !isLc v
  | .stc i k e, sc, .Subscript (.Name x _) y _, v => var1 cx sc i x && decide (i ∉ cx.own) && chk cx k sc y && chk cx e sc v && !isLc v
  | _, _, _, _ => false
mutual
def chkS : S → Scope → Stmt → Bool
  | .pass, _, .Pass _ => true
  | .pass, _, .Expr (.Constant (.str _) _ _) _ => true
  | .set i e, sc, .Assign ts v _ => sgl ts && chkT cx (.set i e) sc (hd1 ts) v
  | .seto i e, sc, .Assign ts v _ => sgl ts && chkT cx (.seto i e) sc (hd1 ts) v
  | .mov j i, sc, .Assign ts v _ => sgl ts && chkT cx (.mov j i) sc (hd1 ts) v
  | .asg t e, sc, .Assign ts v _ => sgl ts && chkT cx (.asg t e) sc (hd1 ts) v
  | .stx i k e, sc, .Assign ts v _ => sgl ts && chkT cx (.stx i k e) sc (hd1 ts) v
  | .stc i k e, sc, .Assign ts v _ => sgl ts && chkT cx (.stc i k e) sc (hd1 ts) v
  | .app i e, sc, .Expr (.Call (.Attribute (.Name x _) nm pa) vs ks pc) _ => sgl vs && var1 cx sc i x && decide (i ∈ cx.own) && decide (nm = ("append" : Str)) && ks.isEmpty && (pa.endLine == pc.line) && chk cx e sc (hd1 vs) && e.cl cx.own
  | .auga i e, sc, .AugAssign (.Name x _) op v _ => decide (cx.N[i]? = some x) && locB sc x && decide (i ∈ cx.own) && decide (op = .Add) && chk cx e sc v && e.cl cx.own
  | .augi i e, sc, .AugAssign (.Name x _) op v _ => decide (cx.N[i]? = some x) && locB sc x && decide (i ∉ cx.own) && decide (op = .Add) && chk cx e sc v
  | .ex e, sc, .Expr v _ => chk cx e sc v && !isLc v
  | .ret e, sc, .Return (some v) _ => chk cx e sc v
  | .ife e a b, sc, .If c ss tt _ => chk cx e sc c && e.tst && chkB a sc ss && chkB b sc tt
  | .for_ t it b, sc, .For tg iter ss oe _ => chkTg cx t sc tg && chkI cx it sc tg iter && it.itc cx.own && chkB b sc ss && oe.isEmpty
  | .wh e b, sc, .While c ss oe _ => chk cx e sc c && e.tst && chkB b sc ss && oe.isEmpty
  | .rais _, _, _ => !cx.al
  | _, _, _ => false
def chkB : S → Scope → List Stmt → Bool
  | .nil, _, [] => true
  | .cons s ss, sc, x :: xs => chkS s sc x && chkB ss sc xs
  | _, _, _ => false
end
end
/-! ### sound -/
structure GoodS (cx : Cc) (ec : Nat → Addr) (Fn : Nat → List D → Cu → Out D) (n : Nat) (X : Cx) : Prop where
  g : Good cx CX0 ec R0 Fn n X
  xe : X.xe = fun _ _ => False
  hf : hF X X.env.scope
  kind : X.env.scope.kind = .function
theorem calm0 {ec : Nat → Addr} : Calm CX0 ec := fun _ _ _ _ _ h => h
theorem sw_name {cx : Cc} {e : E} {v : Expr} {x : Str} {px : Pos} {l : Nat} {env : PySem.Env} (hk : env.scope.kind = .function) (h : chk cx e env.scope v = true) : swapsWith v (some (.Name x px)) l env = pure (swL env.scope x px v) := by
  have hb : env.blockKind = .function := by unfold Env.blockKind; rw [hk]; rfl
  cases v <;> first
    | rfl
    | skip
  · unfold swapsWith swL
    simp only [hb]
    rfl
  · cases e <;> cases h
  · cases e <;> cases h
theorem sw_sole {cx : Cc} {e : E} {v tg : Expr} {l : Nat} {env : PySem.Env} (h : chk cx e env.scope v = true) (ht : ∀ x p, tg ≠ .Name x p) : swapsWithSole [tg] v l env = pure false := by
  cases v <;> first
    | rfl
    | (cases tg <;> first | rfl | exact absurd rfl (ht _ _))
theorem sw_none {cx : Cc} {e : E} {v : Expr} {l : Nat} {env : PySem.Env} (h : chk cx e env.scope v = true) (ht : isLc v = false) : swapsWith v none l env = pure false := by
  cases v <;> first
    | rfl
    | (exfalso; cases e <;> cases h; done)
    | (exact absurd ht (by simp [isLc]))
theorem lc_of {cx : Cc} {e : E} {sc : Scope} {elt : Expr} {gens : List Comprehension} {scope : Scope} {p : Pos} (h : chk cx e sc (.ListComp elt gens scope p) = true) : ∃ own t it ifs gs, e = .lc own (.gn t it ifs gs) := by
  cases e <;> first | cases h | skip
  rename_i own gs
  cases gs <;> first
    | exact ⟨_, _, _, _, _, rfl⟩
    | (exfalso; cases gens <;> simp [chk, chkG] at h)
theorem u_set' {cx : Cc} {ec : Nat → Addr} {Fn : Nat → List D → Cu → Out D} {n : Nat} {X : Cx} (g : GoodS cx ec Fn n X) {e : E} {i : Nat} {x : Str} {px pos : Pos} {v : Expr} (hi : cx.N[i]? = some x) (hl : locB X.env.scope x = true) (hv : chk cx e X.env.scope v = true)
    {t : TS} (hr : ∀ Dd σ H, t Dd σ H → tAsg (T X.K cx.own R0 Fn e) (gName i) Dd σ H) : PS X (.Assign [.Name x px] v pos) t := by
  have hx := g.hf x hl
  have hi' : X.N[i]? = some x := by rw [g.g.N]; exact hi
  cases hs : swL X.env.scope x px v with
  | false => exact PS.imp (ps_set g.g.nd hi' hx.1 ((snd e).1.pe g.g calm0 v hv).1 (by rw [sw_name g.kind hv, hs]) hx.2) hr
  | true =>
    cases v <;> first | cases hs | skip
    rename_i elt gens scope p
    obtain ⟨own, t', it, ifs, gs, rfl⟩ := lc_of hv
    obtain ⟨tg, iter, is, rest, ownb, rfl, rfl, a1, a2, a3, a4, a5, a6, a7, a8⟩ := lc_facts g.g calm0 ((snd (.gn t' it ifs gs)).2 _ _ _ _ rfl) (snd (.gn t' it ifs gs)).1 hv
    have hloc : X.env.scope.names.lookup x = some .local := by
      have hs' : (X.env.scope.names.lookup x == some .local && px.line == p.line && !(scope.names.any fun (n, k) => n == x && (k == .local || k == .cell))) = true := hs
      simp only [Bool.and_eq_true, beq_iff_eq] at hs'
      exact hs'.1.1
    exact PS.imp (ps_setLcE g.g.calm g.g.nd hi' hloc (by rw [sw_name g.kind hv, hs]) a1 a2 a3 a4 a5 a6 a7 a8) hr
theorem var_of {cx : Cc} {ec : Nat → Addr} {Fn : Nat → List D → Cu → Out D} {n : Nat} {X : Cx} (g : GoodS cx ec Fn n X) {i : Nat} {x : Str} (h : var1 cx X.env.scope i x = true) : X.N[i]? = some x ∧ Vis X.env.scope x ∧ (x == ("__debug__" : Str)) = false ∧ (x == ("__classdict__" : Str)) = false := by
  obtain ⟨h1, h2, h3⟩ := and3 (show (decide (cx.N[i]? = some x) && visB X.env.scope x && okn x) = true from h)
  rw [decide_eq_true_eq] at h1
  exact ⟨by rw [g.g.N]; exact h1, vis_of h2, (okn_of h3).1, (okn_of h3).2.1⟩
theorem sw_stores {tg : Expr} {v : Expr} {env : PySem.Env} (h : isTupE tg = false ∧ (∀ xs p, tg ≠ .List xs p)) : swappedStores [tg] v env = pure none := by
  cases tg <;> first | rfl | exact absurd rfl (h.2 _ _) | cases h.1
theorem sw_stores2 {tg : Expr} {v : Expr} {env : PySem.Env} (h : isTupE v = false) : swappedStores [tg] v env = pure none := by
  cases v <;> first | (cases tg <;> rfl) | cases h
theorem loc1_of {cx : Cc} {sc : Scope} {i : Nat} {x : Str} (h : loc1 cx sc i x = true) : cx.N[i]? = some x ∧ sc.names.lookup x = some .local ∧ i ∉ cx.own := by
  obtain ⟨h1, h2, h3⟩ := and3 (show (decide (cx.N[i]? = some x) && decide (sc.names.lookup x = some .local) && decide (i ∉ cx.own)) = true from h)
  exact ⟨of_decide_eq_true h1, of_decide_eq_true h2, of_decide_eq_true h3⟩
theorem u_asgA {cx : Cc} {ec : Nat → Addr} {Fn : Nat → List D → Cu → Out D} {n : Nat} {X : Cx} (g : GoodS cx ec Fn n X) {t : Tg} {e : E} {tg v : Expr} {pos : Pos} (h : chkA cx t e X.env.scope tg v = true) : PS X (.Assign [tg] v pos) (TSx X.K cx.own R0 Fn (.asg t e)) := by
  have h' : (chkTg cx t X.env.scope tg && chk cx e X.env.scope v && e.cl cx.own && isTupE tg && (!isTupE v || (match swD X.env.scope (tupOf tg) (tupOf v) with
    | some none => true
    | _ => false))) = true := h
  simp only [Bool.and_eq_true] at h'
  obtain ⟨⟨⟨⟨h1, h2⟩, h3⟩, h4⟩, h5⟩ := h'
  refine u_asg h3 (pg_T g.g.calm g.g.nd g.g.N g.hf t tg h1) ((snd e).1.pe g.g calm0 v h2).1 (sw_sole h2 fun x p q => by subst q; cases h4) ?_ (by cases tg <;> first | rfl | cases h4)
  cases hv : isTupE v with
  | false => exact sw_stores2 hv
  | true =>
    rw [hv] at h5
    have h5 : (match swD X.env.scope (tupOf tg) (tupOf v) with
      | some none => true
      | _ => false) = true := h5
    cases tg <;> first | cases h4 | skip
    cases v <;> first | cases hv | skip
    split at h5
    · rename_i q
      exact swD_ok g.kind q
    · cases h5
theorem u_asg2 {cx : Cc} {ec : Nat → Addr} {Fn : Nat → List D → Cu → Out D} {n : Nat} {X : Cx} (g : GoodS cx ec Fn n X) {t : Tg} {e : E} {tg v : Expr} {pos : Pos} (h : chkP2 cx t e X.env.scope tg v = true) : PS X (.Assign [tg] v pos) (TSx X.K cx.own R0 Fn (.asg t e)) := by
  unfold chkP2 at h
  split at h
  · simp only [Bool.and_eq_true, decide_eq_true_eq] at h
    obtain ⟨⟨⟨⟨⟨h1, h2⟩, h3⟩, h4⟩, h5⟩, h6⟩ := h
    obtain ⟨a1, a2, a3⟩ := loc1_of h1
    obtain ⟨b1, b2, b3⟩ := loc1_of h2
    exact u_par g.g.calm g.g.nd (by rw [g.g.N]; exact a1) (by rw [g.g.N]; exact b1) h3 a2 b2 a3 b3 h4 ((snd _).1.pa g.g calm0 _ h5).1 (swD_ok g.kind h6)
  · cases h
theorem u_asg3 {cx : Cc} {ec : Nat → Addr} {Fn : Nat → List D → Cu → Out D} {n : Nat} {X : Cx} (g : GoodS cx ec Fn n X) {t : Tg} {e : E} {tg v : Expr} {pos : Pos} (h : chkP3 cx t e X.env.scope tg v = true) : PS X (.Assign [tg] v pos) (TSx X.K cx.own R0 Fn (.asg t e)) := by
  unfold chkP3 at h
  split at h
  · simp only [Bool.and_eq_true, decide_eq_true_eq] at h
    obtain ⟨⟨⟨⟨⟨⟨⟨⟨h1, h2⟩, h3⟩, h4⟩, h5⟩, h6⟩, h7⟩, h8⟩, h9⟩ := h
    obtain ⟨a1, a2, a3⟩ := loc1_of h1
    obtain ⟨b1, b2, b3⟩ := loc1_of h2
    obtain ⟨c1, c2, c3⟩ := loc1_of h3
    exact u_par3 g.g.calm g.g.nd (by rw [g.g.N]; exact a1) (by rw [g.g.N]; exact b1) (by rw [g.g.N]; exact c1) h4 h5 h6 a2 b2 c2 a3 b3 c3 h7 ((snd _).1.pa g.g calm0 _ h8).1 (swD_ok g.kind h9)
  · cases h
theorem u_asgo {cx : Cc} {ec : Nat → Addr} {Fn : Nat → List D → Cu → Out D} {n : Nat} {X : Cx} (g : GoodS cx ec Fn n X) {t : Tg} {e : E} {tg v : Expr} {pos : Pos} (h : chkPo cx t e X.env.scope tg v = true) : PS X (.Assign [tg] v pos) (TSx X.K cx.own R0 Fn (.asg t e)) := by
  unfold chkPo at h
  split at h
  · simp only [Bool.and_eq_true, decide_eq_true_eq] at h
    obtain ⟨⟨⟨⟨⟨h1, h2⟩, h3⟩, h4⟩, h5⟩, h6⟩ := h
    unfold loc0 at h1
    simp only [Bool.and_eq_true, decide_eq_true_eq] at h1
    obtain ⟨a1, a2⟩ := h1
    obtain ⟨b1, b2, b3⟩ := loc1_of h2
    exact u_paro g.g.calm g.g.nd (by rw [g.g.N]; exact a1) (by rw [g.g.N]; exact b1) h3 a2 b2 b3 h4 ((snd _).1.pa g.g calm0 _ h5).1 (swD_ok g.kind h6)
  · cases h
structure SndS (s : S) : Prop where
  st : ∀ {cx : Cc} {ec : Nat → Addr} {Fn : Nat → List D → Cu → Out D} {n : Nat} {X : Cx}, GoodS cx ec Fn n X → ∀ x, chkS cx s X.env.scope x = true → PS X x (TSx X.K cx.own R0 Fn s)
  bl : ∀ {cx : Cc} {ec : Nat → Addr} {Fn : Nat → List D → Cu → Out D} {n : Nat} {X : Cx}, GoodS cx ec Fn n X → ∀ x, chkB cx s X.env.scope x = true → PSs X x (TSx X.K cx.own R0 Fn s)
theorem sndS_1 {s : S} (h : ∀ {cx : Cc} {ec : Nat → Addr} {Fn : Nat → List D → Cu → Out D} {n : Nat} {X : Cx}, GoodS cx ec Fn n X → ∀ x, chkS cx s X.env.scope x = true → PS X x (TSx X.K cx.own R0 Fn s))
    (h2 : ∀ cx sc xs, chkB cx s sc xs = false := by intro _ _ xs; cases xs <;> rfl) : SndS s := ⟨h, fun _ x q => by rw [h2] at q; cases q⟩
theorem hpass {cx : Cc} {ec : Nat → Addr} {Fn : Nat → List D → Cu → Out D} {n : Nat} {X : Cx} (g : GoodS cx ec Fn n X) : PassesOwn (model X.prog X.w) X.A X.env X.xe := by rw [g.xe]; exact PassesOwn.never
theorem sgl_of {ts : List Expr} (h : sgl ts = true) : ts = [hd1 ts] := by
  match ts, h with
  | [t], _ => rfl
theorem asg_one {cx : Cc} {s : S} {sc : Scope} {ts : List Expr} {v : Expr} (h : (sgl ts && chkT cx s sc (hd1 ts) v) = true) : ∃ tg, ts = [tg] ∧ chkT cx s sc tg v = true := by
  rw [Bool.and_eq_true] at h
  exact ⟨_, sgl_of h.1, h.2⟩
theorem sndS (s : S) : SndS s := by
  induction s with
  | nil =>
    refine ⟨fun _ x h => ?_, fun g x h => ?_⟩
    · cases x <;> cases h
    · cases x with
      | nil => exact u_nil
      | cons _ _ => cases h
  | cons s ss ih ihs =>
    refine ⟨fun _ x h => ?_, fun {cx ec Fn n X} g x h => ?_⟩
    · cases x <;> cases h
    · cases x with
      | nil => cases h
      | cons x xs =>
        have h' : (chkS cx s X.env.scope x && chkB cx ss X.env.scope xs) = true := h
        rw [Bool.and_eq_true] at h'
        exact u_seq (ih.st g x h'.1) (ihs.bl g xs h'.2)
  | pass =>
    refine sndS_1 fun {cx ec Fn n X} g x h => ?_
    cases x <;> first | cases h | skip
    · rename_i e p
      cases e <;> first | cases h | skip
      rename_i c k p2
      cases c <;> first | cases h | skip
      exact PS.imp ps_doc fun Dd σ H ⟨F, ca, c, env, r, h⟩ => h σ ca H (Later.refl r.cup) r fun _ => .inl
    · exact u_pass
  | set i e =>
    refine sndS_1 fun {cx ec Fn n X} g x h => ?_
    cases x <;> first | cases h | skip
    rename_i ts v pos
    obtain ⟨tg, rfl, h⟩ := asg_one h
    cases tg with
    | Name y py =>
      have h' : (decide (cx.N[i]? = some y) && locB X.env.scope y && decide (i ∉ cx.own) && chk cx e X.env.scope v && e.cl cx.own) = true := h
      simp only [Bool.and_eq_true, decide_eq_true_eq] at h'
      obtain ⟨⟨⟨⟨h1, h2⟩, h3⟩, h4⟩, h5⟩ := h'
      exact u_set' g h1 h2 h4 fun _ _ _ => r_set h3 h5
    | _ => cases h
  | seto i e =>
    refine sndS_1 fun {cx ec Fn n X} g x h => ?_
    cases x <;> first | cases h | skip
    rename_i ts v pos
    obtain ⟨tg, rfl, h⟩ := asg_one h
    cases tg with
    | Name y py =>
      have h' : (decide (cx.N[i]? = some y) && locB X.env.scope y && decide (i ∈ cx.own) && chk cx e X.env.scope v && e.fr) = true := h
      simp only [Bool.and_eq_true, decide_eq_true_eq] at h'
      obtain ⟨⟨⟨⟨h1, h2⟩, h3⟩, h4⟩, h5⟩ := h'
      exact u_set' g h1 h2 h4 fun _ _ _ => r_seto h3 h5
    | _ => cases h
  | mov j i =>
    refine sndS_1 fun {cx ec Fn n X} g x h => ?_
    cases x <;> first | cases h | skip
    rename_i ts v pos
    obtain ⟨tg, rfl, h⟩ := asg_one h
    cases tg with
    | Name y py =>
      cases v with
      | Name z pz =>
        have h' : (decide (cx.N[j]? = some y) && locB X.env.scope y && decide (j ∈ cx.own) && decide (i ∈ cx.own) && var1 cx X.env.scope i z) = true := h
        simp only [Bool.and_eq_true, decide_eq_true_eq] at h'
        obtain ⟨⟨⟨⟨h1, h2⟩, h3⟩, h4⟩, h5⟩ := h'
        obtain ⟨v1, v2, v3, v4⟩ := var_of g h5
        have hx := g.hf y h2
        exact u_mov g.g.nd (by rw [g.g.N]; exact h1) v1 hx.1 hx.2 v2 v3 v4 h3 h4
      | _ => cases h
    | _ => cases h
  | asg t e =>
    refine sndS_1 fun {cx ec Fn n X} g x h => ?_
    cases x <;> first | cases h | skip
    rename_i ts v pos
    obtain ⟨tg, rfl, h⟩ := asg_one h
    have h' : (chkA cx t e X.env.scope tg v || chkP2 cx t e X.env.scope tg v || chkP3 cx t e X.env.scope tg v || chkPo cx t e X.env.scope tg v) = true := h
    rw [Bool.or_eq_true, Bool.or_eq_true, Bool.or_eq_true] at h'
    rcases h' with ((h' | h') | h') | h'
    · exact u_asgA g h'
    · exact u_asg2 g h'
    · exact u_asg3 g h'
    · exact u_asgo g h'
  | stx i k e =>
    refine sndS_1 fun {cx ec Fn n X} g x h => ?_
    cases x <;> first | cases h | skip
    rename_i ts v pos
    obtain ⟨tg, rfl, h⟩ := asg_one h
    cases tg with
    | Subscript o y ps =>
      cases o with
      | Name nm px =>
        have h' : (var1 cx X.env.scope i nm && decide (i ∈ cx.own) && chk cx k X.env.scope y && chk cx e X.env.scope v && e.cl cx.own && !isLc v) = true := h
        simp only [Bool.and_eq_true, decide_eq_true_eq] at h'
        obtain ⟨⟨⟨⟨⟨h1, h2⟩, h3⟩, h4⟩, h5⟩, h6⟩ := h'
        obtain ⟨v1, v2, v3, v4⟩ := var_of g h1
        obtain ⟨k1, k2⟩ := (snd k).1.pe g.g calm0 y h3
        have hu := g.g.units
        exact u_stx (by omega) v1 v2 v3 v4 k2 h2 h5 ((snd e).1.pe g.g calm0 v h4).1 k1 (sw_sole h4 fun _ _ q => by cases q) (sw_stores ⟨rfl, fun _ _ q => by cases q⟩)
      | _ => cases h
    | _ => cases h
  | stc i k e =>
    refine sndS_1 fun {cx ec Fn n X} g x h => ?_
    cases x <;> first | cases h | skip
    rename_i ts v pos
    obtain ⟨tg, rfl, h⟩ := asg_one h
    cases tg with
    | Subscript o y ps =>
      cases o with
      | Name nm px =>
        have h' : (var1 cx X.env.scope i nm && decide (i ∉ cx.own) && chk cx k X.env.scope y && chk cx e X.env.scope v && !isLc v) = true := h
        simp only [Bool.and_eq_true, decide_eq_true_eq] at h'
        obtain ⟨⟨⟨⟨h1, h2⟩, h3⟩, h4⟩, h6⟩ := h'
        obtain ⟨v1, v2, v3, v4⟩ := var_of g h1
        obtain ⟨k1, k2⟩ := (snd k).1.pe g.g calm0 y h3
        exact u_stc v1 v2 v3 v4 k2 h2 ((snd e).1.pe g.g calm0 v h4).1 k1 (sw_sole h4 fun _ _ q => by cases q) (sw_stores ⟨rfl, fun _ _ q => by cases q⟩)
      | _ => cases h
    | _ => cases h
  | app i e =>
    refine sndS_1 fun {cx ec Fn n X} g x h => ?_
    cases x <;> first | cases h | skip
    rename_i v pos
    cases v <;> first | cases h | skip
    rename_i f xs ks pc
    cases f <;> first | cases h | skip
    rename_i o nm pa
    cases o <;> first | cases h | skip
    rename_i y py
    have h' : (sgl xs && var1 cx X.env.scope i y && decide (i ∈ cx.own) && decide (nm = ("append" : Str)) && ks.isEmpty && (pa.endLine == pc.line) && chk cx e X.env.scope (hd1 xs) && e.cl cx.own) = true := h
    simp only [Bool.and_eq_true, decide_eq_true_eq] at h'
    obtain ⟨⟨⟨⟨⟨⟨⟨h0, h1⟩, h2⟩, rfl⟩, h4⟩, h5⟩, h6⟩, h7⟩ := h'
    rw [sgl_of h0]
    obtain ⟨v1, v2, v3, v4⟩ := var_of g h1
    obtain ⟨k1, k2⟩ := (snd e).1.pe g.g calm0 (hd1 xs) h6
    cases ks with
    | nil => exact u_app v1 v2 v3 v4 h2 h7 k2 h5 k1
    | cons _ _ => cases h4
  | auga i e =>
    refine sndS_1 fun {cx ec Fn n X} g x h => ?_
    cases x <;> first | cases h | skip
    rename_i o op v pos
    cases o <;> first | cases h | skip
    rename_i y py
    have h' : (decide (cx.N[i]? = some y) && locB X.env.scope y && decide (i ∈ cx.own) && decide (op = .Add) && chk cx e X.env.scope v && e.cl cx.own) = true := h
    simp only [Bool.and_eq_true, decide_eq_true_eq] at h'
    obtain ⟨⟨⟨⟨⟨h1, h2⟩, h3⟩, rfl⟩, h5⟩, h6⟩ := h'
    have hx := g.hf y h2
    exact u_auga g.g.nd (by rw [g.g.N]; exact h1) hx.1 hx.2 h3 h6 ((snd e).1.pe g.g calm0 v h5).1
  | augi i e =>
    refine sndS_1 fun {cx ec Fn n X} g x h => ?_
    cases x <;> first | cases h | skip
    rename_i o op v pos
    cases o <;> first | cases h | skip
    rename_i y py
    have h' : (decide (cx.N[i]? = some y) && locB X.env.scope y && decide (i ∉ cx.own) && decide (op = .Add) && chk cx e X.env.scope v) = true := h
    simp only [Bool.and_eq_true, decide_eq_true_eq] at h'
    obtain ⟨⟨⟨⟨h1, h2⟩, h3⟩, rfl⟩, h5⟩ := h'
    have hx := g.hf y h2
    exact u_augi g.g.nd (by rw [g.g.N]; exact h1) hx.1 hx.2 h3 ((snd e).1.pe g.g calm0 v h5).1
  | ex e =>
    refine sndS_1 fun {cx ec Fn n X} g x h => ?_
    cases x <;> first | cases h | skip
    rename_i v pos
    have h' : (chk cx e X.env.scope v && !isLc v) = true := h
    rw [Bool.and_eq_true] at h'
    exact u_ex ((snd e).1.pe g.g calm0 v h'.1).1 (sw_none h'.1 (by simpa using h'.2))
  | ret e =>
    refine sndS_1 fun {cx ec Fn n X} g x h => ?_
    cases x <;> first | cases h | skip
    rename_i v pos
    cases v with
    | none => cases h
    | some v => exact u_ret ((snd e).1.pe g.g calm0 v h).1
  | ife e a b iha ihb =>
    refine sndS_1 fun {cx ec Fn n X} g x h => ?_
    cases x <;> first | cases h | skip
    rename_i c ss tt pos
    have h' : (chk cx e X.env.scope c && e.tst && chkB cx a X.env.scope ss && chkB cx b X.env.scope tt) = true := h
    simp only [Bool.and_eq_true] at h'
    obtain ⟨⟨⟨h1, h2⟩, h3⟩, h4⟩ := h'
    exact u_ife ((snd e).1.pt g.g calm0 c h1 h2) (iha.bl g ss h3) (ihb.bl g tt h4)
  | for_ t it b ihb =>
    refine sndS_1 fun {cx ec Fn n X} g x h => ?_
    cases x <;> first | cases h | skip
    rename_i tg iter ss oe pos
    have h' : (chkTg cx t X.env.scope tg && chkI cx it X.env.scope tg iter && it.itc cx.own && chkB cx b X.env.scope ss && oe.isEmpty) = true := h
    simp only [Bool.and_eq_true] at h'
    obtain ⟨⟨⟨⟨h1, h2⟩, h3⟩, h4⟩, h5⟩ := h'
    obtain ⟨a1, a2⟩ := (snd it).1.pi g.g calm0 tg iter h2
    cases oe with
    | nil => exact u_for (hpass g) g.g.calm a1 h3 a2 (pg_T g.g.calm g.g.nd g.g.N g.hf t tg h1) (ihb.bl g ss h4)
    | cons _ _ => cases h5
  | wh e b ihb =>
    refine sndS_1 fun {cx ec Fn n X} g x h => ?_
    cases x <;> first | cases h | skip
    rename_i c ss oe pos
    have h' : (chk cx e X.env.scope c && e.tst && chkB cx b X.env.scope ss && oe.isEmpty) = true := h
    simp only [Bool.and_eq_true] at h'
    obtain ⟨⟨⟨h1, h2⟩, h3⟩, h4⟩ := h'
    cases oe with
    | nil => exact u_wh (hpass g) ((snd e).1.pt g.g calm0 c h1 h2) (ihb.bl g ss h3)
    | cons _ _ => cases h4
  | rais k => exact sndS_1 fun g x h => u_never
  | ext i e => exact sndS_1 fun _ x h => by cases x <;> cases h
  | pop j i => exact sndS_1 fun _ x h => by cases x <;> cases h
end Ev

set_option maxRecDepth 100000
/-! EvPr: a text's defs, all at once. -/
namespace Ev
open PySem PySem.Spec PyProof.Rows L2
structure Fd where
  x : Str
  N : List Str
  own : List Nat
  np : Nat
  body : S
def fsOf (ds : List Fd) : List (Str × Nat) := ds.map fun d => (d.x, d.np)
def psOf (ds : List Fd) : List Df := ds.map fun d => ⟨d.np, d.N.length, d.body⟩
def Fd.cx (G : List (Str × D)) (ds : List Fd) (al : Bool) (d : Fd) : Cc := ⟨d.N, d.own, G, fsOf ds, al⟩
def scB (sc : Scope) (N P : List Str) : Bool := (match sc.kind with | .function => true | _ => false) && !sc.isCoroutine && !sc.isGenerator && decide N.Nodup && (P.all fun x => match sc.names.lookup x with
    | some .local => true
    | some .cell => true
    | _ => false) && (sc.names.all fun y => match y.2 with
    | .free => false
    | _ => true)
def Fd.okB (G : List (Str × D)) (ds : List Fd) (d : Fd) (st : Stmt) : Bool := scB (defScope st) d.N (d.N.take d.np) && decide (d.np ≤ d.N.length) && d.own.all (fun i => decide (d.np ≤ i)) && chkB (d.cx G ds false) d.body (defScope st) (defBody st)
theorem scB_ok {sc : Scope} {N : List Str} {n : Nat} (hn : n ≤ N.length) (h : scB sc N (N.take n) = true) : FnScope N (N.take n) sc := by
  have h' : ((match sc.kind with | .function => true | _ => false) && !sc.isCoroutine && !sc.isGenerator && decide N.Nodup && ((N.take n).all fun x => match sc.names.lookup x with
    | some .local => true
    | some .cell => true
    | _ => false) && (sc.names.all fun y => match y.2 with
    | .free => false
    | _ => true)) = true := h
  simp only [Bool.and_eq_true, decide_eq_true_eq, List.all_eq_true, Bool.not_eq_true'] at h'
  obtain ⟨⟨⟨⟨⟨h1, h2⟩, h3⟩, h4⟩, h5⟩, h6⟩ := h'
  refine ⟨?_, h2, h3, h4, ?_, fun x hx => ?_, fun y hy e => ?_⟩
  · split at h1
    · assumption
    · cases h1
  · rw [List.length_take, Nat.min_eq_left hn]
  · have q := h5 x hx
    split at q
    · exact .inl (by assumption)
    · exact .inr (by assumption)
    · cases q
  · have q := h6 y hy
    rw [e] at q
    cases q
structure Facts (ds : List Fd) (txt : Nat → Stmt) (G : List (Str × D)) (K : PySem.W.Frag) (mg : Str → Option Value) : Prop where
  fn : ∀ f d, ds[f]? = some d → ∃ fa fd, mg d.x = some (.ref fa) ∧ FunD K d.x d.x (defArgs (txt f)) (defBody (txt f)) (defScope (txt f)) [] [] fa fd ∧ Binds K fd (d.N.take d.np) []
  bl : ∀ x ∈ bltNames, mg x = none
  gl : ∀ x d, G.lookup x = some d → ∃ u v, mg x = some u ∧ RelV v u ∧ ∀ F ca H, Rep K F ca H d v
theorem gv_start {ds : List D} {n i : Nat} {d : D} (h : gv (ds.map some ++ List.replicate n none) i = some d) : ds[i]? = some d := by
  unfold gv at h
  by_cases hi : i < ds.length
  · rw [List.getElem?_append_left (by simpa using hi), List.getElem?_map] at h
    cases q : ds[i]? with
    | none => rw [q] at h; cases h
    | some e => rw [q] at h; exact h
  · rw [List.getElem?_append_right (by simpa using hi)] at h
    exfalso
    by_cases h2 : i - (ds.map some).length < n
    · rw [List.getElem?_replicate, if_pos h2] at h; cases h
    · rw [List.getElem?_replicate, if_neg h2] at h; cases h
theorem rl_start {K : PySem.W.Frag} {F : Addr → Prop} {own : List Nat} {ca : Option Addr} {c : Cu} {H : Hp} {N : List Str} {ds : List D} {vs : List V} (hdom : ∀ a, F a → H a ≠ none) (hc : CupOk ca c H) (h : RepL K F ca H ds vs) (ho : ∀ i ∈ own, ds.length ≤ i) :
    Rl K F own ca c (ds.map some ++ List.replicate (N.length - ds.length) none) (L2.start N vs) H ∧ ∀ a, ¬ OwnA own (ds.map some ++ List.replicate (N.length - ds.length) none) (L2.start N vs) a := by
  have nown : ∀ i d, i ∈ own → gv (ds.map some ++ List.replicate (N.length - ds.length) none) i = some d → False := fun i d hi hd => by
    have := gv_start hd
    have h2 := ho i hi
    rw [List.getElem?_eq_none h2] at this; cases this
  have no : ∀ a, ¬ OwnA own (ds.map some ++ List.replicate (N.length - ds.length) none) (L2.start N vs) a := fun a ⟨i, hi, ⟨d, hd, _⟩, _⟩ => nown i d hi hd
  refine ⟨⟨?_, hdom, hc, fun i d hi hd => ?_, fun i d hi hd _ => (nown i d hi hd).elim, fun i j d e a hi hj h1 h2 _ _ h3 h4 => (nown i d hi h1).elim⟩, no⟩
  · unfold L2.start
    simp [h.len]
  · obtain ⟨v, e1, e2⟩ := h.get (gv_start hd)
    refine ⟨v, ?_, Rep.weak (fun a z => z.elim id fun z => (no a z).elim) _ _ e2⟩
    unfold L2.start
    have hi : i < vs.length := (List.getElem?_eq_some_iff.mp e1).1
    rw [List.getElem?_append_left (by simpa using hi), List.getElem?_map, e1]
    rfl
theorem Later.post0 {M : Addr → Prop} {ca ca' : Option Addr} {c' : Cu} {H H' : Hp} (p : Later M ca H ca' c' H') (h : ∀ a, ¬ M a) : Post ca H ca' c' H' :=
  ⟨fun b o e => (p.ext b o e).imp id fun z => z.elim (fun z => (h b z.1).elim) id, p.le, p.cup⟩
theorem fn_ok {P : Program} {w : World} {K : PySem.W.Frag} {mg : Str → Option Value} {base : Heap} {ec : Nat → Addr} {ds : List Fd} {txt : Nat → Stmt} {G : List (Str × D)} (ok : ∀ (f : Nat) (d : Fd), ds[f]? = some d → d.okB G ds (txt f) = true) (Fc : Facts ds txt G K mg) :
    ∀ (k f : Nat) (d : Fd) (fa : Addr) (fd : FuncData), ds[f]? = some d → FunD K d.x d.x (defArgs (txt f)) (defBody (txt f)) (defScope (txt f)) [] [] fa fd → FnOk P w K mg base CX0 k fa fd (d.N.take d.np) (spF K ec false (callN false (psOf ds) k) f d.np) := by
  intro k
  induction k with
  | zero =>
    intro f d fa fd hf F
    have hk := ok f d hf
    unfold Fd.okB at hk
    simp only [Bool.and_eq_true, decide_eq_true_eq] at hk
    refine ⟨fun vs H Q E h => ?_, fun A outer s H args us vs Q E _ _ _ _ h => ?_⟩
    · rw [List.length_take, Nat.min_eq_left hk.1.1.2]; exact h.1
    · obtain ⟨_, F, ca, c, ds, _, _, _, h⟩ := h
      exact h.elim
  | succ k ih =>
    intro f d fa fd hf F
    have hk := ok f d hf
    unfold Fd.okB at hk
    simp only [Bool.and_eq_true, decide_eq_true_eq, List.all_eq_true] at hk
    obtain ⟨⟨⟨k1, k2⟩, k3⟩, k4⟩ := hk
    have S := scB_ok k2 k1
    refine F.ok S (fun vs H Q E h => by rw [List.length_take, Nat.min_eq_left k2]; exact h.1) fun cdv A outer s H vs Q E hr h => ?_
    refine ⟨TSx K d.own R0 (callN false (psOf ds) k) d.body, PSs.nox ?_, ?_⟩
    · have g : GoodS (d.cx G ds false) ec (callN false (psOf ds) k) k (cxOf CX0 P w K mg base d.N d.x (defScope (txt f)) fa cdv A outer s H E).nox := by
        refine ⟨⟨rfl, S.nd, rfl, hr, Fc.bl, Fc.gl, fun g x m hg => ?_, fun _ _ _ _ _ _ => callN_no, fun _ _ => pass0⟩, rfl, fun x hx => ?_, S.kind⟩
        · have hg : (ds.map fun d => (d.x, d.np))[g]? = some (x, m) := hg
          rw [List.getElem?_map] at hg
          cases q : ds[g]? with
          | none => rw [q] at hg; cases hg
          | some e =>
            rw [q] at hg
            cases hg
            obtain ⟨fa', fd', e1, e2, e3⟩ := Fc.fn g e q
            exact ⟨fa', fd', _, e1, e2.kp, e3, ih g e fa' fd' q e2⟩
        · refine ⟨?_, .inl rfl⟩
          unfold locB at hx
          split at hx
          · exact .inl (by assumption)
          · exact .inr (by assumption)
          · cases hx
      exact (sndS d.body).bl g _ k4
    · obtain ⟨hl, F0, ca, c, args, hdom, hc, hr', h⟩ := h
      have hla : args.length = d.np := by rw [hr'.len, hl]
      obtain ⟨rl, no⟩ := rl_start (N := d.N) (own := d.own) hdom hc hr' fun i hi => by rw [hla]; exact k3 i hi
      refine ⟨F0, ca, c, _, rl, ?_⟩
      have hp : (psOf ds)[f]? = some ⟨d.np, d.N.length, d.body⟩ := by
        unfold psOf
        rw [List.getElem?_map, hf]
        rfl
      have hcall : callN false (psOf ds) (k + 1) f args c = ((ex (callN false (psOf ds) k) d.body (args.map some ++ List.replicate (d.N.length - args.length) none) c).bind fun r c => match r with
        | .rt d => .ok d c
        | .nx _ => .ok .non c).noE false := by
        show (match (psOf ds)[f]? with
          | some df => (runB (callN false (psOf ds) k) df args c).noE false
          | none => .no) = _
        rw [hp]
        show (runB _ _ _ _).noE false = _
        unfold runB
        rw [show decide (args.length = d.np) = true from decide_eq_true hla, hla]
        all_goals rfl
      rw [hcall] at h
      cases q : ex (callN false (psOf ds) k) d.body (args.map some ++ List.replicate (d.N.length - args.length) none) c with
      | ok r c1 =>
        rw [q] at h
        cases r with
        | nx env' => exact fun σ' ca' H' l _ _ => h .non ca' H' (l.post0 no) rfl
        | rt dd => exact fun v ca' H' l r => h v ca' H' (l.post0 no) r
      | err k c1 => rw [q] at h; exact h.elim
      | no => rw [q] at h; exact h.elim
end Ev

set_option maxRecDepth 100000
/-! EvHk: what a text's head leaves, with the module's constants. -/
namespace Ev
open PySem PySem.Spec PyProof.Rows L2
mutual
def repV (K : PySem.W.Frag) : D → Value → Bool
  | .non, .none => true
  | .bl b, .bool c => b == c
  | .int i, .int j _ => decide (i = j)
  | .str x, .str y _ => decide (x = y)
  | .tup xs, .ref a => (match K.lookup a with
    | some ⟨.type c, _, .seq its _, _⟩ => decide (c = "tuple") && (decide (its.size ≤ sizeLine) && repVs K xs its.toList)
    | _ => false)
  | _, _ => false
def repVs (K : PySem.W.Frag) : List D → List Value → Bool
  | [], [] => true
  | x :: xs, u :: us => repV K x u && repVs K xs us
  | _, _ => false
end
mutual
theorem repV_ok {K : PySem.W.Frag} : ∀ {d : D} {u : Value}, repV K d u = true → ∃ v, RelV v u ∧ ∀ F ca H, Rep K F ca H d v
  | .non, u, h => by
    cases u with
    | none => exact ⟨.non, rfl, fun _ _ _ => rfl⟩
    | _ => cases h
  | .bl b, u, h => by
    cases u <;> first | cases h | skip
    rename_i c
    have e : b = c := by simpa [repV] using h
    subst e
    exact ⟨.bl b, rfl, fun _ _ _ => rfl⟩
  | .int i, u, h => by
    cases u <;> first | cases h | skip
    rename_i j t
    have e : i = j := of_decide_eq_true h
    subst e
    exact ⟨.int i, ⟨t, rfl⟩, fun _ _ _ => rfl⟩
  | .str x, u, h => by
    cases u <;> first | cases h | skip
    rename_i y t
    have e : x = y := of_decide_eq_true h
    subst e
    exact ⟨.str x, ⟨t, rfl⟩, fun _ _ _ => rfl⟩
  | .tup xs, u, h => by
    cases u <;> first | cases h | skip
    rename_i a
    have h : (match K.lookup a with
      | some ⟨.type c, _, .seq its _, _⟩ => decide (c = "tuple") && (decide (its.size ≤ sizeLine) && repVs K xs its.toList)
      | _ => false) = true := h
    cases q : K.lookup a with
    | none => rw [q] at h; cases h
    | some o =>
      obtain ⟨oc, od, dt, osl⟩ := o
      rw [q] at h
      cases oc with
      | type c =>
        cases dt with
        | seq its n =>
          obtain ⟨h1, h2⟩ := He.ba (show (decide (c = "tuple") && (decide (its.size ≤ sizeLine) && repVs K xs its.toList)) = true from h)
          obtain ⟨h3, h4⟩ := He.ba h2
          obtain ⟨vs, h5, h6⟩ := repVs_ok h4
          exact ⟨.ref a, rfl, fun F ca H => ⟨a, vs, rfl, .inr ⟨_, its, n, q, congrArg Value.type (of_decide_eq_true h1), rfl, of_decide_eq_true h3, h5⟩, h6 F ca H⟩⟩
        | _ => cases h
      | _ => cases dt <;> cases h
  | .lst _, u, h => by cases u <;> cases h
  | .dic _, u, h => by cases u <;> cases h
  | .cup, u, h => by cases u <;> cases h
  | .fn _, u, h => by cases u <;> cases h
  | .scr _, u, h => by cases u <;> cases h
theorem repVs_ok {K : PySem.W.Frag} : ∀ {ds : List D} {us : List Value}, repVs K ds us = true → ∃ vs, Vals vs us ∧ ∀ F ca H, RepL K F ca H ds vs
  | [], us, h => by
    cases us with
    | nil => exact ⟨[], .nil, fun _ _ _ => rfl⟩
    | cons _ _ => cases h
  | x :: xs, us, h => by
    cases us with
    | nil => cases h
    | cons u us =>
      obtain ⟨h1, h2⟩ := He.ba (show (repV K x u && repVs K xs us) = true from h)
      obtain ⟨v, r1, r2⟩ := repV_ok h1
      obtain ⟨vs, q1, q2⟩ := repVs_ok h2
      exact ⟨v :: vs, .cons r1 q1, fun F ca H => ⟨v, vs, rfl, r2 F ca H, q2 F ca H⟩⟩
end
/-! ### the Hook -/
abbrev AlX : Type := Bool × He.AlD
def glK (G : List (Str × D)) (K : PySem.W.Frag) : Bool := G.all fun p => match PySem.W.nsIn K mainGlobals p.1 with
  | some (some u) => repV K p.2 u
  | _ => false
def obsX (G : List (Str × D)) (fa : List He.Fa) (fn : List He.DefD) (K : PySem.W.Frag) : AlX := (glK G K, He.obsD fa fn K)
def valX (fn : List He.DefD) : AlX := (true, He.valD fn)
def SaysX (G : List (Str × D)) (fa : List He.Fa) (fn : List He.DefD) (K : PySem.W.Frag) : Prop := obsX G fa fn K = valX fn
def obsXG (n : Nat) (G : List (Str × D)) (fa : List He.Fa) (fn : List He.DefD) (g : Addr → Option Obj) : AlX := obsX G fa fn (He.frG g (He.asD g n))
def hookX (n : Nat) (G : List (Str × D)) (fa : List He.Fa) (fn : List He.DefD) : PySem.W.Hook where
  α := AlX
  obs := fun s => obsXG n G fa fn s.heap.get?
  val := fun _ => valX fn
  says := fun _ h => ∃ K : PySem.W.Frag, K.In h ∧ SaysX G fa fn K
  of := fun _ _ e => ⟨_, He.frG_in, e⟩
  keeps := fun _ _ _ ⟨K, hK, c⟩ k => ⟨K, PySem.W.Frag.In.keeps hK k, c⟩
theorem obsXG_eq {n : Nat} {G : List (Str × D)} {fa : List He.Fa} {fn : List He.DefD} {g : Addr → Option Obj} {s : Shared} (h : ∀ a, g a = s.heap.get? a) : obsXG n G fa fn g = (hookX n G fa fn).obs s := by
  have e : g = s.heap.get? := funext h
  rw [e] <;> rfl
/-! ### the facts -/
def Bnd (d : Fd) (st : Stmt) : Prop := ∀ (kV doc pm : Value) (an : Option Addr) (cdv ct : Value) (us : List Value), us.length = (d.N.take d.np).length → bindArgs (PySem.W.fnOf d.x d.x (defArgs st) (defBody st) (defScope st) .none kV doc pm an cdv ct) ⟨us, []⟩ = pure ((d.N.take d.np).zip us)
def AllB (txt : Nat → Stmt) : Nat → List Fd → Prop
  | _, [] => True
  | i, d :: r => Bnd d (txt i) ∧ AllB txt (i + 1) r
theorem AllB.get {txt : Nat → Stmt} : ∀ {ds : List Fd} {i f : Nat} {d : Fd}, AllB txt i ds → ds[f]? = some d → Bnd d (txt (i + f))
  | [], _, _, _, _, h => by simp at h
  | e :: r, i, 0, d, ⟨h1, _⟩, h => by simp at h; subst h; exact h1
  | e :: r, i, f + 1, d, ⟨_, h2⟩, h => by
    have := AllB.get (f := f) h2 (by simpa using h)
    rw [show i + (f + 1) = i + 1 + f by omega]
    exact this
def okAll (G : List (Str × D)) (ds : List Fd) (txt : Nat → Stmt) : Nat → List Fd → Bool
  | _, [] => true
  | i, d :: r => d.okB G ds (txt i) && okAll G ds txt (i + 1) r
theorem okAll_get {G : List (Str × D)} {ds0 : List Fd} {txt : Nat → Stmt} : ∀ {ds : List Fd} {i f : Nat} {d : Fd}, okAll G ds0 txt i ds = true → ds[f]? = some d → d.okB G ds0 (txt (i + f)) = true
  | [], _, _, _, _, h => by simp at h
  | e :: r, i, 0, d, h0, h => by
    simp at h; subst h
    exact (He.ba (show (e.okB G ds0 (txt i) && okAll G ds0 txt (i + 1) r) = true from h0)).1
  | e :: r, i, f + 1, d, h0, h => by
    have h1 := (He.ba (show (e.okB G ds0 (txt i) && okAll G ds0 txt (i + 1) r) = true from h0)).2
    have := okAll_get (f := f) h1 (by simpa using h)
    rw [show i + (f + 1) = i + 1 + f by omega]
    exact this
def dfOf (txt : Nat → Stmt) : Nat → List Fd → List He.DefD
  | _, [] => []
  | i, d :: r => ⟨(d.x, none), d.x, d.x, defArgs (txt i), defBody (txt i), defScope (txt i), [], []⟩ :: dfOf txt (i + 1) r
theorem dfOf_get {txt : Nat → Stmt} : ∀ {ds : List Fd} {i f : Nat} {d : Fd}, ds[f]? = some d → (dfOf txt i ds)[f]? = some ⟨(d.x, none), d.x, d.x, defArgs (txt (i + f)), defBody (txt (i + f)), defScope (txt (i + f)), [], []⟩
  | [], _, _, _, h => by simp at h
  | e :: r, i, 0, d, h => by simp at h; subst h; rfl
  | e :: r, i, f + 1, d, h => by
    have := dfOf_get (txt := txt) (i := i + 1) (f := f) (d := d) (ds := r) (by simpa using h)
    rw [show i + (f + 1) = i + 1 + f by omega]
    show (dfOf txt (i + 1) r)[f]? = _
    exact this
def faOf (ds : List Fd) (bl : List Str) : List He.Fa := (ds.map fun d => .glo d.x) ++ bl.map .free
theorem facts_of {ds : List Fd} {txt : Nat → Stmt} {G : List (Str × D)} {K : PySem.W.Frag} {mg : Str → Option Value} {h : Heap} (X : K.In h) (N : h.Ns mainGlobals mg) (c : SaysX G (faOf ds bltNames) (dfOf txt 0 ds) K) (hb : AllB txt 0 ds) : Facts ds txt G K mg := by
  have cD : He.SaysD (faOf ds bltNames) (dfOf txt 0 ds) K := congrArg (fun z : AlX => z.2) c
  have cG : glK G K = true := congrArg (fun z : AlX => z.1) c
  refine ⟨fun f d hf => ?_, fun x hx => ?_, fun x d hx => ?_⟩
  · obtain ⟨fd, F⟩ := cD.def_ f (dfOf_get hf)
    have hg : (faOf ds bltNames)[f]? = some (.glo d.x) := by
      unfold faOf
      have hl : f < ds.length := (List.getElem?_eq_some_iff.mp hf).1
      rw [List.getElem?_append_left (by simpa using hl), List.getElem?_map, hf]
      rfl
    have e := He.glo_ok X N (cD.fact f hg)
    rw [Nat.zero_add] at F
    refine ⟨_, fd, e, F, FunD.bindsN F fun kV doc pm an cdv ct us hl => ?_⟩
    have := hb.get hf
    rw [Nat.zero_add] at this
    exact this kV doc pm an cdv ct us hl
  · have hm : He.Fa.free x ∈ faOf ds bltNames := List.mem_append_right _ (List.mem_map.mpr ⟨x, hx, rfl⟩)
    obtain ⟨i, hi⟩ := List.getElem?_of_mem hm
    exact He.free_ok X N (cD.fact i hi)
  · have hm : (x, d) ∈ G := PySem.mem_of_lookup hx
    have := List.all_eq_true.mp cG (x, d) hm
    split at this
    · rename_i u q
      obtain ⟨v, r1, r2⟩ := repV_ok this
      exact ⟨u, v, PySem.W.mg_of X N q, r1, r2⟩
    · cases this
theorem scr_of {K : PySem.W.Frag} {H : Hp} {a : Addr} {xs : List V} (hO : Only H) (h : SqL K H a xs) : ScrL K H a xs := by
  rcases h with (h | h) | h
  · rcases hO a with z | ⟨o, ys, z⟩ <;> (rw [h] at z; cases z)
  · exact .inl h
  · exact .inr fun _ => .inr h
/-- the law's promise -/
theorem law_sp {K : PySem.W.Frag} {ec : Nat → Addr} {P : List Df} {k f : Nat} {H : Hp} {a : Addr} {ns : List Int} (hO : Only H) (hS : SqL K H a (ns.map V.int)) (h : ∃ c, callN false P k f [.scr ns] none = .ok (.bl true) c) :
    spF K ec false (callN false P k) f 1 [.ref a] H (fun v _ => v = .bl true) fun _ _ _ => False := by
  obtain ⟨c, h⟩ := h
  refine ⟨rfl, fun _ => False, none, none, [.scr ns], fun _ z => z.elim, rfl, ⟨.ref a, [], rfl, ⟨a, rfl, scr_of hO hS⟩, rfl⟩, ?_⟩
  rw [h]
  exact fun v ca' H' _ r => r
/-- what the head asks of the law's def -/
theorem law_fn {P : Program} {w : World} {ds : List Fd} {txt : Nat → Stmt} {G : List (Str × D)} {n k f : Nat} {d : Fd} {x : Str} {h : Heap} {mg : Str → Option Value} {fa : Addr} (ok : okAll G ds txt 0 ds = true) (hb : AllB txt 0 ds) (hf : ds[f]? = some d) (hn : d.np = 1) (hx : d.N.take 1 = [x])
    (Y : ∃ K : PySem.W.Frag, K.In h ∧ SaysX G (faOf ds bltNames) (dfOf txt 0 ds) K) (N : h.Ns mainGlobals mg) (hmg : mg d.x = some (.ref fa)) (hlaw : ∀ ns : List Int, ns.length ≤ n → ∃ c, callN false (psOf ds) k f [.scr ns] none = .ok (.bl true) c) :
    ∃ (K : PySem.W.Frag) (fd : FuncData) (sp : Sp), K.In h ∧ (∀ (s : Shared) (u : Value), BindsTo s fd ⟨[u], []⟩ [(x, u)]) ∧
        (∀ (H : Hp) (a : Addr) (ns : List Int), ns.length ≤ n → Only H → SqL K H a (ns.map V.int) → sp [.ref a] H (fun v _ => v = .bl true) fun _ _ _ => False) ∧
        ∀ base : Heap, K.In base → base.Ns mainGlobals mg → FnOk P w K mg base CX0 k fa fd [x] sp := by
  obtain ⟨K, X, c⟩ := Y
  have Fc := facts_of X N c hb
  obtain ⟨fa', fd, e1, F, B⟩ := Fc.fn f d hf
  rw [hmg] at e1
  cases e1
  have ok' : ∀ (f : Nat) (d : Fd), ds[f]? = some d → d.okB G ds (txt f) = true := fun f d hf => by
    have := okAll_get ok hf
    rwa [Nat.zero_add] at this
  refine ⟨K, fd, spF K (fun _ => 0) false (callN false (psOf ds) k) f 1, X, fun s u => ?_, fun H a ns hl hO hS => law_sp hO hS (hlaw ns hl), fun base _ _ => ?_⟩
  · have hB := hb.get hf
    rw [Nat.zero_add] at hB
    have := FunD.bindsA (ps := d.N.take d.np) F hB s [u] (by rw [hn, hx]; rfl)
    rw [hn, hx] at this
    exact this
  · have := fn_ok (P := P) (w := w) (base := base) (ec := fun _ => 0) ok' Fc k f d fa fd hf F
    rw [hn, hx] at this
    exact this
end Ev

set_option maxRecDepth 100000
/-! EvPl: tools for the plain law: what the compact text computes. -/
namespace Ev
open PySem PySem.Spec PyProof.Rows L2
/-- one step of a call -/
theorem call_at {al : Bool} {P : List Df} {n f : Nat} {df : Df} {args : List D} {c c' : Cu} {d : D} (hf : P[f]? = some df) (h : runB (callN al P n) df args c = .ok d c') : callN al P (n + 1) f args c = .ok d c' := by
  unfold callN
  rw [hf]
  show (runB _ _ _ _).noE al = _
  rw [h]
  rfl
theorem run_rt {F : Nat → List D → Cu → Out D} {df : Df} {args : List D} {c c' : Cu} {d : D} (hl : args.length = df.np) (h : ex F df.body (args.map some ++ List.replicate (df.nn - df.np) none) c = .ok (.rt d) c') : runB F df args c = .ok d c' := by
  unfold runB
  rw [show decide (args.length = df.np) = true from decide_eq_true hl, h]
  rfl
theorem run_nx {F : Nat → List D → Cu → Out D} {df : Df} {args : List D} {c c' : Cu} {env : Env} (hl : args.length = df.np) (h : ex F df.body (args.map some ++ List.replicate (df.nn - df.np) none) c = .ok (.nx env) c') : runB F df args c = .ok .non c' := by
  unfold runB
  rw [show decide (args.length = df.np) = true from decide_eq_true hl, h]
  rfl
/-- more fuel changes nothing -/
theorem call_rt {al : Bool} {P : List Df} {n f : Nat} {df : Df} {args : List D} {c c' : Cu} {d : D} (hf : P[f]? = some df) (hl : args.length = df.np) (h : ex (callN al P n) df.body (args.map some ++ List.replicate (df.nn - df.np) none) c = .ok (.rt d) c') : callN al P (n + 1) f args c = .ok d c' :=
  call_at hf (run_rt hl h)
theorem call_nx {al : Bool} {P : List Df} {n f : Nat} {df : Df} {args : List D} {c c' : Cu} {env : Env} (hf : P[f]? = some df) (hl : args.length = df.np) (h : ex (callN al P n) df.body (args.map some ++ List.replicate (df.nn - df.np) none) c = .ok (.nx env) c') : callN al P (n + 1) f args c = .ok .non c' :=
  call_at hf (run_nx hl h)
/-! ### loops -/
theorem loopL_filter {α : Type} {f : D → Cu → Out (List D)} {c : Cu} {e : α → D} {p : α → Bool} {g : α → D} : ∀ {xs : List α}, (∀ x ∈ xs, f (e x) c = .ok (if p x then [g x] else []) c) → loopL f (xs.map e) c = .ok ((xs.filter p).map g) c
  | [], _ => rfl
  | x :: xs, h => by
    show ((f (e x) c).bind fun r c1 => (loopL f (xs.map e) c1).bind fun q c2 => .ok (r ++ q) c2) = _
    rw [h x List.mem_cons_self, bind_ok, loopL_filter fun y hy => h y (List.mem_cons_of_mem _ hy), bind_ok]
    by_cases hp : p x = true
    · rw [if_pos hp, List.filter_cons_of_pos hp]; rfl
    · rw [if_neg hp, List.filter_cons_of_neg hp]; rfl
theorem loopL_map {α : Type} {f : D → Cu → Out (List D)} {c : Cu} {e : α → D} {g : α → D} : ∀ {xs : List α}, (∀ x ∈ xs, f (e x) c = .ok [g x] c) → loopL f (xs.map e) c = .ok (xs.map g) c
  | [], _ => rfl
  | x :: xs, h => by
    show ((f (e x) c).bind fun r c1 => (loopL f (xs.map e) c1).bind fun q c2 => .ok (r ++ q) c2) = _
    rw [h x List.mem_cons_self, bind_ok, loopL_map fun y hy => h y (List.mem_cons_of_mem _ hy), bind_ok]
    rfl
/-- a loop that may change the cup -/
theorem loopL_any {f : D → Cu → Out (List D)} (I : Cu → Prop) (G : D → Prop) : ∀ {xs : List D} {c : Cu}, I c → (∀ x ∈ xs, ∀ c, I c → ∃ r c', f x c = .ok r c' ∧ I c' ∧ ∀ y ∈ r, G y) → ∃ ds c', loopL f xs c = .ok ds c' ∧ I c' ∧ ∀ y ∈ ds, G y
  | [], c, hc, _ => ⟨[], c, rfl, hc, fun _ z => by cases z⟩
  | x :: xs, c, hc, h => by
    obtain ⟨r, c1, h1, h2, h3⟩ := h x List.mem_cons_self c hc
    obtain ⟨q, c2, h4, h5, h6⟩ := loopL_any I G (xs := xs) h2 fun y hy => h y (List.mem_cons_of_mem _ hy)
    refine ⟨r ++ q, c2, ?_, h5, fun y hy => (List.mem_append.mp hy).elim (h3 y) (h6 y)⟩
    show ((f x c).bind fun r c1 => (loopL f xs c1).bind fun q c2 => .ok (r ++ q) c2) = _
    rw [h1, bind_ok, h4, bind_ok]
/-- a for that runs to its end -/
theorem forL_inv {f : D → Env → Cu → Out Fl} (I : Env → Cu → Prop) : ∀ {xs : List D} {env : Env} {c : Cu}, I env c → (∀ x ∈ xs, ∀ env c, I env c → ∃ env' c', f x env c = .ok (.nx env') c' ∧ I env' c') → ∃ env' c', forL f xs env c = .ok (.nx env') c' ∧ I env' c'
  | [], env, c, h, _ => ⟨env, c, rfl, h⟩
  | x :: xs, env, c, h, hs => by
    obtain ⟨env1, c1, h1, h2⟩ := hs x List.mem_cons_self env c h
    obtain ⟨env2, c2, h3, h4⟩ := forL_inv I (xs := xs) h2 fun y hy => hs y (List.mem_cons_of_mem _ hy)
    refine ⟨env2, c2, ?_, h4⟩
    show ((f x env c).bind fun r c => match r with
      | .nx env => forL f xs env c
      | .rt d => .ok (.rt d) c) = _
    rw [h1, bind_ok]
    exact h3
/-! ### operations, as they are met -/
theorem gv0 {d : Option D} {l : Env} : gv (d :: l) 0 = d := by cases d <;> rfl
theorem gvS {d : Option D} {l : Env} {i : Nat} : gv (d :: l) (i + 1) = gv l i := rfl
theorem opv_addI {i j : Int} : opv .add (.int i) (.int j) = some (.int (i + j)) := rfl
theorem opv_subI {i j : Int} : opv .sub (.int i) (.int j) = some (.int (i - j)) := rfl
theorem opv_addT {xs ys : List D} (h : xs.length + ys.length ≤ 16777216) : opv .add (.tup xs) (.tup ys) = some (.tup (xs ++ ys)) := by
  show (if big (xs.length + ys.length) = true then _ else _) = _
  rw [if_pos (show big _ = true from decide_eq_true h)]
theorem opv_addL {xs ys : List D} (h : xs.length + ys.length ≤ 16777216) : opv .add (.lst xs) (.lst ys) = some (.lst (xs ++ ys)) := by
  show (if big (xs.length + ys.length) = true then _ else _) = _
  rw [if_pos (show big _ = true from decide_eq_true h)]
theorem cov_lt {i j : Int} : cov .lt (.int i) (.int j) = some (decide (i < j)) := rfl
theorem cov_le {i j : Int} : cov .le (.int i) (.int j) = some (decide (i ≤ j)) := rfl
theorem cov_gt {i j : Int} : cov .gt (.int i) (.int j) = some (decide (j < i)) := rfl
theorem cov_ge {i j : Int} : cov .ge (.int i) (.int j) = some (decide (j ≤ i)) := rfl
theorem eqv_int {i j : Int} : D.eqv (.int i) (.int j) = decide (i = j) := by rw [Bool.eq_iff_iff]; simp [D.eqv]
theorem eqv_non : D.eqv .non .non = true := rfl
theorem eqv_in {i : Int} : D.eqv (.int i) .non = false := rfl
theorem eqv_ni {i : Int} : D.eqv .non (.int i) = false := rfl
theorem flat_int {n : Nat} {i : Int} : D.flat n (.int i) = true := by cases n <;> rfl
theorem flat_non {n : Nat} : D.flat n .non = true := by cases n <;> rfl
theorem flat_bl {n : Nat} {b : Bool} : D.flat n (.bl b) = true := by cases n <;> rfl
theorem flatL_all {n : Nat} : ∀ {xs : List D}, (∀ x ∈ xs, D.flat n x = true) → D.flatL n xs = true
  | [], _ => by cases n <;> rfl
  | x :: xs, h => by
    have h1 := h x List.mem_cons_self
    have h2 := flatL_all (n := n) (xs := xs) fun y hy => h y (List.mem_cons_of_mem _ hy)
    show (D.flat n x && D.flatL n xs) = true
    rw [h1, h2]; rfl
theorem flat_tup {n : Nat} {xs : List D} (h : ∀ x ∈ xs, D.flat n x = true) : D.flat (n + 1) (.tup xs) = true := flatL_all h
theorem flat_lst {n : Nat} {xs : List D} (h : ∀ x ∈ xs, D.flat n x = true) : D.flat (n + 1) (.lst xs) = true := flatL_all h
theorem cov_eq {a b : D} (h : D.flat 20 a = true) (h' : D.flat 20 b = true) : cov .eq a b = some (a.eqv b) := by
  show (if okEq a b = true then _ else _) = _
  rw [if_pos (by unfold okEq; rw [h, h']; rfl)]
theorem cov_ne {a b : D} (h : D.flat 20 a = true) (h' : D.flat 20 b = true) : cov .ne a b = some (!a.eqv b) := by
  show (if okEq a b = true then _ else _) = _
  rw [if_pos (by unfold okEq; rw [h, h']; rfl)]
theorem cov_eqI {i j : Int} : cov .eq (.int i) (.int j) = some (decide (i = j)) := by rw [cov_eq flat_int flat_int, eqv_int]
theorem cov_neI {i j : Int} : cov .ne (.int i) (.int j) = some (decide (i ≠ j)) := by rw [cov_ne flat_int flat_int, eqv_int]; simp
theorem cov_isN {d : D} : cov .is d .non = some d.isNon := by cases d <;> rfl
theorem cov_isnN {d : D} : cov .isn d .non = some (!d.isNon) := by cases d <;> rfl
theorem inv_tup {x : D} {ys : List D} (h : D.flat 20 x = true) (h' : ∀ y ∈ ys, D.flat 20 y = true) : cov .inn x (.tup ys) = some (ys.any fun y => D.eqv y x) := by
  show (if (x.flat 20 && D.flatL 20 ys) = true then _ else _) = _
  rw [if_pos (by rw [h, flatL_all h']; rfl)]
theorem bls_map {α : Type} {b : α → Bool} : ∀ {xs : List α}, D.bls (xs.map fun x => .bl (b x)) = some (xs.map b)
  | [] => rfl
  | x :: xs => by
    show (D.bls (xs.map fun x => .bl (b x))).map (b x :: ·) = _
    rw [bls_map]; rfl
theorem ints_map {α : Type} {b : α → Int} : ∀ {xs : List α}, D.ints (xs.map fun x => .int (b x)) = some (xs.map b)
  | [] => rfl
  | x :: xs => by
    show (D.ints (xs.map fun x => .int (b x))).map (b x :: ·) = _
    rw [ints_map]; rfl
theorem bf_all {α : Type} {b : α → Bool} {xs : List α} : bfv .all [.lst (xs.map fun x => .bl (b x))] = some (.bl (xs.all b)) := by
  show (D.bls _).map _ = _
  rw [bls_map]
  simp [List.all_map]
theorem bf_any {α : Type} {b : α → Bool} {xs : List α} : bfv .any [.lst (xs.map fun x => .bl (b x))] = some (.bl (xs.any b)) := by
  show (D.bls _).map _ = _
  rw [bls_map]
  simp [List.any_map]
theorem bf_sum {α : Type} {b : α → Int} {xs : List α} : bfv .sum [.lst (xs.map fun x => .int (b x))] = some (.int (xs.map b).sum) := by
  show (D.ints _).map _ = _
  rw [ints_map]
  rfl
theorem eqv_nil {xs : List D} : D.eqv (.lst xs) (.lst []) = xs.isEmpty := by cases xs <;> rfl
theorem rngv1 {n : Int} (h : -(2 ^ 62) ≤ n ∧ n < 2 ^ 62) : rngv [.int n] = some ((List.range n.toNat).map fun (i : Nat) => .int (i : Int)) := by
  show (if smallI n = true then _ else _) = _
  rw [if_pos (smallI_iff.mpr h)]
  unfold rngL
  simp
theorem enum_map {xs : List D} : enumL xs = ((List.range xs.length).zip xs).map fun p => .tup [.int (p.1 : Int), p.2] := by
  unfold enumL
  rw [List.zip, List.map_zipWith]
theorem zip_map {xs ys : List D} : zipD xs ys = (xs.zip ys).map fun p => .tup [p.1, p.2] := by
  unfold zipD
  rw [List.zip, List.map_zipWith]
theorem atI_nat {α : Type} {xs : List α} {i : Nat} (h : i < xs.length) : atI xs (i : Int) = xs[i]? := by
  unfold atI ixN
  rw [if_pos (by omega), if_pos (by omega)]
  rfl
/-- plain: no dict, no cup .. -/
def D.pl (d : D) : Bool := (tyv .int d).isSome
end Ev

set_option maxRecDepth 100000
/-! EvPm: what every law's text has: the cup, a roll, a thing drawn, sameness. -/
namespace Ev
open PySem PySem.Spec PyProof.Rows L2
def sameS (f : Nat) : S := (.cons (.ife (.isi (.var 1) .tuple) (.cons (.ife (.or_ (.cons (.nt (.isi (.var 0) .tuple)) (.cons (.cmp .ne (.bf .len (.cons (.var 0) .nil)) (.bf .len (.cons (.var 1) .nil))) .nil))) (.cons (.ret (.cst (.bl false))) .nil) .nil) (.cons (.ret (.bf .all (.cons (.lc [2] (.gn (.nm 2) (.itR (.cons (.bf .len (.cons (.var 1) .nil)) .nil)) .nil (.el (.call f (.cons (.ix (.var 0) (.var 2)) (.cons (.ix (.var 1) (.var 2)) .nil)))))) .nil))) .nil)) .nil) (.cons (.ife (.cmp .is (.var 1) (.cst (.non))) (.cons (.ret (.cmp .is (.var 0) (.cst (.non)))) .nil) .nil) (.cons (.ife (.isi (.var 1) .bool) (.cons (.ret (.ife (.var 1) (.cmp .is (.var 0) (.cst (.bl true))) (.cmp .is (.var 0) (.cst (.bl false))))) .nil) .nil) (.cons (.ife (.isi (.var 1) .int) (.cons (.ret (.and_ (.cons (.isi (.var 0) .int) (.cons (.nt (.isi (.var 0) .bool)) (.cons (.cmp .eq (.bf .int (.cons (.var 0) .nil)) (.var 1)) .nil))))) .nil) .nil) (.cons (.ret (.and_ (.cons (.isi (.var 0) .str) (.cons (.cmp .eq (.bf .str (.cons (.var 0) .nil)) (.var 1)) .nil)))) .nil)))))
/-- a tree of tuples, ints, bools, texts and None, m deep -/
def Sm : Nat → D → Prop
  | _, .non => True
  | _, .bl _ => True
  | _, .int _ => True
  | _, .str x => PySem.PyData.strOk x = true
  | m + 1, .tup xs => xs.length ≤ 1000000 ∧ ∀ x ∈ xs, Sm m x
  | _, _ => False
theorem rngvL {k : Nat} (h : k ≤ 1000000) : rngv [.int (k : Int)] = some ((List.range k).map fun (i : Nat) => .int (i : Int)) := by
  have h2 : -(2 ^ 62) ≤ (k : Int) ∧ (k : Int) < 2 ^ 62 := ⟨by omega, by omega⟩
  rw [rngv1 h2, Int.toNat_natCast]
theorem same_refl {al : Bool} {P : List Df} {f : Nat} (hf : P[f]? = some ⟨2, 3, sameS f⟩) : ∀ (m : Nat) (d : D) (n : Nat) (c : Cu), Sm m d → m < n → callN al P n f [d, d] c = .ok (.bl true) c := by
  intro m
  induction m with
  | zero =>
    intro d n c hd hn
    cases n with
    | zero => omega
    | succ n =>
      refine call_rt hf rfl ?_
      show ex (callN al P n) (sameS f) [some d, some d, none] c = _
      cases d with
      | non => rfl
      | bl b => cases b <;> rfl
      | int i =>
        simp only [sameS, ex, ev, evs, evAnd, gv0, gvS, of_some, bind_ok, tyv, Option.map, cov_isN, D.isNon, Bool.not_false, bfv, cov_eqI, decide_true]
      | str x =>
        have hx : D.flat 20 (.str x) = true := hd
        simp only [sameS, ex, ev, evs, evAnd, gv0, gvS, of_some, bind_ok, tyv, Option.map, cov_isN, D.isNon, Bool.not_false, bfv, cov_eq hx hx, D.eqv, beq_self_eq_true]
      | _ => cases hd
  | succ m ih =>
    intro d n c hd hn
    cases n with
    | zero => omega
    | succ n =>
      refine call_rt hf rfl ?_
      show ex (callN al P n) (sameS f) [some d, some d, none] c = _
      cases d with
      | non => rfl
      | bl b => cases b <;> rfl
      | int i =>
        simp only [sameS, ex, ev, evs, evAnd, gv0, gvS, of_some, bind_ok, tyv, Option.map, cov_isN, D.isNon, Bool.not_false, bfv, cov_eqI, decide_true]
      | str x =>
        have hx : D.flat 20 (.str x) = true := hd
        simp only [sameS, ex, ev, evs, evAnd, gv0, gvS, of_some, bind_ok, tyv, Option.map, cov_isN, D.isNon, Bool.not_false, bfv, cov_eq hx hx, D.eqv, beq_self_eq_true]
      | tup xs =>
        obtain ⟨h1, h2⟩ := hd
        simp only [sameS, ex, ev, evs, evAnd, evOr, evG, evI, gv0, gvS, of_some, bind_ok, tyv, Option.map, Bool.not_true, bfv, cov_neI, ne_eq, not_true_eq_false, decide_false, wipeE, List.set, rngvL h1]
        rw [loopL_map (g := fun _ : Nat => D.bl true) fun i hi => ?_]
        · have hb : big (List.map (fun _ : Nat => D.bl true) (List.range xs.length)).length = true := by
            refine decide_eq_true ?_
            rw [List.length_map, List.length_range]
            omega
          simp only [hb, bind_ok]
          rw [bls_map (b := fun _ : Nat => true)]
          simp
        · have hi' : i < xs.length := by simpa using hi
          have e : atI xs (i : Int) = some xs[i] := by rw [atI_nat hi', List.getElem?_eq_getElem hi']
          simp only [bindT, List.set, evT, evG, ev, evs, gv0, gvS, of_some, bind_ok, ixv, e]
          rw [ih _ n c (h2 _ (List.getElem_mem hi')) (by omega)]
          rfl
      | _ => cases hd
section
variable {F : Nat → List D → Cu → Out D} {env env0 : Env} {c : Cu} {a b e x es gs lo hi i1 : E} {i f : Nat} {d : D} {o p : Cop} {op : Op2} {nm : Str} {t : Ty} {bf : Bf} {tg : Tg} {it ifs : E} {own : List Nat} {s ss s1 s2 : S}
/-! the evaluator's equations one by one: a comprehension stays folded (ev_lc is for where it is wanted) -/
theorem ev_var : ev F (.var i) env c = Out.of (gv env i) c := rfl
theorem ev_cst : ev F (.cst d) env c = .ok d c := rfl
theorem ev_gl : ev F (.gl nm d) env c = .ok d c := rfl
theorem ev_tup : ev F (.tup es) env c = (evs F es env c).bind fun ds c => .ok (.tup ds) c := rfl
theorem ev_lst : ev F (.lst es) env c = (evs F es env c).bind fun ds c => .ok (.lst ds) c := rfl
theorem ev_op2 : ev F (.op2 op a b) env c = (ev F a env c).bind fun x c => (ev F b env c).bind fun y c => Out.of (opv op x y) c := rfl
theorem ev_cmp : ev F (.cmp o a b) env c = (ev F a env c).bind fun x c => (ev F b env c).bind fun y c => Out.of ((cov o x y).map D.bl) c := rfl
theorem ev_ix : ev F (.ix a b) env c = (ev F a env c).bind fun x c => (ev F b env c).bind fun y c => Out.of (ixv x y c) c := rfl
theorem ev_call : ev F (.call f es) env c = (evs F es env c).bind fun ds c => F f ds c := rfl
theorem ev_bf : ev F (.bf bf es) env c = (evs F es env c).bind fun ds c => Out.of (bfv bf ds) c := rfl
theorem ev_and : ev F (.and_ es) env c = evAnd F es env c := rfl
theorem ev_or : ev F (.or_ es) env c = evOr F es env c := rfl
theorem ev_noe : ev F .noe env c = .ok .non c := rfl
theorem ev_lc : ev F (.lc own (.gn tg it ifs gs)) env c = match (evI F it env c).bind fun items c => loopL (turnF F tg ifs gs (wipeE env own)) items c with
    | .ok ds c => (match big ds.length with
      | true => .ok (.lst ds) c
      | false => .no)
    | _ => .no := rfl
theorem evs_nil : evs F .nil env c = .ok [] c := rfl
theorem evs_cons : evs F (.cons e es) env c = (ev F e env c).bind fun d c => (evs F es env c).bind fun ds c => .ok (d :: ds) c := rfl
theorem ex_nil : ex F .nil env c = .ok (.nx env) c := rfl
theorem ex_set : ex F (.set i e) env c = (ev F e env c).bind fun d c => .ok (.nx (env.set i (some d))) c := rfl
theorem ex_ret : ex F (.ret e) env c = (ev F e env c).bind fun d c => .ok (.rt d) c := rfl
/-- a statement, then the rest -/
theorem ex_cons_nx {env' : Env} {c' : Cu} (h : ex F s env c = .ok (.nx env') c') : ex F (.cons s ss) env c = ex F ss env' c' := by
  show ((ex F s env c).bind fun r c => match r with
    | .nx env => ex F ss env c
    | .rt d => .ok (.rt d) c) = _
  rw [h]; rfl
theorem ex_cons_rt {d : D} {c' : Cu} (h : ex F s env c = .ok (.rt d) c') : ex F (.cons s ss) env c = .ok (.rt d) c' := by
  show ((ex F s env c).bind fun r c => match r with
    | .nx env => ex F ss env c
    | .rt d => .ok (.rt d) c) = _
  rw [h]; rfl
theorem ex_ife_t {c' : Cu} (h : ev F e env c = .ok (.bl true) c') : ex F (.ife e s1 s2) env c = ex F s1 env c' := by
  show ((ev F e env c).bind fun x c => match x with
    | .bl true => ex F s1 env c
    | .bl false => ex F s2 env c
    | _ => .no) = _
  rw [h]; rfl
theorem ex_ife_f {c' : Cu} (h : ev F e env c = .ok (.bl false) c') : ex F (.ife e s1 s2) env c = ex F s2 env c' := by
  show ((ev F e env c).bind fun x c => match x with
    | .bl true => ex F s1 env c
    | .bl false => ex F s2 env c
    | _ => .no) = _
  rw [h]; rfl
theorem ex_set_ok {c' : Cu} (h : ev F e env c = .ok d c') : ex F (.set i e) env c = .ok (.nx (env.set i (some d))) c' := by
  rw [ex_set, h]; rfl
theorem ex_ret_ok {c' : Cu} (h : ev F e env c = .ok d c') : ex F (.ret e) env c = .ok (.rt d) c' := by
  rw [ex_ret, h]; rfl
end
/-! ### a roll -/
def rollS (a b m1 k m2 q : Int) : S := (.cons (.ife (.cmp .gt (.ix (.var 0) (.cst (.int 0))) (.cst (.int 0))) (.cons (.set 3 (.op2 .mod (.bf .int (.cons (.ix (.var 0) (.cst (.int 0))) .nil)) (.var 1))) (.cons (.stc 0 (.cst (.int 0)) (.op2 .fdiv (.ix (.var 0) (.cst (.int 0))) (.var 1))) (.cons (.ret (.var 3)) .nil))) .nil) (.cons (.stc 0 (.cst (.int 1)) (.op2 .mod (.bf .int (.cons (.op2 .add (.op2 .mul (.ix (.var 0) (.cst (.int 1))) (.cst (.int a))) (.cst (.int b))) .nil)) (.cst (.int m1)))) (.cons (.set 2 (.op2 .mod (.bf .int (.cons (.op2 .mul (.ix (.var 0) (.cst (.int 1))) (.op2 .add (.ix (.var 0) (.cst (.int 1))) (.cst (.int k)))) .nil)) (.cst (.int m2)))) (.cons (.ret (.op2 .mod (.bf .int (.cons (.op2 .fdiv (.var 2) (.cst (.int q))) .nil)) (.var 1))) .nil))))
def Cok (c : Cu) : Prop := ∃ a b : Int, c = some [a, b]
theorem roll_ok {al : Bool} {P : List Df} {f : Nat} {a b m1 k m2 q : Int} (hf : P[f]? = some ⟨2, 4, rollS a b m1 k m2 q⟩) (ha : -(2 ^ 64) < a ∧ a < 2 ^ 64) (h1 : 0 < m1 ∧ m1 < 2 ^ 60) (h2 : 0 < m2) (hq : 0 < q ∧ q < 1073741824) {n : Nat} {c : Cu} (hc : Cok c) {m : Int} (hm : 0 < m ∧ m < 1073741824) :
    ∃ r c', callN al P (n + 1) f [.cup, .int m] c = .ok (.int r) c' ∧ 0 ≤ r ∧ r < m ∧ Cok c' := by
  obtain ⟨x, y, rfl⟩ := hc
  have key : ∃ r c', ex (callN al P n) (rollS a b m1 k m2 q) [some .cup, some (.int m), none, none] (some [x, y]) = .ok (.rt (.int r)) c' ∧ 0 ≤ r ∧ r < m ∧ Cok c' := by
    have e0 : ∀ {x y : Int}, ixv .cup (.int 0) (some [x, y]) = some (.int x) := rfl
    have e1 : ∀ {x y : Int}, ixv .cup (.int 1) (some [x, y]) = some (.int y) := rfl
    have i0 : ∀ {x y : Int}, ixN [x, y].length 0 = some 0 := rfl
    have i1 : ∀ {x y : Int}, ixN [x, y].length 1 = some 1 := rfl
    have om : ∀ {i : Int}, opv .mod (.int i) (.int m) = some (.int (i % m)) := by
      intro i
      show (if decide (0 < m) = true then _ else _) = _
      rw [if_pos (decide_eq_true hm.1)]
    have od : ∀ {i : Int}, opv .fdiv (.int i) (.int m) = some (.int (i / m)) := by
      intro i
      show (if decide (0 < m ∧ m < 1073741824) = true then _ else _) = _
      rw [if_pos (decide_eq_true hm)]
    have om1 : ∀ {i : Int}, opv .mod (.int i) (.int m1) = some (.int (i % m1)) := by
      intro i
      show (if decide (0 < m1) = true then _ else _) = _
      rw [if_pos (decide_eq_true h1.1)]
    have om2 : ∀ {i : Int}, opv .mod (.int i) (.int m2) = some (.int (i % m2)) := by
      intro i
      show (if decide (0 < m2) = true then _ else _) = _
      rw [if_pos (decide_eq_true h2)]
    have oq : ∀ {i : Int}, opv .fdiv (.int i) (.int q) = some (.int (i / q)) := by
      intro i
      show (if decide (0 < q ∧ q < 1073741824) = true then _ else _) = _
      rw [if_pos (decide_eq_true hq)]
    have omu : ∀ {i : Int}, opv .mul (.int i) (.int a) = some (.int (i * a)) := by
      intro i
      show (if (decide (-(2 ^ 64) < a ∧ a < 2 ^ 64) || decide (-(2 ^ 64) < i ∧ i < 2 ^ 64)) = true then _ else _) = _
      rw [if_pos (by rw [decide_eq_true ha, Bool.true_or])]
    simp only [rollS, ex, ev, evs, gv0, gvS, of_some, bind_ok, e0, cov_gt, Option.map]
    cases hx : decide (0 < x) with
    | true =>
      simp only [bfv, of_some, bind_ok, om, od, List.set, gv0, gvS, i0, e0]
      refine ⟨x % m, _, rfl, Int.emod_nonneg _ (by omega), Int.emod_lt_of_pos _ hm.1, _, _, rfl⟩
    | false =>
      have hy : 0 ≤ (y * a + b) % m1 ∧ (y * a + b) % m1 < m1 := ⟨Int.emod_nonneg _ (by omega), Int.emod_lt_of_pos _ h1.1⟩
      have omy : opv .mul (.int ((y * a + b) % m1)) (.int ((y * a + b) % m1 + k)) = some (.int ((y * a + b) % m1 * ((y * a + b) % m1 + k))) := by
        show (if (decide _ || decide _) = true then _ else _) = _
        rw [if_pos]
        rw [Bool.or_eq_true]
        right
        refine decide_eq_true ⟨by omega, by omega⟩
      simp only [bfv, of_some, bind_ok, omu, opv_addI, om1, List.set, gv0, gvS, i1, e1, e0, om2, oq, om, omy]
      exact ⟨_, _, rfl, Int.emod_nonneg _ (by omega), Int.emod_lt_of_pos _ hm.1, _, _, rfl⟩
  obtain ⟨r, c', h1, h2, h3, h4⟩ := key
  exact ⟨r, c', call_rt hf rfl h1, h2, h3, h4⟩
def someS (f : Nat) : S := (.cons (.ret (.ix (.var 1) (.call f (.cons (.var 0) (.cons (.bf .len (.cons (.var 1) .nil)) .nil))))) .nil)
/-- the cup's start -/
def cupS (k1 k2 a b m d : Int) (t : Int) : S := (.cons (.set 1 (.bf .abs (.cons (.ix (.op2 .add (.bf .list (.cons (.var 0) .nil)) (.lst (.cons (.cst (.int 0)) .nil))) (.cst (.int 0))) .nil))) (.cons (.ret (.cupn (.ife (.cmp .ge (.var 1) (.op2 .pow (.cst (.int k1)) (.cst (.int k2)))) (.op2 .fdiv (.var 1) (.cst (.int t))) (.cst (.int 0))) (.op2 .add (.op2 .mod (.bf .int (.cons (.op2 .add (.op2 .mul (.var 1) (.cst (.int a))) (.cst (.int b))) .nil)) (.cst (.int m))) (.cst (.int d))))) .nil))
theorem cup_ok {al : Bool} {P : List Df} {f : Nat} {a b m d t : Int} (hf : P[f]? = some ⟨1, 2, cupS 10 18 a b m d t⟩) (ha : -(2 ^ 64) < a ∧ a < 2 ^ 64) (hm : 0 < m) (ht : 0 < t ∧ t < 1073741824) {n : Nat} {ns : List Int} (hn : ns.length ≤ 1000) :
    ∃ c', callN al P (n + 1) f [.scr ns] none = .ok .cup c' ∧ Cok c' := by
  have key : ∃ c', ex (callN al P n) (cupS 10 18 a b m d t) [some (.scr ns), none] none = .ok (.rt .cup) c' ∧ Cok c' := by
    have oadd : opv .add (.lst (ns.map D.int)) (.lst [.int 0]) = some (.lst (ns.map D.int ++ [.int 0])) := opv_addL (by simp; omega)
    have eix : ∃ x : Int, ixv (.lst (ns.map D.int ++ [.int 0])) (.int 0) none = some (.int x) := by
      cases ns with
      | nil => exact ⟨0, rfl⟩
      | cons x r =>
        refine ⟨x, ?_⟩
        show atI _ _ = _
        rw [show (0 : Int) = ((0 : Nat) : Int) from rfl, atI_nat (by simp)]
        rfl
    obtain ⟨x, eix⟩ := eix
    have om : ∀ {i : Int}, opv .mod (.int i) (.int m) = some (.int (i % m)) := by
      intro i
      show (if decide (0 < m) = true then _ else _) = _
      rw [if_pos (decide_eq_true hm)]
    have od : ∀ {i : Int}, opv .fdiv (.int i) (.int t) = some (.int (i / t)) := by
      intro i
      show (if decide (0 < t ∧ t < 1073741824) = true then _ else _) = _
      rw [if_pos (decide_eq_true ht)]
    have omu : ∀ {i : Int}, opv .mul (.int i) (.int a) = some (.int (i * a)) := by
      intro i
      show (if (decide (-(2 ^ 64) < a ∧ a < 2 ^ 64) || decide (-(2 ^ 64) < i ∧ i < 2 ^ 64)) = true then _ else _) = _
      rw [if_pos (by rw [decide_eq_true ha, Bool.true_or])]
    have op : opv .pow (.int 10) (.int 18) = some (.int 1000000000000000000) := rfl
    simp only [cupS, ex, ev, evs, gv0, gvS, of_some, bind_ok, bfv, oadd, eix, List.set, op, cov_ge, Option.map, od, omu, opv_addI, om]
    generalize (if x < 0 then -x else x) = z
    cases hz : decide ((1000000000000000000 : Int) ≤ z) <;> simp only [hz, bind_ok] <;> exact ⟨_, rfl, _, _, rfl⟩
  obtain ⟨c', h1, h2⟩ := key
  exact ⟨c', call_rt hf rfl h1, h2⟩
end Ev

set_option maxRecDepth 100000
/-! EvW: walking a compact text: the evaluator's equations as rules, typed values, loops over typed values. -/
namespace Ev
open PySem PySem.Spec PyProof.Rows L2
/-! ### forms -/
structure Tag1 {α : Type} (a : α) : Type where
def Out.bd {α β : Type} (x : Out α) (f : α → Cu → Out β) (_ : Tag1 f := ⟨⟩) : Out β := x.bind f
theorem bd_ok {α β : Type} {a : α} {c : Cu} {f : α → Cu → Out β} {u : Tag1 f} : (Out.ok a c).bd f u = f a c := rfl
theorem bd_assoc {α β γ : Type} {x : Out α} {f : α → Cu → Out β} {u : Tag1 f} {g : β → Cu → Out γ} {v : Tag1 g} : (x.bd f u).bd g v = x.bd fun a c => (f a c).bd g := by cases x <;> rfl
theorem bd_ite {α β : Type} {p : Prop} [Decidable p] {x y : Out α} {f : α → Cu → Out β} {u : Tag1 f} : (if p then x else y).bd f u = if p then x.bd f u else y.bd f u := by by_cases h : p <;> simp only [h, if_true, if_false]
def tst {α : Type} (x : D) (a b : Out α) (_ : Tag1 (a, b) := ⟨⟩) : Out α := match x with
  | .bl true => a
  | .bl false => b
  | _ => .no
theorem tst_bl {α : Type} {p : Bool} {a b : Out α} {u : Tag1 (a, b)} : tst (.bl p) a b u = if p = true then a else b := by cases p <;> rfl
def asB (x : D) (c : Cu) : Out D := match x with
  | .bl b => .ok (.bl b) c
  | _ => .no
theorem asB_bl {p : Bool} {c : Cu} : asB (.bl p) c = .ok (.bl p) c := rfl
def ntO (x : D) (c : Cu) : Out D := match x with
  | .bl b => .ok (.bl (!b)) c
  | _ => .no
theorem ntO_bl {p : Bool} {c : Cu} : ntO (.bl p) c = .ok (.bl (!p)) c := rfl
def negO (x : D) (c : Cu) : Out D := match x with
  | .int i => .ok (.int (-i)) c
  | _ => .no
theorem negO_int {i : Int} {c : Cu} : negO (.int i) c = .ok (.int (-i)) c := rfl
def optB {α : Type} (o : Option Bool) (a b : Out α) (_ : Tag1 (a, b) := ⟨⟩) : Out α := match o with
  | some true => a
  | some false => b
  | none => .no
theorem optB_some {α : Type} {p : Bool} {a b : Out α} {u : Tag1 (a, b)} : optB (some p) a b u = if p = true then a else b := by cases p <;> rfl
def optO {α β : Type} (o : Option β) (k : β → Out α) (_ : Tag1 k := ⟨⟩) : Out α := match o with
  | some b => k b
  | none => .no
theorem optO_some {α β : Type} {b : β} {k : β → Out α} {u : Tag1 k} : optO (some b) k u = k b := rfl
def revO (x : D) (c : Cu) : Out D := match x with
  | .lst xs => .ok (.lst xs.reverse) c
  | _ => .no
theorem revO_lst {xs : List D} {c : Cu} : revO (.lst xs) c = .ok (.lst xs.reverse) c := rfl
def nolO (d : D) (c : Cu) : Out D := match d.noL with
  | true => .ok d c
  | false => .no
theorem nolO_ok {d : D} {c : Cu} (h : d.noL = true) : nolO d c = .ok d c := by unfold nolO; rw [h]
def nolF {α : Type} (ds : List D) (x : Out α) : Out α := match D.noLL ds with
  | true => x
  | false => .no
theorem nolF_ok {α : Type} {ds : List D} {x : Out α} (h : D.noLL ds = true) : nolF ds x = x := by unfold nolF; rw [h]
def lcEnd (x : Out (List D)) : Out D := match x with
  | .ok ds c => (match big ds.length with
    | true => .ok (.lst ds) c
    | false => .no)
  | _ => .no
theorem lcEnd_ok {ds : List D} {c : Cu} (h : ds.length ≤ 16777216) : lcEnd (.ok ds c) = .ok (.lst ds) c := by
  show (match big ds.length with
    | true => Out.ok (D.lst ds) c
    | false => .no) = _
  rw [show big ds.length = true from decide_eq_true h]
def zipO (x y : D) (c : Cu) : Out (List D) := match itemsOf x, itemsOf y with
  | some xs, some ys => .ok (zipD xs ys) c
  | _, _ => .no
theorem zipO_eq {x y : D} {c : Cu} : zipO x y c = optO (itemsOf x) fun xs => optO (itemsOf y) fun ys => .ok (zipD xs ys) c := by
  unfold zipO
  cases itemsOf x with
  | none => rfl
  | some xs => cases itemsOf y <;> rfl
/-- a call's end -/
def retO (x : Out Fl) : Out D := match x with
  | .ok (.rt d) c => .ok d c
  | .ok (.nx _) c => .ok .non c
  | _ => .no
theorem retO_rt {d : D} {c : Cu} : retO (.ok (.rt d) c) = .ok d c := rfl
theorem retO_nx {env : Env} {c : Cu} : retO (.ok (.nx env) c) = .ok .non c := rfl
theorem retO_ite {p : Prop} [Decidable p] {x y : Out Fl} : retO (if p then x else y) = if p then retO x else retO y := by by_cases h : p <;> simp only [h, if_true, if_false]
theorem call_u {P : List Df} {n f : Nat} {df : Df} {args : List D} {env : Env} {c : Cu} (hf : P[f]? = some df) (hl : args.length = df.np) (he : args.map some ++ List.replicate (df.nn - df.np) none = env) : callN false P (n + 1) f args c = retO (ex (callN false P n) df.body env c) := by
  unfold callN
  rw [hf]
  show (runB _ _ _ _).noE false = _
  unfold runB
  rw [show decide (args.length = df.np) = true from decide_eq_true hl, he]
  show (Out.bind _ _).noE false = _
  cases ex (callN false P n) df.body env c with
  | ok r c => cases r <;> rfl
  | err _ _ => rfl
  | no => rfl
theorem zipO_ok {x y : D} {xs ys : List D} {c : Cu} (h : itemsOf x = some xs) (h' : itemsOf y = some ys) : zipO x y c = .ok (zipD xs ys) c := by unfold zipO; rw [h, h']
theorem bind_ite {α β : Type} {p : Prop} [Decidable p] {x y : Out α} {f : α → Cu → Out β} : (if p then x else y).bind f = if p then x.bind f else y.bind f := by by_cases h : p <;> simp only [h, if_true, if_false]
theorem ite_bl {p : Prop} [Decidable p] {a b : Bool} {c : Cu} : (if p then Out.ok (D.bl a) c else Out.ok (D.bl b) c) = Out.ok (D.bl (if p then a else b)) c := by by_cases h : p <;> simp only [h, if_true, if_false]
theorem ite_int {p : Prop} [Decidable p] {a b : Int} {c : Cu} : (if p then Out.ok (D.int a) c else Out.ok (D.int b) c) = Out.ok (D.int (if p then a else b)) c := by by_cases h : p <;> simp only [h, if_true, if_false]
theorem ite_ite {α : Type} {p q : Prop} [Decidable p] [Decidable q] {a b : Out α} : (if p then (if q then a else b) else b) = if p ∧ q then a else b := by by_cases h : p <;> by_cases h' : q <;> simp [h, h']
theorem if_tl {p : Prop} [Decidable p] {q : Bool} : (if p then true else q) = (decide p || q) := by by_cases h : p <;> simp [h]
theorem if_fr {p : Prop} [Decidable p] {q : Bool} : (if p then q else false) = (decide p && q) := by by_cases h : p <;> simp [h]
theorem if_fl {p : Prop} [Decidable p] {q : Bool} : (if p then false else q) = (!decide p && q) := by by_cases h : p <;> simp [h]
theorem if_tr {p : Prop} [Decidable p] {q : Bool} : (if p then q else true) = (!decide p || q) := by by_cases h : p <;> simp [h]
theorem dec_b {b : Bool} [Decidable (b = true)] : decide (b = true) = b := by cases b <;> simp
def ownO (d : D) (x : Out Fl) : Out Fl := match d.ownOk with
  | true => x
  | false => .no
theorem ownO_ok {d : D} {x : Out Fl} (h : d.ownOk = true) : ownO d x = x := by unfold ownO; rw [h]
def nxt (r : Fl) (c : Cu) (k : Env → Cu → Out Fl) (_ : Tag1 k := ⟨⟩) : Out Fl := match r with
  | .nx env => k env c
  | .rt d => .ok (.rt d) c
theorem nxt_nx {env : Env} {c : Cu} {k : Env → Cu → Out Fl} {u : Tag1 k} : nxt (.nx env) c k u = k env c := rfl
theorem nxt_rt {d : D} {c : Cu} {k : Env → Cu → Out Fl} {u : Tag1 k} : nxt (.rt d) c k u = .ok (.rt d) c := rfl
def nxtE (o : Option Env) (c : Cu) : Out Fl := match o with
  | some env => .ok (.nx env) c
  | none => .no
theorem nxtE_some {env : Env} {c : Cu} : nxtE (some env) c = .ok (.nx env) c := rfl
section
variable {F : Nat → List D → Cu → Out D} {env env0 : Env} {c : Cu} {a b d e x es gs lo hi i1 it ifs : E} {i f j : Nat} {dd : D} {o p : Cop} {op : Op2} {nm : Str} {t : Ty} {bf : Bf} {tg tgs : Tg} {own : List Nat} {s ss s1 s2 : S} {xs : List D}
theorem v_var : ev F (.var i) env c = Out.of (gv env i) c := rfl
theorem v_cst : ev F (.cst dd) env c = .ok dd c := rfl
theorem v_gl : ev F (.gl nm dd) env c = .ok dd c := rfl
theorem v_tup : ev F (.tup es) env c = (evs F es env c).bind fun ds c => .ok (.tup ds) c := rfl
theorem v_lst : ev F (.lst es) env c = (evs F es env c).bind fun ds c => .ok (.lst ds) c := rfl
theorem v_op2 : ev F (.op2 op a b) env c = (ev F a env c).bind fun x c => (ev F b env c).bind fun y c => Out.of (opv op x y) c := rfl
theorem v_neg : ev F (.neg a) env c = (ev F a env c).bind negO := rfl
theorem v_nt : ev F (.nt a) env c = (ev F a env c).bind ntO := rfl
theorem v_ife : ev F (.ife e a b) env c = (ev F e env c).bind fun x c => tst x (ev F a env c) (ev F b env c) := rfl
theorem v_cmp : ev F (.cmp o a b) env c = (ev F a env c).bind fun x c => (ev F b env c).bind fun y c => Out.of ((cov o x y).map D.bl) c := rfl
theorem v_chn : ev F (.chn o p a b d) env c = (ev F a env c).bind fun x c => (ev F b env c).bind fun y c => optB (cov o x y) ((ev F d env c).bind fun z c => Out.of ((cov p y z).map D.bl) c) (.ok (.bl false) c) := rfl
theorem v_ix : ev F (.ix a b) env c = (ev F a env c).bind fun x c => (ev F b env c).bind fun y c => Out.of (ixv x y c) c := rfl
theorem v_sl : ev F (.sl a lo hi) env c = (ev F a env c).bind fun x c => (ev F lo env c).bind fun l c => optO (optI lo l) fun l => (ev F hi env c).bind fun h c => optO (optI hi h) fun h => Out.of (slv x l h) c := by
  show (ev F a env c).bind _ = _
  congr 1; funext x c
  show (ev F lo env c).bind _ = _
  congr 1; funext l c
  cases optI lo l with
  | none => rfl
  | some l =>
    show (ev F hi env c).bind _ = (ev F hi env c).bind _
    congr 1; funext h c
    cases optI hi h <;> rfl
theorem v_noe : ev F .noe env c = .ok .non c := rfl
theorem v_rev : ev F (.rev a) env c = (ev F a env c).bind revO := rfl
theorem v_call : ev F (.call f es) env c = (evs F es env c).bind fun ds c => F f ds c := rfl
theorem v_calln : ev F (.calln f es) env c = (evs F es env c).bind fun ds c => (F f ds c).bind nolO := rfl
theorem v_callf : ev F (.callf f es) env c = (evs F es env c).bind fun ds c => nolF ds (F f ds c) := rfl
theorem v_bf : ev F (.bf bf es) env c = (evs F es env c).bind fun ds c => Out.of (bfv bf ds) c := rfl
theorem v_isi : ev F (.isi a t) env c = (ev F a env c).bind fun x c => Out.of ((tyv t x).map D.bl) c := rfl
theorem v_and : ev F (.and_ es) env c = evAnd F es env c := rfl
theorem v_or : ev F (.or_ es) env c = evOr F es env c := rfl
theorem v_and1 : evAnd F (.cons e .nil) env c = (ev F e env c).bind asB := rfl
theorem v_and2 : evAnd F (.cons e (.cons x es)) env c = (ev F e env c).bind fun y c => tst y (evAnd F (.cons x es) env c) (.ok (.bl false) c) := rfl
theorem v_or1 : evOr F (.cons e .nil) env c = (ev F e env c).bind asB := rfl
theorem v_or2 : evOr F (.cons e (.cons x es)) env c = (ev F e env c).bind fun y c => tst y (.ok (.bl true) c) (evOr F (.cons x es) env c) := by
  show (ev F e env c).bind _ = _
  congr 1; funext y c
  cases y with
  | bl b => cases b <;> rfl
  | _ => rfl
theorem v_lc : ev F (.lc own gs) env c = lcEnd (evG F gs (wipeE env own) env c) := rfl
theorem v_s0 : evs F .nil env c = .ok [] c := rfl
theorem v_s1 : evs F (.cons e es) env c = (ev F e env c).bind fun d c => (evs F es env c).bind fun ds c => .ok (d :: ds) c := rfl
theorem v_itE : evI F (.itE a) env c = (ev F a env c).bind fun x c => Out.of (itemsOf x) c := rfl
theorem v_itR : evI F (.itR es) env c = (evs F es env c).bind fun ds c => Out.of (rngv ds) c := rfl
theorem v_itN : evI F (.itN a) env c = (ev F a env c).bind fun x c => Out.of ((itemsOf x).map enumL) c := rfl
theorem v_itZ : evI F (.itZ a b) env c = (ev F a env c).bind fun x c => (ev F b env c).bind fun y c => zipO x y c := rfl
theorem v_el : evG F (.el e) env env0 c = (ev F e env c).bind fun d c => .ok [d] c := rfl
theorem v_gn : evG F (.gn tg it ifs gs) env env0 c = (evI F it env0 c).bind fun items c => loopL (turnF F tg ifs gs env) items c := rfl
theorem v_tn0 : turnF F (.nm i) .nil gs env dd c = evG F gs (env.set i (some dd)) (env.set i (some dd)) c := rfl
theorem v_tn1 : turnF F (.nm i) (.cons e .nil) gs env dd c = (ev F e (env.set i (some dd)) c).bind fun x c => tst x (evG F gs (env.set i (some dd)) (env.set i (some dd)) c) (.ok [] c) := by
  show (evT F (.cons e .nil) (env.set i (some dd)) c).bind _ = _
  show ((ev F e (env.set i (some dd)) c).bind _).bind _ = _
  cases ev F e (env.set i (some dd)) c with
  | ok x c =>
    rw [bind_ok, bind_ok]
    cases x with
    | bl b => cases b <;> rfl
    | _ => rfl
  | err _ _ => rfl
  | no => rfl
def gK (F : Nat → List D → Cu → Out D) (gs : E) (c : Cu) (env : Env) : Out (List D) := evG F gs env env c
theorem gK_app : gK F gs c env = evG F gs env env c := rfl
def gQ (F : Nat → List D → Cu → Out D) (e gs : E) (c : Cu) (env : Env) : Out (List D) := (ev F e env c).bind fun x c => tst x (evG F gs env env c) (.ok [] c)
theorem gQ_app : gQ F e gs c env = (ev F e env c).bd fun x c => tst x (evG F gs env env c) (.ok [] c) := rfl
theorem v_tp0 : turnF F (.tp tgs) .nil gs env (.tup xs) c = optO (Ev.bindL tgs xs env) (gK F gs c) := by
  show (match Ev.bindL tgs xs env with
    | some env' => (evT F .nil env' c).bind fun b c => match b with
      | true => evG F gs env' env' c
      | false => .ok [] c
    | none => .no) = _
  cases Ev.bindL tgs xs env <;> rfl
theorem v_tp1 : turnF F (.tp tgs) (.cons e .nil) gs env (.tup xs) c = optO (Ev.bindL tgs xs env) (gQ F e gs c) := by
  show (match Ev.bindL tgs xs env with
    | some env' => (evT F (.cons e .nil) env' c).bind fun b c => match b with
      | true => evG F gs env' env' c
      | false => .ok [] c
    | none => .no) = _
  cases Ev.bindL tgs xs env with
  | none => rfl
  | some env1 =>
    show ((ev F e env1 c).bind _).bind _ = (ev F e env1 c).bind _
    cases ev F e env1 c with
    | ok x c =>
      rw [bind_ok, bind_ok]
      cases x with
      | bl b => cases b <;> rfl
      | _ => rfl
    | err _ _ => rfl
    | no => rfl
theorem v_b0 : Ev.bindL .nil [] env = some env := rfl
theorem v_b1 : Ev.bindL (.cons (.nm i) tgs) (dd :: xs) env = Ev.bindL tgs xs (env.set i (some dd)) := rfl
theorem v_bp {ys : List D} {ts : Tg} : Ev.bindL (.cons (.tp ts) tgs) (.tup ys :: xs) env = (Ev.bindL ts ys env).bind (Ev.bindL tgs xs) := by
  show (match Ev.bindL ts ys env with
    | some env' => Ev.bindL tgs xs env'
    | none => none) = _
  cases Ev.bindL ts ys env <;> rfl
theorem v_bn : bindT (.nm i) dd env = some (env.set i (some dd)) := rfl
theorem v_bt : bindT (.tp tgs) (.tup xs) env = Ev.bindL tgs xs env := rfl
theorem v_wp0 : wipeE env [] = env := rfl
theorem v_wp1 {vs : List Nat} : wipeE env (i :: vs) = (wipeE env vs).set i none := rfl
/-! statements -/
theorem y_nil : ex F .nil env c = .ok (.nx env) c := rfl
theorem y_cons : ex F (.cons s ss) env c = (ex F s env c).bind fun r c => nxt r c (ex F ss) := rfl
theorem y_pass : ex F .pass env c = .ok (.nx env) c := rfl
theorem y_set : ex F (.set i e) env c = (ev F e env c).bind fun d c => .ok (.nx (env.set i (some d))) c := rfl
theorem y_seto : ex F (.seto i e) env c = (ev F e env c).bind fun d c => ownO d (.ok (.nx (env.set i (some d))) c) := rfl
theorem y_asg : ex F (.asg tg e) env c = (ev F e env c).bind fun d c => nxtE (bindT tg d env) c := rfl
theorem y_ret : ex F (.ret e) env c = (ev F e env c).bind fun d c => .ok (.rt d) c := rfl
theorem y_ex : ex F (.ex e) env c = (ev F e env c).bind fun _ c => .ok (.nx env) c := rfl
theorem y_ife : ex F (.ife e s1 s2) env c = (ev F e env c).bind fun x c => tst x (ex F s1 env c) (ex F s2 env c) := rfl
def stepF (F : Nat → List D → Cu → Out D) (t : Tg) (b : S) (x : D) (env : Env) (c : Cu) : Out Fl := match bindT t x env with
  | some env => ex F b env c
  | none => .no
theorem y_for : ex F (.for_ tg it s) env c = (evI F it env c).bind fun items c => forL (stepF F tg s) items env c := rfl
theorem y_step_n : stepF F (.nm i) s dd env c = ex F s (env.set i (some dd)) c := rfl
def xK (F : Nat → List D → Cu → Out D) (s : S) (c : Cu) (env : Env) : Out Fl := ex F s env c
theorem xK_app : xK F s c env = ex F s env c := rfl
theorem y_step_t : stepF F (.tp tgs) s (.tup xs) env c = optO (Ev.bindL tgs xs env) (xK F s c) := by
  show (match Ev.bindL tgs xs env with
    | some env => ex F s env c
    | none => .no) = _
  cases Ev.bindL tgs xs env <;> rfl
theorem y_wh : ex F (.wh e s) env c = whL (fun env c => ev F e env c) (fun env c => ex F s env c) WH env c := rfl
def appO (env : Env) (i : Nat) (o : Option D) (k : List D → Out Fl) (_ : Tag1 k := ⟨⟩) : Out Fl := match o with
  | some (.lst xs) => k xs
  | _ => .no
theorem appO_lst {k : List D → Out Fl} {u : Tag1 k} : appO env i (some (.lst xs)) k u = k xs := rfl
theorem y_app : ex F (.app i e) env c = appO env i (gv env i) fun xs => (ev F e env c).bind fun v c => putv env i (catv (.lst xs) (.lst [v])) c := by
  show (match gv env i with
    | some (.lst xs) => (ev F e env c).bind fun v c => putv env i (catv (.lst xs) (.lst [v])) c
    | _ => .no) = _
  cases gv env i with
  | none => rfl
  | some x => cases x <;> rfl
theorem y_auga : ex F (.auga i e) env c = appO env i (gv env i) fun xs => (ev F e env c).bind fun v c => putv env i (catv (.lst xs) v) c := by
  show (match gv env i with
    | some (.lst xs) => (ev F e env c).bind fun v c => putv env i (catv (.lst xs) v) c
    | _ => .no) = _
  cases gv env i with
  | none => rfl
  | some x => cases x <;> rfl
theorem y_ext : ex F (.ext i e) env c = appO env i (gv env i) fun xs => (ev F e env c).bind fun v c => putv env i (catv (.lst xs) v) c := by
  show (match gv env i with
    | some (.lst xs) => (ev F e env c).bind fun v c => putv env i (catv (.lst xs) v) c
    | _ => .no) = _
  cases gv env i with
  | none => rfl
  | some x => cases x <;> rfl
theorem putv_some : putv env i (some dd) c = .ok (.nx (env.set i (some dd))) c := rfl
theorem catv_lst {ys : List D} (h : xs.length + ys.length ≤ 16777216) : catv (.lst xs) (.lst ys) = some (.lst (xs ++ ys)) := by
  show (if big (xs.length + ys.length) = true then _ else _) = _
  rw [if_pos (show big _ = true from decide_eq_true h)]
theorem w_var : ev F (.var i) env c = Out.of (gv env i) c := v_var
theorem w_cst : ev F (.cst dd) env c = .ok dd c := v_cst
theorem w_gl : ev F (.gl nm dd) env c = .ok dd c := v_gl
theorem w_tup : ev F (.tup es) env c = (evs F es env c).bd fun ds c => .ok (.tup ds) c := v_tup
theorem w_lst : ev F (.lst es) env c = (evs F es env c).bd fun ds c => .ok (.lst ds) c := v_lst
theorem w_op2 : ev F (.op2 op a b) env c = (ev F a env c).bd fun x c => (ev F b env c).bd fun y c => Out.of (opv op x y) c := v_op2
theorem w_neg : ev F (.neg a) env c = (ev F a env c).bd negO := v_neg
theorem w_nt : ev F (.nt a) env c = (ev F a env c).bd ntO := v_nt
theorem w_ife : ev F (.ife e a b) env c = (ev F e env c).bd fun x c => tst x (ev F a env c) (ev F b env c) := v_ife
theorem w_cmp : ev F (.cmp o a b) env c = (ev F a env c).bd fun x c => (ev F b env c).bd fun y c => Out.of ((cov o x y).map D.bl) c := v_cmp
theorem w_chn : ev F (.chn o p a b d) env c = (ev F a env c).bd fun x c => (ev F b env c).bd fun y c => optB (cov o x y) ((ev F d env c).bd fun z c => Out.of ((cov p y z).map D.bl) c) (.ok (.bl false) c) := v_chn
theorem w_ix : ev F (.ix a b) env c = (ev F a env c).bd fun x c => (ev F b env c).bd fun y c => Out.of (ixv x y c) c := v_ix
theorem w_sl : ev F (.sl a lo hi) env c = (ev F a env c).bd fun x c => (ev F lo env c).bd fun l c => optO (optI lo l) fun l => (ev F hi env c).bd fun h c => optO (optI hi h) fun h => Out.of (slv x l h) c := v_sl
theorem w_noe : ev F .noe env c = .ok .non c := v_noe
theorem w_rev : ev F (.rev a) env c = (ev F a env c).bd revO := v_rev
theorem w_lz : ev F (.lz es) env c = (evs F es env c).bd fun ds c => Out.of (lzv ds) c := rfl
theorem w_call : ev F (.call f es) env c = (evs F es env c).bd fun ds c => F f ds c := v_call
theorem w_calln : ev F (.calln f es) env c = (evs F es env c).bd fun ds c => (F f ds c).bd nolO := v_calln
theorem w_callf : ev F (.callf f es) env c = (evs F es env c).bd fun ds c => nolF ds (F f ds c) := v_callf
theorem w_bf : ev F (.bf bf es) env c = (evs F es env c).bd fun ds c => Out.of (bfv bf ds) c := v_bf
theorem w_isi : ev F (.isi a t) env c = (ev F a env c).bd fun x c => Out.of ((tyv t x).map D.bl) c := v_isi
theorem w_and : ev F (.and_ es) env c = evAnd F es env c := v_and
theorem w_or : ev F (.or_ es) env c = evOr F es env c := v_or
theorem w_and1 : evAnd F (.cons e .nil) env c = (ev F e env c).bd asB := v_and1
theorem w_and2 : evAnd F (.cons e (.cons x es)) env c = (ev F e env c).bd fun y c => tst y (evAnd F (.cons x es) env c) (.ok (.bl false) c) := v_and2
theorem w_or1 : evOr F (.cons e .nil) env c = (ev F e env c).bd asB := v_or1
theorem w_or2 : evOr F (.cons e (.cons x es)) env c = (ev F e env c).bd fun y c => tst y (.ok (.bl true) c) (evOr F (.cons x es) env c) := v_or2
theorem w_lc : ev F (.lc own gs) env c = lcEnd (evG F gs (wipeE env own) env c) := v_lc
theorem w_s0 : evs F .nil env c = .ok [] c := v_s0
theorem w_s1 : evs F (.cons e es) env c = (ev F e env c).bd fun d c => (evs F es env c).bd fun ds c => .ok (d :: ds) c := v_s1
theorem w_itE : evI F (.itE a) env c = (ev F a env c).bd fun x c => Out.of (itemsOf x) c := v_itE
theorem w_itR : evI F (.itR es) env c = (evs F es env c).bd fun ds c => Out.of (rngv ds) c := v_itR
theorem w_itN : evI F (.itN a) env c = (ev F a env c).bd fun x c => Out.of ((itemsOf x).map enumL) c := v_itN
theorem w_itZ : evI F (.itZ a b) env c = (ev F a env c).bd fun x c => (ev F b env c).bd fun y c => zipO x y c := v_itZ
theorem w_el : evG F (.el e) env env0 c = (ev F e env c).bd fun d c => .ok [d] c := v_el
theorem w_gn : evG F (.gn tg it ifs gs) env env0 c = (evI F it env0 c).bd fun items c => loopL (turnF F tg ifs gs env) items c := v_gn
theorem w_tn0 : turnF F (.nm i) .nil gs env dd c = evG F gs (env.set i (some dd)) (env.set i (some dd)) c := v_tn0
theorem w_tn1 : turnF F (.nm i) (.cons e .nil) gs env dd c = (ev F e (env.set i (some dd)) c).bd fun x c => tst x (evG F gs (env.set i (some dd)) (env.set i (some dd)) c) (.ok [] c) := v_tn1
theorem w_tp0 : turnF F (.tp tgs) .nil gs env (.tup xs) c = optO (Ev.bindL tgs xs env) (gK F gs c) := v_tp0
theorem w_tp1 : turnF F (.tp tgs) (.cons e .nil) gs env (.tup xs) c = optO (Ev.bindL tgs xs env) (gQ F e gs c) := v_tp1
theorem w_b0 : Ev.bindL .nil [] env = some env := v_b0
theorem w_b1 : Ev.bindL (.cons (.nm i) tgs) (dd :: xs) env = Ev.bindL tgs xs (env.set i (some dd)) := v_b1
theorem w_bp {ys : List D} {ts : Tg} : Ev.bindL (.cons (.tp ts) tgs) (.tup ys :: xs) env = (Ev.bindL ts ys env).bind (Ev.bindL tgs xs) := v_bp
theorem w_bn : bindT (.nm i) dd env = some (env.set i (some dd)) := v_bn
theorem w_bt : bindT (.tp tgs) (.tup xs) env = Ev.bindL tgs xs env := v_bt
theorem w_wp0 : wipeE env [] = env := v_wp0
theorem w_wp1 {vs : List Nat} : wipeE env (i :: vs) = (wipeE env vs).set i none := v_wp1
theorem x_nil : ex F .nil env c = .ok (.nx env) c := y_nil
theorem x_cons : ex F (.cons s ss) env c = (ex F s env c).bd fun r c => nxt r c (ex F ss) := y_cons
theorem x_pass : ex F .pass env c = .ok (.nx env) c := y_pass
theorem x_set : ex F (.set i e) env c = (ev F e env c).bd fun d c => .ok (.nx (env.set i (some d))) c := y_set
theorem x_seto : ex F (.seto i e) env c = (ev F e env c).bd fun d c => ownO d (.ok (.nx (env.set i (some d))) c) := y_seto
theorem x_asg : ex F (.asg tg e) env c = (ev F e env c).bd fun d c => nxtE (bindT tg d env) c := y_asg
theorem x_ret : ex F (.ret e) env c = (ev F e env c).bd fun d c => .ok (.rt d) c := y_ret
theorem x_ex : ex F (.ex e) env c = (ev F e env c).bd fun _ c => .ok (.nx env) c := y_ex
theorem x_ife : ex F (.ife e s1 s2) env c = (ev F e env c).bd fun x c => tst x (ex F s1 env c) (ex F s2 env c) := y_ife
theorem x_for : ex F (.for_ tg it s) env c = (evI F it env c).bd fun items c => forL (stepF F tg s) items env c := y_for
theorem x_step_n : stepF F (.nm i) s dd env c = ex F s (env.set i (some dd)) c := y_step_n
theorem x_step_t : stepF F (.tp tgs) s (.tup xs) env c = optO (Ev.bindL tgs xs env) (xK F s c) := y_step_t
theorem x_wh : ex F (.wh e s) env c = whL (fun env c => ev F e env c) (fun env c => ex F s env c) WH env c := y_wh
theorem x_auga : ex F (.auga i e) env c = appO env i (gv env i) fun xs => (ev F e env c).bd fun v c => putv env i (catv (.lst xs) v) c := y_auga
theorem x_ext : ex F (.ext i e) env c = appO env i (gv env i) fun xs => (ev F e env c).bd fun v c => putv env i (catv (.lst xs) v) c := y_ext
theorem x_app : ex F (.app i e) env c = appO env i (gv env i) fun xs => (ev F e env c).bd fun v c => putv env i (catv (.lst xs) (.lst [v])) c := y_app
end
/-- a while, folded -/
def whS (F : Nat → List D → Cu → Out D) (e : E) (s : S) (n : Nat) (env : Env) (c : Cu) : Out Fl := whL (fun env c => ev F e env c) (fun env c => ex F s env c) n env c
theorem x_whS {F : Nat → List D → Cu → Out D} {e : E} {s : S} {env : Env} {c : Cu} : ex F (.wh e s) env c = whS F e s WH env c := rfl
theorem whS_succ {F : Nat → List D → Cu → Out D} {e : E} {s : S} {n : Nat} {env : Env} {c : Cu} : whS F e s (n + 1) env c = (ev F e env c).bd fun x c => tst x ((ex F s env c).bd fun r c => nxt r c (whS F e s n)) (.ok (.nx env) c) := by
  show (ev F e env c).bind _ = (ev F e env c).bind _
  cases ev F e env c with
  | ok x c =>
    rw [bind_ok, bind_ok]
    cases x with
    | bl b =>
      cases b with
      | true =>
        show (ex F s env c).bind _ = (ex F s env c).bind _
        cases ex F s env c with
        | ok r c => cases r <;> rfl
        | err _ _ => rfl
        | no => rfl
      | false => rfl
    | _ => rfl
  | err _ _ => rfl
  | no => rfl
theorem oi_noe {d : D} : optI .noe d = some none := rfl
theorem oi_var {k : Nat} {i : Int} : optI (.var k) (.int i) = some (some i) := rfl
theorem oi_cst {k : D} {i : Int} : optI (.cst k) (.int i) = some (some i) := rfl
theorem oi_gl {x : Str} {k : D} {i : Int} : optI (.gl x k) (.int i) = some (some i) := rfl
theorem oi_op2 {o : Op2} {a b : E} {i : Int} : optI (.op2 o a b) (.int i) = some (some i) := rfl
theorem oi_neg {a : E} {i : Int} : optI (.neg a) (.int i) = some (some i) := rfl
theorem oi_ix {a b : E} {i : Int} : optI (.ix a b) (.int i) = some (some i) := rfl
theorem oi_bf {b : Bf} {es : E} {i : Int} : optI (.bf b es) (.int i) = some (some i) := rfl
/-! ### loops over typed values -/
def loopM {α : Type} : (xs : List α) → ((x : α) → x ∈ xs → Cu → Out (List D)) → Cu → Out (List D)
  | [], _, c => .ok [] c
  | x :: xs, f, c => (f x List.mem_cons_self c).bind fun r c1 => (loopM xs (fun y h => f y (List.mem_cons_of_mem _ h)) c1).bind fun q c2 => .ok (r ++ q) c2
theorem loopL_typed {α : Type} {f : D → Cu → Out (List D)} {e : α → D} : ∀ {xs : List α} {c : Cu}, loopL f (xs.map e) c = loopM xs (fun x _ c => f (e x) c) c
  | [], _ => rfl
  | x :: xs, c => by
    show ((f (e x) c).bind fun r c1 => (loopL f (xs.map e) c1).bind fun q c2 => .ok (r ++ q) c2) = (f (e x) c).bind fun r c1 => (loopM xs (fun x _ c => f (e x) c) c1).bind fun q c2 => .ok (r ++ q) c2
    congr 1
    funext r c1
    rw [loopL_typed]
/-- a row made of the numbers below n -/
def rngM (n : Nat) (e : Nat → D) : List D := (List.range n).map e
def loopR (n : Nat) (f : (i : Nat) → i < n → Cu → Out (List D)) (c : Cu) : Out (List D) := loopM (List.range n) (fun i h => f i (List.mem_range.mp h)) c
theorem loopL_rng {n : Nat} {f : D → Cu → Out (List D)} {e : Nat → D} {c : Cu} : loopL f (rngM n e) c = loopR n (fun i _ c => f (e i) c) c := loopL_typed
theorem loopL_consB {f : D → Cu → Out (List D)} {x : D} {xs : List D} {c : Cu} : loopL f (x :: xs) c = (f x c).bd fun r c1 => (loopL f xs c1).bd fun q c2 => .ok (r ++ q) c2 := rfl
theorem loopL_nil {f : D → Cu → Out (List D)} {c : Cu} : loopL f [] c = .ok [] c := rfl
theorem loopL_cons1 {f : D → Cu → Out (List D)} {x : D} {xs : List D} {c : Cu} : loopL f (x :: xs) c = (f x c).bind fun r c1 => (loopL f xs c1).bind fun q c2 => .ok (r ++ q) c2 := rfl
theorem loopM_flat {α : Type} {g : α → List D} : ∀ {xs : List α} {c : Cu}, loopM xs (fun x _ c => .ok (g x) c) c = .ok (xs.flatMap g) c
  | [], _ => rfl
  | x :: xs, c => by
    show ((loopM xs (fun x _ c => .ok (g x) c) c).bind fun q c2 => .ok (g x ++ q) c2) = _
    rw [loopM_flat]
    rfl
theorem loopM_map {α : Type} {g : α → D} {xs : List α} {c : Cu} : loopM xs (fun x _ c => .ok [g x] c) c = .ok (xs.map g) c := by
  rw [loopM_flat (g := fun x => [g x])]
  congr 1
  induction xs with
  | nil => rfl
  | cons x xs ih => rw [List.flatMap_cons, ih]; rfl
theorem loopM_filt {α : Type} {g : α → D} {p : α → Prop} [DecidablePred p] {xs : List α} {c : Cu} : loopM xs (fun x _ c => if p x then .ok [g x] c else .ok [] c) c = .ok ((xs.filter fun x => decide (p x)).map g) c := by
  have e : (fun (x : α) (_ : x ∈ xs) (c : Cu) => if p x then Out.ok [g x] c else .ok [] c) = fun x _ c => Out.ok (if p x then [g x] else []) c := by
    funext x _ c; by_cases h : p x <;> simp only [h, if_true, if_false]
  rw [e, loopM_flat (g := fun x => if p x then [g x] else [])]
  congr 1
  clear e
  induction xs with
  | nil => rfl
  | cons x xs ih =>
    rw [List.flatMap_cons, ih]
    by_cases h : p x
    · rw [List.filter_cons_of_pos (by simpa using h), if_pos h]; rfl
    · rw [List.filter_cons_of_neg (by simpa using h), if_neg h]; rfl
theorem loopR_flat {n : Nat} {g : Nat → List D} {c : Cu} : loopR n (fun x _ c => .ok (g x) c) c = .ok ((List.range n).flatMap g) c := loopM_flat
theorem loopR_map {n : Nat} {g : Nat → D} {c : Cu} : loopR n (fun x _ c => .ok [g x] c) c = .ok ((List.range n).map g) c := loopM_map
theorem loopR_filt {n : Nat} {g : Nat → D} {p : Nat → Prop} [DecidablePred p] {c : Cu} : loopR n (fun x _ c => if p x then .ok [g x] c else .ok [] c) c = .ok (((List.range n).filter fun x => decide (p x)).map g) c := loopM_filt
/-! ### things that may go several ways -/
def Ok {α : Type} (x : Out α) (Q : α → Cu → Prop) : Prop := ∃ a c, x = .ok a c ∧ Q a c
theorem Ok.mono {α : Type} {x : Out α} {Q R : α → Cu → Prop} (h : Ok x Q) (k : ∀ a c, Q a c → R a c) : Ok x R := by
  obtain ⟨a, c, e, q⟩ := h
  exact ⟨a, c, e, k a c q⟩
theorem Ok.bind {α β : Type} {x : Out α} {f : α → Cu → Out β} {Q : α → Cu → Prop} {R : β → Cu → Prop} (h : Ok x Q) (k : ∀ a c, Q a c → Ok (f a c) R) : Ok (x.bind f) R := by
  obtain ⟨a, c, e, q⟩ := h
  rw [e]
  exact k a c q
theorem Ok.bd {α β : Type} {x : Out α} {f : α → Cu → Out β} {u : Tag1 f} {Q : α → Cu → Prop} {R : β → Cu → Prop} (h : Ok x Q) (k : ∀ a c, Q a c → Ok (f a c) R) : Ok (x.bd f u) R := Ok.bind h k
theorem Ok.ret {α : Type} {a : α} {c : Cu} {Q : α → Cu → Prop} (h : Q a c) : Ok (.ok a c) Q := ⟨a, c, rfl, h⟩
theorem Ok.eq {α : Type} {x y : Out α} {Q : α → Cu → Prop} (e : x = y) (h : Ok y Q) : Ok x Q := e ▸ h
section
variable {F : Nat → List D → Cu → Out D} {env : Env} {c : Cu} {s ss : S} {Q : Fl → Cu → Prop} {e it : E} {i : Nat} {t : Tg} {b : S}
/-- a statement that goes one way, then the rest -/
theorem Ok.nx {env1 : Env} {c1 : Cu} (h : ex F s env c = .ok (.nx env1) c1) (k : Ok (ex F ss env1 c1) Q) : Ok (ex F (.cons s ss) env c) Q := by
  rw [y_cons, h]
  exact k
theorem Ok.seq {R : Env → Cu → Prop} (h : Ok (ex F s env c) fun r c => ∃ env, r = .nx env ∧ R env c) (k : ∀ env c, R env c → Ok (ex F ss env c) Q) : Ok (ex F (.cons s ss) env c) Q := by
  obtain ⟨r, c1, e, env1, rfl, q⟩ := h
  rw [y_cons, e]
  exact k _ _ q
/-- a name is given what may be several things -/
theorem Ok.set {R : D → Cu → Prop} (h : Ok (ev F e env c) R) (k : ∀ d c, R d c → Ok (ex F ss (env.set i (some d)) c) Q) : Ok (ex F (.cons (.set i e) ss) env c) Q := by
  obtain ⟨d, c1, e, q⟩ := h
  rw [y_cons, y_set, e]
  exact k _ _ q
theorem Ok.rt {R : D → Cu → Prop} (h : Ok (ev F e env c) fun d c => Q (.rt d) c) : Ok (ex F (.cons (.ret e) ss) env c) Q := by
  obtain ⟨d, c1, e, q⟩ := h
  rw [y_cons, y_ret, e]
  exact ⟨_, _, rfl, q⟩
/-- a for that always runs to its end -/
theorem Ok.for_ {items : List D} {c0 : Cu} (I : Env → Cu → Prop) (hi : evI F it env c0 = .ok items c) (h0 : I env c) (hs : ∀ x ∈ items, ∀ env c, I env c → Ok (stepF F t b x env c) fun r c => ∃ env, r = .nx env ∧ I env c) (k : ∀ env c, I env c → Ok (ex F ss env c) Q) : Ok (ex F (.cons (.for_ t it b) ss) env c0) Q := by
  refine Ok.seq (R := I) ?_ k
  rw [y_for, hi, bind_ok]
  obtain ⟨env', c', e, h⟩ := forL_inv I (f := stepF F t b) (xs := items) h0 fun x hx env c h => by
    obtain ⟨r, c', e, env', rfl, h⟩ := hs x hx env c h
    exact ⟨env', c', e, h⟩
  exact ⟨_, _, e, _, rfl, h⟩
theorem Ok.forL {items : List D} {k : Fl → Cu → Out Fl} {u : Tag1 k} (I : Env → Cu → Prop) (h0 : I env c) (hs : ∀ x ∈ items, ∀ env c, I env c → Ok (stepF F t b x env c) fun r c => ∃ env, r = .nx env ∧ I env c) (hk : ∀ env c, I env c → Ok (k (.nx env) c) Q) : Ok ((forL (stepF F t b) items env c).bd k u) Q := by
  obtain ⟨env', c', e, h⟩ := forL_inv I (f := stepF F t b) (xs := items) h0 fun x hx env c h => by
    obtain ⟨r, c', e, env', rfl, h⟩ := hs x hx env c h
    exact ⟨env', c', e, h⟩
  rw [e]
  exact hk _ _ h
theorem Ok.call {al : Bool} {P : List Df} {n f : Nat} {df : Df} {args : List D} {c : Cu} {Q : D → Cu → Prop} (hf : P[f]? = some df) (hl : args.length = df.np) (h : Ok (ex (callN al P n) df.body (args.map some ++ List.replicate (df.nn - df.np) none) c) fun r c => ∃ d, r = .rt d ∧ Q d c) : Ok (callN al P (n + 1) f args c) Q := by
  obtain ⟨r, c', e, d, rfl, q⟩ := h
  exact ⟨d, c', call_rt hf hl e, q⟩
end
/-- a loop that draws: what comes of each item -/
theorem Ok.loop {α : Type} {f : D → Cu → Out (List D)} {e : α → D} {R : α → D → Prop} {I : Cu → Prop} (h : ∀ x c, I c → Ok (f (e x) c) fun r c => I c ∧ ∃ y, r = [y] ∧ R x y) : ∀ {xs : List α} {c : Cu}, I c → Ok (loopL f (xs.map e) c) fun ds c => I c ∧ ds.length = xs.length ∧ ∀ p ∈ xs.zip ds, R p.1 p.2
  | [], c, hc => ⟨[], c, rfl, hc, rfl, fun _ z => by cases z⟩
  | x :: xs, c, hc => by
    obtain ⟨r, c1, h1, hc1, y, rfl, hy⟩ := h x c hc
    obtain ⟨ds, c2, h2, hc2, hl, hr⟩ := Ok.loop h (xs := xs) hc1
    refine ⟨y :: ds, c2, ?_, hc2, by simp [hl], fun p hp => ?_⟩
    · show ((f (e x) c).bind fun r c1 => (loopL f (xs.map e) c1).bind fun q c2 => .ok (r ++ q) c2) = _
      rw [h1, bind_ok, h2, bind_ok]; rfl
    · rcases List.mem_cons.mp hp with rfl | hp
      · exact hy
      · exact hr p hp
end Ev

set_option maxRecDepth 100000
/-! EvE: typed values as data. -/
namespace Ev
open PySem PySem.Spec PyProof.Rows L2
theorem flat_mono : ∀ {n m : Nat} {d : D}, n ≤ m → D.flat n d = true → D.flat m d = true := by
  have key : ∀ n, (∀ (m : Nat) (d : D), n ≤ m → D.flat n d = true → D.flat m d = true) ∧ (∀ (m : Nat) (ds : List D), n ≤ m → D.flatL n ds = true → D.flatL m ds = true) := by
    intro n
    induction n with
    | zero =>
      have h1 : ∀ (m : Nat) (d : D), 0 ≤ m → D.flat 0 d = true → D.flat m d = true := by
        intro m d _ h
        cases d with
        | non => exact flat_non
        | bl b => exact flat_bl
        | int i => exact flat_int
        | str x => cases m <;> exact h
        | _ => cases h
      refine ⟨h1, fun m ds _ h => ?_⟩
      induction ds with
      | nil => cases m <;> rfl
      | cons x xs ih =>
        have h : (D.flat 0 x && D.flatL 0 xs) = true := h
        rw [Bool.and_eq_true] at h
        show (D.flat m x && D.flatL m xs) = true
        rw [h1 m x (by omega) h.1, ih h.2]; rfl
    | succ n ih =>
      have h1 : ∀ (m : Nat) (d : D), n + 1 ≤ m → D.flat (n + 1) d = true → D.flat m d = true := by
        intro m d hm h
        cases m with
        | zero => omega
        | succ m =>
          cases d with
          | non => exact flat_non
          | bl b => exact flat_bl
          | int i => exact flat_int
          | str x => exact h
          | tup xs => exact ih.2 m xs (by omega) h
          | lst xs => exact ih.2 m xs (by omega) h
          | _ => cases h
      refine ⟨h1, fun m ds hm h => ?_⟩
      induction ds with
      | nil => cases m <;> rfl
      | cons x xs ih2 =>
        have h : (D.flat (n + 1) x && D.flatL (n + 1) xs) = true := h
        rw [Bool.and_eq_true] at h
        show (D.flat m x && D.flatL m xs) = true
        rw [h1 m x hm h.1, ih2 h.2]; rfl
  intro n m d
  exact (key n).1 m d
class Enc (α : Type) where
  enc : α → D
  dp : Nat
  flat : ∀ a, D.flat dp (enc a) = true
  eqv : ∀ a b, D.eqv (enc a) (enc b) = true ↔ a = b
  noL : ∀ a, (enc a).noL = true
class EncN (α : Type) extends Enc α where
  nn : ∀ a : α, (Enc.enc a).isNon = false
open Enc (enc)
instance : EncN Int where
  enc := .int
  dp := 0
  flat _ := flat_int
  eqv a b := by rw [eqv_int]; simp
  noL _ := rfl
  nn _ := rfl
instance : EncN Nat where
  enc n := .int (n : Int)
  dp := 0
  flat _ := flat_int
  eqv a b := by rw [eqv_int]; simp; omega
  noL _ := rfl
  nn _ := rfl
instance : EncN Bool where
  enc := .bl
  dp := 0
  flat _ := flat_bl
  eqv a b := by simp [D.eqv]
  noL _ := rfl
  nn _ := rfl
theorem eqv_nonE {α : Type} [EncN α] (a : α) : D.eqv .non (enc a) = false := by
  have := EncN.nn a
  cases h : (enc a : D) <;> first | rfl | (rw [h] at this; cases this)
theorem eqv_Enon {α : Type} [EncN α] (a : α) : D.eqv (enc a) .non = false := by
  have := EncN.nn a
  cases h : (enc a : D) <;> first | rfl | (rw [h] at this; cases this)
instance {α : Type} [EncN α] : Enc (Option α) where
  enc o := match o with
    | none => .non
    | some a => enc a
  dp := Enc.dp α
  flat o := by
    cases o with
    | none => exact flat_non
    | some a => exact Enc.flat a
  eqv a b := by
    cases a with
    | none =>
      cases b with
      | none => simp [D.eqv]
      | some b => simp [eqv_nonE]
    | some a =>
      cases b with
      | none => simp [eqv_Enon]
      | some b => simp [Enc.eqv]
  noL o := by
    cases o with
    | none => rfl
    | some a => exact Enc.noL a
theorem eqvL_map {α : Type} [Enc α] : ∀ (xs ys : List α), D.eqvL (xs.map enc) (ys.map enc) = true ↔ xs = ys
  | [], [] => by simp [D.eqvL]
  | [], _ :: _ => by simp [D.eqvL]
  | _ :: _, [] => by simp [D.eqvL]
  | x :: xs, y :: ys => by
    show (D.eqv (enc x) (enc y) && D.eqvL (xs.map enc) (ys.map enc)) = true ↔ _
    rw [Bool.and_eq_true, Enc.eqv, eqvL_map xs ys]
    simp
theorem noLL_map {α : Type} [Enc α] (xs : List α) : D.noLL (xs.map enc) = true := by
  rw [noLL_all, List.all_eq_true]
  intro x hx
  obtain ⟨a, _, rfl⟩ := List.mem_map.mp hx
  exact Enc.noL a
instance {α : Type} [Enc α] : EncN (List α) where
  enc xs := .tup (xs.map enc)
  dp := Enc.dp α + 1
  flat xs := flat_tup fun x hx => by
    obtain ⟨a, _, rfl⟩ := List.mem_map.mp hx
    exact Enc.flat a
  eqv a b := eqvL_map a b
  noL xs := noLL_map xs
  nn _ := rfl
instance {α β : Type} [Enc α] [Enc β] : EncN (α × β) where
  enc p := .tup [enc p.1, enc p.2]
  dp := max (Enc.dp α) (Enc.dp β) + 1
  flat p := flat_tup fun x hx => by
    rcases List.mem_cons.mp hx with rfl | hx
    · exact flat_mono (Nat.le_max_left _ _) (Enc.flat p.1)
    · rcases List.mem_cons.mp hx with rfl | hx
      · exact flat_mono (Nat.le_max_right _ _) (Enc.flat p.2)
      · cases hx
  eqv a b := by
    show (D.eqv (enc a.1) (enc b.1) && (D.eqv (enc a.2) (enc b.2) && true)) = true ↔ _
    rw [Bool.and_eq_true, Bool.and_true, Enc.eqv, Enc.eqv]
    exact Prod.ext_iff.symm
  noL p := by
    show ((enc p.1).noL && ((enc p.2).noL && true)) = true
    rw [Enc.noL, Enc.noL]; rfl
  nn _ := rfl
section
variable {α β : Type} [Enc α] [Enc β]
theorem enc_int {i : Int} : enc i = D.int i := rfl
theorem enc_nat {n : Nat} : enc n = D.int (n : Int) := rfl
theorem enc_bool {b : Bool} : enc b = D.bl b := rfl
theorem enc_none {α : Type} [EncN α] : enc (none : Option α) = D.non := rfl
theorem enc_some {α : Type} [EncN α] {a : α} : enc (some a) = enc a := rfl
theorem enc_list {xs : List α} : enc xs = D.tup (xs.map enc) := rfl
theorem enc_pair {p : α × β} : enc p = D.tup [enc p.1, enc p.2] := rfl
theorem flatE {a : α} (h : Enc.dp α ≤ 20) : D.flat 20 (enc a) = true := flat_mono h (Enc.flat a)
theorem flatEL {xs : List α} (h : Enc.dp α ≤ 19) : D.flat 20 (.lst (xs.map enc)) = true := flat_lst (n := 19) fun x hx => by
  obtain ⟨a, _, rfl⟩ := List.mem_map.mp hx
  exact flat_mono h (Enc.flat a)
theorem eqvE {a b : α} [Decidable (a = b)] : D.eqv (enc a) (enc b) = decide (a = b) := by
  rw [Bool.eq_iff_iff, Enc.eqv]; simp
theorem eqE {a b : α} [Decidable (a = b)] (h : Enc.dp α ≤ 20) : cov .eq (enc a) (enc b) = some (decide (a = b)) := by
  rw [cov_eq (flatE h) (flatE h), eqvE]
theorem neE {a b : α} [Decidable (a = b)] (h : Enc.dp α ≤ 20) : cov .ne (enc a) (enc b) = some (!decide (a = b)) := by
  rw [cov_ne (flatE h) (flatE h), eqvE]
theorem eqEL {xs ys : List α} [Decidable (xs = ys)] (h : Enc.dp α ≤ 19) : cov .eq (.lst (xs.map enc)) (.lst (ys.map enc)) = some (decide (xs = ys)) := by
  rw [cov_eq (flatEL h) (flatEL h)]
  congr 1
  rw [Bool.eq_iff_iff, show D.eqv (.lst (xs.map enc)) (.lst (ys.map enc)) = D.eqvL (xs.map enc) (ys.map enc) from rfl, eqvL_map]
  simp
theorem neEL {xs ys : List α} [Decidable (xs = ys)] (h : Enc.dp α ≤ 19) : cov .ne (.lst (xs.map enc)) (.lst (ys.map enc)) = some (!decide (xs = ys)) := by
  rw [cov_ne (flatEL h) (flatEL h)]
  congr 2
  rw [Bool.eq_iff_iff, show D.eqv (.lst (xs.map enc)) (.lst (ys.map enc)) = D.eqvL (xs.map enc) (ys.map enc) from rfl, eqvL_map]
  simp
theorem eqNil {xs : List D} (h : D.flat 20 (.lst xs) = true) : cov .eq (.lst xs) (.lst []) = some xs.isEmpty := by
  rw [cov_eq h rfl, eqv_nil]
theorem neNil {xs : List D} (h : D.flat 20 (.lst xs) = true) : cov .ne (.lst xs) (.lst []) = some (!xs.isEmpty) := by
  rw [cov_ne h rfl, eqv_nil]
theorem any_mem {a : α} {xs : List α} [Decidable (a ∈ xs)] : ((xs.map enc).any fun y => D.eqv y (enc a)) = decide (a ∈ xs) := by
  rw [Bool.eq_iff_iff, List.any_eq_true]
  simp only [decide_eq_true_eq]
  constructor
  · rintro ⟨y, hy, e⟩
    obtain ⟨b, hb, rfl⟩ := List.mem_map.mp hy
    rw [Enc.eqv] at e
    exact e ▸ hb
  · intro h
    exact ⟨enc a, List.mem_map.mpr ⟨a, h, rfl⟩, (Enc.eqv _ _).mpr rfl⟩
theorem innT {a : α} {xs : List α} [Decidable (a ∈ xs)] (h : Enc.dp α ≤ 19) : cov .inn (enc a) (enc xs) = some (decide (a ∈ xs)) := by
  show (if ((enc a : D).flat 20 && D.flatL 20 (xs.map enc)) = true then _ else _) = _
  rw [if_pos (by
    rw [flatE (by omega), flatL_all fun x hx => by
      obtain ⟨b, _, rfl⟩ := List.mem_map.mp hx
      exact flatE (by omega)]
    rfl), any_mem]
theorem innL {a : α} {xs : List α} [Decidable (a ∈ xs)] (h : Enc.dp α ≤ 19) : cov .inn (enc a) (.lst (xs.map enc)) = some (decide (a ∈ xs)) := by
  show (if ((enc a : D).flat 20 && D.flatL 20 (xs.map enc)) = true then _ else _) = _
  rw [if_pos (by
    rw [flatE (by omega), flatL_all fun x hx => by
      obtain ⟨b, _, rfl⟩ := List.mem_map.mp hx
      exact flatE (by omega)]
    rfl), any_mem]
theorem ninT {a : α} {xs : List α} [Decidable (a ∈ xs)] (h : Enc.dp α ≤ 19) : cov .nin (enc a) (enc xs) = some (!decide (a ∈ xs)) := by
  show (cov .inn (enc a) (enc xs)).map not = _
  rw [innT h]; rfl
theorem ninL {a : α} {xs : List α} [Decidable (a ∈ xs)] (h : Enc.dp α ≤ 19) : cov .nin (enc a) (.lst (xs.map enc)) = some (!decide (a ∈ xs)) := by
  show (cov .inn (enc a) (.lst (xs.map enc))).map not = _
  rw [innL h]; rfl
/-! whole numbers in rows of them, and of them or None -/
theorem innTn {n : Nat} {xs : List Nat} : cov .inn (.int (n : Int)) (enc xs) = some (decide (n ∈ xs)) := innT (a := n) (by decide)
theorem innLn {n : Nat} {xs : List Nat} : cov .inn (.int (n : Int)) (.lst (xs.map enc)) = some (decide (n ∈ xs)) := innL (a := n) (by decide)
theorem ninTn {n : Nat} {xs : List Nat} : cov .nin (.int (n : Int)) (enc xs) = some (!decide (n ∈ xs)) := ninT (a := n) (by decide)
theorem ninLn {n : Nat} {xs : List Nat} : cov .nin (.int (n : Int)) (.lst (xs.map enc)) = some (!decide (n ∈ xs)) := ninL (a := n) (by decide)
theorem innTo {n : Nat} {xs : List (Option Nat)} : cov .inn (.int (n : Int)) (enc xs) = some (decide (some n ∈ xs)) := innT (a := some n) (by decide)
theorem innLo {n : Nat} {xs : List (Option Nat)} : cov .inn (.int (n : Int)) (.lst (xs.map enc)) = some (decide (some n ∈ xs)) := innL (a := some n) (by decide)
theorem ninTo {n : Nat} {xs : List (Option Nat)} : cov .nin (.int (n : Int)) (enc xs) = some (!decide (some n ∈ xs)) := ninT (a := some n) (by decide)
theorem ninLo {n : Nat} {xs : List (Option Nat)} : cov .nin (.int (n : Int)) (.lst (xs.map enc)) = some (!decide (some n ∈ xs)) := ninL (a := some n) (by decide)
theorem innTi {n : Int} {xs : List Int} : cov .inn (.int n) (enc xs) = some (decide (n ∈ xs)) := innT (a := n) (by decide)
theorem innLi {n : Int} {xs : List Int} : cov .inn (.int n) (.lst (xs.map enc)) = some (decide (n ∈ xs)) := innL (a := n) (by decide)
theorem eqOn {o : Option Nat} {n : Nat} : cov .eq (enc o) (.int (n : Int)) = some (decide (o = some n)) := eqE (a := o) (b := some n) (by decide)
theorem eqnO {o : Option Nat} {n : Nat} : cov .eq (.int (n : Int)) (enc o) = some (decide (some n = o)) := eqE (a := some n) (b := o) (by decide)
theorem neOn {o : Option Nat} {n : Nat} : cov .ne (enc o) (.int (n : Int)) = some (!decide (o = some n)) := neE (a := o) (b := some n) (by decide)
theorem eqOi {o : Option Int} {n : Int} : cov .eq (enc o) (.int n) = some (decide (o = some n)) := eqE (a := o) (b := some n) (by decide)
theorem eqiO {o : Option Int} {n : Int} : cov .eq (.int n) (enc o) = some (decide (some n = o)) := eqE (a := some n) (b := o) (by decide)
theorem neOi {o : Option Int} {n : Int} : cov .ne (enc o) (.int n) = some (!decide (o = some n)) := neE (a := o) (b := some n) (by decide)
theorem innI1 {i a : Int} : cov .inn (.int i) (.tup [.int a]) = some (decide (i = a)) := (innT (a := i) (xs := [a]) (by decide)).trans (by simp)
theorem innI2 {i a b : Int} : cov .inn (.int i) (.tup [.int a, .int b]) = some (decide (i = a ∨ i = b)) := (innT (a := i) (xs := [a, b]) (by decide)).trans (by simp)
theorem innI3 {i a b c : Int} : cov .inn (.int i) (.tup [.int a, .int b, .int c]) = some (decide (i = a ∨ i = b ∨ i = c)) := (innT (a := i) (xs := [a, b, c]) (by decide)).trans (by simp)
theorem isBt {b : Bool} : cov .is (.bl b) (.bl true) = some b := by cases b <;> rfl
theorem isBf {b : Bool} : cov .is (.bl b) (.bl false) = some (!b) := by cases b <;> rfl
theorem isnBt {b : Bool} : cov .isn (.bl b) (.bl true) = some (!b) := by cases b <;> rfl
theorem isnBf {b : Bool} : cov .isn (.bl b) (.bl false) = some b := by cases b <;> rfl
theorem isNon_opt {α : Type} [EncN α] {o : Option α} : D.isNon (enc o) = o.isNone := by
  cases o with
  | none => rfl
  | some a => exact EncN.nn a
theorem isNon_nn {α : Type} [EncN α] {a : α} : D.isNon (enc a) = false := EncN.nn a
theorem isNon_int {i : Int} : D.isNon (.int i) = false := rfl
theorem isNon_tup {i : List D} : D.isNon (.tup i) = false := rfl
/-! rows -/
def at_ {α : Type} [Inhabited α] (xs : List α) (i : Nat) : α := xs.getD i default
theorem at_get {α : Type} [Inhabited α] {xs : List α} {i : Nat} (h : i < xs.length) : at_ xs i = xs[i] := by
  unfold at_; rw [List.getD_eq_getElem?_getD, List.getElem?_eq_getElem h]; rfl
theorem at_get? {α : Type} [Inhabited α] {xs : List α} {i : Nat} (h : i < xs.length) : xs[i]? = some (at_ xs i) := by
  rw [at_get h, List.getElem?_eq_getElem h]
theorem at_mem {α : Type} [Inhabited α] {xs : List α} {i : Nat} (h : i < xs.length) : at_ xs i ∈ xs := by
  rw [at_get h]; exact List.getElem_mem h
theorem at_map {α β : Type} [Inhabited α] [Inhabited β] {f : α → β} {xs : List α} {i : Nat} (h : i < xs.length) : at_ (xs.map f) i = f (at_ xs i) := by
  rw [at_get (by simpa using h), at_get h, List.getElem_map]
theorem at_set {α : Type} [Inhabited α] {xs : List α} {i j : Nat} {v : α} (h : j < xs.length) : at_ (xs.set i v) j = if i = j then v else at_ xs j := by
  rw [at_get (by simpa using h), at_get h, List.getElem_set]
theorem at_range_map {α : Type} [Inhabited α] {xs : List α} : (List.range xs.length).map (at_ xs) = xs := by
  apply List.ext_getElem
  · simp
  · intro i h1 h2
    simp only [List.getElem_map, List.getElem_range]
    exact at_get h2
theorem itemsE {xs : List α} : itemsOf (enc xs) = some (xs.map enc) := rfl
theorem itemsL {xs : List D} : itemsOf (.lst xs) = some xs := rfl
theorem itemsT {xs : List D} : itemsOf (.tup xs) = some xs := rfl
theorem tupE {xs : List α} : D.tup (xs.map enc) = enc xs := rfl
theorem lenE {xs : List α} : bfv .len [enc xs] = some (.int xs.length) := by
  show some (D.int ((xs.map enc).length : Int)) = _
  rw [List.length_map]
theorem lenL {xs : List D} : bfv .len [.lst xs] = some (.int xs.length) := rfl
theorem lenT {xs : List D} : bfv .len [.tup xs] = some (.int xs.length) := rfl
theorem tupleL {xs : List D} : bfv .tuple [.lst xs] = some (.tup xs) := rfl
theorem tupleE {xs : List α} : bfv .tuple [enc xs] = some (enc xs) := rfl
theorem listE {xs : List α} : bfv .list [enc xs] = some (.lst (xs.map enc)) := rfl
theorem listL {xs : List D} : bfv .list [.lst xs] = some (.lst xs) := rfl
theorem addE {xs ys : List α} (h : xs.length + ys.length ≤ 16777216) : opv .add (enc xs) (enc ys) = some (enc (xs ++ ys)) := by
  refine (opv_addT (by simpa using h)).trans ?_
  rw [← List.map_append]; rfl
theorem addL {xs ys : List D} (h : xs.length + ys.length ≤ 16777216) : opv .add (.lst xs) (.lst ys) = some (.lst (xs ++ ys)) := opv_addL h
theorem lstE {xs : List α} {ys : List D} : List.map enc xs ++ ys = List.map enc xs ++ ys := rfl
theorem addLE {xs ys : List α} (h : xs.length + ys.length ≤ 16777216) : opv .add (.lst (xs.map enc)) (.lst (ys.map enc)) = some (.lst ((xs ++ ys).map enc)) := by
  rw [opv_addL (by simpa using h), List.map_append]
theorem addTE {xs : List α} {y : List D} (h : xs.length + y.length ≤ 16777216) : opv .add (enc xs) (.tup y) = some (.tup (xs.map enc ++ y)) := opv_addT (by simpa using h)
theorem addET {xs : List α} {y : List D} (h : y.length + xs.length ≤ 16777216) : opv .add (.tup y) (enc xs) = some (.tup (y ++ xs.map enc)) := opv_addT (by simpa using h)
theorem atI_map {α β : Type} {f : α → β} {xs : List α} {i : Int} : atI (xs.map f) i = (atI xs i).map f := by
  unfold atI
  rw [List.length_map]
  cases ixN xs.length i with
  | none => rfl
  | some j => simp
theorem ixE {xs : List α} {i : Int} {c : Cu} : ixv (enc xs) (.int i) c = (atI xs i).map enc := by
  show atI (xs.map enc) i = _
  rw [atI_map]
theorem ixEn [Inhabited α] {xs : List α} {i : Nat} {c : Cu} (h : i < xs.length) : ixv (enc xs) (.int (i : Int)) c = some (enc (at_ xs i)) := by
  rw [ixE, Ev.atI_nat h, at_get? h]; rfl
theorem ixLn [Inhabited α] {xs : List α} {i : Nat} {c : Cu} (h : i < xs.length) : ixv (.lst (xs.map enc)) (.int (i : Int)) c = some (enc (at_ xs i)) := by
  show atI (xs.map enc) _ = _
  rw [atI_map, Ev.atI_nat h, at_get? h]; rfl
def cutL {α : Type} (xs : List α) (lo hi : Option Int) : List α := (xs.drop (HT.sIx xs.length 0 lo)).take (HT.sIx xs.length xs.length hi - HT.sIx xs.length 0 lo)
theorem slE {xs : List α} {lo hi : Option Int} : slv (enc xs) lo hi = some (enc (cutL xs lo hi)) := by
  show some (D.tup (cutD (xs.map enc) lo hi)) = _
  unfold cutD cutL
  rw [List.length_map, ← List.map_drop, ← List.map_take]
  rfl
theorem slL {xs : List α} {lo hi : Option Int} : slv (.lst (xs.map enc)) lo hi = some (.lst ((cutL xs lo hi).map enc)) := by
  show some (D.lst (cutD (xs.map enc) lo hi)) = _
  unfold cutD cutL
  rw [List.length_map, ← List.map_drop, ← List.map_take]
theorem bf_tuple1 {xs : List D} : bfv .tuple [.lst xs] = some (.tup xs) := rfl
end
theorem enumE {α : Type} {e : α → D} [Inhabited α] {xs : List α} : enumL (xs.map e) = rngM xs.length fun (i : Nat) => D.tup [.int (i : Int), e (at_ xs i)] := by
  rw [enum_map, List.length_map]
  unfold rngM
  apply List.ext_getElem
  · simp
  · intro i h1 h2
    have hi : i < xs.length := by simpa using h2
    simp only [List.getElem_map, List.getElem_zip, List.getElem_range]
    rw [at_get hi]
theorem enumD {xs : List D} : enumL xs = rngM xs.length fun (i : Nat) => D.tup [.int (i : Int), at_ xs i] := by
  have := enumE (e := id) (xs := xs)
  rw [List.map_id] at this
  exact this
theorem at_all {α : Type} [Inhabited α] {p : α → Prop} {xs : List α} (h : ∀ x ∈ xs, p x) (h0 : p default) (i : Nat) : p (at_ xs i) := by
  by_cases hi : i < xs.length
  · exact h _ (at_mem hi)
  · unfold at_; rw [List.getD_eq_getElem?_getD, List.getElem?_eq_none (by omega)]; exact h0
theorem zipE {α β : Type} {e : α → D} {e' : β → D} {xs : List α} {ys : List β} : zipD (xs.map e) (ys.map e') = (xs.zip ys).map fun p => D.tup [e p.1, e' p.2] := by
  rw [zip_map, List.zip_map, List.map_map]; rfl
theorem cut_take {α : Type} {xs : List α} {k : Nat} : cutL xs none (some (k : Int)) = xs.take k := by
  unfold cutL
  rw [HT.sIx_nat, HT.sIx_none, List.drop_zero, Nat.sub_zero]
  by_cases h : k ≤ xs.length
  · rw [Nat.min_eq_left h]
  · rw [Nat.min_eq_right (by omega), List.take_length, List.take_of_length_le (by omega)]
theorem cut_drop {α : Type} {xs : List α} {k : Nat} : cutL xs (some (k : Int)) none = xs.drop k := by
  unfold cutL
  rw [HT.sIx_nat, HT.sIx_none]
  by_cases h : k ≤ xs.length
  · rw [Nat.min_eq_left h, List.take_of_length_le (by simp)]
  · rw [Nat.min_eq_right (by omega), Nat.sub_self, List.take_zero, List.drop_eq_nil_of_le (by omega)]
theorem cut_drop1 {α : Type} {xs : List α} {k : Nat} : cutL xs (some ((k : Int) + 1)) none = xs.drop (k + 1) := cut_drop (k := k + 1)
theorem cut_takeI {α : Type} {xs : List α} {i : Int} (h : 0 ≤ i) : cutL xs none (some i) = xs.take i.toNat := by
  obtain ⟨k, rfl⟩ := Int.eq_ofNat_of_zero_le h
  exact cut_take
theorem cut_dropI {α : Type} {xs : List α} {i : Int} (h : 0 ≤ i) : cutL xs (some i) none = xs.drop i.toNat := by
  obtain ⟨k, rfl⟩ := Int.eq_ofNat_of_zero_le h
  exact cut_drop
theorem toNat_s {k : Nat} : ((k : Int) + 1).toNat = k + 1 := by omega
theorem eqNil0 : cov .eq (.lst []) (.lst []) = some true := rfl
theorem neNil0 : cov .ne (.lst []) (.lst []) = some false := rfl
theorem set_cut {α : Type} {xs : List α} {k : Nat} {v : α} (h : k < xs.length) : xs.take k ++ [v] ++ xs.drop (k + 1) = xs.set k v := by
  rw [List.set_eq_take_append_cons_drop, if_pos h]; simp
theorem lzEE {α β : Type} [Enc α] [Enc β] {xs : List α} {ys : List β} : lzv [enc xs, enc ys] = some (.lst ((xs.zip ys).map enc)) := by
  show some (D.lst (zipD (xs.map enc) (ys.map enc))) = _
  rw [zipE]; rfl
theorem lzLE {α β : Type} [Enc α] [Enc β] {xs : List α} {ys : List β} : lzv [.lst (xs.map enc), enc ys] = some (.lst ((xs.zip ys).map enc)) := by
  show some (D.lst (zipD (xs.map enc) (ys.map enc))) = _
  rw [zipE]; rfl
theorem lzLL {α β : Type} [Enc α] [Enc β] {xs : List α} {ys : List β} : lzv [.lst (xs.map enc), .lst (ys.map enc)] = some (.lst ((xs.zip ys).map enc)) := by
  show some (D.lst (zipD (xs.map enc) (ys.map enc))) = _
  rw [zipE]; rfl
theorem map_encN {α : Type} {f : α → Nat} {xs : List α} : xs.map (fun x => D.int ((f x : Nat) : Int)) = (xs.map f).map enc := by rw [List.map_map]; rfl
theorem map_encE {α β : Type} [Enc β] {f : α → β} {xs : List α} : xs.map (fun x => enc (f x)) = (xs.map f).map enc := by rw [List.map_map]; rfl
theorem any_T {α : Type} {b : α → Bool} {xs : List α} : bfv .any [.lst (xs.map fun x => .bl (b x))] = some (.bl (xs.any b)) := bf_any
theorem rngI {i : Int} (h : 0 ≤ i ∧ i ≤ 1000000) : rngv [.int i] = some (rngM i.toNat fun (i : Nat) => D.int (i : Int)) := rngv1 ⟨by omega, by omega⟩
theorem rngI2 {a b : Int} (h : -1000000 ≤ a ∧ a ≤ 1000000 ∧ -1000000 ≤ b ∧ b ≤ 1000000) : rngv [.int a, .int b] = some (rngM (b - a).toNat fun (i : Nat) => D.int (a + (i : Int))) := by
  show (if (smallI a && smallI b) = true then _ else _) = _
  rw [if_pos (by rw [smallI_iff.mpr ⟨by omega, by omega⟩, smallI_iff.mpr ⟨by omega, by omega⟩]; rfl)]
  rfl
theorem rngN {n : Nat} (h : n ≤ 1000000) : rngv [.int (n : Int)] = some ((List.range n).map fun (i : Nat) => .int (i : Int)) := rngvL h
def minN : List Nat → Nat
  | [] => 0
  | x :: r => r.foldl min x
theorem ints_enc : ∀ {xs : List Nat}, D.ints (xs.map enc) = some (xs.map fun (n : Nat) => (n : Int))
  | [] => rfl
  | x :: xs => by
    show (D.ints (xs.map enc)).map ((x : Int) :: ·) = _
    rw [ints_enc]; rfl
theorem bf_sumN {xs : List Nat} : bfv .sum [.lst (xs.map enc)] = some (.int (xs.sum : Int)) := by
  show (D.ints (xs.map enc)).map (fun ns => D.int ns.sum) = _
  rw [ints_enc]
  show some (D.int _) = _
  congr 2
  induction xs with
  | nil => rfl
  | cons x xs ih => rw [List.map_cons, List.sum_cons, ih, List.sum_cons]; omega
theorem minI_nat : ∀ {r : List Nat} {x : Nat}, minI (x : Int) (r.map fun (n : Nat) => (n : Int)) = ((r.foldl min x : Nat) : Int)
  | [], _ => rfl
  | y :: r, x => by
    show minI (if (y : Int) < (x : Int) then (y : Int) else (x : Int)) (r.map fun (n : Nat) => (n : Int)) = _
    rw [show (if (y : Int) < (x : Int) then (y : Int) else (x : Int)) = ((min x y : Nat) : Int) by split <;> omega]
    exact minI_nat
theorem bf_minN {xs : List Nat} (h : 0 < xs.length) : bfv .min [.lst (xs.map enc)] = some (.int (minN xs : Int)) := by
  cases xs with
  | nil => simp at h
  | cons x r =>
    show (match D.ints ((x :: r).map enc) with
      | some (m :: r) => some (D.int (minI m r))
      | _ => none) = _
    rw [ints_enc]
    show some (D.int (minI (x : Int) (r.map fun (n : Nat) => (n : Int)))) = _
    rw [minI_nat]; rfl
theorem foldl_min_le : ∀ {r : List Nat} {x : Nat}, r.foldl min x ≤ x ∧ ∀ y ∈ r, r.foldl min x ≤ y
  | [], x => ⟨Nat.le_refl _, fun _ h => by cases h⟩
  | z :: r, x => by
    obtain ⟨h1, h2⟩ := foldl_min_le (r := r) (x := min x z)
    refine ⟨Nat.le_trans h1 (Nat.min_le_left _ _), fun y hy => ?_⟩
    rcases List.mem_cons.mp hy with rfl | hy
    · exact Nat.le_trans h1 (Nat.min_le_right _ _)
    · exact h2 y hy
theorem foldl_min_mem : ∀ {r : List Nat} {x : Nat}, r.foldl min x = x ∨ r.foldl min x ∈ r
  | [], x => .inl rfl
  | z :: r, x => by
    rcases foldl_min_mem (r := r) (x := min x z) with h | h
    · rw [List.foldl_cons, h]
      by_cases hx : x ≤ z
      · exact .inl (Nat.min_eq_left hx)
      · rw [Nat.min_eq_right (by omega)]
        exact .inr List.mem_cons_self
    · exact .inr (List.mem_cons_of_mem _ h)
theorem minN_le {xs : List Nat} : ∀ y ∈ xs, minN xs ≤ y := fun y hy => by
  cases xs with
  | nil => cases hy
  | cons x r =>
    rcases List.mem_cons.mp hy with rfl | hy
    · exact foldl_min_le.1
    · exact foldl_min_le.2 y hy
theorem minN_mem {xs : List Nat} (h : 0 < xs.length) : minN xs ∈ xs := by
  cases xs with
  | nil => simp at h
  | cons x r =>
    rcases foldl_min_mem (r := r) (x := x) with h | h
    · show r.foldl min x ∈ _
      rw [h]; exact List.mem_cons_self
    · exact List.mem_cons_of_mem _ h
theorem zip_rng {α β : Type} [Inhabited α] [Inhabited β] {xs : List α} {ys : List β} {n : Nat} (h : xs.length = n) (h' : ys.length = n) : xs.zip ys = (List.range n).map fun i => (at_ xs i, at_ ys i) := by
  apply List.ext_getElem
  · simp [h, h']
  · intro i h1 h2
    have hi : i < n := by simpa using h2
    rw [List.getElem_zip, List.getElem_map, List.getElem_range, at_get (by omega), at_get (by omega)]
theorem bf_min2 {i j : Int} : bfv .min [.int i, .int j] = some (.int (if j < i then j else i)) := rfl
theorem bf_max2 {i j : Int} : bfv .max [.int i, .int j] = some (.int (if j > i then j else i)) := rfl
theorem bf_allD {xs : List D} : bfv .all [.lst xs] = (D.bls xs).map fun ns => .bl (ns.all id) := rfl
theorem bf_anyD {xs : List D} : bfv .any [.lst xs] = (D.bls xs).map fun ns => .bl (ns.any id) := rfl
theorem bls_c {b : Bool} {r : List D} : D.bls (.bl b :: r) = (D.bls r).map (b :: ·) := rfl
theorem bls_n : D.bls [] = some [] := rfl
theorem at_app {α : Type} [Inhabited α] {xs ys : List α} {i : Nat} : at_ (xs ++ ys) i = if i < xs.length then at_ xs i else at_ ys (i - xs.length) := by
  unfold at_
  rw [List.getD_eq_getElem?_getD, List.getElem?_append]
  split <;> rw [List.getD_eq_getElem?_getD]
theorem map_idf {α : Type} {xs : List α} : xs.map (fun x => x) = xs := List.map_id' xs
theorem eqNilE {α : Type} [Enc α] {xs : List α} (h : Enc.dp α ≤ 19) : cov .eq (.lst (xs.map enc)) (.lst []) = some xs.isEmpty := by
  rw [eqNil (flatEL h)]; cases xs <;> rfl
theorem neNilE {α : Type} [Enc α] {xs : List α} (h : Enc.dp α ≤ 19) : cov .ne (.lst (xs.map enc)) (.lst []) = some (!xs.isEmpty) := by
  rw [neNil (flatEL h)]; cases xs <;> rfl
theorem zip_all {α β : Type} [Inhabited α] [Inhabited β] {f : α × β → Bool} : ∀ {xs : List α} {ys : List β}, xs.length = ys.length → (xs.zip ys).all f = (List.range xs.length).all fun i => f (at_ xs i, at_ ys i)
  | [], [], _ => rfl
  | x :: xs, y :: ys, h => by
    rw [List.zip_cons_cons, List.all_cons, zip_all (by simpa using h), List.length_cons, List.range_succ_eq_map, List.all_cons, List.all_map]
    rfl
  | [], _ :: _, h => by simp at h
  | _ :: _, [], h => by simp at h
theorem zip_at {α β : Type} [Inhabited α] [Inhabited β] {xs : List α} {ys : List β} {i : Nat} (h : i < xs.length) (h' : i < ys.length) : (at_ xs i, at_ ys i) ∈ xs.zip ys := by
  rw [at_get h, at_get h']
  have : (xs.zip ys)[i]'(by simp; omega) = (xs[i], ys[i]) := List.getElem_zip
  rw [← this]
  exact List.getElem_mem _
theorem fil_empty {α : Type} {q : α → Bool} : ∀ {xs : List α}, (xs.filter q).isEmpty = xs.all fun x => !q x
  | [] => rfl
  | x :: xs => by
    by_cases h : q x = true
    · rw [List.filter_cons_of_pos h, List.all_cons, h]; rfl
    · have hf : q x = false := by simpa using h
      rw [List.filter_cons_of_neg h, List.all_cons, fil_empty, hf]
      rfl
theorem w_boE {α : Type} [Enc α] {i : Nat} {xs : List α} {env : Ev.Env} {t : Tg} {r : List D} : Ev.bindL (.cons (.nmo i) t) (Enc.enc xs :: r) env = Ev.bindL t r (env.set i (some (Enc.enc xs))) := rfl
theorem w_boT {i : Nat} {xs : List D} {env : Ev.Env} {t : Tg} {r : List D} : Ev.bindL (.cons (.nmo i) t) (.tup xs :: r) env = Ev.bindL t r (env.set i (some (.tup xs))) := rfl
theorem w_boI {i : Nat} {k : Int} {env : Ev.Env} {t : Tg} {r : List D} : Ev.bindL (.cons (.nmo i) t) (.int k :: r) env = Ev.bindL t r (env.set i (some (.int k))) := rfl
end Ev

set_option maxRecDepth 100000
/-! EvD: draws. -/
namespace Ev
open PySem PySem.Spec PyProof.Rows L2
open Enc (enc)
theorem sm_nil {m : Nat} : Sm (m + 1) (.tup []) := ⟨by decide, fun _ z => by cases z⟩
theorem sm_cons {m : Nat} {x : D} {xs : List D} (h : Sm m x) (h2 : Sm (m + 1) (.tup xs)) (hl : xs.length < 1000) : Sm (m + 1) (.tup (x :: xs)) := ⟨by simp; omega, fun y hy => by
  rcases List.mem_cons.mp hy with rfl | hy
  · exact h
  · exact h2.2 y hy⟩
theorem sm_list {α : Type} [Enc α] {m : Nat} {xs : List α} (hl : xs.length ≤ 1000000) (h : ∀ x ∈ xs, Sm m (enc x)) : Sm (m + 1) (enc xs) := ⟨by simpa using hl, fun y hy => by
  obtain ⟨x, hx, rfl⟩ := List.mem_map.mp hy
  exact h x hx⟩
theorem sm_nat {m : Nat} {n : Nat} : Sm m (enc n) := by cases m <;> trivial
theorem sm_int {m : Nat} {i : Int} : Sm m (.int i) := by cases m <;> trivial
theorem sm_bl {m : Nat} {i : Bool} : Sm m (.bl i) := by cases m <;> trivial
theorem sm_non {m : Nat} : Sm m .non := by cases m <;> trivial
theorem of_Ok {α : Type} {x : Out α} {a : α} {c : Cu} (h : Ok x fun b c' => b = a ∧ c' = c) : x = .ok a c := by
  obtain ⟨b, c', rfl, rfl, rfl⟩ := h
  rfl
theorem Ok.lc {x : Out (List D)} {R : D → Cu → Prop} (h : Ok x fun ds c => ds.length ≤ 16777216 ∧ R (.lst ds) c) : Ok (lcEnd x) R := by
  obtain ⟨ds, c, rfl, hl, hr⟩ := h
  exact ⟨_, _, lcEnd_ok hl, hr⟩
theorem Ok.drawsM {α β : Type} [Enc β] {R : α → β → Prop} {I : Cu → Prop} : ∀ {xs : List α} {f : (x : α) → x ∈ xs → Cu → Out (List D)} {c : Cu}, (∀ x h c, I c → Ok (f x h c) fun r c => (∃ y, r = [enc y] ∧ R x y) ∧ I c) → I c → Ok (loopM xs f c) fun ds c => (∃ ys : List β, ds = ys.map enc ∧ ys.length = xs.length ∧ ∀ p ∈ xs.zip ys, R p.1 p.2) ∧ I c
  | [], _, c, _, hc => ⟨[], c, rfl, ⟨[], rfl, rfl, fun _ z => by cases z⟩, hc⟩
  | x :: xs, f, c, h, hc => by
    obtain ⟨r, c1, h1, ⟨y, rfl, hy⟩, hc1⟩ := h x List.mem_cons_self c hc
    obtain ⟨ds, c2, h2, ⟨ys, rfl, hl, hr⟩, hc2⟩ := Ok.drawsM (R := R) (I := I) (xs := xs) (f := fun y h => f y (List.mem_cons_of_mem _ h)) (fun z hz c hc => h z (List.mem_cons_of_mem _ hz) c hc) hc1
    refine ⟨(y :: ys).map enc, c2, ?_, ⟨y :: ys, rfl, by simp [hl], fun p hp => ?_⟩, hc2⟩
    · show ((f x List.mem_cons_self c).bind fun r c1 => (loopM xs (fun y h => f y (List.mem_cons_of_mem _ h)) c1).bind fun q c2 => .ok (r ++ q) c2) = _
      rw [h1, bind_ok, h2, bind_ok]; rfl
    · rcases List.mem_cons.mp hp with rfl | hp
      · exact hy
      · exact hr p hp
theorem Ok.drawsR {β : Type} [Enc β] {R : Nat → β → Prop} {I : Cu → Prop} {n : Nat} {f : (i : Nat) → i < n → Cu → Out (List D)} {c : Cu} (h : ∀ x h c, I c → Ok (f x h c) fun r c => (∃ y, r = [enc y] ∧ R x y) ∧ I c) (hc : I c) : Ok (loopR n f c) fun ds c => (∃ ys : List β, ds = ys.map enc ∧ ys.length = n ∧ ∀ p ∈ (List.range n).zip ys, R p.1 p.2) ∧ I c := by
  refine (Ok.drawsM (R := R) (I := I) (fun x hx c hc => h x _ c hc) hc).mono ?_
  rintro _ c ⟨⟨ys, rfl, hl, hr⟩, hc⟩
  exact ⟨⟨ys, rfl, by simpa using hl, hr⟩, hc⟩
/-- values drawn for each of a row of things -/
theorem Ok.draws {α β : Type} [Enc β] {f : D → Cu → Out (List D)} {e : α → D} {R : α → β → Prop} {I : Cu → Prop} (h : ∀ x c, I c → Ok (f (e x) c) fun r c => (∃ y, r = [enc y] ∧ R x y) ∧ I c) : ∀ {xs : List α} {c : Cu}, I c → Ok (loopL f (xs.map e) c) fun ds c => (∃ ys : List β, ds = ys.map enc ∧ ys.length = xs.length ∧ ∀ p ∈ xs.zip ys, R p.1 p.2) ∧ I c
  | [], c, hc => ⟨[], c, rfl, ⟨[], rfl, rfl, fun _ z => by cases z⟩, hc⟩
  | x :: xs, c, hc => by
    obtain ⟨r, c1, h1, ⟨y, rfl, hy⟩, hc1⟩ := h x c hc
    obtain ⟨ds, c2, h2, ⟨ys, rfl, hl, hr⟩, hc2⟩ := Ok.draws h (xs := xs) hc1
    refine ⟨(y :: ys).map enc, c2, ?_, ⟨y :: ys, rfl, by simp [hl], fun p hp => ?_⟩, hc2⟩
    · show ((f (e x) c).bind fun r c1 => (loopL f (xs.map e) c1).bind fun q c2 => .ok (r ++ q) c2) = _
      rw [h1, bind_ok, h2, bind_ok]; rfl
    · rcases List.mem_cons.mp hp with rfl | hp
      · exact hy
      · exact hr p hp
theorem zip_forall {α β : Type} {p : β → Prop} : ∀ {xs : List α} {ys : List β}, ys.length = xs.length → (∀ q ∈ xs.zip ys, p q.2) → ∀ y ∈ ys, p y
  | _, [], _, _, _, h => by cases h
  | [], _ :: _, h, _, _, _ => by simp at h
  | x :: xs, y :: ys, hl, h, z, hz => by
    rcases List.mem_cons.mp hz with rfl | hz
    · exact h (x, z) List.mem_cons_self
    · exact zip_forall (by simpa using hl) (fun q hq => h q (List.mem_cons_of_mem _ hq)) z hz
section
variable {F : Nat → List D → Cu → Out D} {env : Ev.Env} {c : Cu} {s ss : S} {Q : Fl → Cu → Prop} {e it : E} {i : Nat} {t : Tg} {b : S}
theorem Ok.set1 {d : D} {c1 : Cu} (h : ev F e env c = .ok d c1) (k : Ok (ex F ss (env.set i (some d)) c1) Q) : Ok (ex F (.cons (.set i e) ss) env c) Q :=
  Ok.nx (by rw [y_set, h]; rfl) k
theorem Ok.seto {R : D → Cu → Prop} (h : Ok (ev F e env c) fun d c => d.ownOk = true ∧ R d c) (k : ∀ d c, R d c → Ok (ex F ss (env.set i (some d)) c) Q) : Ok (ex F (.cons (.seto i e) ss) env c) Q := by
  obtain ⟨d, c1, e, ho, q⟩ := h
  rw [y_cons, y_seto, e, bind_ok, ownO_ok ho]
  exact k _ _ q
/-- a test that comes out false, without an else -/
theorem Ok.iff_ {c1 : Cu} {a : S} (h : ev F e env c = .ok (.bl false) c1) (k : Ok (ex F ss env c1) Q) : Ok (ex F (.cons (.ife e a .nil) ss) env c) Q :=
  Ok.nx (by rw [y_ife, h]; rfl) k
/-- a def's end -/
theorem Ok.fin {d : D} {c1 : Cu} {Q : D → Cu → Prop} (h : ev F e env c = .ok d c1) (k : Q d c1) : Ok (ex F (.cons (.ret e) .nil) env c) fun r c => ∃ d, r = .rt d ∧ Q d c :=
  Ok.rt (R := fun d c => ∃ d1, Fl.rt d = Fl.rt d1 ∧ Q d1 c) ⟨_, _, h, _, rfl, k⟩
theorem Ok.ret_ {Q : D → Cu → Prop} (h : Ok (ev F e env c) Q) : Ok (ex F (.cons (.ret e) .nil) env c) fun r c => ∃ d, r = .rt d ∧ Q d c := by
  obtain ⟨d, c1, e, q⟩ := h
  exact Ok.fin e q
theorem Ok.u {x : Out Fl} {Q : D → Cu → Prop} (h : Ok x fun r c => ∃ d, r = .rt d ∧ Q d c) : Ok (retO x) Q := by
  obtain ⟨_, c, rfl, d, rfl, q⟩ := h
  exact ⟨_, _, rfl, q⟩
end
end Ev

set_option maxRecDepth 100000
set_option maxHeartbeats 0
/-! k77: the law's text, compact. -/
namespace LW
open PySem PySem.Spec PyProof.Rows L2 Ev
def G : List (Str × D) := [("OLD", .int 0), ("NEW", .int 1), ("HOLDER", .int 2), ("LOAD", .int 3), ("AGAIN", .int 4), ("FRESH", .int 5), ("LATE", .int 6), ("SIZE", .int 7), ("MOST", .int 2), ("WHITE", .int 0), ("GREY", .int 1), ("WORDS_tables", .tup [.str "old", .str "new", .str "holder", .str "load", .str "again", .str "fresh", .str "late"]), ("WORDS_shields", .tup [.str "behind", .str "clean", .str "plain"]), ("BY_PLACE", .int 2), ("REASONS", .tup [.str "late white", .str "late black", .str "new at roots", .str "new in fields", .str "loaded at roots", .str "loaded in fields"]), ("DEAR", .int 1000), ("LEAST", .tup [.tup [.int 0, .int 5], .tup [.int 3, .int 5], .tup [.int 1, .int 4], .tup [.int 2, .int 4]])]
abbrev n_is_tuple_of : Nat := 0
abbrev n_fits_whole : Nat := 1
abbrev n_top_of : Nat := 2
abbrev n_fits_table : Nat := 3
abbrev n_tables_in : Nat := 4
abbrev n_does_no_less_in : Nat := 5
abbrev n_need_table : Nat := 6
abbrev n_does_no_less : Nat := 7
abbrev n_words_in : Nat := 8
abbrev n_is_sound_in : Nat := 9
abbrev n_reason_in : Nat := 10
abbrev n_reason_of : Nat := 11
abbrev n_needed_words : Nat := 12
abbrev n_fits_costs : Nat := 13
abbrev n_cost_in : Nat := 14
abbrev n_least_table : Nat := 15
abbrev n_need_costs : Nat := 16
abbrev n_least_tables : Nat := 17
abbrev n_cost_of : Nat := 18
abbrev n_cheapest : Nat := 19
abbrev n_cheapest_by_least : Nat := 20
abbrev n__law_cup : Nat := 21
abbrev n__law_roll : Nat := 22
abbrev n__law_some : Nat := 23
abbrev n__law_same : Nat := 24
abbrev n__law_table : Nat := 25
abbrev n__law_is_sound : Nat := 26
abbrev n__law_every : Nat := 27
abbrev n__law_costs : Nat := 28
abbrev n_law : Nat := 29
/-- is_tuple_of -/
def s_is_tuple_of : S := (.cons (.ret (.and_ (.cons (.isi (.var 0) .tuple) (.cons (.chn .le .le (.var 1) (.bf .len (.cons (.var 0) .nil)) (.var 2)) .nil)))) .nil)
def d_is_tuple_of : Fd := ⟨"is_tuple_of", ["value", "low", "high"], [], 3, s_is_tuple_of⟩
/-- fits_whole -/
def s_fits_whole : S := (.cons (.ret (.and_ (.cons (.isi (.var 0) .int) (.cons (.nt (.isi (.var 0) .bool)) (.cons (.chn .le .le (.var 1) (.var 0) (.var 2)) .nil))))) .nil)
def d_fits_whole : Fd := ⟨"fits_whole", ["value", "low", "high"], [], 3, s_fits_whole⟩
/-- top_of -/
def s_top_of : S := (.cons (.ret (.ife (.cmp .inn (.var 0) (.tup (.cons (.gl "FRESH" (.int 5)) (.cons (.gl "LATE" (.int 6)) .nil)))) (.gl "MOST" (.int 2)) (.cst (.int 1)))) .nil)
def d_top_of : Fd := ⟨"top_of", ["at"], [], 1, s_top_of⟩
/-- fits_table -/
def s_fits_table : S := (.cons (.ret (.and_ (.cons (.call n_is_tuple_of (.cons (.var 0) (.cons (.gl "SIZE" (.int 7)) (.cons (.gl "SIZE" (.int 7)) .nil)))) (.cons (.bf .all (.cons (.lc [1, 2] (.gn (.tp (.cons (.nm 1) (.cons (.nm 2) .nil))) (.itN (.var 0)) .nil (.el (.call n_fits_whole (.cons (.var 2) (.cons (.cst (.int 0)) (.cons (.call n_top_of (.cons (.var 1) .nil)) .nil))))))) .nil)) .nil)))) .nil)
def d_fits_table : Fd := ⟨"fits_table", ["value", "at", "own"], [], 1, s_fits_table⟩
def b_tables_in_0 : S := (.cons (.set 0 (.lc [2, 3] (.gn (.nm 2) (.itE (.var 0)) .nil (.gn (.nm 3) (.itR (.cons (.op2 .add (.call n_top_of (.cons (.var 1) .nil)) (.cst (.int 1))) .nil)) .nil (.el (.op2 .add (.var 2) (.tup (.cons (.var 3) .nil)))))))) .nil)
/-- tables_in -/
def s_tables_in : S := (.cons (.set 0 (.lst (.cons (.tup .nil) .nil))) (.cons (.for_ (.nm 1) (.itR (.cons (.gl "SIZE" (.int 7)) .nil)) b_tables_in_0) (.cons (.ret (.var 0)) .nil)))
def d_tables_in : Fd := ⟨"tables_in", ["found", "at", "row", "own"], [], 0, s_tables_in⟩
/-- does_no_less_in -/
def s_does_no_less_in : S := (.cons (.ife (.cmp .ne (.ix (.var 0) (.gl "LATE" (.int 6))) (.ix (.var 1) (.gl "LATE" (.int 6)))) (.cons (.ret (.cst (.bl false))) .nil) .nil) (.cons (.set 2 (.op2 .add (.lz (.cons (.sl (.var 0) .noe (.gl "FRESH" (.int 5))) (.cons (.sl (.var 1) .noe (.gl "FRESH" (.int 5))) .nil))) (.lst (.cons (.tup (.cons (.bf .min (.cons (.ix (.var 0) (.gl "FRESH" (.int 5))) (.cons (.cst (.int 1)) .nil))) (.cons (.bf .min (.cons (.ix (.var 1) (.gl "FRESH" (.int 5))) (.cons (.cst (.int 1)) .nil))) .nil))) .nil)))) (.cons (.ret (.bf .all (.cons (.lc [3, 4] (.gn (.tp (.cons (.nm 3) (.cons (.nm 4) .nil))) (.itE (.var 2)) .nil (.el (.cmp .ge (.var 3) (.var 4))))) .nil))) .nil)))
def d_does_no_less_in : Fd := ⟨"does_no_less_in", ["one", "other", "pairs", "own", "there"], [], 2, s_does_no_less_in⟩
/-- need_table -/
def s_need_table : S := (.cons (.ife (.nt (.call n_fits_table (.cons (.var 0) .nil))) (.cons (.rais 0) .nil) .nil) .nil)
def d_need_table : Fd := ⟨"need_table", ["value"], [], 1, s_need_table⟩
/-- does_no_less -/
def s_does_no_less : S := (.cons (.ex (.call n_need_table (.cons (.var 0) .nil))) (.cons (.ex (.call n_need_table (.cons (.var 1) .nil))) (.cons (.ret (.call n_does_no_less_in (.cons (.var 0) (.cons (.var 1) .nil)))) .nil)))
def d_does_no_less : Fd := ⟨"does_no_less", ["one", "other"], [], 2, s_does_no_less⟩
/-- words_in -/
def s_words_in : S := (.cons (.ife (.cmp .ne (.ix (.var 0) (.gl "LATE" (.int 6))) (.gl "BY_PLACE" (.int 2))) (.cons (.ret (.lst .nil)) .nil) .nil) (.cons (.set 1 (.cmp .gt (.ix (.var 0) (.gl "FRESH" (.int 5))) (.gl "WHITE" (.int 0)))) (.cons (.set 2 (.and_ (.cons (.cmp .eq (.ix (.var 0) (.gl "AGAIN" (.int 4))) (.cst (.int 1))) (.cons (.cmp .inn (.cst (.int 1)) (.tup (.cons (.ix (.var 0) (.gl "NEW" (.int 1))) (.cons (.ix (.var 0) (.gl "HOLDER" (.int 2))) .nil)))) .nil)))) (.cons (.set 3 (.tup (.cons (.and_ (.cons (.var 1) (.cons (.cmp .eq (.ix (.var 0) (.gl "OLD" (.int 0))) (.cst (.int 1))) .nil))) (.cons (.and_ (.cons (.var 1) (.cons (.cmp .eq (.ix (.var 0) (.gl "LOAD" (.int 3))) (.cst (.int 1))) .nil))) (.cons (.var 2) .nil))))) (.cons (.ret (.lc [4, 5] (.gn (.tp (.cons (.nm 4) (.cons (.nm 5) .nil))) (.itZ (.gl "WORDS_shields" (.tup [.str "behind", .str "clean", .str "plain"])) (.var 3)) (.cons (.var 5) .nil) (.el (.var 4))))) .nil)))))
def d_words_in : Fd := ⟨"words_in", ["table", "is_new", "is_plain", "told", "word", "is_so"], [], 1, s_words_in⟩
/-- is_sound_in -/
def s_is_sound_in : S := (.cons (.ret (.cmp .ne (.call n_words_in (.cons (.var 0) .nil)) (.lst .nil))) .nil)
def d_is_sound_in : Fd := ⟨"is_sound_in", ["table"], [], 1, s_is_sound_in⟩
/-- reason_in -/
def s_reason_in : S := (.cons (.ife (.cmp .ne (.ix (.var 0) (.gl "LATE" (.int 6))) (.gl "BY_PLACE" (.int 2))) (.cons (.ret (.ix (.gl "REASONS" (.tup [.str "late white", .str "late black", .str "new at roots", .str "new in fields", .str "loaded at roots", .str "loaded in fields"])) (.ix (.var 0) (.gl "LATE" (.int 6))))) .nil) .nil) (.cons (.ife (.call n_is_sound_in (.cons (.var 0) .nil)) (.cons (.ret (.cst (.str ""))) .nil) .nil) (.cons (.ife (.cmp .eq (.ix (.var 0) (.gl "FRESH" (.int 5))) (.gl "WHITE" (.int 0))) (.cons (.ret (.ife (.cmp .eq (.ix (.var 0) (.gl "AGAIN" (.int 4))) (.cst (.int 1))) (.cst (.str "new in fields")) (.cst (.str "new at roots")))) .nil) .nil) (.cons (.ret (.ife (.cmp .eq (.ix (.var 0) (.gl "AGAIN" (.int 4))) (.cst (.int 1))) (.cst (.str "loaded in fields")) (.cst (.str "loaded at roots")))) .nil))))
def d_reason_in : Fd := ⟨"reason_in", ["table"], [], 1, s_reason_in⟩
/-- reason_of -/
def s_reason_of : S := (.cons (.ex (.call n_need_table (.cons (.var 0) .nil))) (.cons (.ret (.call n_reason_in (.cons (.var 0) .nil))) .nil))
def d_reason_of : Fd := ⟨"reason_of", ["table"], [], 1, s_reason_of⟩
/-- needed_words -/
def s_needed_words : S := (.cons (.ex (.call n_need_table (.cons (.var 0) .nil))) (.cons (.ife (.nt (.call n_is_sound_in (.cons (.var 0) .nil))) (.cons (.ret (.tup .nil)) .nil) .nil) (.cons (.set 1 (.lc [2] (.gn (.nm 2) (.itR (.cons (.gl "LATE" (.int 6)) .nil)) .nil (.el (.op2 .add (.op2 .add (.sl (.var 0) .noe (.var 2)) (.tup (.cons (.cst (.int 0)) .nil))) (.sl (.var 0) (.op2 .add (.var 2) (.cst (.int 1))) .noe)))))) (.cons (.ret (.bf .tuple (.cons (.lc [2] (.gn (.nm 2) (.itR (.cons (.gl "LATE" (.int 6)) .nil)) (.cons (.nt (.call n_is_sound_in (.cons (.ix (.var 1) (.var 2)) .nil))) .nil) (.el (.ix (.gl "WORDS_tables" (.tup [.str "old", .str "new", .str "holder", .str "load", .str "again", .str "fresh", .str "late"])) (.var 2))))) .nil))) .nil))))
def d_needed_words : Fd := ⟨"needed_words", ["table", "bare", "at"], [], 1, s_needed_words⟩
def b_fits_costs_0 : S := (.cons (.ife (.or_ (.cons (.nt (.call n_is_tuple_of (.cons (.var 2) (.cons (.op2 .add (.call n_top_of (.cons (.var 1) .nil)) (.cst (.int 1))) (.cons (.op2 .add (.call n_top_of (.cons (.var 1) .nil)) (.cst (.int 1))) .nil))))) (.cons (.nt (.bf .all (.cons (.lc [3] (.gn (.nm 3) (.itE (.var 2)) .nil (.el (.call n_fits_whole (.cons (.var 3) (.cons (.cst (.int 0)) (.cons (.gl "DEAR" (.int 1000)) .nil))))))) .nil))) .nil))) (.cons (.ret (.cst (.bl false))) .nil) .nil) (.cons (.ife (.and_ (.cons (.cmp .ne (.ix (.var 2) (.cst (.int 0))) (.cst (.int 0))) (.cons (.cmp .ne (.var 1) (.gl "LATE" (.int 6))) .nil))) (.cons (.ret (.cst (.bl false))) .nil) .nil) .nil))
/-- fits_costs -/
def s_fits_costs : S := (.cons (.ife (.nt (.call n_is_tuple_of (.cons (.var 0) (.cons (.gl "SIZE" (.int 7)) (.cons (.gl "SIZE" (.int 7)) .nil))))) (.cons (.ret (.cst (.bl false))) .nil) .nil) (.cons (.for_ (.tp (.cons (.nm 1) (.cons (.nm 2) .nil))) (.itN (.var 0)) b_fits_costs_0) (.cons (.ret (.cst (.bl true))) .nil)))
def d_fits_costs : Fd := ⟨"fits_costs", ["value", "at", "row", "own"], [], 1, s_fits_costs⟩
/-- cost_in -/
def s_cost_in : S := (.cons (.ret (.bf .sum (.cons (.lc [2, 3] (.gn (.tp (.cons (.nm 2) (.cons (.nm 3) .nil))) (.itZ (.var 0) (.var 1)) .nil (.el (.ix (.var 2) (.var 3))))) .nil))) .nil)
def d_cost_in : Fd := ⟨"cost_in", ["costs", "table", "row", "own"], [], 2, s_cost_in⟩
/-- least_table -/
def s_least_table : S := (.cons (.seto 2 (.lc [3] (.gn (.nm 3) (.itR (.cons (.gl "SIZE" (.int 7)) .nil)) .nil (.el (.ife (.cmp .inn (.var 3) (.var 0)) (.cst (.int 1)) (.cst (.int 0))))))) (.cons (.stx 2 (.gl "FRESH" (.int 5)) (.ife (.cmp .inn (.gl "FRESH" (.int 5)) (.var 0)) (.var 1) (.cst (.int 0)))) (.cons (.stx 2 (.gl "LATE" (.int 6)) (.cst (.int 2))) (.cons (.ret (.bf .tuple (.cons (.var 2) .nil))) .nil))))
def d_least_table : Fd := ⟨"least_table", ["places", "fresh", "row", "at"], [2], 2, s_least_table⟩
/-- need_costs -/
def s_need_costs : S := (.cons (.ife (.nt (.call n_fits_costs (.cons (.var 0) .nil))) (.cons (.rais 0) .nil) .nil) .nil)
def d_need_costs : Fd := ⟨"need_costs", ["value"], [], 1, s_need_costs⟩
/-- least_tables -/
def s_least_tables : S := (.cons (.ret (.bf .tuple (.cons (.bf .sorted (.cons (.lc [0] (.gn (.nm 0) (.itE (.gl "LEAST" (.tup [.tup [.int 0, .int 5], .tup [.int 3, .int 5], .tup [.int 1, .int 4], .tup [.int 2, .int 4]]))) .nil (.el (.call n_least_table (.cons (.var 0) (.cons (.gl "GREY" (.int 1)) .nil)))))) .nil)) .nil))) .nil)
def d_least_tables : Fd := ⟨"least_tables", ["places"], [], 0, s_least_tables⟩
/-- cost_of -/
def s_cost_of : S := (.cons (.ex (.call n_need_costs (.cons (.var 0) .nil))) (.cons (.ex (.call n_need_table (.cons (.var 1) .nil))) (.cons (.ret (.call n_cost_in (.cons (.var 0) (.cons (.var 1) .nil)))) .nil)))
def d_cost_of : Fd := ⟨"cost_of", ["costs", "table"], [], 2, s_cost_of⟩
/-- cheapest -/
def s_cheapest : S := (.cons (.ex (.call n_need_costs (.cons (.var 0) .nil))) (.cons (.set 1 (.lc [3] (.gn (.nm 3) (.itE (.call n_tables_in .nil)) (.cons (.call n_is_sound_in (.cons (.var 3) .nil)) .nil) (.el (.var 3))))) (.cons (.set 2 (.bf .min (.cons (.lc [3] (.gn (.nm 3) (.itE (.var 1)) .nil (.el (.call n_cost_in (.cons (.var 0) (.cons (.var 3) .nil)))))) .nil))) (.cons (.ret (.tup (.cons (.var 2) (.cons (.bf .tuple (.cons (.lc [3] (.gn (.nm 3) (.itE (.var 1)) (.cons (.cmp .eq (.call n_cost_in (.cons (.var 0) (.cons (.var 3) .nil))) (.var 2)) .nil) (.el (.var 3)))) .nil)) .nil)))) .nil))))
def d_cheapest : Fd := ⟨"cheapest", ["costs", "rows", "least", "table"], [], 1, s_cheapest⟩
/-- cheapest_by_least -/
def s_cheapest_by_least : S := (.cons (.ex (.call n_need_costs (.cons (.var 0) .nil))) (.cons (.ret (.bf .min (.cons (.lc [1, 2] (.gn (.nm 1) (.itE (.gl "LEAST" (.tup [.tup [.int 0, .int 5], .tup [.int 3, .int 5], .tup [.int 1, .int 4], .tup [.int 2, .int 4]]))) .nil (.gn (.nm 2) (.itE (.tup (.cons (.cst (.int 1)) (.cons (.cst (.int 2)) .nil)))) .nil (.el (.call n_cost_in (.cons (.var 0) (.cons (.call n_least_table (.cons (.var 1) (.cons (.var 2) .nil))) .nil))))))) .nil))) .nil))
def d_cheapest_by_least : Fd := ⟨"cheapest_by_least", ["costs", "places", "fresh"], [], 1, s_cheapest_by_least⟩
/-- _law_cup -/
def s__law_cup : S := (.cons (.set 1 (.bf .abs (.cons (.ix (.op2 .add (.bf .list (.cons (.var 0) .nil)) (.lst (.cons (.cst (.int 0)) .nil))) (.cst (.int 0))) .nil))) (.cons (.ret (.cupn (.ife (.cmp .ge (.var 1) (.op2 .pow (.cst (.int 10)) (.cst (.int 18)))) (.op2 .fdiv (.var 1) (.cst (.int 613))) (.cst (.int 0))) (.op2 .add (.op2 .mod (.bf .int (.cons (.op2 .add (.op2 .mul (.var 1) (.cst (.int 1409))) (.cst (.int 5237))) .nil)) (.cst (.int 2077485299))) (.cst (.int 541))))) .nil))
def d__law_cup : Fd := ⟨"_law_cup", ["script", "cell"], [], 1, s__law_cup⟩
/-- _law_roll -/
def s__law_roll : S := (.cons (.ife (.cmp .gt (.ix (.var 0) (.cst (.int 0))) (.cst (.int 0))) (.cons (.set 3 (.op2 .mod (.bf .int (.cons (.ix (.var 0) (.cst (.int 0))) .nil)) (.var 1))) (.cons (.stc 0 (.cst (.int 0)) (.op2 .fdiv (.ix (.var 0) (.cst (.int 0))) (.var 1))) (.cons (.ret (.var 3)) .nil))) .nil) (.cons (.stc 0 (.cst (.int 1)) (.op2 .mod (.bf .int (.cons (.op2 .add (.op2 .mul (.ix (.var 0) (.cst (.int 1))) (.cst (.int 32869))) (.cst (.int 9391))) .nil)) (.cst (.int 2147372467)))) (.cons (.set 2 (.op2 .mod (.bf .int (.cons (.op2 .mul (.ix (.var 0) (.cst (.int 1))) (.op2 .add (.ix (.var 0) (.cst (.int 1))) (.cst (.int 1061)))) .nil)) (.cst (.int 2147483059)))) (.cons (.ret (.op2 .mod (.bf .int (.cons (.op2 .fdiv (.var 2) (.cst (.int 2011))) .nil)) (.var 1))) .nil))))
def d__law_roll : Fd := ⟨"_law_roll", ["cup", "many", "deep", "found"], [], 2, s__law_roll⟩
/-- _law_some -/
def s__law_some : S := (.cons (.ret (.ix (.var 1) (.call n__law_roll (.cons (.var 0) (.cons (.bf .len (.cons (.var 1) .nil)) .nil))))) .nil)
def d__law_some : Fd := ⟨"_law_some", ["cup", "things"], [], 2, s__law_some⟩
/-- _law_same -/
def s__law_same : S := (.cons (.ife (.isi (.var 1) .tuple) (.cons (.ife (.or_ (.cons (.nt (.isi (.var 0) .tuple)) (.cons (.cmp .ne (.bf .len (.cons (.var 0) .nil)) (.bf .len (.cons (.var 1) .nil))) .nil))) (.cons (.ret (.cst (.bl false))) .nil) .nil) (.cons (.ret (.bf .all (.cons (.lc [2] (.gn (.nm 2) (.itR (.cons (.bf .len (.cons (.var 1) .nil)) .nil)) .nil (.el (.call n__law_same (.cons (.ix (.var 0) (.var 2)) (.cons (.ix (.var 1) (.var 2)) .nil)))))) .nil))) .nil)) .nil) (.cons (.ife (.cmp .is (.var 1) (.cst (.non))) (.cons (.ret (.cmp .is (.var 0) (.cst (.non)))) .nil) .nil) (.cons (.ife (.isi (.var 1) .bool) (.cons (.ret (.ife (.var 1) (.cmp .is (.var 0) (.cst (.bl true))) (.cmp .is (.var 0) (.cst (.bl false))))) .nil) .nil) (.cons (.ife (.isi (.var 1) .int) (.cons (.ret (.and_ (.cons (.isi (.var 0) .int) (.cons (.nt (.isi (.var 0) .bool)) (.cons (.cmp .eq (.bf .int (.cons (.var 0) .nil)) (.var 1)) .nil))))) .nil) .nil) (.cons (.ret (.and_ (.cons (.isi (.var 0) .str) (.cons (.cmp .eq (.bf .str (.cons (.var 0) .nil)) (.var 1)) .nil)))) .nil)))))
def d__law_same : Fd := ⟨"_law_same", ["told", "due", "at"], [], 2, s__law_same⟩
/-- _law_table -/
def s__law_table : S := (.cons (.set 1 (.lst (.cons (.tup (.cons (.cst (.int 1)) (.cons (.cst (.int 0)) (.cons (.cst (.int 0)) (.cons (.cst (.int 0)) (.cons (.cst (.int 0)) (.cons (.cst (.int 2)) (.cons (.cst (.int 2)) .nil)))))))) (.cons (.tup (.cons (.cst (.int 0)) (.cons (.cst (.int 1)) (.cons (.cst (.int 0)) (.cons (.cst (.int 0)) (.cons (.cst (.int 1)) (.cons (.cst (.int 0)) (.cons (.cst (.int 2)) .nil)))))))) (.cons (.tup (.cons (.cst (.int 0)) (.cons (.cst (.int 0)) (.cons (.cst (.int 1)) (.cons (.cst (.int 0)) (.cons (.cst (.int 1)) (.cons (.cst (.int 0)) (.cons (.cst (.int 2)) .nil)))))))) (.cons (.tup (.cons (.cst (.int 0)) (.cons (.cst (.int 0)) (.cons (.cst (.int 0)) (.cons (.cst (.int 1)) (.cons (.cst (.int 0)) (.cons (.cst (.int 2)) (.cons (.cst (.int 2)) .nil)))))))) (.cons (.tup (.cons (.cst (.int 0)) (.cons (.cst (.int 0)) (.cons (.cst (.int 0)) (.cons (.cst (.int 0)) (.cons (.cst (.int 0)) (.cons (.cst (.int 0)) (.cons (.cst (.int 0)) .nil)))))))) .nil))))))) (.cons (.set 2 (.call n__law_some (.cons (.var 0) (.cons (.var 1) .nil)))) (.cons (.set 3 (.call n__law_roll (.cons (.var 0) (.cons (.cst (.int 3)) .nil)))) (.cons (.ife (.cmp .eq (.var 3) (.cst (.int 0))) (.cons (.ret (.bf .tuple (.cons (.op2 .add (.lc [4] (.gn (.nm 4) (.itR (.cons (.cst (.int 5)) .nil)) .nil (.el (.call n__law_roll (.cons (.var 0) (.cons (.cst (.int 2)) .nil)))))) (.lst (.cons (.call n__law_roll (.cons (.var 0) (.cons (.cst (.int 3)) .nil))) (.cons (.call n__law_roll (.cons (.var 0) (.cons (.cst (.int 3)) .nil))) .nil)))) .nil))) .nil) .nil) (.cons (.ife (.cmp .eq (.var 3) (.cst (.int 1))) (.cons (.set 4 (.call n__law_roll (.cons (.var 0) (.cons (.cst (.int 7)) .nil)))) (.cons (.set 2 (.op2 .add (.op2 .add (.sl (.var 2) .noe (.var 4)) (.tup (.cons (.call n__law_roll (.cons (.var 0) (.cons (.ife (.cmp .lt (.var 4) (.cst (.int 5))) (.cst (.int 2)) (.cst (.int 3))) .nil))) .nil))) (.sl (.var 2) (.op2 .add (.var 4) (.cst (.int 1))) .noe))) .nil)) .nil) (.cons (.ret (.var 2)) .nil))))))
def d__law_table : Fd := ⟨"_law_table", ["cup", "samples", "table", "way", "at"], [], 1, s__law_table⟩
/-- _law_is_sound -/
def s__law_is_sound : S := (.cons (.asg (.tp (.cons (.nm 1) (.cons (.nm 2) (.cons (.nm 3) (.cons (.nm 4) (.cons (.nm 5) (.cons (.nm 6) (.cons (.nm 7) .nil)))))))) (.var 0)) (.cons (.ret (.and_ (.cons (.cmp .eq (.var 7) (.cst (.int 2))) (.cons (.or_ (.cons (.and_ (.cons (.cmp .gt (.var 6) (.cst (.int 0))) (.cons (.cmp .gt (.op2 .add (.var 1) (.var 4)) (.cst (.int 0))) .nil))) (.cons (.and_ (.cons (.cmp .eq (.var 5) (.cst (.int 1))) (.cons (.cmp .gt (.op2 .add (.var 2) (.var 3)) (.cst (.int 0))) .nil))) .nil))) .nil)))) .nil))
def d__law_is_sound : Fd := ⟨"_law_is_sound", ["table", "old", "new", "holder", "load", "again", "fresh", "late"], [], 1, s__law_is_sound⟩
def b__law_every_0 : S := (.cons (.set 2 (.op2 .add (.var 2) (.lc [4] (.gn (.nm 4) (.itR (.cons (.ife (.cmp .lt (.var 1) (.cst (.int 5))) (.cst (.int 2)) (.cst (.int 3))) .nil)) .nil (.el (.op2 .add (.var 3) (.tup (.cons (.var 4) .nil)))))))) .nil)
def b__law_every_1 : S := (.cons (.set 2 (.lst .nil)) (.cons (.for_ (.nm 3) (.itE (.var 0)) b__law_every_0) (.cons (.set 0 (.var 2)) .nil)))
/-- _law_every -/
def s__law_every : S := (.cons (.set 0 (.lst (.cons (.tup .nil) .nil))) (.cons (.for_ (.nm 1) (.itR (.cons (.cst (.int 7)) .nil)) b__law_every_1) (.cons (.ret (.var 0)) .nil)))
def d__law_every : Fd := ⟨"_law_every", ["rows", "at", "longer", "row", "own"], [], 0, s__law_every⟩
/-- _law_costs -/
def s__law_costs : S := (.cons (.set 1 (.call n__law_some (.cons (.var 0) (.cons (.lst (.cons (.cst (.int 3)) (.cons (.cst (.int 1001)) .nil))) .nil)))) (.cons (.set 2 (.lc [3] (.gn (.nm 3) (.itR (.cons (.cst (.int 6)) .nil)) .nil (.el (.op2 .add (.tup (.cons (.cst (.int 0)) .nil)) (.bf .tuple (.cons (.lc [4] (.gn (.nm 4) (.itR (.cons (.ife (.cmp .lt (.var 3) (.cst (.int 5))) (.cst (.int 1)) (.cst (.int 2))) .nil)) .nil (.el (.call n__law_roll (.cons (.var 0) (.cons (.var 1) .nil)))))) .nil))))))) (.cons (.ret (.op2 .add (.bf .tuple (.cons (.var 2) .nil)) (.tup (.cons (.bf .tuple (.cons (.lc [4] (.gn (.nm 4) (.itR (.cons (.cst (.int 3)) .nil)) .nil (.el (.call n__law_roll (.cons (.var 0) (.cons (.var 1) .nil)))))) .nil)) .nil)))) .nil)))
def d__law_costs : Fd := ⟨"_law_costs", ["cup", "top", "rows", "at", "own"], [], 1, s__law_costs⟩
def b_law_0 : S := (.cons (.asg (.tp (.cons (.nmo 9) (.cons (.nm 10) .nil))) (.tup (.cons (.call n__law_costs (.cons (.var 1) .nil)) (.cons (.call n__law_table (.cons (.var 1) .nil)) .nil)))) (.cons (.ife (.nt (.call n__law_same (.cons (.calln n_cost_of (.cons (.var 9) (.cons (.var 10) .nil))) (.cons (.bf .sum (.cons (.lc [7] (.gn (.nm 7) (.itR (.cons (.cst (.int 7)) .nil)) .nil (.el (.ix (.ix (.var 9) (.var 7)) (.ix (.var 10) (.var 7)))))) .nil)) .nil)))) (.cons (.ret (.cst (.bl false))) .nil) .nil) (.cons (.set 8 (.bf .min (.cons (.lc [11] (.gn (.nm 11) (.itE (.var 2)) .nil (.el (.bf .sum (.cons (.lc [7] (.gn (.nm 7) (.itR (.cons (.cst (.int 7)) .nil)) .nil (.el (.ix (.ix (.var 9) (.var 7)) (.ix (.var 11) (.var 7)))))) .nil))))) .nil))) (.cons (.set 4 (.bf .tuple (.cons (.lc [11] (.gn (.nm 11) (.itE (.var 2)) (.cons (.cmp .eq (.bf .sum (.cons (.lc [7] (.gn (.nm 7) (.itR (.cons (.cst (.int 7)) .nil)) .nil (.el (.ix (.ix (.var 9) (.var 7)) (.ix (.var 11) (.var 7)))))) .nil)) (.var 8)) .nil) (.el (.var 11)))) .nil))) (.cons (.ife (.nt (.call n__law_same (.cons (.tup (.cons (.calln n_cheapest (.cons (.var 9) .nil)) (.cons (.calln n_cheapest_by_least (.cons (.var 9) .nil)) .nil))) (.cons (.tup (.cons (.tup (.cons (.var 8) (.cons (.var 4) .nil))) (.cons (.var 8) .nil))) .nil)))) (.cons (.ret (.cst (.bl false))) .nil) .nil) .nil)))))
def b_law_1 : S := (.cons (.seto 9 (.op2 .add (.op2 .mul (.lst (.cons (.tup (.cons (.cst (.int 0)) (.cons (.cst (.int 5)) .nil))) .nil)) (.cst (.int 5))) (.lst (.cons (.tup (.cons (.cst (.int 0)) (.cons (.cst (.int 3)) (.cons (.cst (.int 2)) .nil)))) (.cons (.tup (.cons (.cst (.int 0)) (.cons (.cst (.int 0)) (.cons (.cst (.int 4)) .nil)))) .nil))))) (.cons (.stx 9 (.var 7) (.tup (.cons (.cst (.int 0)) (.cons (.cst (.int 1)) .nil)))) (.cons (.app 6 (.op2 .add (.call n_cheapest (.cons (.bf .tuple (.cons (.var 9) .nil)) .nil)) (.tup (.cons (.call n_cheapest_by_least (.cons (.bf .tuple (.cons (.var 9) .nil)) .nil)) .nil)))) .nil)))
/-- law -/
def s_law : S := (.cons (.set 1 (.call n__law_cup (.cons (.var 0) .nil))) (.cons (.set 2 (.lc [10] (.gn (.nm 10) (.itE (.call n__law_every .nil)) (.cons (.call n__law_is_sound (.cons (.var 10) .nil)) .nil) (.el (.var 10))))) (.cons (.for_ (.nm 3) (.itR (.cons (.cst (.int 5)) .nil)) b_law_0) (.cons (.set 4 (.tup (.cons (.tup (.cons (.cst (.int 0)) (.cons (.cst (.int 0)) (.cons (.cst (.int 0)) (.cons (.cst (.int 1)) (.cons (.cst (.int 0)) (.cons (.cst (.int 1)) (.cons (.cst (.int 2)) .nil)))))))) (.cons (.tup (.cons (.cst (.int 0)) (.cons (.cst (.int 0)) (.cons (.cst (.int 1)) (.cons (.cst (.int 0)) (.cons (.cst (.int 1)) (.cons (.cst (.int 0)) (.cons (.cst (.int 2)) .nil)))))))) (.cons (.tup (.cons (.cst (.int 0)) (.cons (.cst (.int 1)) (.cons (.cst (.int 0)) (.cons (.cst (.int 0)) (.cons (.cst (.int 1)) (.cons (.cst (.int 0)) (.cons (.cst (.int 2)) .nil)))))))) (.cons (.tup (.cons (.cst (.int 1)) (.cons (.cst (.int 0)) (.cons (.cst (.int 0)) (.cons (.cst (.int 0)) (.cons (.cst (.int 0)) (.cons (.cst (.int 1)) (.cons (.cst (.int 2)) .nil)))))))) .nil)))))) (.cons (.ife (.or_ (.cons (.nt (.call n__law_same (.cons (.call n_least_tables .nil) (.cons (.var 4) .nil)))) (.cons (.cmp .ne (.lc [11] (.gn (.nm 11) (.itE (.var 4)) .nil (.el (.call n_reason_of (.cons (.var 11) .nil))))) (.op2 .mul (.lst (.cons (.cst (.str "")) .nil)) (.cst (.int 4)))) .nil))) (.cons (.ret (.cst (.bl false))) .nil) .nil) (.cons (.ife (.cmp .ne (.lc [11] (.gn (.nm 11) (.itE (.var 4)) .nil (.el (.call n_needed_words (.cons (.var 11) .nil))))) (.lst (.cons (.tup (.cons (.cst (.str "load")) (.cons (.cst (.str "fresh")) .nil))) (.cons (.tup (.cons (.cst (.str "holder")) (.cons (.cst (.str "again")) .nil))) (.cons (.tup (.cons (.cst (.str "new")) (.cons (.cst (.str "again")) .nil))) (.cons (.tup (.cons (.cst (.str "old")) (.cons (.cst (.str "fresh")) .nil))) .nil)))))) (.cons (.ret (.cst (.bl false))) .nil) .nil) (.cons (.ife (.cmp .ne (.lc [11] (.gn (.nm 11) (.itE (.var 2)) (.cons (.cmp .eq (.lc [8] (.gn (.nm 8) (.itE (.var 4)) (.cons (.call n_does_no_less (.cons (.var 11) (.cons (.var 8) .nil))) .nil) (.el (.var 8)))) (.lst .nil)) .nil) (.el (.var 11)))) (.lst .nil)) (.cons (.ret (.cst (.bl false))) .nil) .nil) (.cons (.set 5 (.op2 .add (.op2 .mul (.tup (.cons (.tup (.cons (.cst (.int 0)) (.cons (.cst (.int 0)) .nil))) .nil)) (.cst (.int 5))) (.tup (.cons (.tup (.cons (.cst (.int 0)) (.cons (.cst (.int 0)) (.cons (.cst (.int 0)) .nil)))) (.cons (.tup (.cons (.cst (.int 0)) (.cons (.cst (.int 0)) (.cons (.cst (.int 0)) .nil)))) .nil))))) (.cons (.seto 6 (.lst (.cons (.call n_cheapest_by_least (.cons (.var 5) .nil)) (.cons (.bf .len (.cons (.ix (.call n_cheapest (.cons (.var 5) .nil)) (.cst (.int 1))) .nil)) .nil)))) (.cons (.for_ (.nm 7) (.itR (.cons (.cst (.int 4)) .nil)) b_law_1) (.cons (.set 4 (.lst (.cons (.cst (.int 0)) (.cons (.cst (.int 66)) (.cons (.tup (.cons (.cst (.int 7)) (.cons (.tup (.cons (.tup (.cons (.cst (.int 1)) (.cons (.cst (.int 0)) (.cons (.cst (.int 0)) (.cons (.cst (.int 0)) (.cons (.cst (.int 0)) (.cons (.cst (.int 2)) (.cons (.cst (.int 2)) .nil)))))))) .nil)) (.cons (.cst (.int 7)) .nil)))) (.cons (.tup (.cons (.cst (.int 10)) (.cons (.tup (.cons (.tup (.cons (.cst (.int 0)) (.cons (.cst (.int 1)) (.cons (.cst (.int 0)) (.cons (.cst (.int 0)) (.cons (.cst (.int 1)) (.cons (.cst (.int 0)) (.cons (.cst (.int 2)) .nil)))))))) .nil)) (.cons (.cst (.int 10)) .nil)))) .nil)))))) (.cons (.set 4 (.op2 .add (.var 4) (.lst (.cons (.tup (.cons (.cst (.int 10)) (.cons (.tup (.cons (.tup (.cons (.cst (.int 0)) (.cons (.cst (.int 0)) (.cons (.cst (.int 1)) (.cons (.cst (.int 0)) (.cons (.cst (.int 1)) (.cons (.cst (.int 0)) (.cons (.cst (.int 2)) .nil)))))))) .nil)) (.cons (.cst (.int 10)) .nil)))) (.cons (.tup (.cons (.cst (.int 7)) (.cons (.tup (.cons (.tup (.cons (.cst (.int 0)) (.cons (.cst (.int 0)) (.cons (.cst (.int 0)) (.cons (.cst (.int 1)) (.cons (.cst (.int 0)) (.cons (.cst (.int 2)) (.cons (.cst (.int 2)) .nil)))))))) .nil)) (.cons (.cst (.int 7)) .nil)))) .nil))))) (.cons (.ret (.cmp .eq (.var 6) (.var 4))) .nil)))))))))))))
def d_law : Fd := ⟨"law", ["script", "cup", "every", "turn", "due", "free", "told", "at", "least", "costs", "table", "own"], [6, 9], 1, s_law⟩
def ds : List Fd := [d_is_tuple_of, d_fits_whole, d_top_of, d_fits_table, d_tables_in, d_does_no_less_in, d_need_table, d_does_no_less, d_words_in, d_is_sound_in, d_reason_in, d_reason_of, d_needed_words, d_fits_costs, d_cost_in, d_least_table, d_need_costs, d_least_tables, d_cost_of, d_cheapest, d_cheapest_by_least, d__law_cup, d__law_roll, d__law_some, d__law_same, d__law_table, d__law_is_sound, d__law_every, d__law_costs, d_law]
def top (i : Nat) : Stmt := PySem.Challenge.pw_heapsswept_k77_whole_cheapest_tables.main.body.getD i (.Pass ⟨0, 0, 0, 0⟩)
def txt (f : Nat) : Stmt := top (([17, 18, 19, 20, 21, 22, 23, 24, 28, 31, 32, 33, 34, 38, 39, 40, 41, 42, 43, 44, 45, 47, 48, 49, 50, 51, 52, 53, 54, 55] : List Nat).getD f 0)
def bad (G : List (Str × D)) (ds : List Fd) : List Nat := (List.range ds.length).filter fun f => !(match ds[f]? with
  | some d => d.okB G ds (txt f)
  | none => true)
end LW

set_option maxRecDepth 100000
namespace LW
open PySem PySem.Spec PyProof.Rows L2 Ev
abbrev P : List Df := psOf ds
theorem u_is_tuple_of {n : Nat} {c : Cu} {a0 a1 a2 : D} : callN false P (n + 1) n_is_tuple_of [a0, a1, a2] c = retO (ex (callN false P n) s_is_tuple_of [some a0, some a1, some a2] c) := call_u (df := ⟨3, 3, s_is_tuple_of⟩) rfl rfl rfl
theorem u_fits_whole {n : Nat} {c : Cu} {a0 a1 a2 : D} : callN false P (n + 1) n_fits_whole [a0, a1, a2] c = retO (ex (callN false P n) s_fits_whole [some a0, some a1, some a2] c) := call_u (df := ⟨3, 3, s_fits_whole⟩) rfl rfl rfl
theorem u_top_of {n : Nat} {c : Cu} {a0 : D} : callN false P (n + 1) n_top_of [a0] c = retO (ex (callN false P n) s_top_of [some a0] c) := call_u (df := ⟨1, 1, s_top_of⟩) rfl rfl rfl
theorem u_fits_table {n : Nat} {c : Cu} {a0 : D} : callN false P (n + 1) n_fits_table [a0] c = retO (ex (callN false P n) s_fits_table [some a0, none, none] c) := call_u (df := ⟨1, 3, s_fits_table⟩) rfl rfl rfl
theorem u_tables_in {n : Nat} {c : Cu} : callN false P (n + 1) n_tables_in [] c = retO (ex (callN false P n) s_tables_in [none, none, none, none] c) := call_u (df := ⟨0, 4, s_tables_in⟩) rfl rfl rfl
theorem u_does_no_less_in {n : Nat} {c : Cu} {a0 a1 : D} : callN false P (n + 1) n_does_no_less_in [a0, a1] c = retO (ex (callN false P n) s_does_no_less_in [some a0, some a1, none, none, none] c) := call_u (df := ⟨2, 5, s_does_no_less_in⟩) rfl rfl rfl
theorem u_need_table {n : Nat} {c : Cu} {a0 : D} : callN false P (n + 1) n_need_table [a0] c = retO (ex (callN false P n) s_need_table [some a0] c) := call_u (df := ⟨1, 1, s_need_table⟩) rfl rfl rfl
theorem u_does_no_less {n : Nat} {c : Cu} {a0 a1 : D} : callN false P (n + 1) n_does_no_less [a0, a1] c = retO (ex (callN false P n) s_does_no_less [some a0, some a1] c) := call_u (df := ⟨2, 2, s_does_no_less⟩) rfl rfl rfl
theorem u_words_in {n : Nat} {c : Cu} {a0 : D} : callN false P (n + 1) n_words_in [a0] c = retO (ex (callN false P n) s_words_in [some a0, none, none, none, none, none] c) := call_u (df := ⟨1, 6, s_words_in⟩) rfl rfl rfl
theorem u_is_sound_in {n : Nat} {c : Cu} {a0 : D} : callN false P (n + 1) n_is_sound_in [a0] c = retO (ex (callN false P n) s_is_sound_in [some a0] c) := call_u (df := ⟨1, 1, s_is_sound_in⟩) rfl rfl rfl
theorem u_reason_in {n : Nat} {c : Cu} {a0 : D} : callN false P (n + 1) n_reason_in [a0] c = retO (ex (callN false P n) s_reason_in [some a0] c) := call_u (df := ⟨1, 1, s_reason_in⟩) rfl rfl rfl
theorem u_reason_of {n : Nat} {c : Cu} {a0 : D} : callN false P (n + 1) n_reason_of [a0] c = retO (ex (callN false P n) s_reason_of [some a0] c) := call_u (df := ⟨1, 1, s_reason_of⟩) rfl rfl rfl
theorem u_needed_words {n : Nat} {c : Cu} {a0 : D} : callN false P (n + 1) n_needed_words [a0] c = retO (ex (callN false P n) s_needed_words [some a0, none, none] c) := call_u (df := ⟨1, 3, s_needed_words⟩) rfl rfl rfl
theorem u_fits_costs {n : Nat} {c : Cu} {a0 : D} : callN false P (n + 1) n_fits_costs [a0] c = retO (ex (callN false P n) s_fits_costs [some a0, none, none, none] c) := call_u (df := ⟨1, 4, s_fits_costs⟩) rfl rfl rfl
theorem u_cost_in {n : Nat} {c : Cu} {a0 a1 : D} : callN false P (n + 1) n_cost_in [a0, a1] c = retO (ex (callN false P n) s_cost_in [some a0, some a1, none, none] c) := call_u (df := ⟨2, 4, s_cost_in⟩) rfl rfl rfl
theorem u_least_table {n : Nat} {c : Cu} {a0 a1 : D} : callN false P (n + 1) n_least_table [a0, a1] c = retO (ex (callN false P n) s_least_table [some a0, some a1, none, none] c) := call_u (df := ⟨2, 4, s_least_table⟩) rfl rfl rfl
theorem u_need_costs {n : Nat} {c : Cu} {a0 : D} : callN false P (n + 1) n_need_costs [a0] c = retO (ex (callN false P n) s_need_costs [some a0] c) := call_u (df := ⟨1, 1, s_need_costs⟩) rfl rfl rfl
theorem u_least_tables {n : Nat} {c : Cu} : callN false P (n + 1) n_least_tables [] c = retO (ex (callN false P n) s_least_tables [none] c) := call_u (df := ⟨0, 1, s_least_tables⟩) rfl rfl rfl
theorem u_cost_of {n : Nat} {c : Cu} {a0 a1 : D} : callN false P (n + 1) n_cost_of [a0, a1] c = retO (ex (callN false P n) s_cost_of [some a0, some a1] c) := call_u (df := ⟨2, 2, s_cost_of⟩) rfl rfl rfl
theorem u_cheapest {n : Nat} {c : Cu} {a0 : D} : callN false P (n + 1) n_cheapest [a0] c = retO (ex (callN false P n) s_cheapest [some a0, none, none, none] c) := call_u (df := ⟨1, 4, s_cheapest⟩) rfl rfl rfl
theorem u_cheapest_by_least {n : Nat} {c : Cu} {a0 : D} : callN false P (n + 1) n_cheapest_by_least [a0] c = retO (ex (callN false P n) s_cheapest_by_least [some a0, none, none] c) := call_u (df := ⟨1, 3, s_cheapest_by_least⟩) rfl rfl rfl
theorem u__law_cup {n : Nat} {c : Cu} {a0 : D} : callN false P (n + 1) n__law_cup [a0] c = retO (ex (callN false P n) s__law_cup [some a0, none] c) := call_u (df := ⟨1, 2, s__law_cup⟩) rfl rfl rfl
theorem u__law_roll {n : Nat} {c : Cu} {a0 a1 : D} : callN false P (n + 1) n__law_roll [a0, a1] c = retO (ex (callN false P n) s__law_roll [some a0, some a1, none, none] c) := call_u (df := ⟨2, 4, s__law_roll⟩) rfl rfl rfl
theorem u__law_some {n : Nat} {c : Cu} {a0 a1 : D} : callN false P (n + 1) n__law_some [a0, a1] c = retO (ex (callN false P n) s__law_some [some a0, some a1] c) := call_u (df := ⟨2, 2, s__law_some⟩) rfl rfl rfl
theorem u__law_same {n : Nat} {c : Cu} {a0 a1 : D} : callN false P (n + 1) n__law_same [a0, a1] c = retO (ex (callN false P n) s__law_same [some a0, some a1, none] c) := call_u (df := ⟨2, 3, s__law_same⟩) rfl rfl rfl
theorem u__law_table {n : Nat} {c : Cu} {a0 : D} : callN false P (n + 1) n__law_table [a0] c = retO (ex (callN false P n) s__law_table [some a0, none, none, none, none] c) := call_u (df := ⟨1, 5, s__law_table⟩) rfl rfl rfl
theorem u__law_is_sound {n : Nat} {c : Cu} {a0 : D} : callN false P (n + 1) n__law_is_sound [a0] c = retO (ex (callN false P n) s__law_is_sound [some a0, none, none, none, none, none, none, none] c) := call_u (df := ⟨1, 8, s__law_is_sound⟩) rfl rfl rfl
theorem u__law_every {n : Nat} {c : Cu} : callN false P (n + 1) n__law_every [] c = retO (ex (callN false P n) s__law_every [none, none, none, none, none] c) := call_u (df := ⟨0, 5, s__law_every⟩) rfl rfl rfl
theorem u__law_costs {n : Nat} {c : Cu} {a0 : D} : callN false P (n + 1) n__law_costs [a0] c = retO (ex (callN false P n) s__law_costs [some a0, none, none, none, none] c) := call_u (df := ⟨1, 5, s__law_costs⟩) rfl rfl rfl
theorem u_law {n : Nat} {c : Cu} {a0 : D} : callN false P (n + 1) n_law [a0] c = retO (ex (callN false P n) s_law [some a0, none, none, none, none, none, none, none, none, none, none, none] c) := call_u (df := ⟨1, 12, s_law⟩) rfl rfl rfl
theorem ok_roll {n : Nat} {c : Cu} (hc : Cok c) {m : Int} (hm : 0 < m ∧ m < 1073741824) : Ok (callN false P (n + 1) n__law_roll [.cup, .int m] c) fun d c => (∃ r : Nat, (r : Int) < m ∧ d = .int (r : Int)) ∧ Cok c := by
  obtain ⟨r, c', e, h0, h1, h2⟩ := roll_ok (P := P) (f := n__law_roll) (n := n) (al := false) (a := 32869) (b := 9391) (m1 := 2147372467) (k := 1061) (m2 := 2147483059) (q := 2011) rfl (by decide) (by decide) (by decide) (by decide) hc hm
  obtain ⟨k, rfl⟩ := Int.eq_ofNat_of_zero_le h0
  exact ⟨_, _, e, ⟨k, h1, rfl⟩, h2⟩
theorem ok_cup {n : Nat} {ns : List Int} (hn : ns.length ≤ 1000) : Ok (callN false P (n + 1) n__law_cup [.scr ns] none) fun d c => d = .cup ∧ Cok c := by
  obtain ⟨c', h, k⟩ := cup_ok (P := P) (f := n__law_cup) (n := n) (al := false) (a := 1409) (b := 5237) (m := 2077485299) (d := 541) (t := 613) rfl (by decide) (by decide) (by decide) hn
  exact ⟨_, _, h, rfl, k⟩
end LW

set_option maxRecDepth 100000
set_option maxHeartbeats 0
namespace LW
open PySem PySem.Spec PyProof.Rows L2 Ev
open Enc (enc)
theorem map_ext {α β γ : Type} {F : α → γ} {G : β → γ} {s : α → β} {l : List α} (h : l.map F = (l.map s).map G) : ∀ t ∈ l, F t = G (s t) := by
  rw [List.map_map] at h
  exact List.map_inj_left.mp h
def isT (d : D) (lo hi : Int) : Bool := match d with
  | .tup xs => decide (lo ≤ xs.length) && decide ((xs.length : Int) ≤ hi)
  | _ => false
def fitsB (d : D) (lo hi : Int) : Bool := match d with
  | .int i => decide (lo ≤ i) && decide (i ≤ hi)
  | _ => false
theorem isT_enc {α : Type} [Enc α] {xs : List α} {lo hi : Int} : isT (enc xs) lo hi = (decide (lo ≤ xs.length) && decide ((xs.length : Int) ≤ hi)) := by
  show (decide (lo ≤ ((xs.map enc).length : Int)) && decide (((xs.map enc).length : Int) ≤ hi)) = _
  rw [List.length_map]
theorem fitsB_int {i lo hi : Int} : fitsB (.int i) lo hi = (decide (lo ≤ i) && decide (i ≤ hi)) := rfl
theorem c_is_tuple_of {n : Nat} {c : Cu} {d : D} {lo hi : Int} (h : d.pl = true) : callN false P (n + 1) n_is_tuple_of [d, .int lo, .int hi] c = .ok (.bl (isT d lo hi)) c := by
  rw [u_is_tuple_of, s_is_tuple_of]
  cases d with
  | tup xs => simp -implicitDefEqProofs (disch := first | assumption | decide | omega | (simp only [List.length_map, List.length_take, List.length_drop, List.length_set, List.length_reverse, List.length_range, List.length_zip, List.length_append, List.length_cons, List.length_nil]; omega) | ((try simp only [List.length_map]); refine Nat.le_trans (List.length_filter_le _ _) ?_; first | assumption | omega | (simp only [List.length_map, List.length_take, List.length_drop, List.length_set, List.length_reverse, List.length_range, List.length_zip, List.length_append, List.length_cons, List.length_nil]; omega) | (refine Nat.le_trans (List.length_filter_le _ _) ?_; first | assumption | omega | (simp only [List.length_map, List.length_take, List.length_drop, List.length_set, List.length_reverse, List.length_range, List.length_zip, List.length_append, List.length_cons, List.length_nil]; omega))) | (repeat (first | exact sm_int | exact sm_bl | exact sm_non | assumption | exact sm_nil | refine sm_cons ?_ ?_ (by simp)))) only [w_var, w_cst, w_gl, w_tup, w_lst, w_op2, w_neg, w_nt, w_ife, w_cmp, w_chn, w_ix, w_sl, w_noe, Ev.w_rev, w_lz, w_call, w_calln, w_callf, w_bf, w_isi, w_and, w_or, w_and1, w_and2, w_or1, w_or2, w_lc, w_s0, w_s1, w_itE, w_itR, w_itN, w_itZ, zipO_eq, w_el, w_gn, w_tn0, w_tn1, w_tp0, w_tp1, gK_app, gQ_app, w_b0, w_b1, w_bp, w_bn, w_bt, w_wp0, w_wp1, x_nil, x_cons, x_pass, x_set, x_seto, x_asg, x_ret, x_ex, x_ife, x_for, x_whS, loopL_consB, Ev.loopL_nil, x_app, x_auga, x_ext, x_step_n, x_step_t, xK_app, tst_bl, asB_bl, ntO_bl, negO_int, optB_some, optO_some, retO_rt, retO_nx, retO_ite, nxt_nx, nxt_rt, nxtE_some, bd_ok, bd_ite, bd_assoc, ite_bl, Ev.ite_int, ite_ite, Bool.and_eq_true, Bool.or_eq_true,  if_tl, if_fr, if_fl, if_tr, dec_b,  of_some, Option.map_some, Option.bind_some, gv0, gvS, List.set_cons_zero, List.set_cons_succ, appO_lst, putv_some, oi_noe, oi_var, oi_cst, oi_gl, oi_op2, oi_neg, oi_ix, oi_bf, List.map_cons, List.map_nil, List.cons_append, List.nil_append, List.replicate_zero, List.replicate_succ, Bool.not_true, Bool.not_false, if_true, if_false, Bool.false_eq_true, reduceIte, decide_eq_true_eq, Bool.not_eq_true', decide_eq_false_iff_not, Bool.true_eq_false, eq_self, not_true_eq_false, not_false_eq_true, decide_true, decide_false, Bool.false_or, Bool.true_or, Bool.or_false, Bool.or_true, Bool.true_and, Bool.false_and, Bool.and_true, Bool.and_false, List.length_map, w_boE, w_boT, w_boI, ne_eq, bf_min2, bf_max2, Int.natCast_inj, Int.ofNat_le, Int.ofNat_lt, bf_sumN, bf_minN, lzEE, lzLE, lzLL, isBt, isBf, isnBt, isnBf, innT, innL, ninT, ninL, tupE, Int.reduceToNat, map_encN, map_idf, eqNilE, neNilE, eqE, neE, eqEL, neEL, ixEn, ixLn, addLE, addE, addTE, addET, opv_addL, opv_addT, cut_take, cut_drop, toNat_s, eqNil0, neNil0, cut_drop1, cut_takeI, cut_dropI, rngI, Int.toNat_natCast, innI1, innI2, innI3, enc_int, enc_nat, enc_bool, cov_lt, cov_le, cov_gt, cov_ge, cov_eqI, cov_neI, cov_isN, cov_isnN, opv_addI, opv_subI, itemsE, itemsL, itemsT, lenE, lenL, lenT, tupleL, tupleE, listE, listL, slE, slL, enumE, zipE, loopL_typed, loopL_rng, loopM_map, loopM_filt, loopM_flat, loopR_map, loopR_filt, loopR_flat, lcEnd_ok, eqOn, eqnO, neOn, eqOi, eqiO, neOi, innTn, innLn, ninTn, ninLn, innTo, innLo, ninTo, ninLo, innTi, innLi, bf_all, any_T, bf_sum, isNon_opt, isNon_nn, isNon_int, isNon_tup, tyv, isT]
  | _ => first | rfl | cases h
theorem c_fits_whole {n : Nat} {c : Cu} {d : D} {lo hi : Int} (h : d.pl = true) : callN false P (n + 1) n_fits_whole [d, .int lo, .int hi] c = .ok (.bl (fitsB d lo hi)) c := by
  rw [u_fits_whole, s_fits_whole]
  cases d with
  | int i => simp -implicitDefEqProofs (disch := first | assumption | decide | omega | (simp only [List.length_map, List.length_take, List.length_drop, List.length_set, List.length_reverse, List.length_range, List.length_zip, List.length_append, List.length_cons, List.length_nil]; omega) | ((try simp only [List.length_map]); refine Nat.le_trans (List.length_filter_le _ _) ?_; first | assumption | omega | (simp only [List.length_map, List.length_take, List.length_drop, List.length_set, List.length_reverse, List.length_range, List.length_zip, List.length_append, List.length_cons, List.length_nil]; omega) | (refine Nat.le_trans (List.length_filter_le _ _) ?_; first | assumption | omega | (simp only [List.length_map, List.length_take, List.length_drop, List.length_set, List.length_reverse, List.length_range, List.length_zip, List.length_append, List.length_cons, List.length_nil]; omega))) | (repeat (first | exact sm_int | exact sm_bl | exact sm_non | assumption | exact sm_nil | refine sm_cons ?_ ?_ (by simp)))) only [w_var, w_cst, w_gl, w_tup, w_lst, w_op2, w_neg, w_nt, w_ife, w_cmp, w_chn, w_ix, w_sl, w_noe, Ev.w_rev, w_lz, w_call, w_calln, w_callf, w_bf, w_isi, w_and, w_or, w_and1, w_and2, w_or1, w_or2, w_lc, w_s0, w_s1, w_itE, w_itR, w_itN, w_itZ, zipO_eq, w_el, w_gn, w_tn0, w_tn1, w_tp0, w_tp1, gK_app, gQ_app, w_b0, w_b1, w_bp, w_bn, w_bt, w_wp0, w_wp1, x_nil, x_cons, x_pass, x_set, x_seto, x_asg, x_ret, x_ex, x_ife, x_for, x_whS, loopL_consB, Ev.loopL_nil, x_app, x_auga, x_ext, x_step_n, x_step_t, xK_app, tst_bl, asB_bl, ntO_bl, negO_int, optB_some, optO_some, retO_rt, retO_nx, retO_ite, nxt_nx, nxt_rt, nxtE_some, bd_ok, bd_ite, bd_assoc, ite_bl, Ev.ite_int, ite_ite, Bool.and_eq_true, Bool.or_eq_true,  if_tl, if_fr, if_fl, if_tr, dec_b,  of_some, Option.map_some, Option.bind_some, gv0, gvS, List.set_cons_zero, List.set_cons_succ, appO_lst, putv_some, oi_noe, oi_var, oi_cst, oi_gl, oi_op2, oi_neg, oi_ix, oi_bf, List.map_cons, List.map_nil, List.cons_append, List.nil_append, List.replicate_zero, List.replicate_succ, Bool.not_true, Bool.not_false, if_true, if_false, Bool.false_eq_true, reduceIte, decide_eq_true_eq, Bool.not_eq_true', decide_eq_false_iff_not, Bool.true_eq_false, eq_self, not_true_eq_false, not_false_eq_true, decide_true, decide_false, Bool.false_or, Bool.true_or, Bool.or_false, Bool.or_true, Bool.true_and, Bool.false_and, Bool.and_true, Bool.and_false, List.length_map, w_boE, w_boT, w_boI, ne_eq, bf_min2, bf_max2, Int.natCast_inj, Int.ofNat_le, Int.ofNat_lt, bf_sumN, bf_minN, lzEE, lzLE, lzLL, isBt, isBf, isnBt, isnBf, innT, innL, ninT, ninL, tupE, Int.reduceToNat, map_encN, map_idf, eqNilE, neNilE, eqE, neE, eqEL, neEL, ixEn, ixLn, addLE, addE, addTE, addET, opv_addL, opv_addT, cut_take, cut_drop, toNat_s, eqNil0, neNil0, cut_drop1, cut_takeI, cut_dropI, rngI, Int.toNat_natCast, innI1, innI2, innI3, enc_int, enc_nat, enc_bool, cov_lt, cov_le, cov_gt, cov_ge, cov_eqI, cov_neI, cov_isN, cov_isnN, opv_addI, opv_subI, itemsE, itemsL, itemsT, lenE, lenL, lenT, tupleL, tupleE, listE, listL, slE, slL, enumE, zipE, loopL_typed, loopL_rng, loopM_map, loopM_filt, loopM_flat, loopR_map, loopR_filt, loopR_flat, lcEnd_ok, eqOn, eqnO, neOn, eqOi, eqiO, neOi, innTn, innLn, ninTn, ninLn, innTo, innLo, ninTo, ninLo, innTi, innLi, bf_all, any_T, bf_sum, isNon_opt, isNon_nn, isNon_int, isNon_tup, tyv, fitsB]
  | _ => first | rfl | cases h
def topN (i : Nat) : Nat := if i = 5 ∨ i = 6 then 2 else 1
theorem c_top_of {n : Nat} {c : Cu} {i : Nat} : callN false P (n + 1) n_top_of [.int (i : Int)] c = .ok (.int (topN i : Int)) c := by
  rw [u_top_of, s_top_of]
  simp -implicitDefEqProofs (disch := first | assumption | decide | omega | (simp only [List.length_map, List.length_take, List.length_drop, List.length_set, List.length_reverse, List.length_range, List.length_zip, List.length_append, List.length_cons, List.length_nil]; omega) | ((try simp only [List.length_map]); refine Nat.le_trans (List.length_filter_le _ _) ?_; first | assumption | omega | (simp only [List.length_map, List.length_take, List.length_drop, List.length_set, List.length_reverse, List.length_range, List.length_zip, List.length_append, List.length_cons, List.length_nil]; omega) | (refine Nat.le_trans (List.length_filter_le _ _) ?_; first | assumption | omega | (simp only [List.length_map, List.length_take, List.length_drop, List.length_set, List.length_reverse, List.length_range, List.length_zip, List.length_append, List.length_cons, List.length_nil]; omega))) | (repeat (first | exact sm_int | exact sm_bl | exact sm_non | assumption | exact sm_nil | refine sm_cons ?_ ?_ (by simp)))) only [w_var, w_cst, w_gl, w_tup, w_lst, w_op2, w_neg, w_nt, w_ife, w_cmp, w_chn, w_ix, w_sl, w_noe, Ev.w_rev, w_lz, w_call, w_calln, w_callf, w_bf, w_isi, w_and, w_or, w_and1, w_and2, w_or1, w_or2, w_lc, w_s0, w_s1, w_itE, w_itR, w_itN, w_itZ, zipO_eq, w_el, w_gn, w_tn0, w_tn1, w_tp0, w_tp1, gK_app, gQ_app, w_b0, w_b1, w_bp, w_bn, w_bt, w_wp0, w_wp1, x_nil, x_cons, x_pass, x_set, x_seto, x_asg, x_ret, x_ex, x_ife, x_for, x_whS, loopL_consB, Ev.loopL_nil, x_app, x_auga, x_ext, x_step_n, x_step_t, xK_app, tst_bl, asB_bl, ntO_bl, negO_int, optB_some, optO_some, retO_rt, retO_nx, retO_ite, nxt_nx, nxt_rt, nxtE_some, bd_ok, bd_ite, bd_assoc, ite_bl, Ev.ite_int, ite_ite, Bool.and_eq_true, Bool.or_eq_true,  if_tl, if_fr, if_fl, if_tr, dec_b,  of_some, Option.map_some, Option.bind_some, gv0, gvS, List.set_cons_zero, List.set_cons_succ, appO_lst, putv_some, oi_noe, oi_var, oi_cst, oi_gl, oi_op2, oi_neg, oi_ix, oi_bf, List.map_cons, List.map_nil, List.cons_append, List.nil_append, List.replicate_zero, List.replicate_succ, Bool.not_true, Bool.not_false, if_true, if_false, Bool.false_eq_true, reduceIte, decide_eq_true_eq, Bool.not_eq_true', decide_eq_false_iff_not, Bool.true_eq_false, eq_self, not_true_eq_false, not_false_eq_true, decide_true, decide_false, Bool.false_or, Bool.true_or, Bool.or_false, Bool.or_true, Bool.true_and, Bool.false_and, Bool.and_true, Bool.and_false, List.length_map, w_boE, w_boT, w_boI, ne_eq, bf_min2, bf_max2, Int.natCast_inj, Int.ofNat_le, Int.ofNat_lt, bf_sumN, bf_minN, lzEE, lzLE, lzLL, isBt, isBf, isnBt, isnBf, innT, innL, ninT, ninL, tupE, Int.reduceToNat, map_encN, map_idf, eqNilE, neNilE, eqE, neE, eqEL, neEL, ixEn, ixLn, addLE, addE, addTE, addET, opv_addL, opv_addT, cut_take, cut_drop, toNat_s, eqNil0, neNil0, cut_drop1, cut_takeI, cut_dropI, rngI, Int.toNat_natCast, innI1, innI2, innI3, enc_int, enc_nat, enc_bool, cov_lt, cov_le, cov_gt, cov_ge, cov_eqI, cov_neI, cov_isN, cov_isnN, opv_addI, opv_subI, itemsE, itemsL, itemsT, lenE, lenL, lenT, tupleL, tupleE, listE, listL, slE, slL, enumE, zipE, loopL_typed, loopL_rng, loopM_map, loopM_filt, loopM_flat, loopR_map, loopR_filt, loopR_flat, lcEnd_ok, eqOn, eqnO, neOn, eqOi, eqiO, neOi, innTn, innLn, ninTn, ninLn, innTo, innLo, ninTo, ninLo, innTi, innLi, bf_all, any_T, bf_sum, isNon_opt, isNon_nn, isNon_int, isNon_tup, topN]
  split <;> split <;> first | rfl | omega
/-- a tuple of things that are no dicts and no cups, not too long -/
def plL (d : D) : Prop := d.pl = true ∧ ∀ xs, d = .tup xs → xs.length ≤ 100 ∧ ∀ x ∈ xs, x.pl = true
def tabB (d : D) : Bool := match d with
  | .tup xs => decide (xs.length = 7) && ((List.range xs.length).all fun i => fitsB (at_ xs i) 0 (topN i))
  | _ => false
theorem isT77 {xs : List D} : isT (.tup xs) 7 7 = decide (xs.length = 7) := by
  unfold isT
  rw [Bool.eq_iff_iff]
  simp
  omega
theorem c_fits_table {n : Nat} {c : Cu} {d : D} (h : plL d) : callN false P (n + 2) n_fits_table [d] c = .ok (.bl (tabB d)) c := by
  rw [u_fits_table, s_fits_table]
  simp -implicitDefEqProofs (disch := first | assumption | decide | omega | (simp only [List.length_map, List.length_take, List.length_drop, List.length_set, List.length_reverse, List.length_range, List.length_zip, List.length_append, List.length_cons, List.length_nil]; omega) | ((try simp only [List.length_map]); refine Nat.le_trans (List.length_filter_le _ _) ?_; first | assumption | omega | (simp only [List.length_map, List.length_take, List.length_drop, List.length_set, List.length_reverse, List.length_range, List.length_zip, List.length_append, List.length_cons, List.length_nil]; omega) | (refine Nat.le_trans (List.length_filter_le _ _) ?_; first | assumption | omega | (simp only [List.length_map, List.length_take, List.length_drop, List.length_set, List.length_reverse, List.length_range, List.length_zip, List.length_append, List.length_cons, List.length_nil]; omega))) | (repeat (first | exact sm_int | exact sm_bl | exact sm_non | assumption | exact sm_nil | refine sm_cons ?_ ?_ (by simp)))) only [w_var, w_cst, w_gl, w_tup, w_lst, w_op2, w_neg, w_nt, w_ife, w_cmp, w_chn, w_ix, w_sl, w_noe, Ev.w_rev, w_lz, w_call, w_calln, w_callf, w_bf, w_isi, w_and, w_or, w_and1, w_and2, w_or1, w_or2, w_lc, w_s0, w_s1, w_itE, w_itR, w_itN, w_itZ, zipO_eq, w_el, w_gn, w_tn0, w_tn1, w_tp0, w_tp1, gK_app, gQ_app, w_b0, w_b1, w_bp, w_bn, w_bt, w_wp0, w_wp1, x_nil, x_cons, x_pass, x_set, x_seto, x_asg, x_ret, x_ex, x_ife, x_for, x_whS, loopL_consB, Ev.loopL_nil, x_app, x_auga, x_ext, x_step_n, x_step_t, xK_app, tst_bl, asB_bl, ntO_bl, negO_int, optB_some, optO_some, retO_rt, retO_nx, retO_ite, nxt_nx, nxt_rt, nxtE_some, bd_ok, bd_ite, bd_assoc, ite_bl, Ev.ite_int, ite_ite, Bool.and_eq_true, Bool.or_eq_true,  if_tl, if_fr, if_fl, if_tr, dec_b,  of_some, Option.map_some, Option.bind_some, gv0, gvS, List.set_cons_zero, List.set_cons_succ, appO_lst, putv_some, oi_noe, oi_var, oi_cst, oi_gl, oi_op2, oi_neg, oi_ix, oi_bf, List.map_cons, List.map_nil, List.cons_append, List.nil_append, List.replicate_zero, List.replicate_succ, Bool.not_true, Bool.not_false, if_true, if_false, Bool.false_eq_true, reduceIte, decide_eq_true_eq, Bool.not_eq_true', decide_eq_false_iff_not, Bool.true_eq_false, eq_self, not_true_eq_false, not_false_eq_true, decide_true, decide_false, Bool.false_or, Bool.true_or, Bool.or_false, Bool.or_true, Bool.true_and, Bool.false_and, Bool.and_true, Bool.and_false, List.length_map, w_boE, w_boT, w_boI, ne_eq, bf_min2, bf_max2, Int.natCast_inj, Int.ofNat_le, Int.ofNat_lt, bf_sumN, bf_minN, lzEE, lzLE, lzLL, isBt, isBf, isnBt, isnBf, innT, innL, ninT, ninL, tupE, Int.reduceToNat, map_encN, map_idf, eqNilE, neNilE, eqE, neE, eqEL, neEL, ixEn, ixLn, addLE, addE, addTE, addET, opv_addL, opv_addT, cut_take, cut_drop, toNat_s, eqNil0, neNil0, cut_drop1, cut_takeI, cut_dropI, rngI, Int.toNat_natCast, innI1, innI2, innI3, enc_int, enc_nat, enc_bool, cov_lt, cov_le, cov_gt, cov_ge, cov_eqI, cov_neI, cov_isN, cov_isnN, opv_addI, opv_subI, itemsE, itemsL, itemsT, lenE, lenL, lenT, tupleL, tupleE, listE, listL, slE, slL, enumE, zipE, loopL_typed, loopL_rng, loopM_map, loopM_filt, loopM_flat, loopR_map, loopR_filt, loopR_flat, lcEnd_ok, eqOn, eqnO, neOn, eqOi, eqiO, neOi, innTn, innLn, ninTn, ninLn, innTo, innLo, ninTo, ninLo, innTi, innLi, bf_all, any_T, bf_sum, isNon_opt, isNon_nn, isNon_int, isNon_tup, c_is_tuple_of h.1]
  cases d with
  | tup xs =>
    obtain ⟨h1, h2⟩ := h.2 xs rfl
    have h3 : ∀ i, (at_ xs i).pl = true := at_all h2 rfl
    simp -implicitDefEqProofs (disch := first | assumption | decide | omega | (simp only [List.length_map, List.length_take, List.length_drop, List.length_set, List.length_reverse, List.length_range, List.length_zip, List.length_append, List.length_cons, List.length_nil]; omega) | ((try simp only [List.length_map]); refine Nat.le_trans (List.length_filter_le _ _) ?_; first | assumption | omega | (simp only [List.length_map, List.length_take, List.length_drop, List.length_set, List.length_reverse, List.length_range, List.length_zip, List.length_append, List.length_cons, List.length_nil]; omega) | (refine Nat.le_trans (List.length_filter_le _ _) ?_; first | assumption | omega | (simp only [List.length_map, List.length_take, List.length_drop, List.length_set, List.length_reverse, List.length_range, List.length_zip, List.length_append, List.length_cons, List.length_nil]; omega))) | (repeat (first | exact sm_int | exact sm_bl | exact sm_non | assumption | exact sm_nil | refine sm_cons ?_ ?_ (by simp)))) only [w_var, w_cst, w_gl, w_tup, w_lst, w_op2, w_neg, w_nt, w_ife, w_cmp, w_chn, w_ix, w_sl, w_noe, Ev.w_rev, w_lz, w_call, w_calln, w_callf, w_bf, w_isi, w_and, w_or, w_and1, w_and2, w_or1, w_or2, w_lc, w_s0, w_s1, w_itE, w_itR, w_itN, w_itZ, zipO_eq, w_el, w_gn, w_tn0, w_tn1, w_tp0, w_tp1, gK_app, gQ_app, w_b0, w_b1, w_bp, w_bn, w_bt, w_wp0, w_wp1, x_nil, x_cons, x_pass, x_set, x_seto, x_asg, x_ret, x_ex, x_ife, x_for, x_whS, loopL_consB, Ev.loopL_nil, x_app, x_auga, x_ext, x_step_n, x_step_t, xK_app, tst_bl, asB_bl, ntO_bl, negO_int, optB_some, optO_some, retO_rt, retO_nx, retO_ite, nxt_nx, nxt_rt, nxtE_some, bd_ok, bd_ite, bd_assoc, ite_bl, Ev.ite_int, ite_ite, Bool.and_eq_true, Bool.or_eq_true,  if_tl, if_fr, if_fl, if_tr, dec_b,  of_some, Option.map_some, Option.bind_some, gv0, gvS, List.set_cons_zero, List.set_cons_succ, appO_lst, putv_some, oi_noe, oi_var, oi_cst, oi_gl, oi_op2, oi_neg, oi_ix, oi_bf, List.map_cons, List.map_nil, List.cons_append, List.nil_append, List.replicate_zero, List.replicate_succ, Bool.not_true, Bool.not_false, if_true, if_false, Bool.false_eq_true, reduceIte, decide_eq_true_eq, Bool.not_eq_true', decide_eq_false_iff_not, Bool.true_eq_false, eq_self, not_true_eq_false, not_false_eq_true, decide_true, decide_false, Bool.false_or, Bool.true_or, Bool.or_false, Bool.or_true, Bool.true_and, Bool.false_and, Bool.and_true, Bool.and_false, List.length_map, w_boE, w_boT, w_boI, ne_eq, bf_min2, bf_max2, Int.natCast_inj, Int.ofNat_le, Int.ofNat_lt, bf_sumN, bf_minN, lzEE, lzLE, lzLL, isBt, isBf, isnBt, isnBf, innT, innL, ninT, ninL, tupE, Int.reduceToNat, map_encN, map_idf, eqNilE, neNilE, eqE, neE, eqEL, neEL, ixEn, ixLn, addLE, addE, addTE, addET, opv_addL, opv_addT, cut_take, cut_drop, toNat_s, eqNil0, neNil0, cut_drop1, cut_takeI, cut_dropI, rngI, Int.toNat_natCast, innI1, innI2, innI3, enc_int, enc_nat, enc_bool, cov_lt, cov_le, cov_gt, cov_ge, cov_eqI, cov_neI, cov_isN, cov_isnN, opv_addI, opv_subI, itemsE, itemsL, itemsT, lenE, lenL, lenT, tupleL, tupleE, listE, listL, slE, slL, enumE, zipE, loopL_typed, loopL_rng, loopM_map, loopM_filt, loopM_flat, loopR_map, loopR_filt, loopR_flat, lcEnd_ok, eqOn, eqnO, neOn, eqOi, eqiO, neOi, innTn, innLn, ninTn, ninLn, innTo, innLo, ninTo, ninLo, innTi, innLi, bf_all, any_T, bf_sum, isNon_opt, isNon_nn, isNon_int, isNon_tup, enumD, isT77, c_top_of, c_fits_whole (h3 _)]
    simp [tabB, if_fr]
  | _ => rfl
theorem c_need_table {n : Nat} {c : Cu} {d : D} (h : plL d) (h2 : tabB d = true) : callN false P (n + 3) n_need_table [d] c = .ok .non c := by
  rw [u_need_table, s_need_table]
  simp -implicitDefEqProofs (disch := first | assumption | decide | omega | (simp only [List.length_map, List.length_take, List.length_drop, List.length_set, List.length_reverse, List.length_range, List.length_zip, List.length_append, List.length_cons, List.length_nil]; omega) | ((try simp only [List.length_map]); refine Nat.le_trans (List.length_filter_le _ _) ?_; first | assumption | omega | (simp only [List.length_map, List.length_take, List.length_drop, List.length_set, List.length_reverse, List.length_range, List.length_zip, List.length_append, List.length_cons, List.length_nil]; omega) | (refine Nat.le_trans (List.length_filter_le _ _) ?_; first | assumption | omega | (simp only [List.length_map, List.length_take, List.length_drop, List.length_set, List.length_reverse, List.length_range, List.length_zip, List.length_append, List.length_cons, List.length_nil]; omega))) | (repeat (first | exact sm_int | exact sm_bl | exact sm_non | assumption | exact sm_nil | refine sm_cons ?_ ?_ (by simp)))) only [w_var, w_cst, w_gl, w_tup, w_lst, w_op2, w_neg, w_nt, w_ife, w_cmp, w_chn, w_ix, w_sl, w_noe, Ev.w_rev, w_lz, w_call, w_calln, w_callf, w_bf, w_isi, w_and, w_or, w_and1, w_and2, w_or1, w_or2, w_lc, w_s0, w_s1, w_itE, w_itR, w_itN, w_itZ, zipO_eq, w_el, w_gn, w_tn0, w_tn1, w_tp0, w_tp1, gK_app, gQ_app, w_b0, w_b1, w_bp, w_bn, w_bt, w_wp0, w_wp1, x_nil, x_cons, x_pass, x_set, x_seto, x_asg, x_ret, x_ex, x_ife, x_for, x_whS, loopL_consB, Ev.loopL_nil, x_app, x_auga, x_ext, x_step_n, x_step_t, xK_app, tst_bl, asB_bl, ntO_bl, negO_int, optB_some, optO_some, retO_rt, retO_nx, retO_ite, nxt_nx, nxt_rt, nxtE_some, bd_ok, bd_ite, bd_assoc, ite_bl, Ev.ite_int, ite_ite, Bool.and_eq_true, Bool.or_eq_true,  if_tl, if_fr, if_fl, if_tr, dec_b,  of_some, Option.map_some, Option.bind_some, gv0, gvS, List.set_cons_zero, List.set_cons_succ, appO_lst, putv_some, oi_noe, oi_var, oi_cst, oi_gl, oi_op2, oi_neg, oi_ix, oi_bf, List.map_cons, List.map_nil, List.cons_append, List.nil_append, List.replicate_zero, List.replicate_succ, Bool.not_true, Bool.not_false, if_true, if_false, Bool.false_eq_true, reduceIte, decide_eq_true_eq, Bool.not_eq_true', decide_eq_false_iff_not, Bool.true_eq_false, eq_self, not_true_eq_false, not_false_eq_true, decide_true, decide_false, Bool.false_or, Bool.true_or, Bool.or_false, Bool.or_true, Bool.true_and, Bool.false_and, Bool.and_true, Bool.and_false, List.length_map, w_boE, w_boT, w_boI, ne_eq, bf_min2, bf_max2, Int.natCast_inj, Int.ofNat_le, Int.ofNat_lt, bf_sumN, bf_minN, lzEE, lzLE, lzLL, isBt, isBf, isnBt, isnBf, innT, innL, ninT, ninL, tupE, Int.reduceToNat, map_encN, map_idf, eqNilE, neNilE, eqE, neE, eqEL, neEL, ixEn, ixLn, addLE, addE, addTE, addET, opv_addL, opv_addT, cut_take, cut_drop, toNat_s, eqNil0, neNil0, cut_drop1, cut_takeI, cut_dropI, rngI, Int.toNat_natCast, innI1, innI2, innI3, enc_int, enc_nat, enc_bool, cov_lt, cov_le, cov_gt, cov_ge, cov_eqI, cov_neI, cov_isN, cov_isnN, opv_addI, opv_subI, itemsE, itemsL, itemsT, lenE, lenL, lenT, tupleL, tupleE, listE, listL, slE, slL, enumE, zipE, loopL_typed, loopL_rng, loopM_map, loopM_filt, loopM_flat, loopR_map, loopR_filt, loopR_flat, lcEnd_ok, eqOn, eqnO, neOn, eqOi, eqiO, neOi, innTn, innLn, ninTn, ninLn, innTo, innLo, ninTo, ninLo, innTi, innLi, bf_all, any_T, bf_sum, isNon_opt, isNon_nn, isNon_int, isNon_tup, c_fits_table h, h2]
/-- every table, in order -/
def rows : List Nat → List (List Nat)
  | [] => [[]]
  | m :: ms => (List.range (m + 1)).flatMap fun x => (rows ms).map (x :: ·)
def tabs : List (List Nat) := rows [1, 1, 1, 1, 1, 2, 2]
theorem c_tables_in {n : Nat} {c : Cu} : callN false P (n + 2) n_tables_in [] c = .ok (.lst (tabs.map enc)) c := by kernel_rfl
theorem c__law_every {n : Nat} {c : Cu} : callN false P (n + 1) n__law_every [] c = .ok (.lst (tabs.map enc)) c := by kernel_rfl
def sound (t : List Nat) : Bool := match t with
  | [o, w, h, l, a, f, z] => decide (z = 2) && ((decide (0 < f) && decide (o = 1)) || (decide (0 < f) && decide (l = 1)) || (decide (a = 1) && (decide (1 = w) || decide (1 = h))))
  | _ => false
theorem c_is_sound_in {n : Nat} {c : Cu} : ∀ t ∈ tabs, callN false P (n + 2) n_is_sound_in [enc t] c = Out.ok (D.bl (sound t)) c :=
  map_ext (F := fun t => callN false P (n + 2) n_is_sound_in [enc t] c) (G := fun b => Out.ok (D.bl b) c) (s := sound) (by kernel_rfl)
theorem c__law_is_sound {n : Nat} {c : Cu} : ∀ t ∈ tabs, callN false P (n + 1) n__law_is_sound [enc t] c = Out.ok (D.bl (sound t)) c :=
  map_ext (F := fun t => callN false P (n + 1) n__law_is_sound [enc t] c) (G := fun b => Out.ok (D.bl b) c) (s := sound) (by kernel_rfl)
end LW

set_option maxRecDepth 100000
set_option maxHeartbeats 0
namespace LW
open PySem PySem.Spec PyProof.Rows L2 Ev
open Enc (enc)
theorem same10 {n : Nat} {c : Cu} {d : D} (h : Sm 10 d) : callN false P (n + 11) n__law_same [d, d] c = .ok (.bl true) c := same_refl (f := n__law_same) rfl 10 d (n + 11) c h (by omega)
theorem ok_some {n : Nat} {c : Cu} (hc : Cok c) {xs : List D} (h0 : xs ≠ []) (h1 : xs.length < 1000000) : Ok (callN false P (n + 2) n__law_some [.cup, .lst xs] c) fun x c => x ∈ xs ∧ Cok c := by
  rw [u__law_some, s__law_some]
  have hl : 0 < xs.length := List.length_pos_iff.mpr h0
  refine Ok.u (Ok.ret_ ?_)
  simp -implicitDefEqProofs (disch := first | assumption | decide | omega | (simp only [List.length_map, List.length_take, List.length_drop, List.length_set, List.length_reverse, List.length_range, List.length_zip, List.length_append, List.length_cons, List.length_nil]; omega) | ((try simp only [List.length_map]); refine Nat.le_trans (List.length_filter_le _ _) ?_; first | assumption | omega | (simp only [List.length_map, List.length_take, List.length_drop, List.length_set, List.length_reverse, List.length_range, List.length_zip, List.length_append, List.length_cons, List.length_nil]; omega) | (refine Nat.le_trans (List.length_filter_le _ _) ?_; first | assumption | omega | (simp only [List.length_map, List.length_take, List.length_drop, List.length_set, List.length_reverse, List.length_range, List.length_zip, List.length_append, List.length_cons, List.length_nil]; omega))) | (repeat (first | exact sm_int | exact sm_bl | exact sm_non | assumption | exact sm_nil | refine sm_cons ?_ ?_ (by simp)))) only [w_var, w_cst, w_gl, w_tup, w_lst, w_op2, w_neg, w_nt, w_ife, w_cmp, w_chn, w_ix, w_sl, w_noe, Ev.w_rev, w_lz, w_call, w_calln, w_callf, w_bf, w_isi, w_and, w_or, w_and1, w_and2, w_or1, w_or2, w_lc, w_s0, w_s1, w_itE, w_itR, w_itN, w_itZ, zipO_eq, w_el, w_gn, w_tn0, w_tn1, w_tp0, w_tp1, gK_app, gQ_app, w_b0, w_b1, w_bp, w_bn, w_bt, w_wp0, w_wp1, x_nil, x_cons, x_pass, x_set, x_seto, x_asg, x_ret, x_ex, x_ife, x_for, x_whS, loopL_consB, Ev.loopL_nil, x_app, x_auga, x_ext, x_step_n, x_step_t, xK_app, tst_bl, asB_bl, ntO_bl, negO_int, optB_some, optO_some, retO_rt, retO_nx, retO_ite, nxt_nx, nxt_rt, nxtE_some, bd_ok, bd_ite, bd_assoc, ite_bl, Ev.ite_int, ite_ite, Bool.and_eq_true, Bool.or_eq_true,  if_tl, if_fr, if_fl, if_tr, dec_b,  of_some, Option.map_some, Option.bind_some, gv0, gvS, List.set_cons_zero, List.set_cons_succ, appO_lst, putv_some, oi_noe, oi_var, oi_cst, oi_gl, oi_op2, oi_neg, oi_ix, oi_bf, List.map_cons, List.map_nil, List.cons_append, List.nil_append, List.replicate_zero, List.replicate_succ, Bool.not_true, Bool.not_false, if_true, if_false, Bool.false_eq_true, reduceIte, decide_eq_true_eq, Bool.not_eq_true', decide_eq_false_iff_not, Bool.true_eq_false, eq_self, not_true_eq_false, not_false_eq_true, decide_true, decide_false, Bool.false_or, Bool.true_or, Bool.or_false, Bool.or_true, Bool.true_and, Bool.false_and, Bool.and_true, Bool.and_false, List.length_map, w_boE, w_boT, w_boI, ne_eq, bf_min2, bf_max2, Int.natCast_inj, Int.ofNat_le, Int.ofNat_lt, bf_sumN, bf_minN, lzEE, lzLE, lzLL, isBt, isBf, isnBt, isnBf, innT, innL, ninT, ninL, tupE, Int.reduceToNat, map_encN, map_idf, eqNilE, neNilE, eqE, neE, eqEL, neEL, ixEn, ixLn, addLE, addE, addTE, addET, opv_addL, opv_addT, cut_take, cut_drop, toNat_s, eqNil0, neNil0, cut_drop1, cut_takeI, cut_dropI, rngI, Int.toNat_natCast, innI1, innI2, innI3, enc_int, enc_nat, enc_bool, cov_lt, cov_le, cov_gt, cov_ge, cov_eqI, cov_neI, cov_isN, cov_isnN, opv_addI, opv_subI, itemsE, itemsL, itemsT, lenE, lenL, lenT, tupleL, tupleE, listE, listL, slE, slL, enumE, zipE, loopL_typed, loopL_rng, loopM_map, loopM_filt, loopM_flat, loopR_map, loopR_filt, loopR_flat, lcEnd_ok, eqOn, eqnO, neOn, eqOi, eqiO, neOi, innTn, innLn, ninTn, ninLn, innTo, innLo, ninTo, ninLo, innTi, innLi, bf_all, any_T, bf_sum, isNon_opt, isNon_nn, isNon_int, isNon_tup]
  refine Ok.bd (ok_roll hc ⟨by omega, by omega⟩) ?_
  rintro _ c ⟨⟨r, hr, rfl⟩, hc⟩
  have hr : r < xs.length := by omega
  have : ixv (.lst xs) (.int (r : Int)) c = some xs[r] := by
    show atI xs _ = _
    rw [Ev.atI_nat hr, List.getElem?_eq_getElem hr]
  rw [this]
  exact ⟨_, _, rfl, List.getElem_mem hr, hc⟩
theorem ok_rolls {n : Nat} {c : Cu} (hc : Cok c) {m : Int} (hm : 0 < m ∧ m < 1073741824) {k : Nat} (hl : k ≤ 1000) : Ok (lcEnd (loopR k (fun _ _ c => (callN false P (n + 1) n__law_roll [.cup, .int m] c).bd fun d c => .ok [d] c) c)) fun d c => (∃ rs : List Nat, rs.length = k ∧ (∀ r ∈ rs, (r : Int) < m) ∧ d = .lst (rs.map enc)) ∧ Cok c := by
  refine Ok.lc ((Ok.drawsR (β := Nat) (R := fun _ r => (r : Int) < m) (I := Cok) (fun x _ c hc => ?_) hc).mono ?_)
  · refine Ok.bd (ok_roll hc hm) ?_
    rintro _ c ⟨⟨r, hr, rfl⟩, hc⟩
    exact ⟨_, _, rfl, ⟨r, rfl, hr⟩, hc⟩
  · rintro _ c ⟨⟨rs, rfl, h1, h2⟩, hc⟩
    refine ⟨by rw [List.length_map]; omega, ⟨rs, h1, ?_, rfl⟩, hc⟩
    exact zip_forall (by simpa using h1) h2
theorem mem_rows : ∀ {ms t : List Nat}, t ∈ rows ms ↔ t.length = ms.length ∧ ∀ i, i < ms.length → at_ t i ≤ at_ ms i
  | [], t => by
    constructor
    · intro h
      rw [List.mem_singleton.mp h]
      exact ⟨rfl, fun i h => by simp at h⟩
    · rintro ⟨h, _⟩
      exact List.mem_singleton.mpr (List.eq_nil_of_length_eq_zero h)
  | m :: ms, t => by
    unfold rows
    rw [List.mem_flatMap]
    constructor
    · rintro ⟨x, hx, h⟩
      obtain ⟨r, hr, rfl⟩ := List.mem_map.mp h
      obtain ⟨h1, h2⟩ := mem_rows.mp hr
      refine ⟨by simp [h1], fun i hi => ?_⟩
      cases i with
      | zero => have := List.mem_range.mp hx; show x ≤ m; omega
      | succ i => exact h2 i (by simpa using hi)
    · rintro ⟨h1, h2⟩
      cases t with
      | nil => simp at h1
      | cons x r =>
        refine ⟨x, List.mem_range.mpr (by have : x ≤ m := h2 0 (by simp); omega), List.mem_map.mpr ⟨r, mem_rows.mpr ⟨by simpa using h1, fun i hi => h2 (i + 1) (by simpa using hi)⟩, rfl⟩⟩
theorem tabs_iff {t : List Nat} : t ∈ tabs ↔ t.length = 7 ∧ ∀ i, i < 7 → at_ t i ≤ topN i := by
  unfold tabs
  rw [mem_rows]
  have e : ∀ i, i < 7 → at_ [1, 1, 1, 1, 1, 2, 2] i = topN i := by decide
  constructor
  · rintro ⟨h1, h2⟩
    exact ⟨h1, fun i hi => by rw [← e i hi]; exact h2 i hi⟩
  · rintro ⟨h1, h2⟩
    exact ⟨h1, fun i hi => by rw [e i hi]; exact h2 i hi⟩
theorem tab_len {t : List Nat} (h : t ∈ tabs) : t.length = 7 := (tabs_iff.mp h).1
theorem tab7 {t : List Nat} (h : t ∈ tabs) : ∃ a b c d e f g : Nat, t = [a, b, c, d, e, f, g] ∧ a ≤ 1 ∧ b ≤ 1 ∧ c ≤ 1 ∧ d ≤ 1 ∧ e ≤ 1 ∧ f ≤ 2 ∧ g ≤ 2 := by
  obtain ⟨h1, h2⟩ := tabs_iff.mp h
  match t, h1, h2 with
  | [a, b, c, d, e, f, g], _, h2 => exact ⟨a, b, c, d, e, f, g, rfl, h2 0 (by omega), h2 1 (by omega), h2 2 (by omega), h2 3 (by omega), h2 4 (by omega), h2 5 (by omega), h2 6 (by omega)⟩
theorem tab_set {t : List Nat} (h : t ∈ tabs) {k v : Nat} (hv : v ≤ topN k) : t.set k v ∈ tabs := by
  obtain ⟨h1, h2⟩ := tabs_iff.mp h
  refine tabs_iff.mpr ⟨by simpa using h1, fun i hi => ?_⟩
  rw [at_set (by omega)]
  split
  · rename_i e; subst e; exact hv
  · exact h2 i hi
theorem tab_pl {t : List Nat} (h : t.length ≤ 100) : plL (enc t) := by
  refine ⟨rfl, fun xs e => ?_⟩
  have e : t.map enc = xs := by injection e
  subst e
  refine ⟨by rw [List.length_map]; exact h, fun x hx => ?_⟩
  obtain ⟨o, _, rfl⟩ := List.mem_map.mp hx
  rfl
theorem tab_fits {t : List Nat} (ht : t ∈ tabs) : tabB (enc t) = true := by
  obtain ⟨h1, h2⟩ := tabs_iff.mp ht
  show (decide ((t.map enc).length = 7) && _) = true
  rw [List.length_map, h1]
  simp only [decide_true, Bool.true_and, List.all_eq_true, List.mem_range]
  intro i hi
  rw [at_map (by omega)]
  have := h2 i hi
  show (decide ((0 : Int) ≤ ((at_ t i : Nat) : Int)) && decide (((at_ t i : Nat) : Int) ≤ ((topN i : Nat) : Int))) = true
  simp
  omega
def smp : List (List Nat) := [[1, 0, 0, 0, 0, 2, 2], [0, 1, 0, 0, 1, 0, 2], [0, 0, 1, 0, 1, 0, 2], [0, 0, 0, 1, 0, 2, 2], [0, 0, 0, 0, 0, 0, 0]]
theorem smp_tabs : ∀ t ∈ smp, t ∈ tabs := by decide +kernel
theorem ok_table {n : Nat} {c : Cu} (hc : Cok c) : Ok (callN false P (n + 3) n__law_table [.cup] c) fun d c => (∃ t, t ∈ tabs ∧ d = enc t) ∧ Cok c := by
  rw [u__law_table, s__law_table]
  refine Ok.u ?_
  refine Ok.set1 (d := .lst (smp.map enc)) (c1 := c) (by simp -implicitDefEqProofs (disch := first | assumption | decide | omega | (simp only [List.length_map, List.length_take, List.length_drop, List.length_set, List.length_reverse, List.length_range, List.length_zip, List.length_append, List.length_cons, List.length_nil]; omega) | ((try simp only [List.length_map]); refine Nat.le_trans (List.length_filter_le _ _) ?_; first | assumption | omega | (simp only [List.length_map, List.length_take, List.length_drop, List.length_set, List.length_reverse, List.length_range, List.length_zip, List.length_append, List.length_cons, List.length_nil]; omega) | (refine Nat.le_trans (List.length_filter_le _ _) ?_; first | assumption | omega | (simp only [List.length_map, List.length_take, List.length_drop, List.length_set, List.length_reverse, List.length_range, List.length_zip, List.length_append, List.length_cons, List.length_nil]; omega))) | (repeat (first | exact sm_int | exact sm_bl | exact sm_non | assumption | exact sm_nil | refine sm_cons ?_ ?_ (by simp)))) only [w_var, w_cst, w_gl, w_tup, w_lst, w_op2, w_neg, w_nt, w_ife, w_cmp, w_chn, w_ix, w_sl, w_noe, Ev.w_rev, w_lz, w_call, w_calln, w_callf, w_bf, w_isi, w_and, w_or, w_and1, w_and2, w_or1, w_or2, w_lc, w_s0, w_s1, w_itE, w_itR, w_itN, w_itZ, zipO_eq, w_el, w_gn, w_tn0, w_tn1, w_tp0, w_tp1, gK_app, gQ_app, w_b0, w_b1, w_bp, w_bn, w_bt, w_wp0, w_wp1, x_nil, x_cons, x_pass, x_set, x_seto, x_asg, x_ret, x_ex, x_ife, x_for, x_whS, loopL_consB, Ev.loopL_nil, x_app, x_auga, x_ext, x_step_n, x_step_t, xK_app, tst_bl, asB_bl, ntO_bl, negO_int, optB_some, optO_some, retO_rt, retO_nx, retO_ite, nxt_nx, nxt_rt, nxtE_some, bd_ok, bd_ite, bd_assoc, ite_bl, Ev.ite_int, ite_ite, Bool.and_eq_true, Bool.or_eq_true,  if_tl, if_fr, if_fl, if_tr, dec_b,  of_some, Option.map_some, Option.bind_some, gv0, gvS, List.set_cons_zero, List.set_cons_succ, appO_lst, putv_some, oi_noe, oi_var, oi_cst, oi_gl, oi_op2, oi_neg, oi_ix, oi_bf, List.map_cons, List.map_nil, List.cons_append, List.nil_append, List.replicate_zero, List.replicate_succ, Bool.not_true, Bool.not_false, if_true, if_false, Bool.false_eq_true, reduceIte, decide_eq_true_eq, Bool.not_eq_true', decide_eq_false_iff_not, Bool.true_eq_false, eq_self, not_true_eq_false, not_false_eq_true, decide_true, decide_false, Bool.false_or, Bool.true_or, Bool.or_false, Bool.or_true, Bool.true_and, Bool.false_and, Bool.and_true, Bool.and_false, List.length_map, w_boE, w_boT, w_boI, ne_eq, bf_min2, bf_max2, Int.natCast_inj, Int.ofNat_le, Int.ofNat_lt, bf_sumN, bf_minN, lzEE, lzLE, lzLL, isBt, isBf, isnBt, isnBf, innT, innL, ninT, ninL, tupE, Int.reduceToNat, map_encN, map_idf, eqNilE, neNilE, eqE, neE, eqEL, neEL, ixEn, ixLn, addLE, addE, addTE, addET, opv_addL, opv_addT, cut_take, cut_drop, toNat_s, eqNil0, neNil0, cut_drop1, cut_takeI, cut_dropI, rngI, Int.toNat_natCast, innI1, innI2, innI3, enc_int, enc_nat, enc_bool, cov_lt, cov_le, cov_gt, cov_ge, cov_eqI, cov_neI, cov_isN, cov_isnN, opv_addI, opv_subI, itemsE, itemsL, itemsT, lenE, lenL, lenT, tupleL, tupleE, listE, listL, slE, slL, enumE, zipE, loopL_typed, loopL_rng, loopM_map, loopM_filt, loopM_flat, loopR_map, loopR_filt, loopR_flat, lcEnd_ok, eqOn, eqnO, neOn, eqOi, eqiO, neOi, innTn, innLn, ninTn, ninLn, innTo, innLo, ninTo, ninLo, innTi, innLi, bf_all, any_T, bf_sum, isNon_opt, isNon_nn, isNon_int, isNon_tup]; rfl) ?_
  refine Ok.set (Ok.eq (by simp -implicitDefEqProofs (disch := first | assumption | decide | omega | (simp only [List.length_map, List.length_take, List.length_drop, List.length_set, List.length_reverse, List.length_range, List.length_zip, List.length_append, List.length_cons, List.length_nil]; omega) | ((try simp only [List.length_map]); refine Nat.le_trans (List.length_filter_le _ _) ?_; first | assumption | omega | (simp only [List.length_map, List.length_take, List.length_drop, List.length_set, List.length_reverse, List.length_range, List.length_zip, List.length_append, List.length_cons, List.length_nil]; omega) | (refine Nat.le_trans (List.length_filter_le _ _) ?_; first | assumption | omega | (simp only [List.length_map, List.length_take, List.length_drop, List.length_set, List.length_reverse, List.length_range, List.length_zip, List.length_append, List.length_cons, List.length_nil]; omega))) | (repeat (first | exact sm_int | exact sm_bl | exact sm_non | assumption | exact sm_nil | refine sm_cons ?_ ?_ (by simp)))) only [w_var, w_cst, w_gl, w_tup, w_lst, w_op2, w_neg, w_nt, w_ife, w_cmp, w_chn, w_ix, w_sl, w_noe, Ev.w_rev, w_lz, w_call, w_calln, w_callf, w_bf, w_isi, w_and, w_or, w_and1, w_and2, w_or1, w_or2, w_lc, w_s0, w_s1, w_itE, w_itR, w_itN, w_itZ, zipO_eq, w_el, w_gn, w_tn0, w_tn1, w_tp0, w_tp1, gK_app, gQ_app, w_b0, w_b1, w_bp, w_bn, w_bt, w_wp0, w_wp1, x_nil, x_cons, x_pass, x_set, x_seto, x_asg, x_ret, x_ex, x_ife, x_for, x_whS, loopL_consB, Ev.loopL_nil, x_app, x_auga, x_ext, x_step_n, x_step_t, xK_app, tst_bl, asB_bl, ntO_bl, negO_int, optB_some, optO_some, retO_rt, retO_nx, retO_ite, nxt_nx, nxt_rt, nxtE_some, bd_ok, bd_ite, bd_assoc, ite_bl, Ev.ite_int, ite_ite, Bool.and_eq_true, Bool.or_eq_true,  if_tl, if_fr, if_fl, if_tr, dec_b,  of_some, Option.map_some, Option.bind_some, gv0, gvS, List.set_cons_zero, List.set_cons_succ, appO_lst, putv_some, oi_noe, oi_var, oi_cst, oi_gl, oi_op2, oi_neg, oi_ix, oi_bf, List.map_cons, List.map_nil, List.cons_append, List.nil_append, List.replicate_zero, List.replicate_succ, Bool.not_true, Bool.not_false, if_true, if_false, Bool.false_eq_true, reduceIte, decide_eq_true_eq, Bool.not_eq_true', decide_eq_false_iff_not, Bool.true_eq_false, eq_self, not_true_eq_false, not_false_eq_true, decide_true, decide_false, Bool.false_or, Bool.true_or, Bool.or_false, Bool.or_true, Bool.true_and, Bool.false_and, Bool.and_true, Bool.and_false, List.length_map, w_boE, w_boT, w_boI, ne_eq, bf_min2, bf_max2, Int.natCast_inj, Int.ofNat_le, Int.ofNat_lt, bf_sumN, bf_minN, lzEE, lzLE, lzLL, isBt, isBf, isnBt, isnBf, innT, innL, ninT, ninL, tupE, Int.reduceToNat, map_encN, map_idf, eqNilE, neNilE, eqE, neE, eqEL, neEL, ixEn, ixLn, addLE, addE, addTE, addET, opv_addL, opv_addT, cut_take, cut_drop, toNat_s, eqNil0, neNil0, cut_drop1, cut_takeI, cut_dropI, rngI, Int.toNat_natCast, innI1, innI2, innI3, enc_int, enc_nat, enc_bool, cov_lt, cov_le, cov_gt, cov_ge, cov_eqI, cov_neI, cov_isN, cov_isnN, opv_addI, opv_subI, itemsE, itemsL, itemsT, lenE, lenL, lenT, tupleL, tupleE, listE, listL, slE, slL, enumE, zipE, loopL_typed, loopL_rng, loopM_map, loopM_filt, loopM_flat, loopR_map, loopR_filt, loopR_flat, lcEnd_ok, eqOn, eqnO, neOn, eqOi, eqiO, neOi, innTn, innLn, ninTn, ninLn, innTo, innLo, ninTo, ninLo, innTi, innLi, bf_all, any_T, bf_sum, isNon_opt, isNon_nn, isNon_int, isNon_tup]) (ok_some (n := n) hc (xs := smp.map enc) (by decide) (by decide))) ?_
  rintro _ c1 ⟨hx, hc1⟩
  obtain ⟨t, ht, rfl⟩ := List.mem_map.mp hx
  have ht := smp_tabs t ht
  have hl := tab_len ht
  refine Ok.set (Ok.eq (by simp -implicitDefEqProofs (disch := first | assumption | decide | omega | (simp only [List.length_map, List.length_take, List.length_drop, List.length_set, List.length_reverse, List.length_range, List.length_zip, List.length_append, List.length_cons, List.length_nil]; omega) | ((try simp only [List.length_map]); refine Nat.le_trans (List.length_filter_le _ _) ?_; first | assumption | omega | (simp only [List.length_map, List.length_take, List.length_drop, List.length_set, List.length_reverse, List.length_range, List.length_zip, List.length_append, List.length_cons, List.length_nil]; omega) | (refine Nat.le_trans (List.length_filter_le _ _) ?_; first | assumption | omega | (simp only [List.length_map, List.length_take, List.length_drop, List.length_set, List.length_reverse, List.length_range, List.length_zip, List.length_append, List.length_cons, List.length_nil]; omega))) | (repeat (first | exact sm_int | exact sm_bl | exact sm_non | assumption | exact sm_nil | refine sm_cons ?_ ?_ (by simp)))) only [w_var, w_cst, w_gl, w_tup, w_lst, w_op2, w_neg, w_nt, w_ife, w_cmp, w_chn, w_ix, w_sl, w_noe, Ev.w_rev, w_lz, w_call, w_calln, w_callf, w_bf, w_isi, w_and, w_or, w_and1, w_and2, w_or1, w_or2, w_lc, w_s0, w_s1, w_itE, w_itR, w_itN, w_itZ, zipO_eq, w_el, w_gn, w_tn0, w_tn1, w_tp0, w_tp1, gK_app, gQ_app, w_b0, w_b1, w_bp, w_bn, w_bt, w_wp0, w_wp1, x_nil, x_cons, x_pass, x_set, x_seto, x_asg, x_ret, x_ex, x_ife, x_for, x_whS, loopL_consB, Ev.loopL_nil, x_app, x_auga, x_ext, x_step_n, x_step_t, xK_app, tst_bl, asB_bl, ntO_bl, negO_int, optB_some, optO_some, retO_rt, retO_nx, retO_ite, nxt_nx, nxt_rt, nxtE_some, bd_ok, bd_ite, bd_assoc, ite_bl, Ev.ite_int, ite_ite, Bool.and_eq_true, Bool.or_eq_true,  if_tl, if_fr, if_fl, if_tr, dec_b,  of_some, Option.map_some, Option.bind_some, gv0, gvS, List.set_cons_zero, List.set_cons_succ, appO_lst, putv_some, oi_noe, oi_var, oi_cst, oi_gl, oi_op2, oi_neg, oi_ix, oi_bf, List.map_cons, List.map_nil, List.cons_append, List.nil_append, List.replicate_zero, List.replicate_succ, Bool.not_true, Bool.not_false, if_true, if_false, Bool.false_eq_true, reduceIte, decide_eq_true_eq, Bool.not_eq_true', decide_eq_false_iff_not, Bool.true_eq_false, eq_self, not_true_eq_false, not_false_eq_true, decide_true, decide_false, Bool.false_or, Bool.true_or, Bool.or_false, Bool.or_true, Bool.true_and, Bool.false_and, Bool.and_true, Bool.and_false, List.length_map, w_boE, w_boT, w_boI, ne_eq, bf_min2, bf_max2, Int.natCast_inj, Int.ofNat_le, Int.ofNat_lt, bf_sumN, bf_minN, lzEE, lzLE, lzLL, isBt, isBf, isnBt, isnBf, innT, innL, ninT, ninL, tupE, Int.reduceToNat, map_encN, map_idf, eqNilE, neNilE, eqE, neE, eqEL, neEL, ixEn, ixLn, addLE, addE, addTE, addET, opv_addL, opv_addT, cut_take, cut_drop, toNat_s, eqNil0, neNil0, cut_drop1, cut_takeI, cut_dropI, rngI, Int.toNat_natCast, innI1, innI2, innI3, enc_int, enc_nat, enc_bool, cov_lt, cov_le, cov_gt, cov_ge, cov_eqI, cov_neI, cov_isN, cov_isnN, opv_addI, opv_subI, itemsE, itemsL, itemsT, lenE, lenL, lenT, tupleL, tupleE, listE, listL, slE, slL, enumE, zipE, loopL_typed, loopL_rng, loopM_map, loopM_filt, loopM_flat, loopR_map, loopR_filt, loopR_flat, lcEnd_ok, eqOn, eqnO, neOn, eqOi, eqiO, neOi, innTn, innLn, ninTn, ninLn, innTo, innLo, ninTo, ninLo, innTi, innLi, bf_all, any_T, bf_sum, isNon_opt, isNon_nn, isNon_int, isNon_tup]) (ok_roll (n := n + 1) hc1 (m := 3) (by decide))) ?_
  rintro _ c2 ⟨⟨w, hw, rfl⟩, hc2⟩
  simp -implicitDefEqProofs (disch := first | assumption | decide | omega | (simp only [List.length_map, List.length_take, List.length_drop, List.length_set, List.length_reverse, List.length_range, List.length_zip, List.length_append, List.length_cons, List.length_nil]; omega) | ((try simp only [List.length_map]); refine Nat.le_trans (List.length_filter_le _ _) ?_; first | assumption | omega | (simp only [List.length_map, List.length_take, List.length_drop, List.length_set, List.length_reverse, List.length_range, List.length_zip, List.length_append, List.length_cons, List.length_nil]; omega) | (refine Nat.le_trans (List.length_filter_le _ _) ?_; first | assumption | omega | (simp only [List.length_map, List.length_take, List.length_drop, List.length_set, List.length_reverse, List.length_range, List.length_zip, List.length_append, List.length_cons, List.length_nil]; omega))) | (repeat (first | exact sm_int | exact sm_bl | exact sm_non | assumption | exact sm_nil | refine sm_cons ?_ ?_ (by simp)))) only [w_var, w_cst, w_gl, w_tup, w_lst, w_op2, w_neg, w_nt, w_ife, w_cmp, w_chn, w_ix, w_sl, w_noe, Ev.w_rev, w_lz, w_call, w_calln, w_callf, w_bf, w_isi, w_and, w_or, w_and1, w_and2, w_or1, w_or2, w_lc, w_s0, w_s1, w_itE, w_itR, w_itN, w_itZ, zipO_eq, w_el, w_gn, w_tn0, w_tn1, w_tp0, w_tp1, gK_app, gQ_app, w_b0, w_b1, w_bp, w_bn, w_bt, w_wp0, w_wp1, x_nil, x_cons, x_pass, x_set, x_seto, x_asg, x_ret, x_ex, x_ife, x_for, x_whS, loopL_consB, Ev.loopL_nil, x_app, x_auga, x_ext, x_step_n, x_step_t, xK_app, tst_bl, asB_bl, ntO_bl, negO_int, optB_some, optO_some, retO_rt, retO_nx, retO_ite, nxt_nx, nxt_rt, nxtE_some, bd_ok, bd_ite, bd_assoc, ite_bl, Ev.ite_int, ite_ite, Bool.and_eq_true, Bool.or_eq_true,  if_tl, if_fr, if_fl, if_tr, dec_b,  of_some, Option.map_some, Option.bind_some, gv0, gvS, List.set_cons_zero, List.set_cons_succ, appO_lst, putv_some, oi_noe, oi_var, oi_cst, oi_gl, oi_op2, oi_neg, oi_ix, oi_bf, List.map_cons, List.map_nil, List.cons_append, List.nil_append, List.replicate_zero, List.replicate_succ, Bool.not_true, Bool.not_false, if_true, if_false, Bool.false_eq_true, reduceIte, decide_eq_true_eq, Bool.not_eq_true', decide_eq_false_iff_not, Bool.true_eq_false, eq_self, not_true_eq_false, not_false_eq_true, decide_true, decide_false, Bool.false_or, Bool.true_or, Bool.or_false, Bool.or_true, Bool.true_and, Bool.false_and, Bool.and_true, Bool.and_false, List.length_map, w_boE, w_boT, w_boI, ne_eq, bf_min2, bf_max2, Int.natCast_inj, Int.ofNat_le, Int.ofNat_lt, bf_sumN, bf_minN, lzEE, lzLE, lzLL, isBt, isBf, isnBt, isnBf, innT, innL, ninT, ninL, tupE, Int.reduceToNat, map_encN, map_idf, eqNilE, neNilE, eqE, neE, eqEL, neEL, ixEn, ixLn, addLE, addE, addTE, addET, opv_addL, opv_addT, cut_take, cut_drop, toNat_s, eqNil0, neNil0, cut_drop1, cut_takeI, cut_dropI, rngI, Int.toNat_natCast, innI1, innI2, innI3, enc_int, enc_nat, enc_bool, cov_lt, cov_le, cov_gt, cov_ge, cov_eqI, cov_neI, cov_isN, cov_isnN, opv_addI, opv_subI, itemsE, itemsL, itemsT, lenE, lenL, lenT, tupleL, tupleE, listE, listL, slE, slL, enumE, zipE, loopL_typed, loopL_rng, loopM_map, loopM_filt, loopM_flat, loopR_map, loopR_filt, loopR_flat, lcEnd_ok, eqOn, eqnO, neOn, eqOi, eqiO, neOi, innTn, innLn, ninTn, ninLn, innTo, innLo, ninTo, ninLo, innTi, innLi, bf_all, any_T, bf_sum, isNon_opt, isNon_nn, isNon_int, isNon_tup]
  split
  · refine Ok.bd (ok_rolls (n := n + 1) hc2 (m := 2) (by decide) (by decide)) ?_
    rintro _ c3 ⟨⟨rs, hl, hrs, rfl⟩, hc3⟩
    simp -implicitDefEqProofs (disch := first | assumption | decide | omega | (simp only [List.length_map, List.length_take, List.length_drop, List.length_set, List.length_reverse, List.length_range, List.length_zip, List.length_append, List.length_cons, List.length_nil]; omega) | ((try simp only [List.length_map]); refine Nat.le_trans (List.length_filter_le _ _) ?_; first | assumption | omega | (simp only [List.length_map, List.length_take, List.length_drop, List.length_set, List.length_reverse, List.length_range, List.length_zip, List.length_append, List.length_cons, List.length_nil]; omega) | (refine Nat.le_trans (List.length_filter_le _ _) ?_; first | assumption | omega | (simp only [List.length_map, List.length_take, List.length_drop, List.length_set, List.length_reverse, List.length_range, List.length_zip, List.length_append, List.length_cons, List.length_nil]; omega))) | (repeat (first | exact sm_int | exact sm_bl | exact sm_non | assumption | exact sm_nil | refine sm_cons ?_ ?_ (by simp)))) only [w_var, w_cst, w_gl, w_tup, w_lst, w_op2, w_neg, w_nt, w_ife, w_cmp, w_chn, w_ix, w_sl, w_noe, Ev.w_rev, w_lz, w_call, w_calln, w_callf, w_bf, w_isi, w_and, w_or, w_and1, w_and2, w_or1, w_or2, w_lc, w_s0, w_s1, w_itE, w_itR, w_itN, w_itZ, zipO_eq, w_el, w_gn, w_tn0, w_tn1, w_tp0, w_tp1, gK_app, gQ_app, w_b0, w_b1, w_bp, w_bn, w_bt, w_wp0, w_wp1, x_nil, x_cons, x_pass, x_set, x_seto, x_asg, x_ret, x_ex, x_ife, x_for, x_whS, loopL_consB, Ev.loopL_nil, x_app, x_auga, x_ext, x_step_n, x_step_t, xK_app, tst_bl, asB_bl, ntO_bl, negO_int, optB_some, optO_some, retO_rt, retO_nx, retO_ite, nxt_nx, nxt_rt, nxtE_some, bd_ok, bd_ite, bd_assoc, ite_bl, Ev.ite_int, ite_ite, Bool.and_eq_true, Bool.or_eq_true,  if_tl, if_fr, if_fl, if_tr, dec_b,  of_some, Option.map_some, Option.bind_some, gv0, gvS, List.set_cons_zero, List.set_cons_succ, appO_lst, putv_some, oi_noe, oi_var, oi_cst, oi_gl, oi_op2, oi_neg, oi_ix, oi_bf, List.map_cons, List.map_nil, List.cons_append, List.nil_append, List.replicate_zero, List.replicate_succ, Bool.not_true, Bool.not_false, if_true, if_false, Bool.false_eq_true, reduceIte, decide_eq_true_eq, Bool.not_eq_true', decide_eq_false_iff_not, Bool.true_eq_false, eq_self, not_true_eq_false, not_false_eq_true, decide_true, decide_false, Bool.false_or, Bool.true_or, Bool.or_false, Bool.or_true, Bool.true_and, Bool.false_and, Bool.and_true, Bool.and_false, List.length_map, w_boE, w_boT, w_boI, ne_eq, bf_min2, bf_max2, Int.natCast_inj, Int.ofNat_le, Int.ofNat_lt, bf_sumN, bf_minN, lzEE, lzLE, lzLL, isBt, isBf, isnBt, isnBf, innT, innL, ninT, ninL, tupE, Int.reduceToNat, map_encN, map_idf, eqNilE, neNilE, eqE, neE, eqEL, neEL, ixEn, ixLn, addLE, addE, addTE, addET, opv_addL, opv_addT, cut_take, cut_drop, toNat_s, eqNil0, neNil0, cut_drop1, cut_takeI, cut_dropI, rngI, Int.toNat_natCast, innI1, innI2, innI3, enc_int, enc_nat, enc_bool, cov_lt, cov_le, cov_gt, cov_ge, cov_eqI, cov_neI, cov_isN, cov_isnN, opv_addI, opv_subI, itemsE, itemsL, itemsT, lenE, lenL, lenT, tupleL, tupleE, listE, listL, slE, slL, enumE, zipE, loopL_typed, loopL_rng, loopM_map, loopM_filt, loopM_flat, loopR_map, loopR_filt, loopR_flat, lcEnd_ok, eqOn, eqnO, neOn, eqOi, eqiO, neOi, innTn, innLn, ninTn, ninLn, innTo, innLo, ninTo, ninLo, innTi, innLi, bf_all, any_T, bf_sum, isNon_opt, isNon_nn, isNon_int, isNon_tup]
    refine Ok.bd (ok_roll (n := n + 1) hc3 (m := 3) (by decide)) ?_
    rintro _ c4 ⟨⟨f, hf, rfl⟩, hc4⟩
    simp -implicitDefEqProofs (disch := first | assumption | decide | omega | (simp only [List.length_map, List.length_take, List.length_drop, List.length_set, List.length_reverse, List.length_range, List.length_zip, List.length_append, List.length_cons, List.length_nil]; omega) | ((try simp only [List.length_map]); refine Nat.le_trans (List.length_filter_le _ _) ?_; first | assumption | omega | (simp only [List.length_map, List.length_take, List.length_drop, List.length_set, List.length_reverse, List.length_range, List.length_zip, List.length_append, List.length_cons, List.length_nil]; omega) | (refine Nat.le_trans (List.length_filter_le _ _) ?_; first | assumption | omega | (simp only [List.length_map, List.length_take, List.length_drop, List.length_set, List.length_reverse, List.length_range, List.length_zip, List.length_append, List.length_cons, List.length_nil]; omega))) | (repeat (first | exact sm_int | exact sm_bl | exact sm_non | assumption | exact sm_nil | refine sm_cons ?_ ?_ (by simp)))) only [w_var, w_cst, w_gl, w_tup, w_lst, w_op2, w_neg, w_nt, w_ife, w_cmp, w_chn, w_ix, w_sl, w_noe, Ev.w_rev, w_lz, w_call, w_calln, w_callf, w_bf, w_isi, w_and, w_or, w_and1, w_and2, w_or1, w_or2, w_lc, w_s0, w_s1, w_itE, w_itR, w_itN, w_itZ, zipO_eq, w_el, w_gn, w_tn0, w_tn1, w_tp0, w_tp1, gK_app, gQ_app, w_b0, w_b1, w_bp, w_bn, w_bt, w_wp0, w_wp1, x_nil, x_cons, x_pass, x_set, x_seto, x_asg, x_ret, x_ex, x_ife, x_for, x_whS, loopL_consB, Ev.loopL_nil, x_app, x_auga, x_ext, x_step_n, x_step_t, xK_app, tst_bl, asB_bl, ntO_bl, negO_int, optB_some, optO_some, retO_rt, retO_nx, retO_ite, nxt_nx, nxt_rt, nxtE_some, bd_ok, bd_ite, bd_assoc, ite_bl, Ev.ite_int, ite_ite, Bool.and_eq_true, Bool.or_eq_true,  if_tl, if_fr, if_fl, if_tr, dec_b,  of_some, Option.map_some, Option.bind_some, gv0, gvS, List.set_cons_zero, List.set_cons_succ, appO_lst, putv_some, oi_noe, oi_var, oi_cst, oi_gl, oi_op2, oi_neg, oi_ix, oi_bf, List.map_cons, List.map_nil, List.cons_append, List.nil_append, List.replicate_zero, List.replicate_succ, Bool.not_true, Bool.not_false, if_true, if_false, Bool.false_eq_true, reduceIte, decide_eq_true_eq, Bool.not_eq_true', decide_eq_false_iff_not, Bool.true_eq_false, eq_self, not_true_eq_false, not_false_eq_true, decide_true, decide_false, Bool.false_or, Bool.true_or, Bool.or_false, Bool.or_true, Bool.true_and, Bool.false_and, Bool.and_true, Bool.and_false, List.length_map, w_boE, w_boT, w_boI, ne_eq, bf_min2, bf_max2, Int.natCast_inj, Int.ofNat_le, Int.ofNat_lt, bf_sumN, bf_minN, lzEE, lzLE, lzLL, isBt, isBf, isnBt, isnBf, innT, innL, ninT, ninL, tupE, Int.reduceToNat, map_encN, map_idf, eqNilE, neNilE, eqE, neE, eqEL, neEL, ixEn, ixLn, addLE, addE, addTE, addET, opv_addL, opv_addT, cut_take, cut_drop, toNat_s, eqNil0, neNil0, cut_drop1, cut_takeI, cut_dropI, rngI, Int.toNat_natCast, innI1, innI2, innI3, enc_int, enc_nat, enc_bool, cov_lt, cov_le, cov_gt, cov_ge, cov_eqI, cov_neI, cov_isN, cov_isnN, opv_addI, opv_subI, itemsE, itemsL, itemsT, lenE, lenL, lenT, tupleL, tupleE, listE, listL, slE, slL, enumE, zipE, loopL_typed, loopL_rng, loopM_map, loopM_filt, loopM_flat, loopR_map, loopR_filt, loopR_flat, lcEnd_ok, eqOn, eqnO, neOn, eqOi, eqiO, neOi, innTn, innLn, ninTn, ninLn, innTo, innLo, ninTo, ninLo, innTi, innLi, bf_all, any_T, bf_sum, isNon_opt, isNon_nn, isNon_int, isNon_tup]
    refine Ok.bd (ok_roll (n := n + 1) hc4 (m := 3) (by decide)) ?_
    rintro _ c5 ⟨⟨g, hg, rfl⟩, hc5⟩
    have hl : rs.length = 5 := hl
    simp -implicitDefEqProofs (disch := first | assumption | decide | omega | (simp only [List.length_map, List.length_take, List.length_drop, List.length_set, List.length_reverse, List.length_range, List.length_zip, List.length_append, List.length_cons, List.length_nil]; omega) | ((try simp only [List.length_map]); refine Nat.le_trans (List.length_filter_le _ _) ?_; first | assumption | omega | (simp only [List.length_map, List.length_take, List.length_drop, List.length_set, List.length_reverse, List.length_range, List.length_zip, List.length_append, List.length_cons, List.length_nil]; omega) | (refine Nat.le_trans (List.length_filter_le _ _) ?_; first | assumption | omega | (simp only [List.length_map, List.length_take, List.length_drop, List.length_set, List.length_reverse, List.length_range, List.length_zip, List.length_append, List.length_cons, List.length_nil]; omega))) | (repeat (first | exact sm_int | exact sm_bl | exact sm_non | assumption | exact sm_nil | refine sm_cons ?_ ?_ (by simp)))) only [w_var, w_cst, w_gl, w_tup, w_lst, w_op2, w_neg, w_nt, w_ife, w_cmp, w_chn, w_ix, w_sl, w_noe, Ev.w_rev, w_lz, w_call, w_calln, w_callf, w_bf, w_isi, w_and, w_or, w_and1, w_and2, w_or1, w_or2, w_lc, w_s0, w_s1, w_itE, w_itR, w_itN, w_itZ, zipO_eq, w_el, w_gn, w_tn0, w_tn1, w_tp0, w_tp1, gK_app, gQ_app, w_b0, w_b1, w_bp, w_bn, w_bt, w_wp0, w_wp1, x_nil, x_cons, x_pass, x_set, x_seto, x_asg, x_ret, x_ex, x_ife, x_for, x_whS, loopL_consB, Ev.loopL_nil, x_app, x_auga, x_ext, x_step_n, x_step_t, xK_app, tst_bl, asB_bl, ntO_bl, negO_int, optB_some, optO_some, retO_rt, retO_nx, retO_ite, nxt_nx, nxt_rt, nxtE_some, bd_ok, bd_ite, bd_assoc, ite_bl, Ev.ite_int, ite_ite, Bool.and_eq_true, Bool.or_eq_true,  if_tl, if_fr, if_fl, if_tr, dec_b,  of_some, Option.map_some, Option.bind_some, gv0, gvS, List.set_cons_zero, List.set_cons_succ, appO_lst, putv_some, oi_noe, oi_var, oi_cst, oi_gl, oi_op2, oi_neg, oi_ix, oi_bf, List.map_cons, List.map_nil, List.cons_append, List.nil_append, List.replicate_zero, List.replicate_succ, Bool.not_true, Bool.not_false, if_true, if_false, Bool.false_eq_true, reduceIte, decide_eq_true_eq, Bool.not_eq_true', decide_eq_false_iff_not, Bool.true_eq_false, eq_self, not_true_eq_false, not_false_eq_true, decide_true, decide_false, Bool.false_or, Bool.true_or, Bool.or_false, Bool.or_true, Bool.true_and, Bool.false_and, Bool.and_true, Bool.and_false, List.length_map, w_boE, w_boT, w_boI, ne_eq, bf_min2, bf_max2, Int.natCast_inj, Int.ofNat_le, Int.ofNat_lt, bf_sumN, bf_minN, lzEE, lzLE, lzLL, isBt, isBf, isnBt, isnBf, innT, innL, ninT, ninL, tupE, Int.reduceToNat, map_encN, map_idf, eqNilE, neNilE, eqE, neE, eqEL, neEL, ixEn, ixLn, addLE, addE, addTE, addET, opv_addL, opv_addT, cut_take, cut_drop, toNat_s, eqNil0, neNil0, cut_drop1, cut_takeI, cut_dropI, rngI, Int.toNat_natCast, innI1, innI2, innI3, enc_int, enc_nat, enc_bool, cov_lt, cov_le, cov_gt, cov_ge, cov_eqI, cov_neI, cov_isN, cov_isnN, opv_addI, opv_subI, itemsE, itemsL, itemsT, lenE, lenL, lenT, tupleL, tupleE, listE, listL, slE, slL, enumE, zipE, loopL_typed, loopL_rng, loopM_map, loopM_filt, loopM_flat, loopR_map, loopR_filt, loopR_flat, lcEnd_ok, eqOn, eqnO, neOn, eqOi, eqiO, neOi, innTn, innLn, ninTn, ninLn, innTo, innLo, ninTo, ninLo, innTi, innLi, bf_all, any_T, bf_sum, isNon_opt, isNon_nn, isNon_int, isNon_tup]
    refine ⟨_, _, rfl, _, rfl, ⟨rs ++ [f, g], tabs_iff.mpr ⟨by simp [hl], fun i hi => ?_⟩, ?_⟩, hc5⟩
    · match rs, hl, hrs with
      | [r0, r1, r2, r3, r4], _, hrs =>
        simp only [List.mem_cons, List.not_mem_nil, or_false, forall_eq_or_imp, forall_eq] at hrs
        obtain ⟨q0, q1, q2, q3, q4⟩ := hrs
        match i, hi with
        | 0, _ => show r0 ≤ 1; omega
        | 1, _ => show r1 ≤ 1; omega
        | 2, _ => show r2 ≤ 1; omega
        | 3, _ => show r3 ≤ 1; omega
        | 4, _ => show r4 ≤ 1; omega
        | 5, _ => show f ≤ 2; omega
        | 6, _ => show g ≤ 2; omega
    · show D.tup (rs.map enc ++ [.int f, .int g]) = D.tup ((rs ++ [f, g]).map enc)
      rw [List.map_append]; rfl
  · split
    · refine Ok.bd (ok_roll (n := n + 1) hc2 (m := 7) (by decide)) ?_
      rintro _ c3 ⟨⟨k, hk, rfl⟩, hc3⟩
      simp -implicitDefEqProofs (disch := first | assumption | decide | omega | (simp only [List.length_map, List.length_take, List.length_drop, List.length_set, List.length_reverse, List.length_range, List.length_zip, List.length_append, List.length_cons, List.length_nil]; omega) | ((try simp only [List.length_map]); refine Nat.le_trans (List.length_filter_le _ _) ?_; first | assumption | omega | (simp only [List.length_map, List.length_take, List.length_drop, List.length_set, List.length_reverse, List.length_range, List.length_zip, List.length_append, List.length_cons, List.length_nil]; omega) | (refine Nat.le_trans (List.length_filter_le _ _) ?_; first | assumption | omega | (simp only [List.length_map, List.length_take, List.length_drop, List.length_set, List.length_reverse, List.length_range, List.length_zip, List.length_append, List.length_cons, List.length_nil]; omega))) | (repeat (first | exact sm_int | exact sm_bl | exact sm_non | assumption | exact sm_nil | refine sm_cons ?_ ?_ (by simp)))) only [w_var, w_cst, w_gl, w_tup, w_lst, w_op2, w_neg, w_nt, w_ife, w_cmp, w_chn, w_ix, w_sl, w_noe, Ev.w_rev, w_lz, w_call, w_calln, w_callf, w_bf, w_isi, w_and, w_or, w_and1, w_and2, w_or1, w_or2, w_lc, w_s0, w_s1, w_itE, w_itR, w_itN, w_itZ, zipO_eq, w_el, w_gn, w_tn0, w_tn1, w_tp0, w_tp1, gK_app, gQ_app, w_b0, w_b1, w_bp, w_bn, w_bt, w_wp0, w_wp1, x_nil, x_cons, x_pass, x_set, x_seto, x_asg, x_ret, x_ex, x_ife, x_for, x_whS, loopL_consB, Ev.loopL_nil, x_app, x_auga, x_ext, x_step_n, x_step_t, xK_app, tst_bl, asB_bl, ntO_bl, negO_int, optB_some, optO_some, retO_rt, retO_nx, retO_ite, nxt_nx, nxt_rt, nxtE_some, bd_ok, bd_ite, bd_assoc, ite_bl, Ev.ite_int, ite_ite, Bool.and_eq_true, Bool.or_eq_true,  if_tl, if_fr, if_fl, if_tr, dec_b,  of_some, Option.map_some, Option.bind_some, gv0, gvS, List.set_cons_zero, List.set_cons_succ, appO_lst, putv_some, oi_noe, oi_var, oi_cst, oi_gl, oi_op2, oi_neg, oi_ix, oi_bf, List.map_cons, List.map_nil, List.cons_append, List.nil_append, List.replicate_zero, List.replicate_succ, Bool.not_true, Bool.not_false, if_true, if_false, Bool.false_eq_true, reduceIte, decide_eq_true_eq, Bool.not_eq_true', decide_eq_false_iff_not, Bool.true_eq_false, eq_self, not_true_eq_false, not_false_eq_true, decide_true, decide_false, Bool.false_or, Bool.true_or, Bool.or_false, Bool.or_true, Bool.true_and, Bool.false_and, Bool.and_true, Bool.and_false, List.length_map, w_boE, w_boT, w_boI, ne_eq, bf_min2, bf_max2, Int.natCast_inj, Int.ofNat_le, Int.ofNat_lt, bf_sumN, bf_minN, lzEE, lzLE, lzLL, isBt, isBf, isnBt, isnBf, innT, innL, ninT, ninL, tupE, Int.reduceToNat, map_encN, map_idf, eqNilE, neNilE, eqE, neE, eqEL, neEL, ixEn, ixLn, addLE, addE, addTE, addET, opv_addL, opv_addT, cut_take, cut_drop, toNat_s, eqNil0, neNil0, cut_drop1, cut_takeI, cut_dropI, rngI, Int.toNat_natCast, innI1, innI2, innI3, enc_int, enc_nat, enc_bool, cov_lt, cov_le, cov_gt, cov_ge, cov_eqI, cov_neI, cov_isN, cov_isnN, opv_addI, opv_subI, itemsE, itemsL, itemsT, lenE, lenL, lenT, tupleL, tupleE, listE, listL, slE, slL, enumE, zipE, loopL_typed, loopL_rng, loopM_map, loopM_filt, loopM_flat, loopR_map, loopR_filt, loopR_flat, lcEnd_ok, eqOn, eqnO, neOn, eqOi, eqiO, neOi, innTn, innLn, ninTn, ninLn, innTo, innLo, ninTo, ninLo, innTi, innLi, bf_all, any_T, bf_sum, isNon_opt, isNon_nn, isNon_int, isNon_tup]
      refine Ok.bd (ok_roll (n := n + 1) hc3 (m := if (k : Int) < 5 then 2 else 3) (by split <;> decide)) ?_
      rintro _ c4 ⟨⟨v, hv, rfl⟩, hc4⟩
      simp -implicitDefEqProofs (disch := first | assumption | decide | omega | (simp only [List.length_map, List.length_take, List.length_drop, List.length_set, List.length_reverse, List.length_range, List.length_zip, List.length_append, List.length_cons, List.length_nil]; omega) | ((try simp only [List.length_map]); refine Nat.le_trans (List.length_filter_le _ _) ?_; first | assumption | omega | (simp only [List.length_map, List.length_take, List.length_drop, List.length_set, List.length_reverse, List.length_range, List.length_zip, List.length_append, List.length_cons, List.length_nil]; omega) | (refine Nat.le_trans (List.length_filter_le _ _) ?_; first | assumption | omega | (simp only [List.length_map, List.length_take, List.length_drop, List.length_set, List.length_reverse, List.length_range, List.length_zip, List.length_append, List.length_cons, List.length_nil]; omega))) | (repeat (first | exact sm_int | exact sm_bl | exact sm_non | assumption | exact sm_nil | refine sm_cons ?_ ?_ (by simp)))) only [w_var, w_cst, w_gl, w_tup, w_lst, w_op2, w_neg, w_nt, w_ife, w_cmp, w_chn, w_ix, w_sl, w_noe, Ev.w_rev, w_lz, w_call, w_calln, w_callf, w_bf, w_isi, w_and, w_or, w_and1, w_and2, w_or1, w_or2, w_lc, w_s0, w_s1, w_itE, w_itR, w_itN, w_itZ, zipO_eq, w_el, w_gn, w_tn0, w_tn1, w_tp0, w_tp1, gK_app, gQ_app, w_b0, w_b1, w_bp, w_bn, w_bt, w_wp0, w_wp1, x_nil, x_cons, x_pass, x_set, x_seto, x_asg, x_ret, x_ex, x_ife, x_for, x_whS, loopL_consB, Ev.loopL_nil, x_app, x_auga, x_ext, x_step_n, x_step_t, xK_app, tst_bl, asB_bl, ntO_bl, negO_int, optB_some, optO_some, retO_rt, retO_nx, retO_ite, nxt_nx, nxt_rt, nxtE_some, bd_ok, bd_ite, bd_assoc, ite_bl, Ev.ite_int, ite_ite, Bool.and_eq_true, Bool.or_eq_true,  if_tl, if_fr, if_fl, if_tr, dec_b,  of_some, Option.map_some, Option.bind_some, gv0, gvS, List.set_cons_zero, List.set_cons_succ, appO_lst, putv_some, oi_noe, oi_var, oi_cst, oi_gl, oi_op2, oi_neg, oi_ix, oi_bf, List.map_cons, List.map_nil, List.cons_append, List.nil_append, List.replicate_zero, List.replicate_succ, Bool.not_true, Bool.not_false, if_true, if_false, Bool.false_eq_true, reduceIte, decide_eq_true_eq, Bool.not_eq_true', decide_eq_false_iff_not, Bool.true_eq_false, eq_self, not_true_eq_false, not_false_eq_true, decide_true, decide_false, Bool.false_or, Bool.true_or, Bool.or_false, Bool.or_true, Bool.true_and, Bool.false_and, Bool.and_true, Bool.and_false, List.length_map, w_boE, w_boT, w_boI, ne_eq, bf_min2, bf_max2, Int.natCast_inj, Int.ofNat_le, Int.ofNat_lt, bf_sumN, bf_minN, lzEE, lzLE, lzLL, isBt, isBf, isnBt, isnBf, innT, innL, ninT, ninL, tupE, Int.reduceToNat, map_encN, map_idf, eqNilE, neNilE, eqE, neE, eqEL, neEL, ixEn, ixLn, addLE, addE, addTE, addET, opv_addL, opv_addT, cut_take, cut_drop, toNat_s, eqNil0, neNil0, cut_drop1, cut_takeI, cut_dropI, rngI, Int.toNat_natCast, innI1, innI2, innI3, enc_int, enc_nat, enc_bool, cov_lt, cov_le, cov_gt, cov_ge, cov_eqI, cov_neI, cov_isN, cov_isnN, opv_addI, opv_subI, itemsE, itemsL, itemsT, lenE, lenL, lenT, tupleL, tupleE, listE, listL, slE, slL, enumE, zipE, loopL_typed, loopL_rng, loopM_map, loopM_filt, loopM_flat, loopR_map, loopR_filt, loopR_flat, lcEnd_ok, eqOn, eqnO, neOn, eqOi, eqiO, neOi, innTn, innLn, ninTn, ninLn, innTo, innLo, ninTo, ninLo, innTi, innLi, bf_all, any_T, bf_sum, isNon_opt, isNon_nn, isNon_int, isNon_tup]
      refine ⟨_, _, rfl, _, rfl, ⟨t.set k v, tab_set ht (by unfold topN; split at hv <;> split <;> omega), ?_⟩, hc4⟩
      rw [← set_cut (by omega)]
      show D.tup _ = D.tup _
      simp only [List.map_append, List.map_cons, List.map_nil]
      rfl
    · exact ⟨_, _, rfl, _, rfl, ⟨t, ht, rfl⟩, hc2⟩
end LW

set_option maxRecDepth 100000
set_option maxHeartbeats 0
namespace LW
open PySem PySem.Spec PyProof.Rows L2 Ev
open Enc (enc)
theorem need_tab {n : Nat} {c : Cu} {t : List Nat} (ht : t ∈ tabs) : callN false P (n + 3) n_need_table [enc t] c = .ok .non c := c_need_table (tab_pl (by rw [tab_len ht]; decide)) (tab_fits ht)
def partB (d : D) : Bool := match d with
  | .tup xs => decide (xs.length = 7) && ((List.range xs.length).all fun i => (at_ xs i).isNon || fitsB (at_ xs i) 0 (topN i))
  | _ => false
def inB (p : List (Option Nat)) (t : List Nat) : Bool := (p.zip t).all fun q => q.1.isNone || decide (q.1 = some q.2)
def fil (p : List (Option Nat)) : List (List Nat) := tabs.filter (inB p)
def cnt (p : List (Option Nat)) : List (List Nat) := (fil p).filter sound
theorem tabs_len : tabs.length = 288 := by decide +kernel
theorem fil_len (p : List (Option Nat)) : (fil p).length ≤ 288 := by
  rw [← tabs_len]; exact List.length_filter_le _ _
theorem cnt_len (p : List (Option Nat)) : (cnt p).length ≤ 288 := Nat.le_trans (List.length_filter_le _ _) (fil_len p)
/-- costs that fit -/
def okC (cs : List (List Nat)) : Prop := cs.length = 7 ∧ ∀ i, i < 7 → (at_ cs i).length = topN i + 1 ∧ (∀ v ∈ at_ cs i, v ≤ 1000) ∧ (i ≠ 6 → at_ (at_ cs i) 0 = 0)
def cst (cs : List (List Nat)) (t : List Nat) : Nat := ((cs.zip t).map fun p => at_ p.1 p.2).sum
theorem topN_ge (i : Nat) : 1 ≤ topN i := by unfold topN; split <;> omega
theorem okC_in {cs : List (List Nat)} {t : List Nat} (h : okC cs) (ht : t ∈ tabs) : ∀ p ∈ cs.zip t, p.2 < p.1.length := by
  intro p hp
  obtain ⟨h1, h2⟩ := tabs_iff.mp ht
  rw [zip_rng h.1 h1] at hp
  obtain ⟨i, hi, rfl⟩ := List.mem_map.mp hp
  have hi := List.mem_range.mp hi
  have := h2 i hi
  have := (h.2 i hi).1
  show at_ t i < (at_ cs i).length
  omega
theorem c_cost_in {n : Nat} {c : Cu} {cs : List (List Nat)} {t : List Nat} (h : okC cs) (ht : t ∈ tabs) : callN false P (n + 1) n_cost_in [enc cs, enc t] c = .ok (.int (cst cs t : Int)) c := by
  rw [u_cost_in, s_cost_in]
  have hin := okC_in h ht
  have ix : ∀ p, p ∈ cs.zip t → ∀ c, ixv (enc p.1) (.int (p.2 : Int)) c = some (enc (at_ p.1 p.2)) := fun p hp c => ixEn (hin p hp)
  have := h.1
  simp -implicitDefEqProofs (disch := first | assumption | decide | omega | (simp only [List.length_map, List.length_take, List.length_drop, List.length_set, List.length_reverse, List.length_range, List.length_zip, List.length_append, List.length_cons, List.length_nil]; omega) | ((try simp only [List.length_map]); refine Nat.le_trans (List.length_filter_le _ _) ?_; first | assumption | omega | (simp only [List.length_map, List.length_take, List.length_drop, List.length_set, List.length_reverse, List.length_range, List.length_zip, List.length_append, List.length_cons, List.length_nil]; omega) | (refine Nat.le_trans (List.length_filter_le _ _) ?_; first | assumption | omega | (simp only [List.length_map, List.length_take, List.length_drop, List.length_set, List.length_reverse, List.length_range, List.length_zip, List.length_append, List.length_cons, List.length_nil]; omega))) | (repeat (first | exact sm_int | exact sm_bl | exact sm_non | assumption | exact sm_nil | refine sm_cons ?_ ?_ (by simp)))) only [w_var, w_cst, w_gl, w_tup, w_lst, w_op2, w_neg, w_nt, w_ife, w_cmp, w_chn, w_ix, w_sl, w_noe, Ev.w_rev, w_lz, w_call, w_calln, w_callf, w_bf, w_isi, w_and, w_or, w_and1, w_and2, w_or1, w_or2, w_lc, w_s0, w_s1, w_itE, w_itR, w_itN, w_itZ, zipO_eq, w_el, w_gn, w_tn0, w_tn1, w_tp0, w_tp1, gK_app, gQ_app, w_b0, w_b1, w_bp, w_bn, w_bt, w_wp0, w_wp1, x_nil, x_cons, x_pass, x_set, x_seto, x_asg, x_ret, x_ex, x_ife, x_for, x_whS, loopL_consB, Ev.loopL_nil, x_app, x_auga, x_ext, x_step_n, x_step_t, xK_app, tst_bl, asB_bl, ntO_bl, negO_int, optB_some, optO_some, retO_rt, retO_nx, retO_ite, nxt_nx, nxt_rt, nxtE_some, bd_ok, bd_ite, bd_assoc, ite_bl, Ev.ite_int, ite_ite, Bool.and_eq_true, Bool.or_eq_true,  if_tl, if_fr, if_fl, if_tr, dec_b,  of_some, Option.map_some, Option.bind_some, gv0, gvS, List.set_cons_zero, List.set_cons_succ, appO_lst, putv_some, oi_noe, oi_var, oi_cst, oi_gl, oi_op2, oi_neg, oi_ix, oi_bf, List.map_cons, List.map_nil, List.cons_append, List.nil_append, List.replicate_zero, List.replicate_succ, Bool.not_true, Bool.not_false, if_true, if_false, Bool.false_eq_true, reduceIte, decide_eq_true_eq, Bool.not_eq_true', decide_eq_false_iff_not, Bool.true_eq_false, eq_self, not_true_eq_false, not_false_eq_true, decide_true, decide_false, Bool.false_or, Bool.true_or, Bool.or_false, Bool.or_true, Bool.true_and, Bool.false_and, Bool.and_true, Bool.and_false, List.length_map, w_boE, w_boT, w_boI, ne_eq, bf_min2, bf_max2, Int.natCast_inj, Int.ofNat_le, Int.ofNat_lt, bf_sumN, bf_minN, lzEE, lzLE, lzLL, isBt, isBf, isnBt, isnBf, innT, innL, ninT, ninL, tupE, Int.reduceToNat, map_encN, map_idf, eqNilE, neNilE, eqE, neE, eqEL, neEL, ixEn, ixLn, addLE, addE, addTE, addET, opv_addL, opv_addT, cut_take, cut_drop, toNat_s, eqNil0, neNil0, cut_drop1, cut_takeI, cut_dropI, rngI, Int.toNat_natCast, innI1, innI2, innI3, enc_int, enc_nat, enc_bool, cov_lt, cov_le, cov_gt, cov_ge, cov_eqI, cov_neI, cov_isN, cov_isnN, opv_addI, opv_subI, itemsE, itemsL, itemsT, lenE, lenL, lenT, tupleL, tupleE, listE, listL, slE, slL, enumE, zipE, loopL_typed, loopL_rng, loopM_map, loopM_filt, loopM_flat, loopR_map, loopR_filt, loopR_flat, lcEnd_ok, eqOn, eqnO, neOn, eqOi, eqiO, neOi, innTn, innLn, ninTn, ninLn, innTo, innLo, ninTo, ninLo, innTi, innLi, bf_all, any_T, bf_sum, isNon_opt, isNon_nn, isNon_int, isNon_tup, ix]
  rfl
theorem c_fits_costs {n : Nat} {c : Cu} {cs : List (List Nat)} (h : okC cs) : callN false P (n + 2) n_fits_costs [enc cs] c = .ok (.bl true) c := by
  refine of_Ok ?_
  rw [u_fits_costs, s_fits_costs]
  have e1 : isT (enc cs) 7 7 = true := by
    show isT (.tup (cs.map enc)) 7 7 = true
    rw [isT77, List.length_map, h.1]; rfl
  simp -implicitDefEqProofs (disch := first | assumption | decide | omega | (simp only [List.length_map, List.length_take, List.length_drop, List.length_set, List.length_reverse, List.length_range, List.length_zip, List.length_append, List.length_cons, List.length_nil]; omega) | ((try simp only [List.length_map]); refine Nat.le_trans (List.length_filter_le _ _) ?_; first | assumption | omega | (simp only [List.length_map, List.length_take, List.length_drop, List.length_set, List.length_reverse, List.length_range, List.length_zip, List.length_append, List.length_cons, List.length_nil]; omega) | (refine Nat.le_trans (List.length_filter_le _ _) ?_; first | assumption | omega | (simp only [List.length_map, List.length_take, List.length_drop, List.length_set, List.length_reverse, List.length_range, List.length_zip, List.length_append, List.length_cons, List.length_nil]; omega))) | (repeat (first | exact sm_int | exact sm_bl | exact sm_non | assumption | exact sm_nil | refine sm_cons ?_ ?_ (by simp)))) only [w_var, w_cst, w_gl, w_tup, w_lst, w_op2, w_neg, w_nt, w_ife, w_cmp, w_chn, w_ix, w_sl, w_noe, Ev.w_rev, w_lz, w_call, w_calln, w_callf, w_bf, w_isi, w_and, w_or, w_and1, w_and2, w_or1, w_or2, w_lc, w_s0, w_s1, w_itE, w_itR, w_itN, w_itZ, zipO_eq, w_el, w_gn, w_tn0, w_tn1, w_tp0, w_tp1, gK_app, gQ_app, w_b0, w_b1, w_bp, w_bn, w_bt, w_wp0, w_wp1, x_nil, x_cons, x_pass, x_set, x_seto, x_asg, x_ret, x_ex, x_ife, x_for, x_whS, loopL_consB, Ev.loopL_nil, x_app, x_auga, x_ext, x_step_n, x_step_t, xK_app, tst_bl, asB_bl, ntO_bl, negO_int, optB_some, optO_some, retO_rt, retO_nx, retO_ite, nxt_nx, nxt_rt, nxtE_some, bd_ok, bd_ite, bd_assoc, ite_bl, Ev.ite_int, ite_ite, Bool.and_eq_true, Bool.or_eq_true,  if_tl, if_fr, if_fl, if_tr, dec_b,  of_some, Option.map_some, Option.bind_some, gv0, gvS, List.set_cons_zero, List.set_cons_succ, appO_lst, putv_some, oi_noe, oi_var, oi_cst, oi_gl, oi_op2, oi_neg, oi_ix, oi_bf, List.map_cons, List.map_nil, List.cons_append, List.nil_append, List.replicate_zero, List.replicate_succ, Bool.not_true, Bool.not_false, if_true, if_false, Bool.false_eq_true, reduceIte, decide_eq_true_eq, Bool.not_eq_true', decide_eq_false_iff_not, Bool.true_eq_false, eq_self, not_true_eq_false, not_false_eq_true, decide_true, decide_false, Bool.false_or, Bool.true_or, Bool.or_false, Bool.or_true, Bool.true_and, Bool.false_and, Bool.and_true, Bool.and_false, List.length_map, w_boE, w_boT, w_boI, ne_eq, bf_min2, bf_max2, Int.natCast_inj, Int.ofNat_le, Int.ofNat_lt, bf_sumN, bf_minN, lzEE, lzLE, lzLL, isBt, isBf, isnBt, isnBf, innT, innL, ninT, ninL, tupE, Int.reduceToNat, map_encN, map_idf, eqNilE, neNilE, eqE, neE, eqEL, neEL, ixEn, ixLn, addLE, addE, addTE, addET, opv_addL, opv_addT, cut_take, cut_drop, toNat_s, eqNil0, neNil0, cut_drop1, cut_takeI, cut_dropI, rngI, Int.toNat_natCast, innI1, innI2, innI3, enc_int, enc_nat, enc_bool, cov_lt, cov_le, cov_gt, cov_ge, cov_eqI, cov_neI, cov_isN, cov_isnN, opv_addI, opv_subI, itemsE, itemsL, itemsT, lenE, lenL, lenT, tupleL, tupleE, listE, listL, slE, slL, enumE, zipE, loopL_typed, loopL_rng, loopM_map, loopM_filt, loopM_flat, loopR_map, loopR_filt, loopR_flat, lcEnd_ok, eqOn, eqnO, neOn, eqOi, eqiO, neOi, innTn, innLn, ninTn, ninLn, innTo, innLo, ninTo, ninLo, innTi, innLi, bf_all, any_T, bf_sum, isNon_opt, isNon_nn, isNon_int, isNon_tup, c_is_tuple_of (d := enc cs) rfl, e1]
  refine Ok.u (Ok.forL (fun env c' => (∃ a1 a2 a3 : Option D, env = [some (enc cs), a1, a2, a3]) ∧ c' = c) ⟨⟨_, _, _, rfl⟩, rfl⟩ ?_ ?_)
  · rintro x hx env c' ⟨⟨a1, a2, a3, rfl⟩, rfl⟩
    obtain ⟨i, hi, rfl⟩ := List.mem_map.mp hx
    have hi : i < 7 := by have := List.mem_range.mp hi; rw [h.1] at this; exact this
    obtain ⟨h1, h2, h3⟩ := h.2 i hi
    have e2 : isT (enc (at_ cs i)) ((topN i : Int) + 1) ((topN i : Int) + 1) = true := by
      rw [isT_enc, h1]
      simp
    have e3 : ∀ v, v ∈ at_ cs i → ∀ n c, callN false P (n + 1) n_fits_whole [.int (v : Int), .int 0, .int 1000] c = .ok (.bl true) c := fun v hv n c => by
      rw [c_fits_whole rfl]
      have := h2 v hv
      have : fitsB (.int (v : Int)) 0 1000 = true := by
        rw [fitsB_int]
        simp; omega
      rw [this]
    have l0 : 0 < (at_ cs i).length := by omega
    have e4 : ∀ c, ixv (enc (at_ cs i)) (.int 0) c = some (.int ((at_ (at_ cs i) 0 : Nat) : Int)) := fun c => ixEn (i := 0) l0
    have := topN_ge i
    have : (at_ cs i).length ≤ 3 := by rw [h1]; unfold topN; split <;> omega
    rw [b_fits_costs_0]
    simp -implicitDefEqProofs (disch := first | assumption | decide | omega | (simp only [List.length_map, List.length_take, List.length_drop, List.length_set, List.length_reverse, List.length_range, List.length_zip, List.length_append, List.length_cons, List.length_nil]; omega) | ((try simp only [List.length_map]); refine Nat.le_trans (List.length_filter_le _ _) ?_; first | assumption | omega | (simp only [List.length_map, List.length_take, List.length_drop, List.length_set, List.length_reverse, List.length_range, List.length_zip, List.length_append, List.length_cons, List.length_nil]; omega) | (refine Nat.le_trans (List.length_filter_le _ _) ?_; first | assumption | omega | (simp only [List.length_map, List.length_take, List.length_drop, List.length_set, List.length_reverse, List.length_range, List.length_zip, List.length_append, List.length_cons, List.length_nil]; omega))) | (repeat (first | exact sm_int | exact sm_bl | exact sm_non | assumption | exact sm_nil | refine sm_cons ?_ ?_ (by simp)))) only [w_var, w_cst, w_gl, w_tup, w_lst, w_op2, w_neg, w_nt, w_ife, w_cmp, w_chn, w_ix, w_sl, w_noe, Ev.w_rev, w_lz, w_call, w_calln, w_callf, w_bf, w_isi, w_and, w_or, w_and1, w_and2, w_or1, w_or2, w_lc, w_s0, w_s1, w_itE, w_itR, w_itN, w_itZ, zipO_eq, w_el, w_gn, w_tn0, w_tn1, w_tp0, w_tp1, gK_app, gQ_app, w_b0, w_b1, w_bp, w_bn, w_bt, w_wp0, w_wp1, x_nil, x_cons, x_pass, x_set, x_seto, x_asg, x_ret, x_ex, x_ife, x_for, x_whS, loopL_consB, Ev.loopL_nil, x_app, x_auga, x_ext, x_step_n, x_step_t, xK_app, tst_bl, asB_bl, ntO_bl, negO_int, optB_some, optO_some, retO_rt, retO_nx, retO_ite, nxt_nx, nxt_rt, nxtE_some, bd_ok, bd_ite, bd_assoc, ite_bl, Ev.ite_int, ite_ite, Bool.and_eq_true, Bool.or_eq_true,  if_tl, if_fr, if_fl, if_tr, dec_b,  of_some, Option.map_some, Option.bind_some, gv0, gvS, List.set_cons_zero, List.set_cons_succ, appO_lst, putv_some, oi_noe, oi_var, oi_cst, oi_gl, oi_op2, oi_neg, oi_ix, oi_bf, List.map_cons, List.map_nil, List.cons_append, List.nil_append, List.replicate_zero, List.replicate_succ, Bool.not_true, Bool.not_false, if_true, if_false, Bool.false_eq_true, reduceIte, decide_eq_true_eq, Bool.not_eq_true', decide_eq_false_iff_not, Bool.true_eq_false, eq_self, not_true_eq_false, not_false_eq_true, decide_true, decide_false, Bool.false_or, Bool.true_or, Bool.or_false, Bool.or_true, Bool.true_and, Bool.false_and, Bool.and_true, Bool.and_false, List.length_map, w_boE, w_boT, w_boI, ne_eq, bf_min2, bf_max2, Int.natCast_inj, Int.ofNat_le, Int.ofNat_lt, bf_sumN, bf_minN, lzEE, lzLE, lzLL, isBt, isBf, isnBt, isnBf, innT, innL, ninT, ninL, tupE, Int.reduceToNat, map_encN, map_idf, eqNilE, neNilE, eqE, neE, eqEL, neEL, ixEn, ixLn, addLE, addE, addTE, addET, opv_addL, opv_addT, cut_take, cut_drop, toNat_s, eqNil0, neNil0, cut_drop1, cut_takeI, cut_dropI, rngI, Int.toNat_natCast, innI1, innI2, innI3, enc_int, enc_nat, enc_bool, cov_lt, cov_le, cov_gt, cov_ge, cov_eqI, cov_neI, cov_isN, cov_isnN, opv_addI, opv_subI, itemsE, itemsL, itemsT, lenE, lenL, lenT, tupleL, tupleE, listE, listL, slE, slL, enumE, zipE, loopL_typed, loopL_rng, loopM_map, loopM_filt, loopM_flat, loopR_map, loopR_filt, loopR_flat, lcEnd_ok, eqOn, eqnO, neOn, eqOi, eqiO, neOi, innTn, innLn, ninTn, ninLn, innTo, innLo, ninTo, ninLo, innTi, innLi, bf_all, any_T, bf_sum, isNon_opt, isNon_nn, isNon_int, isNon_tup, c_top_of, c_is_tuple_of (d := enc (at_ cs i)) rfl, e2, e3, e4]
    rw [if_neg (by simp), if_neg (by rintro ⟨q1, q2⟩; have := h3 (by omega); omega)]
    exact ⟨_, _, rfl, _, rfl, ⟨_, _, _, rfl⟩, rfl⟩
  · rintro env c' ⟨⟨a1, a2, a3, rfl⟩, rfl⟩
    simp -implicitDefEqProofs (disch := first | assumption | decide | omega | (simp only [List.length_map, List.length_take, List.length_drop, List.length_set, List.length_reverse, List.length_range, List.length_zip, List.length_append, List.length_cons, List.length_nil]; omega) | ((try simp only [List.length_map]); refine Nat.le_trans (List.length_filter_le _ _) ?_; first | assumption | omega | (simp only [List.length_map, List.length_take, List.length_drop, List.length_set, List.length_reverse, List.length_range, List.length_zip, List.length_append, List.length_cons, List.length_nil]; omega) | (refine Nat.le_trans (List.length_filter_le _ _) ?_; first | assumption | omega | (simp only [List.length_map, List.length_take, List.length_drop, List.length_set, List.length_reverse, List.length_range, List.length_zip, List.length_append, List.length_cons, List.length_nil]; omega))) | (repeat (first | exact sm_int | exact sm_bl | exact sm_non | assumption | exact sm_nil | refine sm_cons ?_ ?_ (by simp)))) only [w_var, w_cst, w_gl, w_tup, w_lst, w_op2, w_neg, w_nt, w_ife, w_cmp, w_chn, w_ix, w_sl, w_noe, Ev.w_rev, w_lz, w_call, w_calln, w_callf, w_bf, w_isi, w_and, w_or, w_and1, w_and2, w_or1, w_or2, w_lc, w_s0, w_s1, w_itE, w_itR, w_itN, w_itZ, zipO_eq, w_el, w_gn, w_tn0, w_tn1, w_tp0, w_tp1, gK_app, gQ_app, w_b0, w_b1, w_bp, w_bn, w_bt, w_wp0, w_wp1, x_nil, x_cons, x_pass, x_set, x_seto, x_asg, x_ret, x_ex, x_ife, x_for, x_whS, loopL_consB, Ev.loopL_nil, x_app, x_auga, x_ext, x_step_n, x_step_t, xK_app, tst_bl, asB_bl, ntO_bl, negO_int, optB_some, optO_some, retO_rt, retO_nx, retO_ite, nxt_nx, nxt_rt, nxtE_some, bd_ok, bd_ite, bd_assoc, ite_bl, Ev.ite_int, ite_ite, Bool.and_eq_true, Bool.or_eq_true,  if_tl, if_fr, if_fl, if_tr, dec_b,  of_some, Option.map_some, Option.bind_some, gv0, gvS, List.set_cons_zero, List.set_cons_succ, appO_lst, putv_some, oi_noe, oi_var, oi_cst, oi_gl, oi_op2, oi_neg, oi_ix, oi_bf, List.map_cons, List.map_nil, List.cons_append, List.nil_append, List.replicate_zero, List.replicate_succ, Bool.not_true, Bool.not_false, if_true, if_false, Bool.false_eq_true, reduceIte, decide_eq_true_eq, Bool.not_eq_true', decide_eq_false_iff_not, Bool.true_eq_false, eq_self, not_true_eq_false, not_false_eq_true, decide_true, decide_false, Bool.false_or, Bool.true_or, Bool.or_false, Bool.or_true, Bool.true_and, Bool.false_and, Bool.and_true, Bool.and_false, List.length_map, w_boE, w_boT, w_boI, ne_eq, bf_min2, bf_max2, Int.natCast_inj, Int.ofNat_le, Int.ofNat_lt, bf_sumN, bf_minN, lzEE, lzLE, lzLL, isBt, isBf, isnBt, isnBf, innT, innL, ninT, ninL, tupE, Int.reduceToNat, map_encN, map_idf, eqNilE, neNilE, eqE, neE, eqEL, neEL, ixEn, ixLn, addLE, addE, addTE, addET, opv_addL, opv_addT, cut_take, cut_drop, toNat_s, eqNil0, neNil0, cut_drop1, cut_takeI, cut_dropI, rngI, Int.toNat_natCast, innI1, innI2, innI3, enc_int, enc_nat, enc_bool, cov_lt, cov_le, cov_gt, cov_ge, cov_eqI, cov_neI, cov_isN, cov_isnN, opv_addI, opv_subI, itemsE, itemsL, itemsT, lenE, lenL, lenT, tupleL, tupleE, listE, listL, slE, slL, enumE, zipE, loopL_typed, loopL_rng, loopM_map, loopM_filt, loopM_flat, loopR_map, loopR_filt, loopR_flat, lcEnd_ok, eqOn, eqnO, neOn, eqOi, eqiO, neOi, innTn, innLn, ninTn, ninLn, innTo, innLo, ninTo, ninLo, innTi, innLi, bf_all, any_T, bf_sum, isNon_opt, isNon_nn, isNon_int, isNon_tup]
    exact ⟨_, _, rfl, _, rfl, rfl, rfl⟩
theorem c_need_costs {n : Nat} {c : Cu} {cs : List (List Nat)} (h : okC cs) : callN false P (n + 3) n_need_costs [enc cs] c = .ok .non c := by
  rw [u_need_costs, s_need_costs]
  simp -implicitDefEqProofs (disch := first | assumption | decide | omega | (simp only [List.length_map, List.length_take, List.length_drop, List.length_set, List.length_reverse, List.length_range, List.length_zip, List.length_append, List.length_cons, List.length_nil]; omega) | ((try simp only [List.length_map]); refine Nat.le_trans (List.length_filter_le _ _) ?_; first | assumption | omega | (simp only [List.length_map, List.length_take, List.length_drop, List.length_set, List.length_reverse, List.length_range, List.length_zip, List.length_append, List.length_cons, List.length_nil]; omega) | (refine Nat.le_trans (List.length_filter_le _ _) ?_; first | assumption | omega | (simp only [List.length_map, List.length_take, List.length_drop, List.length_set, List.length_reverse, List.length_range, List.length_zip, List.length_append, List.length_cons, List.length_nil]; omega))) | (repeat (first | exact sm_int | exact sm_bl | exact sm_non | assumption | exact sm_nil | refine sm_cons ?_ ?_ (by simp)))) only [w_var, w_cst, w_gl, w_tup, w_lst, w_op2, w_neg, w_nt, w_ife, w_cmp, w_chn, w_ix, w_sl, w_noe, Ev.w_rev, w_lz, w_call, w_calln, w_callf, w_bf, w_isi, w_and, w_or, w_and1, w_and2, w_or1, w_or2, w_lc, w_s0, w_s1, w_itE, w_itR, w_itN, w_itZ, zipO_eq, w_el, w_gn, w_tn0, w_tn1, w_tp0, w_tp1, gK_app, gQ_app, w_b0, w_b1, w_bp, w_bn, w_bt, w_wp0, w_wp1, x_nil, x_cons, x_pass, x_set, x_seto, x_asg, x_ret, x_ex, x_ife, x_for, x_whS, loopL_consB, Ev.loopL_nil, x_app, x_auga, x_ext, x_step_n, x_step_t, xK_app, tst_bl, asB_bl, ntO_bl, negO_int, optB_some, optO_some, retO_rt, retO_nx, retO_ite, nxt_nx, nxt_rt, nxtE_some, bd_ok, bd_ite, bd_assoc, ite_bl, Ev.ite_int, ite_ite, Bool.and_eq_true, Bool.or_eq_true,  if_tl, if_fr, if_fl, if_tr, dec_b,  of_some, Option.map_some, Option.bind_some, gv0, gvS, List.set_cons_zero, List.set_cons_succ, appO_lst, putv_some, oi_noe, oi_var, oi_cst, oi_gl, oi_op2, oi_neg, oi_ix, oi_bf, List.map_cons, List.map_nil, List.cons_append, List.nil_append, List.replicate_zero, List.replicate_succ, Bool.not_true, Bool.not_false, if_true, if_false, Bool.false_eq_true, reduceIte, decide_eq_true_eq, Bool.not_eq_true', decide_eq_false_iff_not, Bool.true_eq_false, eq_self, not_true_eq_false, not_false_eq_true, decide_true, decide_false, Bool.false_or, Bool.true_or, Bool.or_false, Bool.or_true, Bool.true_and, Bool.false_and, Bool.and_true, Bool.and_false, List.length_map, w_boE, w_boT, w_boI, ne_eq, bf_min2, bf_max2, Int.natCast_inj, Int.ofNat_le, Int.ofNat_lt, bf_sumN, bf_minN, lzEE, lzLE, lzLL, isBt, isBf, isnBt, isnBf, innT, innL, ninT, ninL, tupE, Int.reduceToNat, map_encN, map_idf, eqNilE, neNilE, eqE, neE, eqEL, neEL, ixEn, ixLn, addLE, addE, addTE, addET, opv_addL, opv_addT, cut_take, cut_drop, toNat_s, eqNil0, neNil0, cut_drop1, cut_takeI, cut_dropI, rngI, Int.toNat_natCast, innI1, innI2, innI3, enc_int, enc_nat, enc_bool, cov_lt, cov_le, cov_gt, cov_ge, cov_eqI, cov_neI, cov_isN, cov_isnN, opv_addI, opv_subI, itemsE, itemsL, itemsT, lenE, lenL, lenT, tupleL, tupleE, listE, listL, slE, slL, enumE, zipE, loopL_typed, loopL_rng, loopM_map, loopM_filt, loopM_flat, loopR_map, loopR_filt, loopR_flat, lcEnd_ok, eqOn, eqnO, neOn, eqOi, eqiO, neOi, innTn, innLn, ninTn, ninLn, innTo, innLo, ninTo, ninLo, innTi, innLi, bf_all, any_T, bf_sum, isNon_opt, isNon_nn, isNon_int, isNon_tup, c_fits_costs h]
theorem c_cost_of {n : Nat} {c : Cu} {cs : List (List Nat)} {t : List Nat} (h : okC cs) (ht : t ∈ tabs) : callN false P (n + 4) n_cost_of [enc cs, enc t] c = .ok (.int (cst cs t : Int)) c := by
  rw [u_cost_of, s_cost_of]
  simp -implicitDefEqProofs (disch := first | assumption | decide | omega | (simp only [List.length_map, List.length_take, List.length_drop, List.length_set, List.length_reverse, List.length_range, List.length_zip, List.length_append, List.length_cons, List.length_nil]; omega) | ((try simp only [List.length_map]); refine Nat.le_trans (List.length_filter_le _ _) ?_; first | assumption | omega | (simp only [List.length_map, List.length_take, List.length_drop, List.length_set, List.length_reverse, List.length_range, List.length_zip, List.length_append, List.length_cons, List.length_nil]; omega) | (refine Nat.le_trans (List.length_filter_le _ _) ?_; first | assumption | omega | (simp only [List.length_map, List.length_take, List.length_drop, List.length_set, List.length_reverse, List.length_range, List.length_zip, List.length_append, List.length_cons, List.length_nil]; omega))) | (repeat (first | exact sm_int | exact sm_bl | exact sm_non | assumption | exact sm_nil | refine sm_cons ?_ ?_ (by simp)))) only [w_var, w_cst, w_gl, w_tup, w_lst, w_op2, w_neg, w_nt, w_ife, w_cmp, w_chn, w_ix, w_sl, w_noe, Ev.w_rev, w_lz, w_call, w_calln, w_callf, w_bf, w_isi, w_and, w_or, w_and1, w_and2, w_or1, w_or2, w_lc, w_s0, w_s1, w_itE, w_itR, w_itN, w_itZ, zipO_eq, w_el, w_gn, w_tn0, w_tn1, w_tp0, w_tp1, gK_app, gQ_app, w_b0, w_b1, w_bp, w_bn, w_bt, w_wp0, w_wp1, x_nil, x_cons, x_pass, x_set, x_seto, x_asg, x_ret, x_ex, x_ife, x_for, x_whS, loopL_consB, Ev.loopL_nil, x_app, x_auga, x_ext, x_step_n, x_step_t, xK_app, tst_bl, asB_bl, ntO_bl, negO_int, optB_some, optO_some, retO_rt, retO_nx, retO_ite, nxt_nx, nxt_rt, nxtE_some, bd_ok, bd_ite, bd_assoc, ite_bl, Ev.ite_int, ite_ite, Bool.and_eq_true, Bool.or_eq_true,  if_tl, if_fr, if_fl, if_tr, dec_b,  of_some, Option.map_some, Option.bind_some, gv0, gvS, List.set_cons_zero, List.set_cons_succ, appO_lst, putv_some, oi_noe, oi_var, oi_cst, oi_gl, oi_op2, oi_neg, oi_ix, oi_bf, List.map_cons, List.map_nil, List.cons_append, List.nil_append, List.replicate_zero, List.replicate_succ, Bool.not_true, Bool.not_false, if_true, if_false, Bool.false_eq_true, reduceIte, decide_eq_true_eq, Bool.not_eq_true', decide_eq_false_iff_not, Bool.true_eq_false, eq_self, not_true_eq_false, not_false_eq_true, decide_true, decide_false, Bool.false_or, Bool.true_or, Bool.or_false, Bool.or_true, Bool.true_and, Bool.false_and, Bool.and_true, Bool.and_false, List.length_map, w_boE, w_boT, w_boI, ne_eq, bf_min2, bf_max2, Int.natCast_inj, Int.ofNat_le, Int.ofNat_lt, bf_sumN, bf_minN, lzEE, lzLE, lzLL, isBt, isBf, isnBt, isnBf, innT, innL, ninT, ninL, tupE, Int.reduceToNat, map_encN, map_idf, eqNilE, neNilE, eqE, neE, eqEL, neEL, ixEn, ixLn, addLE, addE, addTE, addET, opv_addL, opv_addT, cut_take, cut_drop, toNat_s, eqNil0, neNil0, cut_drop1, cut_takeI, cut_dropI, rngI, Int.toNat_natCast, innI1, innI2, innI3, enc_int, enc_nat, enc_bool, cov_lt, cov_le, cov_gt, cov_ge, cov_eqI, cov_neI, cov_isN, cov_isnN, opv_addI, opv_subI, itemsE, itemsL, itemsT, lenE, lenL, lenT, tupleL, tupleE, listE, listL, slE, slL, enumE, zipE, loopL_typed, loopL_rng, loopM_map, loopM_filt, loopM_flat, loopR_map, loopR_filt, loopR_flat, lcEnd_ok, eqOn, eqnO, neOn, eqOi, eqiO, neOi, innTn, innLn, ninTn, ninLn, innTo, innLo, ninTo, ninLo, innTi, innLi, bf_all, any_T, bf_sum, isNon_opt, isNon_nn, isNon_int, isNon_tup, c_need_costs h, need_tab ht, c_cost_in h ht]
def snd_ : List (List Nat) := tabs.filter sound
theorem snd_len : snd_.length = 66 := by decide +kernel
theorem snd_in {t : List Nat} (h : t ∈ snd_) : t ∈ tabs := (List.mem_filter.mp h).1
theorem c_cheapest {n : Nat} {c : Cu} {cs : List (List Nat)} (h : okC cs) : callN false P (n + 4) n_cheapest [enc cs] c = .ok (.tup [.int (minN (snd_.map (cst cs)) : Int), enc (snd_.filter fun t => decide (cst cs t = minN (snd_.map (cst cs))))]) c := by
  rw [u_cheapest, s_cheapest]
  have e1 : List.filter (fun x => sound x) tabs = snd_ := rfl
  have l1 := snd_len
  have k1 : ∀ t, t ∈ snd_ → ∀ n c, callN false P (n + 1) n_cost_in [enc cs, enc t] c = .ok (.int (cst cs t : Int)) c := fun t ht n c => c_cost_in h (snd_in ht)
  have tl := tabs_len
  simp -implicitDefEqProofs (disch := first | assumption | decide | omega | (simp only [List.length_map, List.length_take, List.length_drop, List.length_set, List.length_reverse, List.length_range, List.length_zip, List.length_append, List.length_cons, List.length_nil]; omega) | ((try simp only [List.length_map]); refine Nat.le_trans (List.length_filter_le _ _) ?_; first | assumption | omega | (simp only [List.length_map, List.length_take, List.length_drop, List.length_set, List.length_reverse, List.length_range, List.length_zip, List.length_append, List.length_cons, List.length_nil]; omega) | (refine Nat.le_trans (List.length_filter_le _ _) ?_; first | assumption | omega | (simp only [List.length_map, List.length_take, List.length_drop, List.length_set, List.length_reverse, List.length_range, List.length_zip, List.length_append, List.length_cons, List.length_nil]; omega))) | (repeat (first | exact sm_int | exact sm_bl | exact sm_non | assumption | exact sm_nil | refine sm_cons ?_ ?_ (by simp)))) only [w_var, w_cst, w_gl, w_tup, w_lst, w_op2, w_neg, w_nt, w_ife, w_cmp, w_chn, w_ix, w_sl, w_noe, Ev.w_rev, w_lz, w_call, w_calln, w_callf, w_bf, w_isi, w_and, w_or, w_and1, w_and2, w_or1, w_or2, w_lc, w_s0, w_s1, w_itE, w_itR, w_itN, w_itZ, zipO_eq, w_el, w_gn, w_tn0, w_tn1, w_tp0, w_tp1, gK_app, gQ_app, w_b0, w_b1, w_bp, w_bn, w_bt, w_wp0, w_wp1, x_nil, x_cons, x_pass, x_set, x_seto, x_asg, x_ret, x_ex, x_ife, x_for, x_whS, loopL_consB, Ev.loopL_nil, x_app, x_auga, x_ext, x_step_n, x_step_t, xK_app, tst_bl, asB_bl, ntO_bl, negO_int, optB_some, optO_some, retO_rt, retO_nx, retO_ite, nxt_nx, nxt_rt, nxtE_some, bd_ok, bd_ite, bd_assoc, ite_bl, Ev.ite_int, ite_ite, Bool.and_eq_true, Bool.or_eq_true,  if_tl, if_fr, if_fl, if_tr, dec_b,  of_some, Option.map_some, Option.bind_some, gv0, gvS, List.set_cons_zero, List.set_cons_succ, appO_lst, putv_some, oi_noe, oi_var, oi_cst, oi_gl, oi_op2, oi_neg, oi_ix, oi_bf, List.map_cons, List.map_nil, List.cons_append, List.nil_append, List.replicate_zero, List.replicate_succ, Bool.not_true, Bool.not_false, if_true, if_false, Bool.false_eq_true, reduceIte, decide_eq_true_eq, Bool.not_eq_true', decide_eq_false_iff_not, Bool.true_eq_false, eq_self, not_true_eq_false, not_false_eq_true, decide_true, decide_false, Bool.false_or, Bool.true_or, Bool.or_false, Bool.or_true, Bool.true_and, Bool.false_and, Bool.and_true, Bool.and_false, List.length_map, w_boE, w_boT, w_boI, ne_eq, bf_min2, bf_max2, Int.natCast_inj, Int.ofNat_le, Int.ofNat_lt, bf_sumN, bf_minN, lzEE, lzLE, lzLL, isBt, isBf, isnBt, isnBf, innT, innL, ninT, ninL, tupE, Int.reduceToNat, map_encN, map_idf, eqNilE, neNilE, eqE, neE, eqEL, neEL, ixEn, ixLn, addLE, addE, addTE, addET, opv_addL, opv_addT, cut_take, cut_drop, toNat_s, eqNil0, neNil0, cut_drop1, cut_takeI, cut_dropI, rngI, Int.toNat_natCast, innI1, innI2, innI3, enc_int, enc_nat, enc_bool, cov_lt, cov_le, cov_gt, cov_ge, cov_eqI, cov_neI, cov_isN, cov_isnN, opv_addI, opv_subI, itemsE, itemsL, itemsT, lenE, lenL, lenT, tupleL, tupleE, listE, listL, slE, slL, enumE, zipE, loopL_typed, loopL_rng, loopM_map, loopM_filt, loopM_flat, loopR_map, loopR_filt, loopR_flat, lcEnd_ok, eqOn, eqnO, neOn, eqOi, eqiO, neOi, innTn, innLn, ninTn, ninLn, innTo, innLo, ninTo, ninLo, innTi, innLi, bf_all, any_T, bf_sum, isNon_opt, isNon_nn, isNon_int, isNon_tup, c_need_costs h, c_tables_in, c_is_sound_in, e1, k1]
def least8 : List (List Nat) := [[1, 0, 0, 0, 0, 1, 2], [1, 0, 0, 0, 0, 2, 2], [0, 0, 0, 1, 0, 1, 2], [0, 0, 0, 1, 0, 2, 2], [0, 1, 0, 0, 1, 0, 2], [0, 1, 0, 0, 1, 0, 2], [0, 0, 1, 0, 1, 0, 2], [0, 0, 1, 0, 1, 0, 2]]
theorem least8_in : ∀ t ∈ least8, t ∈ snd_ := by decide +kernel
theorem c_lt1 {n : Nat} {c : Cu} : callN false P (n + 1) n_least_table [.tup [.int 0, .int 5], .int 1] c = .ok (enc [1, 0, 0, 0, 0, 1, 2]) c := by kernel_rfl
theorem c_lt2 {n : Nat} {c : Cu} : callN false P (n + 1) n_least_table [.tup [.int 0, .int 5], .int 2] c = .ok (enc [1, 0, 0, 0, 0, 2, 2]) c := by kernel_rfl
theorem c_lt3 {n : Nat} {c : Cu} : callN false P (n + 1) n_least_table [.tup [.int 3, .int 5], .int 1] c = .ok (enc [0, 0, 0, 1, 0, 1, 2]) c := by kernel_rfl
theorem c_lt4 {n : Nat} {c : Cu} : callN false P (n + 1) n_least_table [.tup [.int 3, .int 5], .int 2] c = .ok (enc [0, 0, 0, 1, 0, 2, 2]) c := by kernel_rfl
theorem c_lt5 {n : Nat} {c : Cu} {f : Int} : callN false P (n + 1) n_least_table [.tup [.int 1, .int 4], .int f] c = .ok (enc [0, 1, 0, 0, 1, 0, 2]) c := by kernel_rfl
theorem c_lt6 {n : Nat} {c : Cu} {f : Int} : callN false P (n + 1) n_least_table [.tup [.int 2, .int 4], .int f] c = .ok (enc [0, 0, 1, 0, 1, 0, 2]) c := by kernel_rfl
theorem c_cheapest_by_least {n : Nat} {c : Cu} {cs : List (List Nat)} (h : okC cs) : callN false P (n + 4) n_cheapest_by_least [enc cs] c = .ok (.int (minN (least8.map (cst cs)) : Int)) c := by
  rw [u_cheapest_by_least, s_cheapest_by_least]
  have k1 : ∀ t, t ∈ least8 → ∀ n c, callN false P (n + 1) n_cost_in [enc cs, enc t] c = .ok (.int (cst cs t : Int)) c := fun t ht n c => c_cost_in h (snd_in (least8_in t ht))
  simp -implicitDefEqProofs (disch := first | assumption | decide | omega | (simp only [List.length_map, List.length_take, List.length_drop, List.length_set, List.length_reverse, List.length_range, List.length_zip, List.length_append, List.length_cons, List.length_nil]; omega) | ((try simp only [List.length_map]); refine Nat.le_trans (List.length_filter_le _ _) ?_; first | assumption | omega | (simp only [List.length_map, List.length_take, List.length_drop, List.length_set, List.length_reverse, List.length_range, List.length_zip, List.length_append, List.length_cons, List.length_nil]; omega) | (refine Nat.le_trans (List.length_filter_le _ _) ?_; first | assumption | omega | (simp only [List.length_map, List.length_take, List.length_drop, List.length_set, List.length_reverse, List.length_range, List.length_zip, List.length_append, List.length_cons, List.length_nil]; omega))) | (repeat (first | exact sm_int | exact sm_bl | exact sm_non | assumption | exact sm_nil | refine sm_cons ?_ ?_ (by simp)))) only [w_var, w_cst, w_gl, w_tup, w_lst, w_op2, w_neg, w_nt, w_ife, w_cmp, w_chn, w_ix, w_sl, w_noe, Ev.w_rev, w_lz, w_call, w_calln, w_callf, w_bf, w_isi, w_and, w_or, w_and1, w_and2, w_or1, w_or2, w_lc, w_s0, w_s1, w_itE, w_itR, w_itN, w_itZ, zipO_eq, w_el, w_gn, w_tn0, w_tn1, w_tp0, w_tp1, gK_app, gQ_app, w_b0, w_b1, w_bp, w_bn, w_bt, w_wp0, w_wp1, x_nil, x_cons, x_pass, x_set, x_seto, x_asg, x_ret, x_ex, x_ife, x_for, x_whS, loopL_consB, Ev.loopL_nil, x_app, x_auga, x_ext, x_step_n, x_step_t, xK_app, tst_bl, asB_bl, ntO_bl, negO_int, optB_some, optO_some, retO_rt, retO_nx, retO_ite, nxt_nx, nxt_rt, nxtE_some, bd_ok, bd_ite, bd_assoc, ite_bl, Ev.ite_int, ite_ite, Bool.and_eq_true, Bool.or_eq_true,  if_tl, if_fr, if_fl, if_tr, dec_b,  of_some, Option.map_some, Option.bind_some, gv0, gvS, List.set_cons_zero, List.set_cons_succ, appO_lst, putv_some, oi_noe, oi_var, oi_cst, oi_gl, oi_op2, oi_neg, oi_ix, oi_bf, List.map_cons, List.map_nil, List.cons_append, List.nil_append, List.replicate_zero, List.replicate_succ, Bool.not_true, Bool.not_false, if_true, if_false, Bool.false_eq_true, reduceIte, decide_eq_true_eq, Bool.not_eq_true', decide_eq_false_iff_not, Bool.true_eq_false, eq_self, not_true_eq_false, not_false_eq_true, decide_true, decide_false, Bool.false_or, Bool.true_or, Bool.or_false, Bool.or_true, Bool.true_and, Bool.false_and, Bool.and_true, Bool.and_false, List.length_map, w_boE, w_boT, w_boI, ne_eq, bf_min2, bf_max2, Int.natCast_inj, Int.ofNat_le, Int.ofNat_lt, bf_sumN, bf_minN, lzEE, lzLE, lzLL, isBt, isBf, isnBt, isnBf, innT, innL, ninT, ninL, tupE, Int.reduceToNat, map_encN, map_idf, eqNilE, neNilE, eqE, neE, eqEL, neEL, ixEn, ixLn, addLE, addE, addTE, addET, opv_addL, opv_addT, cut_take, cut_drop, toNat_s, eqNil0, neNil0, cut_drop1, cut_takeI, cut_dropI, rngI, Int.toNat_natCast, innI1, innI2, innI3, enc_int, enc_nat, enc_bool, cov_lt, cov_le, cov_gt, cov_ge, cov_eqI, cov_neI, cov_isN, cov_isnN, opv_addI, opv_subI, itemsE, itemsL, itemsT, lenE, lenL, lenT, tupleL, tupleE, listE, listL, slE, slL, enumE, zipE, loopL_typed, loopL_rng, loopM_map, loopM_filt, loopM_flat, loopR_map, loopR_filt, loopR_flat, lcEnd_ok, eqOn, eqnO, neOn, eqOi, eqiO, neOi, innTn, innLn, ninTn, ninLn, innTo, innLo, ninTo, ninLo, innTi, innLi, bf_all, any_T, bf_sum, isNon_opt, isNon_nn, isNon_int, isNon_tup, c_need_costs h, c_lt1, c_lt2, c_lt3, c_lt4, c_lt5, c_lt6, k1]
  exact congrArg (fun o => retO ((Out.of o c).bd fun d c => Out.ok (Fl.rt d) c)) (bf_minN (xs := least8.map (cst cs)) (by simp [least8]))
theorem c_least_tables {n : Nat} {c : Cu} : callN false P (n + 2) n_least_tables [] c = .ok (enc [[0, 0, 0, 1, 0, 1, 2], [0, 0, 1, 0, 1, 0, 2], [0, 1, 0, 0, 1, 0, 2], [1, 0, 0, 0, 0, 1, 2]]) c := by kernel_rfl
/-- does no less -/
def dnl (t u : List Nat) : Bool := decide (at_ t 6 = at_ u 6) && ((List.range 5).all fun i => decide (at_ u i ≤ at_ t i)) && decide (min (at_ u 5) 1 ≤ min (at_ t 5) 1)
theorem c_does_no_less_in {n : Nat} {c : Cu} {t u : List Nat} (ht : t ∈ tabs) (hu : u ∈ tabs) : callN false P (n + 1) n_does_no_less_in [enc t, enc u] c = .ok (.bl (dnl t u)) c := by
  obtain ⟨t0, t1, t2, t3, t4, t5, t6, rfl, _⟩ := tab7 ht
  obtain ⟨u0, u1, u2, u3, u4, u5, u6, rfl, _⟩ := tab7 hu
  rw [u_does_no_less_in, s_does_no_less_in]
  have i6 : ∀ (a b c d e f g : Nat) c', ixv (enc [a, b, c, d, e, f, g]) (.int 6) c' = some (.int (g : Int)) := fun _ _ _ _ _ _ _ _ => rfl
  have i5 : ∀ (a b c d e f g : Nat) c', ixv (enc [a, b, c, d, e, f, g]) (.int 5) c' = some (.int (f : Int)) := fun _ _ _ _ _ _ _ _ => rfl
  simp -implicitDefEqProofs (disch := first | assumption | decide | omega | (simp only [List.length_map, List.length_take, List.length_drop, List.length_set, List.length_reverse, List.length_range, List.length_zip, List.length_append, List.length_cons, List.length_nil]; omega) | ((try simp only [List.length_map]); refine Nat.le_trans (List.length_filter_le _ _) ?_; first | assumption | omega | (simp only [List.length_map, List.length_take, List.length_drop, List.length_set, List.length_reverse, List.length_range, List.length_zip, List.length_append, List.length_cons, List.length_nil]; omega) | (refine Nat.le_trans (List.length_filter_le _ _) ?_; first | assumption | omega | (simp only [List.length_map, List.length_take, List.length_drop, List.length_set, List.length_reverse, List.length_range, List.length_zip, List.length_append, List.length_cons, List.length_nil]; omega))) | (repeat (first | exact sm_int | exact sm_bl | exact sm_non | assumption | exact sm_nil | refine sm_cons ?_ ?_ (by simp)))) only [w_var, w_cst, w_gl, w_tup, w_lst, w_op2, w_neg, w_nt, w_ife, w_cmp, w_chn, w_ix, w_sl, w_noe, Ev.w_rev, w_lz, w_call, w_calln, w_callf, w_bf, w_isi, w_and, w_or, w_and1, w_and2, w_or1, w_or2, w_lc, w_s0, w_s1, w_itE, w_itR, w_itN, w_itZ, zipO_eq, w_el, w_gn, w_tn0, w_tn1, w_tp0, w_tp1, gK_app, gQ_app, w_b0, w_b1, w_bp, w_bn, w_bt, w_wp0, w_wp1, x_nil, x_cons, x_pass, x_set, x_seto, x_asg, x_ret, x_ex, x_ife, x_for, x_whS, loopL_consB, Ev.loopL_nil, x_app, x_auga, x_ext, x_step_n, x_step_t, xK_app, tst_bl, asB_bl, ntO_bl, negO_int, optB_some, optO_some, retO_rt, retO_nx, retO_ite, nxt_nx, nxt_rt, nxtE_some, bd_ok, bd_ite, bd_assoc, ite_bl, Ev.ite_int, ite_ite, Bool.and_eq_true, Bool.or_eq_true,  if_tl, if_fr, if_fl, if_tr, dec_b,  of_some, Option.map_some, Option.bind_some, gv0, gvS, List.set_cons_zero, List.set_cons_succ, appO_lst, putv_some, oi_noe, oi_var, oi_cst, oi_gl, oi_op2, oi_neg, oi_ix, oi_bf, List.map_cons, List.map_nil, List.cons_append, List.nil_append, List.replicate_zero, List.replicate_succ, Bool.not_true, Bool.not_false, if_true, if_false, Bool.false_eq_true, reduceIte, decide_eq_true_eq, Bool.not_eq_true', decide_eq_false_iff_not, Bool.true_eq_false, eq_self, not_true_eq_false, not_false_eq_true, decide_true, decide_false, Bool.false_or, Bool.true_or, Bool.or_false, Bool.or_true, Bool.true_and, Bool.false_and, Bool.and_true, Bool.and_false, List.length_map, w_boE, w_boT, w_boI, ne_eq, bf_min2, bf_max2, Int.natCast_inj, Int.ofNat_le, Int.ofNat_lt, bf_sumN, bf_minN, lzEE, lzLE, lzLL, isBt, isBf, isnBt, isnBf, innT, innL, ninT, ninL, tupE, Int.reduceToNat, map_encN, map_idf, eqNilE, neNilE, eqE, neE, eqEL, neEL, ixEn, ixLn, addLE, addE, addTE, addET, opv_addL, opv_addT, cut_take, cut_drop, toNat_s, eqNil0, neNil0, cut_drop1, cut_takeI, cut_dropI, rngI, Int.toNat_natCast, innI1, innI2, innI3, enc_int, enc_nat, enc_bool, cov_lt, cov_le, cov_gt, cov_ge, cov_eqI, cov_neI, cov_isN, cov_isnN, opv_addI, opv_subI, itemsE, itemsL, itemsT, lenE, lenL, lenT, tupleL, tupleE, listE, listL, slE, slL, enumE, zipE, loopL_typed, loopL_rng, loopM_map, loopM_filt, loopM_flat, loopR_map, loopR_filt, loopR_flat, lcEnd_ok, eqOn, eqnO, neOn, eqOi, eqiO, neOi, innTn, innLn, ninTn, ninLn, innTo, innLo, ninTo, ninLo, innTi, innLi, bf_all, any_T, bf_sum, isNon_opt, isNon_nn, isNon_int, isNon_tup, i6, i5, List.take_succ_cons, List.take_zero, List.zip_cons_cons, List.zip_nil_left, enc_pair, bf_allD, bls_c, bls_n, List.all_cons, List.all_nil, id]
  have e1 : dnl [t0, t1, t2, t3, t4, t5, t6] [u0, u1, u2, u3, u4, u5, u6] = (decide (t6 = u6) && (decide (u0 ≤ t0) && (decide (u1 ≤ t1) && (decide (u2 ≤ t2) && (decide (u3 ≤ t3) && (decide (u4 ≤ t4) && true))))) && decide (min u5 1 ≤ min t5 1)) := rfl
  rw [e1]
  have e2 : ((if (1 : Int) < (u5 : Int) then (1 : Int) else (u5 : Int)) ≤ if (1 : Int) < (t5 : Int) then (1 : Int) else (t5 : Int)) ↔ min u5 1 ≤ min t5 1 := by
    split <;> split <;> omega
  refine congrArg (fun b => Out.ok (D.bl b) c) ?_
  rw [Bool.eq_iff_iff]
  simp only [Bool.and_eq_true, Bool.not_eq_true', decide_eq_true_eq, decide_eq_false_iff_not, Decidable.not_not, and_true, e2]
  constructor
  · rintro ⟨q6, q0, q1, q2, q3, q4, q5⟩; exact ⟨⟨q6, q0, q1, q2, q3, q4⟩, q5⟩
  · rintro ⟨⟨q6, q0, q1, q2, q3, q4⟩, q5⟩; exact ⟨q6, q0, q1, q2, q3, q4, q5⟩
theorem c_does_no_less {n : Nat} {c : Cu} {t u : List Nat} (ht : t ∈ tabs) (hu : u ∈ tabs) : callN false P (n + 4) n_does_no_less [enc t, enc u] c = .ok (.bl (dnl t u)) c := by
  rw [u_does_no_less, s_does_no_less]
  simp -implicitDefEqProofs (disch := first | assumption | decide | omega | (simp only [List.length_map, List.length_take, List.length_drop, List.length_set, List.length_reverse, List.length_range, List.length_zip, List.length_append, List.length_cons, List.length_nil]; omega) | ((try simp only [List.length_map]); refine Nat.le_trans (List.length_filter_le _ _) ?_; first | assumption | omega | (simp only [List.length_map, List.length_take, List.length_drop, List.length_set, List.length_reverse, List.length_range, List.length_zip, List.length_append, List.length_cons, List.length_nil]; omega) | (refine Nat.le_trans (List.length_filter_le _ _) ?_; first | assumption | omega | (simp only [List.length_map, List.length_take, List.length_drop, List.length_set, List.length_reverse, List.length_range, List.length_zip, List.length_append, List.length_cons, List.length_nil]; omega))) | (repeat (first | exact sm_int | exact sm_bl | exact sm_non | assumption | exact sm_nil | refine sm_cons ?_ ?_ (by simp)))) only [w_var, w_cst, w_gl, w_tup, w_lst, w_op2, w_neg, w_nt, w_ife, w_cmp, w_chn, w_ix, w_sl, w_noe, Ev.w_rev, w_lz, w_call, w_calln, w_callf, w_bf, w_isi, w_and, w_or, w_and1, w_and2, w_or1, w_or2, w_lc, w_s0, w_s1, w_itE, w_itR, w_itN, w_itZ, zipO_eq, w_el, w_gn, w_tn0, w_tn1, w_tp0, w_tp1, gK_app, gQ_app, w_b0, w_b1, w_bp, w_bn, w_bt, w_wp0, w_wp1, x_nil, x_cons, x_pass, x_set, x_seto, x_asg, x_ret, x_ex, x_ife, x_for, x_whS, loopL_consB, Ev.loopL_nil, x_app, x_auga, x_ext, x_step_n, x_step_t, xK_app, tst_bl, asB_bl, ntO_bl, negO_int, optB_some, optO_some, retO_rt, retO_nx, retO_ite, nxt_nx, nxt_rt, nxtE_some, bd_ok, bd_ite, bd_assoc, ite_bl, Ev.ite_int, ite_ite, Bool.and_eq_true, Bool.or_eq_true,  if_tl, if_fr, if_fl, if_tr, dec_b,  of_some, Option.map_some, Option.bind_some, gv0, gvS, List.set_cons_zero, List.set_cons_succ, appO_lst, putv_some, oi_noe, oi_var, oi_cst, oi_gl, oi_op2, oi_neg, oi_ix, oi_bf, List.map_cons, List.map_nil, List.cons_append, List.nil_append, List.replicate_zero, List.replicate_succ, Bool.not_true, Bool.not_false, if_true, if_false, Bool.false_eq_true, reduceIte, decide_eq_true_eq, Bool.not_eq_true', decide_eq_false_iff_not, Bool.true_eq_false, eq_self, not_true_eq_false, not_false_eq_true, decide_true, decide_false, Bool.false_or, Bool.true_or, Bool.or_false, Bool.or_true, Bool.true_and, Bool.false_and, Bool.and_true, Bool.and_false, List.length_map, w_boE, w_boT, w_boI, ne_eq, bf_min2, bf_max2, Int.natCast_inj, Int.ofNat_le, Int.ofNat_lt, bf_sumN, bf_minN, lzEE, lzLE, lzLL, isBt, isBf, isnBt, isnBf, innT, innL, ninT, ninL, tupE, Int.reduceToNat, map_encN, map_idf, eqNilE, neNilE, eqE, neE, eqEL, neEL, ixEn, ixLn, addLE, addE, addTE, addET, opv_addL, opv_addT, cut_take, cut_drop, toNat_s, eqNil0, neNil0, cut_drop1, cut_takeI, cut_dropI, rngI, Int.toNat_natCast, innI1, innI2, innI3, enc_int, enc_nat, enc_bool, cov_lt, cov_le, cov_gt, cov_ge, cov_eqI, cov_neI, cov_isN, cov_isnN, opv_addI, opv_subI, itemsE, itemsL, itemsT, lenE, lenL, lenT, tupleL, tupleE, listE, listL, slE, slL, enumE, zipE, loopL_typed, loopL_rng, loopM_map, loopM_filt, loopM_flat, loopR_map, loopR_filt, loopR_flat, lcEnd_ok, eqOn, eqnO, neOn, eqOi, eqiO, neOi, innTn, innLn, ninTn, ninLn, innTo, innLo, ninTo, ninLo, innTi, innLi, bf_all, any_T, bf_sum, isNon_opt, isNon_nn, isNon_int, isNon_tup, need_tab ht, need_tab hu, c_does_no_less_in ht hu]
theorem ok_costs {n : Nat} {c : Cu} (hc : Cok c) : Ok (callN false P (n + 3) n__law_costs [.cup] c) fun d c => (∃ cs, okC cs ∧ d = enc cs) ∧ Cok c := by
  rw [u__law_costs, s__law_costs]
  refine Ok.u ?_
  simp -implicitDefEqProofs (disch := first | assumption | decide | omega | (simp only [List.length_map, List.length_take, List.length_drop, List.length_set, List.length_reverse, List.length_range, List.length_zip, List.length_append, List.length_cons, List.length_nil]; omega) | ((try simp only [List.length_map]); refine Nat.le_trans (List.length_filter_le _ _) ?_; first | assumption | omega | (simp only [List.length_map, List.length_take, List.length_drop, List.length_set, List.length_reverse, List.length_range, List.length_zip, List.length_append, List.length_cons, List.length_nil]; omega) | (refine Nat.le_trans (List.length_filter_le _ _) ?_; first | assumption | omega | (simp only [List.length_map, List.length_take, List.length_drop, List.length_set, List.length_reverse, List.length_range, List.length_zip, List.length_append, List.length_cons, List.length_nil]; omega))) | (repeat (first | exact sm_int | exact sm_bl | exact sm_non | assumption | exact sm_nil | refine sm_cons ?_ ?_ (by simp)))) only [w_var, w_cst, w_gl, w_tup, w_lst, w_op2, w_neg, w_nt, w_ife, w_cmp, w_chn, w_ix, w_sl, w_noe, Ev.w_rev, w_lz, w_call, w_calln, w_callf, w_bf, w_isi, w_and, w_or, w_and1, w_and2, w_or1, w_or2, w_lc, w_s0, w_s1, w_itE, w_itR, w_itN, w_itZ, zipO_eq, w_el, w_gn, w_tn0, w_tn1, w_tp0, w_tp1, gK_app, gQ_app, w_b0, w_b1, w_bp, w_bn, w_bt, w_wp0, w_wp1, x_nil, x_cons, x_pass, x_set, x_seto, x_asg, x_ret, x_ex, x_ife, x_for, x_whS, loopL_consB, Ev.loopL_nil, x_app, x_auga, x_ext, x_step_n, x_step_t, xK_app, tst_bl, asB_bl, ntO_bl, negO_int, optB_some, optO_some, retO_rt, retO_nx, retO_ite, nxt_nx, nxt_rt, nxtE_some, bd_ok, bd_ite, bd_assoc, ite_bl, Ev.ite_int, ite_ite, Bool.and_eq_true, Bool.or_eq_true,  if_tl, if_fr, if_fl, if_tr, dec_b,  of_some, Option.map_some, Option.bind_some, gv0, gvS, List.set_cons_zero, List.set_cons_succ, appO_lst, putv_some, oi_noe, oi_var, oi_cst, oi_gl, oi_op2, oi_neg, oi_ix, oi_bf, List.map_cons, List.map_nil, List.cons_append, List.nil_append, List.replicate_zero, List.replicate_succ, Bool.not_true, Bool.not_false, if_true, if_false, Bool.false_eq_true, reduceIte, decide_eq_true_eq, Bool.not_eq_true', decide_eq_false_iff_not, Bool.true_eq_false, eq_self, not_true_eq_false, not_false_eq_true, decide_true, decide_false, Bool.false_or, Bool.true_or, Bool.or_false, Bool.or_true, Bool.true_and, Bool.false_and, Bool.and_true, Bool.and_false, List.length_map, w_boE, w_boT, w_boI, ne_eq, bf_min2, bf_max2, Int.natCast_inj, Int.ofNat_le, Int.ofNat_lt, bf_sumN, bf_minN, lzEE, lzLE, lzLL, isBt, isBf, isnBt, isnBf, innT, innL, ninT, ninL, tupE, Int.reduceToNat, map_encN, map_idf, eqNilE, neNilE, eqE, neE, eqEL, neEL, ixEn, ixLn, addLE, addE, addTE, addET, opv_addL, opv_addT, cut_take, cut_drop, toNat_s, eqNil0, neNil0, cut_drop1, cut_takeI, cut_dropI, rngI, Int.toNat_natCast, innI1, innI2, innI3, enc_int, enc_nat, enc_bool, cov_lt, cov_le, cov_gt, cov_ge, cov_eqI, cov_neI, cov_isN, cov_isnN, opv_addI, opv_subI, itemsE, itemsL, itemsT, lenE, lenL, lenT, tupleL, tupleE, listE, listL, slE, slL, enumE, zipE, loopL_typed, loopL_rng, loopM_map, loopM_filt, loopM_flat, loopR_map, loopR_filt, loopR_flat, lcEnd_ok, eqOn, eqnO, neOn, eqOi, eqiO, neOi, innTn, innLn, ninTn, ninLn, innTo, innLo, ninTo, ninLo, innTi, innLi, bf_all, any_T, bf_sum, isNon_opt, isNon_nn, isNon_int, isNon_tup]
  refine Ok.bd (ok_some (n := n) hc (xs := [.int 3, .int 1001]) (by simp) (by simp)) ?_
  rintro _ c1 ⟨hx, hc1⟩
  obtain ⟨m, hm, rfl⟩ : ∃ m : Int, (0 < m ∧ m ≤ 1001) ∧ _ = D.int m := by
    rcases List.mem_cons.mp hx with e | hx
    · exact ⟨3, by decide, e⟩
    · exact ⟨1001, by decide, List.mem_singleton.mp hx⟩
  simp -implicitDefEqProofs (disch := first | assumption | decide | omega | (simp only [List.length_map, List.length_take, List.length_drop, List.length_set, List.length_reverse, List.length_range, List.length_zip, List.length_append, List.length_cons, List.length_nil]; omega) | ((try simp only [List.length_map]); refine Nat.le_trans (List.length_filter_le _ _) ?_; first | assumption | omega | (simp only [List.length_map, List.length_take, List.length_drop, List.length_set, List.length_reverse, List.length_range, List.length_zip, List.length_append, List.length_cons, List.length_nil]; omega) | (refine Nat.le_trans (List.length_filter_le _ _) ?_; first | assumption | omega | (simp only [List.length_map, List.length_take, List.length_drop, List.length_set, List.length_reverse, List.length_range, List.length_zip, List.length_append, List.length_cons, List.length_nil]; omega))) | (repeat (first | exact sm_int | exact sm_bl | exact sm_non | assumption | exact sm_nil | refine sm_cons ?_ ?_ (by simp)))) only [w_var, w_cst, w_gl, w_tup, w_lst, w_op2, w_neg, w_nt, w_ife, w_cmp, w_chn, w_ix, w_sl, w_noe, Ev.w_rev, w_lz, w_call, w_calln, w_callf, w_bf, w_isi, w_and, w_or, w_and1, w_and2, w_or1, w_or2, w_lc, w_s0, w_s1, w_itE, w_itR, w_itN, w_itZ, zipO_eq, w_el, w_gn, w_tn0, w_tn1, w_tp0, w_tp1, gK_app, gQ_app, w_b0, w_b1, w_bp, w_bn, w_bt, w_wp0, w_wp1, x_nil, x_cons, x_pass, x_set, x_seto, x_asg, x_ret, x_ex, x_ife, x_for, x_whS, loopL_consB, Ev.loopL_nil, x_app, x_auga, x_ext, x_step_n, x_step_t, xK_app, tst_bl, asB_bl, ntO_bl, negO_int, optB_some, optO_some, retO_rt, retO_nx, retO_ite, nxt_nx, nxt_rt, nxtE_some, bd_ok, bd_ite, bd_assoc, ite_bl, Ev.ite_int, ite_ite, Bool.and_eq_true, Bool.or_eq_true,  if_tl, if_fr, if_fl, if_tr, dec_b,  of_some, Option.map_some, Option.bind_some, gv0, gvS, List.set_cons_zero, List.set_cons_succ, appO_lst, putv_some, oi_noe, oi_var, oi_cst, oi_gl, oi_op2, oi_neg, oi_ix, oi_bf, List.map_cons, List.map_nil, List.cons_append, List.nil_append, List.replicate_zero, List.replicate_succ, Bool.not_true, Bool.not_false, if_true, if_false, Bool.false_eq_true, reduceIte, decide_eq_true_eq, Bool.not_eq_true', decide_eq_false_iff_not, Bool.true_eq_false, eq_self, not_true_eq_false, not_false_eq_true, decide_true, decide_false, Bool.false_or, Bool.true_or, Bool.or_false, Bool.or_true, Bool.true_and, Bool.false_and, Bool.and_true, Bool.and_false, List.length_map, w_boE, w_boT, w_boI, ne_eq, bf_min2, bf_max2, Int.natCast_inj, Int.ofNat_le, Int.ofNat_lt, bf_sumN, bf_minN, lzEE, lzLE, lzLL, isBt, isBf, isnBt, isnBf, innT, innL, ninT, ninL, tupE, Int.reduceToNat, map_encN, map_idf, eqNilE, neNilE, eqE, neE, eqEL, neEL, ixEn, ixLn, addLE, addE, addTE, addET, opv_addL, opv_addT, cut_take, cut_drop, toNat_s, eqNil0, neNil0, cut_drop1, cut_takeI, cut_dropI, rngI, Int.toNat_natCast, innI1, innI2, innI3, enc_int, enc_nat, enc_bool, cov_lt, cov_le, cov_gt, cov_ge, cov_eqI, cov_neI, cov_isN, cov_isnN, opv_addI, opv_subI, itemsE, itemsL, itemsT, lenE, lenL, lenT, tupleL, tupleE, listE, listL, slE, slL, enumE, zipE, loopL_typed, loopL_rng, loopM_map, loopM_filt, loopM_flat, loopR_map, loopR_filt, loopR_flat, lcEnd_ok, eqOn, eqnO, neOn, eqOi, eqiO, neOi, innTn, innLn, ninTn, ninLn, innTo, innLo, ninTo, ninLo, innTi, innLi, bf_all, any_T, bf_sum, isNon_opt, isNon_nn, isNon_int, isNon_tup]
  refine Ok.bd (Q := fun d c => (∃ rs : List (List Nat), rs.length = 6 ∧ (∀ i, i < 6 → (at_ rs i).length = topN i + 1 ∧ (∀ v ∈ at_ rs i, v ≤ 1000) ∧ at_ (at_ rs i) 0 = 0) ∧ d = .lst (rs.map enc)) ∧ Cok c) (Ok.lc ((Ok.drawsR (β := List Nat) (R := fun i r => r.length = topN i + 1 ∧ (∀ v ∈ r, v ≤ 1000) ∧ at_ r 0 = 0) (I := Cok) (fun i hi c hc => ?_) hc1).mono ?_)) ?_
  · refine Ok.bd (ok_rolls (n := n + 1) hc (m := m) (by omega) (by split <;> decide)) ?_
    rintro _ c ⟨⟨rs, hl, hr, rfl⟩, hc⟩
    have hl2 : rs.length ≤ 2 := by rw [hl]; split <;> decide
    simp -implicitDefEqProofs (disch := first | assumption | decide | omega | (simp only [List.length_map, List.length_take, List.length_drop, List.length_set, List.length_reverse, List.length_range, List.length_zip, List.length_append, List.length_cons, List.length_nil]; omega) | ((try simp only [List.length_map]); refine Nat.le_trans (List.length_filter_le _ _) ?_; first | assumption | omega | (simp only [List.length_map, List.length_take, List.length_drop, List.length_set, List.length_reverse, List.length_range, List.length_zip, List.length_append, List.length_cons, List.length_nil]; omega) | (refine Nat.le_trans (List.length_filter_le _ _) ?_; first | assumption | omega | (simp only [List.length_map, List.length_take, List.length_drop, List.length_set, List.length_reverse, List.length_range, List.length_zip, List.length_append, List.length_cons, List.length_nil]; omega))) | (repeat (first | exact sm_int | exact sm_bl | exact sm_non | assumption | exact sm_nil | refine sm_cons ?_ ?_ (by simp)))) only [w_var, w_cst, w_gl, w_tup, w_lst, w_op2, w_neg, w_nt, w_ife, w_cmp, w_chn, w_ix, w_sl, w_noe, Ev.w_rev, w_lz, w_call, w_calln, w_callf, w_bf, w_isi, w_and, w_or, w_and1, w_and2, w_or1, w_or2, w_lc, w_s0, w_s1, w_itE, w_itR, w_itN, w_itZ, zipO_eq, w_el, w_gn, w_tn0, w_tn1, w_tp0, w_tp1, gK_app, gQ_app, w_b0, w_b1, w_bp, w_bn, w_bt, w_wp0, w_wp1, x_nil, x_cons, x_pass, x_set, x_seto, x_asg, x_ret, x_ex, x_ife, x_for, x_whS, loopL_consB, Ev.loopL_nil, x_app, x_auga, x_ext, x_step_n, x_step_t, xK_app, tst_bl, asB_bl, ntO_bl, negO_int, optB_some, optO_some, retO_rt, retO_nx, retO_ite, nxt_nx, nxt_rt, nxtE_some, bd_ok, bd_ite, bd_assoc, ite_bl, Ev.ite_int, ite_ite, Bool.and_eq_true, Bool.or_eq_true,  if_tl, if_fr, if_fl, if_tr, dec_b,  of_some, Option.map_some, Option.bind_some, gv0, gvS, List.set_cons_zero, List.set_cons_succ, appO_lst, putv_some, oi_noe, oi_var, oi_cst, oi_gl, oi_op2, oi_neg, oi_ix, oi_bf, List.map_cons, List.map_nil, List.cons_append, List.nil_append, List.replicate_zero, List.replicate_succ, Bool.not_true, Bool.not_false, if_true, if_false, Bool.false_eq_true, reduceIte, decide_eq_true_eq, Bool.not_eq_true', decide_eq_false_iff_not, Bool.true_eq_false, eq_self, not_true_eq_false, not_false_eq_true, decide_true, decide_false, Bool.false_or, Bool.true_or, Bool.or_false, Bool.or_true, Bool.true_and, Bool.false_and, Bool.and_true, Bool.and_false, List.length_map, w_boE, w_boT, w_boI, ne_eq, bf_min2, bf_max2, Int.natCast_inj, Int.ofNat_le, Int.ofNat_lt, bf_sumN, bf_minN, lzEE, lzLE, lzLL, isBt, isBf, isnBt, isnBf, innT, innL, ninT, ninL, tupE, Int.reduceToNat, map_encN, map_idf, eqNilE, neNilE, eqE, neE, eqEL, neEL, ixEn, ixLn, addLE, addE, addTE, addET, opv_addL, opv_addT, cut_take, cut_drop, toNat_s, eqNil0, neNil0, cut_drop1, cut_takeI, cut_dropI, rngI, Int.toNat_natCast, innI1, innI2, innI3, enc_int, enc_nat, enc_bool, cov_lt, cov_le, cov_gt, cov_ge, cov_eqI, cov_neI, cov_isN, cov_isnN, opv_addI, opv_subI, itemsE, itemsL, itemsT, lenE, lenL, lenT, tupleL, tupleE, listE, listL, slE, slL, enumE, zipE, loopL_typed, loopL_rng, loopM_map, loopM_filt, loopM_flat, loopR_map, loopR_filt, loopR_flat, lcEnd_ok, eqOn, eqnO, neOn, eqOi, eqiO, neOi, innTn, innLn, ninTn, ninLn, innTo, innLo, ninTo, ninLo, innTi, innLi, bf_all, any_T, bf_sum, isNon_opt, isNon_nn, isNon_int, isNon_tup]
    refine ⟨_, _, rfl, ⟨0 :: rs, rfl, ?_, ?_, rfl⟩, hc⟩
    · rw [List.length_cons, hl]
      unfold topN
      split <;> split <;> first | rfl | omega
    · intro v hv
      rcases List.mem_cons.mp hv with rfl | hv
      · omega
      · have := hr v hv; omega
  · rintro _ c ⟨⟨rs, rfl, hl, hr⟩, hc⟩
    refine ⟨by rw [List.length_map, hl]; decide, ⟨rs, hl, fun i hi => ?_, rfl⟩, hc⟩
    have := hr (i, at_ rs i) (by
      have h := zip_at (xs := List.range 6) (ys := rs) (i := i) (by simpa using hi) (by omega)
      rw [at_get (by simpa using hi), List.getElem_range] at h
      exact h)
    exact this
  rintro _ c2 ⟨⟨rs, hl, hr, rfl⟩, hc2⟩
  simp -implicitDefEqProofs (disch := first | assumption | decide | omega | (simp only [List.length_map, List.length_take, List.length_drop, List.length_set, List.length_reverse, List.length_range, List.length_zip, List.length_append, List.length_cons, List.length_nil]; omega) | ((try simp only [List.length_map]); refine Nat.le_trans (List.length_filter_le _ _) ?_; first | assumption | omega | (simp only [List.length_map, List.length_take, List.length_drop, List.length_set, List.length_reverse, List.length_range, List.length_zip, List.length_append, List.length_cons, List.length_nil]; omega) | (refine Nat.le_trans (List.length_filter_le _ _) ?_; first | assumption | omega | (simp only [List.length_map, List.length_take, List.length_drop, List.length_set, List.length_reverse, List.length_range, List.length_zip, List.length_append, List.length_cons, List.length_nil]; omega))) | (repeat (first | exact sm_int | exact sm_bl | exact sm_non | assumption | exact sm_nil | refine sm_cons ?_ ?_ (by simp)))) only [w_var, w_cst, w_gl, w_tup, w_lst, w_op2, w_neg, w_nt, w_ife, w_cmp, w_chn, w_ix, w_sl, w_noe, Ev.w_rev, w_lz, w_call, w_calln, w_callf, w_bf, w_isi, w_and, w_or, w_and1, w_and2, w_or1, w_or2, w_lc, w_s0, w_s1, w_itE, w_itR, w_itN, w_itZ, zipO_eq, w_el, w_gn, w_tn0, w_tn1, w_tp0, w_tp1, gK_app, gQ_app, w_b0, w_b1, w_bp, w_bn, w_bt, w_wp0, w_wp1, x_nil, x_cons, x_pass, x_set, x_seto, x_asg, x_ret, x_ex, x_ife, x_for, x_whS, loopL_consB, Ev.loopL_nil, x_app, x_auga, x_ext, x_step_n, x_step_t, xK_app, tst_bl, asB_bl, ntO_bl, negO_int, optB_some, optO_some, retO_rt, retO_nx, retO_ite, nxt_nx, nxt_rt, nxtE_some, bd_ok, bd_ite, bd_assoc, ite_bl, Ev.ite_int, ite_ite, Bool.and_eq_true, Bool.or_eq_true,  if_tl, if_fr, if_fl, if_tr, dec_b,  of_some, Option.map_some, Option.bind_some, gv0, gvS, List.set_cons_zero, List.set_cons_succ, appO_lst, putv_some, oi_noe, oi_var, oi_cst, oi_gl, oi_op2, oi_neg, oi_ix, oi_bf, List.map_cons, List.map_nil, List.cons_append, List.nil_append, List.replicate_zero, List.replicate_succ, Bool.not_true, Bool.not_false, if_true, if_false, Bool.false_eq_true, reduceIte, decide_eq_true_eq, Bool.not_eq_true', decide_eq_false_iff_not, Bool.true_eq_false, eq_self, not_true_eq_false, not_false_eq_true, decide_true, decide_false, Bool.false_or, Bool.true_or, Bool.or_false, Bool.or_true, Bool.true_and, Bool.false_and, Bool.and_true, Bool.and_false, List.length_map, w_boE, w_boT, w_boI, ne_eq, bf_min2, bf_max2, Int.natCast_inj, Int.ofNat_le, Int.ofNat_lt, bf_sumN, bf_minN, lzEE, lzLE, lzLL, isBt, isBf, isnBt, isnBf, innT, innL, ninT, ninL, tupE, Int.reduceToNat, map_encN, map_idf, eqNilE, neNilE, eqE, neE, eqEL, neEL, ixEn, ixLn, addLE, addE, addTE, addET, opv_addL, opv_addT, cut_take, cut_drop, toNat_s, eqNil0, neNil0, cut_drop1, cut_takeI, cut_dropI, rngI, Int.toNat_natCast, innI1, innI2, innI3, enc_int, enc_nat, enc_bool, cov_lt, cov_le, cov_gt, cov_ge, cov_eqI, cov_neI, cov_isN, cov_isnN, opv_addI, opv_subI, itemsE, itemsL, itemsT, lenE, lenL, lenT, tupleL, tupleE, listE, listL, slE, slL, enumE, zipE, loopL_typed, loopL_rng, loopM_map, loopM_filt, loopM_flat, loopR_map, loopR_filt, loopR_flat, lcEnd_ok, eqOn, eqnO, neOn, eqOi, eqiO, neOi, innTn, innLn, ninTn, ninLn, innTo, innLo, ninTo, ninLo, innTi, innLi, bf_all, any_T, bf_sum, isNon_opt, isNon_nn, isNon_int, isNon_tup]
  refine Ok.bd (ok_rolls (n := n + 1) hc2 (m := m) (by omega) (k := 3) (by decide)) ?_
  rintro _ c3 ⟨⟨ls, hl3, hr3, rfl⟩, hc3⟩
  simp -implicitDefEqProofs (disch := first | assumption | decide | omega | (simp only [List.length_map, List.length_take, List.length_drop, List.length_set, List.length_reverse, List.length_range, List.length_zip, List.length_append, List.length_cons, List.length_nil]; omega) | ((try simp only [List.length_map]); refine Nat.le_trans (List.length_filter_le _ _) ?_; first | assumption | omega | (simp only [List.length_map, List.length_take, List.length_drop, List.length_set, List.length_reverse, List.length_range, List.length_zip, List.length_append, List.length_cons, List.length_nil]; omega) | (refine Nat.le_trans (List.length_filter_le _ _) ?_; first | assumption | omega | (simp only [List.length_map, List.length_take, List.length_drop, List.length_set, List.length_reverse, List.length_range, List.length_zip, List.length_append, List.length_cons, List.length_nil]; omega))) | (repeat (first | exact sm_int | exact sm_bl | exact sm_non | assumption | exact sm_nil | refine sm_cons ?_ ?_ (by simp)))) only [w_var, w_cst, w_gl, w_tup, w_lst, w_op2, w_neg, w_nt, w_ife, w_cmp, w_chn, w_ix, w_sl, w_noe, Ev.w_rev, w_lz, w_call, w_calln, w_callf, w_bf, w_isi, w_and, w_or, w_and1, w_and2, w_or1, w_or2, w_lc, w_s0, w_s1, w_itE, w_itR, w_itN, w_itZ, zipO_eq, w_el, w_gn, w_tn0, w_tn1, w_tp0, w_tp1, gK_app, gQ_app, w_b0, w_b1, w_bp, w_bn, w_bt, w_wp0, w_wp1, x_nil, x_cons, x_pass, x_set, x_seto, x_asg, x_ret, x_ex, x_ife, x_for, x_whS, loopL_consB, Ev.loopL_nil, x_app, x_auga, x_ext, x_step_n, x_step_t, xK_app, tst_bl, asB_bl, ntO_bl, negO_int, optB_some, optO_some, retO_rt, retO_nx, retO_ite, nxt_nx, nxt_rt, nxtE_some, bd_ok, bd_ite, bd_assoc, ite_bl, Ev.ite_int, ite_ite, Bool.and_eq_true, Bool.or_eq_true,  if_tl, if_fr, if_fl, if_tr, dec_b,  of_some, Option.map_some, Option.bind_some, gv0, gvS, List.set_cons_zero, List.set_cons_succ, appO_lst, putv_some, oi_noe, oi_var, oi_cst, oi_gl, oi_op2, oi_neg, oi_ix, oi_bf, List.map_cons, List.map_nil, List.cons_append, List.nil_append, List.replicate_zero, List.replicate_succ, Bool.not_true, Bool.not_false, if_true, if_false, Bool.false_eq_true, reduceIte, decide_eq_true_eq, Bool.not_eq_true', decide_eq_false_iff_not, Bool.true_eq_false, eq_self, not_true_eq_false, not_false_eq_true, decide_true, decide_false, Bool.false_or, Bool.true_or, Bool.or_false, Bool.or_true, Bool.true_and, Bool.false_and, Bool.and_true, Bool.and_false, List.length_map, w_boE, w_boT, w_boI, ne_eq, bf_min2, bf_max2, Int.natCast_inj, Int.ofNat_le, Int.ofNat_lt, bf_sumN, bf_minN, lzEE, lzLE, lzLL, isBt, isBf, isnBt, isnBf, innT, innL, ninT, ninL, tupE, Int.reduceToNat, map_encN, map_idf, eqNilE, neNilE, eqE, neE, eqEL, neEL, ixEn, ixLn, addLE, addE, addTE, addET, opv_addL, opv_addT, cut_take, cut_drop, toNat_s, eqNil0, neNil0, cut_drop1, cut_takeI, cut_dropI, rngI, Int.toNat_natCast, innI1, innI2, innI3, enc_int, enc_nat, enc_bool, cov_lt, cov_le, cov_gt, cov_ge, cov_eqI, cov_neI, cov_isN, cov_isnN, opv_addI, opv_subI, itemsE, itemsL, itemsT, lenE, lenL, lenT, tupleL, tupleE, listE, listL, slE, slL, enumE, zipE, loopL_typed, loopL_rng, loopM_map, loopM_filt, loopM_flat, loopR_map, loopR_filt, loopR_flat, lcEnd_ok, eqOn, eqnO, neOn, eqOi, eqiO, neOi, innTn, innLn, ninTn, ninLn, innTo, innLo, ninTo, ninLo, innTi, innLi, bf_all, any_T, bf_sum, isNon_opt, isNon_nn, isNon_int, isNon_tup]
  refine ⟨_, _, rfl, _, rfl, ⟨rs ++ [ls], ⟨by simp [hl], fun i hi => ?_⟩, ?_⟩, hc3⟩
  · rw [at_app, hl]
    by_cases h6 : i < 6
    · rw [if_pos h6]
      obtain ⟨q1, q2, q3⟩ := hr i h6
      exact ⟨q1, q2, fun _ => q3⟩
    · rw [if_neg h6]
      have : i = 6 := by omega
      subst this
      refine ⟨hl3, fun v hv => ?_, fun h => absurd rfl h⟩
      have := hr3 v hv
      omega
  · show D.tup _ = D.tup _
    rw [List.map_append]; rfl
/-- a table that loses nothing costs at least what one of the least ones costs -/
theorem least_below : ∀ t ∈ snd_, ∃ u ∈ least8, ∀ i, i < 7 → at_ u i = at_ t i ∨ (at_ u i = 0 ∧ i ≠ 6) := by decide +kernel
theorem cst_rng {cs : List (List Nat)} {t : List Nat} (h : okC cs) (ht : t ∈ tabs) : cst cs t = ((List.range 7).map fun i => at_ (at_ cs i) (at_ t i)).sum := by
  unfold cst
  rw [zip_rng h.1 (tab_len ht), List.map_map]
  rfl
theorem sum_le {f g : Nat → Nat} : ∀ {l : List Nat}, (∀ i ∈ l, f i ≤ g i) → (l.map f).sum ≤ (l.map g).sum
  | [], _ => Nat.le_refl _
  | x :: l, h => by
    have := h x List.mem_cons_self
    have := sum_le (l := l) fun i hi => h i (List.mem_cons_of_mem _ hi)
    simp only [List.map_cons, List.sum_cons]
    omega
theorem cst_le {cs : List (List Nat)} {t u : List Nat} (h : okC cs) (ht : t ∈ tabs) (hu : u ∈ tabs) (hb : ∀ i, i < 7 → at_ u i = at_ t i ∨ (at_ u i = 0 ∧ i ≠ 6)) : cst cs u ≤ cst cs t := by
  rw [cst_rng h ht, cst_rng h hu]
  refine sum_le fun i hi => ?_
  have hi := List.mem_range.mp hi
  rcases hb i hi with e | ⟨e, h6⟩
  · rw [e]; exact Nat.le_refl _
  · rw [e, (h.2 i hi).2.2 h6]; exact Nat.zero_le _
theorem least_min {cs : List (List Nat)} (h : okC cs) : minN (least8.map (cst cs)) = minN (snd_.map (cst cs)) := by
  have l1 : 0 < (least8.map (cst cs)).length := by simp [least8]
  have l2 : 0 < (snd_.map (cst cs)).length := by rw [List.length_map, snd_len]; decide
  refine Nat.le_antisymm ?_ ?_
  · obtain ⟨t, ht, e⟩ := List.mem_map.mp (minN_mem l2)
    obtain ⟨u, hu, hb⟩ := least_below t ht
    rw [← e]
    exact Nat.le_trans (minN_le _ (List.mem_map.mpr ⟨u, hu, rfl⟩)) (cst_le h (snd_in ht) (snd_in (least8_in u hu)) hb)
  · obtain ⟨u, hu, e⟩ := List.mem_map.mp (minN_mem l1)
    rw [← e]
    exact minN_le _ (List.mem_map.mpr ⟨u, least8_in u hu, rfl⟩)
end LW

set_option maxRecDepth 100000
set_option maxHeartbeats 0
namespace LW
open PySem PySem.Spec PyProof.Rows L2 Ev
open Enc (enc)
def Inv77 (env : Ev.Env) (c : Cu) : Prop := (∃ s a3 a9 a10 a4 a8 : Option D, env = [s, some .cup, some (.lst (snd_.map enc)), a3, a4, none, none, none, a8, a9, a10, none]) ∧ Cok c
theorem turn77 {n : Nat} {x : D} {env : Ev.Env} {c : Cu} (h : Inv77 env c) : Ok (Ev.stepF (callN false P (n + 16)) (.nm 3) b_law_0 x env c) fun r c => ∃ env, r = .nx env ∧ Inv77 env c := by
  obtain ⟨⟨s, a3, a9, a10, a4, a8, rfl⟩, hc⟩ := h
  rw [x_step_n, b_law_0]
  have l1 := snd_len
  simp -implicitDefEqProofs (disch := first | assumption | decide | omega | (simp only [List.length_map, List.length_take, List.length_drop, List.length_set, List.length_reverse, List.length_range, List.length_zip, List.length_append, List.length_cons, List.length_nil]; omega) | ((try simp only [List.length_map]); refine Nat.le_trans (List.length_filter_le _ _) ?_; first | assumption | omega | (simp only [List.length_map, List.length_take, List.length_drop, List.length_set, List.length_reverse, List.length_range, List.length_zip, List.length_append, List.length_cons, List.length_nil]; omega) | (refine Nat.le_trans (List.length_filter_le _ _) ?_; first | assumption | omega | (simp only [List.length_map, List.length_take, List.length_drop, List.length_set, List.length_reverse, List.length_range, List.length_zip, List.length_append, List.length_cons, List.length_nil]; omega))) | (repeat (first | exact sm_int | exact sm_bl | exact sm_non | assumption | exact sm_nil | refine sm_cons ?_ ?_ (by simp)))) only [w_var, w_cst, w_gl, w_tup, w_lst, w_op2, w_neg, w_nt, w_ife, w_cmp, w_chn, w_ix, w_sl, w_noe, Ev.w_rev, w_lz, w_call, w_calln, w_callf, w_bf, w_isi, w_and, w_or, w_and1, w_and2, w_or1, w_or2, w_lc, w_s0, w_s1, w_itE, w_itR, w_itN, w_itZ, zipO_eq, w_el, w_gn, w_tn0, w_tn1, w_tp0, w_tp1, gK_app, gQ_app, w_b0, w_b1, w_bp, w_bn, w_bt, w_wp0, w_wp1, x_nil, x_cons, x_pass, x_set, x_seto, x_asg, x_ret, x_ex, x_ife, x_for, x_whS, loopL_consB, Ev.loopL_nil, x_app, x_auga, x_ext, x_step_n, x_step_t, xK_app, tst_bl, asB_bl, ntO_bl, negO_int, optB_some, optO_some, retO_rt, retO_nx, retO_ite, nxt_nx, nxt_rt, nxtE_some, bd_ok, bd_ite, bd_assoc, ite_bl, Ev.ite_int, ite_ite, Bool.and_eq_true, Bool.or_eq_true,  if_tl, if_fr, if_fl, if_tr, dec_b,  of_some, Option.map_some, Option.bind_some, gv0, gvS, List.set_cons_zero, List.set_cons_succ, appO_lst, putv_some, oi_noe, oi_var, oi_cst, oi_gl, oi_op2, oi_neg, oi_ix, oi_bf, List.map_cons, List.map_nil, List.cons_append, List.nil_append, List.replicate_zero, List.replicate_succ, Bool.not_true, Bool.not_false, if_true, if_false, Bool.false_eq_true, reduceIte, decide_eq_true_eq, Bool.not_eq_true', decide_eq_false_iff_not, Bool.true_eq_false, eq_self, not_true_eq_false, not_false_eq_true, decide_true, decide_false, Bool.false_or, Bool.true_or, Bool.or_false, Bool.or_true, Bool.true_and, Bool.false_and, Bool.and_true, Bool.and_false, List.length_map, w_boE, w_boT, w_boI, ne_eq, bf_min2, bf_max2, Int.natCast_inj, Int.ofNat_le, Int.ofNat_lt, bf_sumN, bf_minN, lzEE, lzLE, lzLL, isBt, isBf, isnBt, isnBf, innT, innL, ninT, ninL, tupE, Int.reduceToNat, map_encN, map_idf, eqNilE, neNilE, eqE, neE, eqEL, neEL, ixEn, ixLn, addLE, addE, addTE, addET, opv_addL, opv_addT, cut_take, cut_drop, toNat_s, eqNil0, neNil0, cut_drop1, cut_takeI, cut_dropI, rngI, Int.toNat_natCast, innI1, innI2, innI3, enc_int, enc_nat, enc_bool, cov_lt, cov_le, cov_gt, cov_ge, cov_eqI, cov_neI, cov_isN, cov_isnN, opv_addI, opv_subI, itemsE, itemsL, itemsT, lenE, lenL, lenT, tupleL, tupleE, listE, listL, slE, slL, enumE, zipE, loopL_typed, loopL_rng, loopM_map, loopM_filt, loopM_flat, loopR_map, loopR_filt, loopR_flat, lcEnd_ok, eqOn, eqnO, neOn, eqOi, eqiO, neOi, innTn, innLn, ninTn, ninLn, innTo, innLo, ninTo, ninLo, innTi, innLi, bf_all, any_T, bf_sum, isNon_opt, isNon_nn, isNon_int, isNon_tup]
  refine Ok.bd (ok_costs (n := n + 13) hc) ?_
  rintro _ c1 ⟨⟨cs, hcs, rfl⟩, hc1⟩
  simp -implicitDefEqProofs (disch := first | assumption | decide | omega | (simp only [List.length_map, List.length_take, List.length_drop, List.length_set, List.length_reverse, List.length_range, List.length_zip, List.length_append, List.length_cons, List.length_nil]; omega) | ((try simp only [List.length_map]); refine Nat.le_trans (List.length_filter_le _ _) ?_; first | assumption | omega | (simp only [List.length_map, List.length_take, List.length_drop, List.length_set, List.length_reverse, List.length_range, List.length_zip, List.length_append, List.length_cons, List.length_nil]; omega) | (refine Nat.le_trans (List.length_filter_le _ _) ?_; first | assumption | omega | (simp only [List.length_map, List.length_take, List.length_drop, List.length_set, List.length_reverse, List.length_range, List.length_zip, List.length_append, List.length_cons, List.length_nil]; omega))) | (repeat (first | exact sm_int | exact sm_bl | exact sm_non | assumption | exact sm_nil | refine sm_cons ?_ ?_ (by simp)))) only [w_var, w_cst, w_gl, w_tup, w_lst, w_op2, w_neg, w_nt, w_ife, w_cmp, w_chn, w_ix, w_sl, w_noe, Ev.w_rev, w_lz, w_call, w_calln, w_callf, w_bf, w_isi, w_and, w_or, w_and1, w_and2, w_or1, w_or2, w_lc, w_s0, w_s1, w_itE, w_itR, w_itN, w_itZ, zipO_eq, w_el, w_gn, w_tn0, w_tn1, w_tp0, w_tp1, gK_app, gQ_app, w_b0, w_b1, w_bp, w_bn, w_bt, w_wp0, w_wp1, x_nil, x_cons, x_pass, x_set, x_seto, x_asg, x_ret, x_ex, x_ife, x_for, x_whS, loopL_consB, Ev.loopL_nil, x_app, x_auga, x_ext, x_step_n, x_step_t, xK_app, tst_bl, asB_bl, ntO_bl, negO_int, optB_some, optO_some, retO_rt, retO_nx, retO_ite, nxt_nx, nxt_rt, nxtE_some, bd_ok, bd_ite, bd_assoc, ite_bl, Ev.ite_int, ite_ite, Bool.and_eq_true, Bool.or_eq_true,  if_tl, if_fr, if_fl, if_tr, dec_b,  of_some, Option.map_some, Option.bind_some, gv0, gvS, List.set_cons_zero, List.set_cons_succ, appO_lst, putv_some, oi_noe, oi_var, oi_cst, oi_gl, oi_op2, oi_neg, oi_ix, oi_bf, List.map_cons, List.map_nil, List.cons_append, List.nil_append, List.replicate_zero, List.replicate_succ, Bool.not_true, Bool.not_false, if_true, if_false, Bool.false_eq_true, reduceIte, decide_eq_true_eq, Bool.not_eq_true', decide_eq_false_iff_not, Bool.true_eq_false, eq_self, not_true_eq_false, not_false_eq_true, decide_true, decide_false, Bool.false_or, Bool.true_or, Bool.or_false, Bool.or_true, Bool.true_and, Bool.false_and, Bool.and_true, Bool.and_false, List.length_map, w_boE, w_boT, w_boI, ne_eq, bf_min2, bf_max2, Int.natCast_inj, Int.ofNat_le, Int.ofNat_lt, bf_sumN, bf_minN, lzEE, lzLE, lzLL, isBt, isBf, isnBt, isnBf, innT, innL, ninT, ninL, tupE, Int.reduceToNat, map_encN, map_idf, eqNilE, neNilE, eqE, neE, eqEL, neEL, ixEn, ixLn, addLE, addE, addTE, addET, opv_addL, opv_addT, cut_take, cut_drop, toNat_s, eqNil0, neNil0, cut_drop1, cut_takeI, cut_dropI, rngI, Int.toNat_natCast, innI1, innI2, innI3, enc_int, enc_nat, enc_bool, cov_lt, cov_le, cov_gt, cov_ge, cov_eqI, cov_neI, cov_isN, cov_isnN, opv_addI, opv_subI, itemsE, itemsL, itemsT, lenE, lenL, lenT, tupleL, tupleE, listE, listL, slE, slL, enumE, zipE, loopL_typed, loopL_rng, loopM_map, loopM_filt, loopM_flat, loopR_map, loopR_filt, loopR_flat, lcEnd_ok, eqOn, eqnO, neOn, eqOi, eqiO, neOi, innTn, innLn, ninTn, ninLn, innTo, innLo, ninTo, ninLo, innTi, innLi, bf_all, any_T, bf_sum, isNon_opt, isNon_nn, isNon_int, isNon_tup]
  refine Ok.bd (ok_table (n := n + 13) hc1) ?_
  rintro _ c2 ⟨⟨t, ht, rfl⟩, hc2⟩
  have hl := tab_len ht
  have hcl := hcs.1
  have ixt : ∀ t, t ∈ tabs → ∀ i : Nat, i < 7 → ∀ c, ixv (enc t) (.int (i : Int)) c = some (.int ((at_ t i : Nat) : Int)) := fun t ht i hi c => ixEn (by rw [tab_len ht]; exact hi)
  have ixc : ∀ i : Nat, i < 7 → ∀ c, ixv (enc cs) (.int (i : Int)) c = some (enc (at_ cs i)) := fun i hi c => ixEn (by rw [hcl]; exact hi)
  have ixr : ∀ t, t ∈ tabs → ∀ i : Nat, i < 7 → ∀ c, ixv (enc (at_ cs i)) (.int ((at_ t i : Nat) : Int)) c = some (.int ((at_ (at_ cs i) (at_ t i) : Nat) : Int)) := fun t ht i hi c => ixEn (by
    have := (hcs.2 i hi).1
    have := (tabs_iff.mp ht).2 i hi
    omega)
  have sin : ∀ t, t ∈ snd_ → t ∈ tabs := fun t ht => snd_in ht
  have e1 : ∀ t, t ∈ tabs → ((List.range 7).map fun i => at_ (at_ cs i) (at_ t i)).sum = cst cs t := fun t ht => (cst_rng hcs ht).symm
  have n1 : ∀ (k : Int) c, nolO (.int k) c = .ok (.int k) c := fun k c => nolO_ok rfl
  have n2 : ∀ (k : Int) (xs : List (List Nat)) c, nolO (.tup [.int k, enc xs]) c = .ok (.tup [.int k, enc xs]) c := fun k xs c => nolO_ok (by
    show (true && (D.noL (enc xs) && true)) = true
    rw [Enc.noL]; rfl)
  have ixt' : ∀ t, t ∈ snd_ → ∀ i : Nat, i < 7 → ∀ c, ixv (enc t) (.int (i : Int)) c = some (.int ((at_ t i : Nat) : Int)) := fun t ht => ixt t (sin t ht)
  have ixr' : ∀ t, t ∈ snd_ → ∀ i : Nat, i < 7 → ∀ c, ixv (enc (at_ cs i)) (.int ((at_ t i : Nat) : Int)) c = some (.int ((at_ (at_ cs i) (at_ t i) : Nat) : Int)) := fun t ht => ixr t (sin t ht)
  have e1' : ∀ t, t ∈ snd_ → ((List.range 7).map fun i => at_ (at_ cs i) (at_ t i)).sum = cst cs t := fun t ht => e1 t (sin t ht)
  have hS : Sm 8 (enc (List.filter (fun x => decide (cst cs x = minN (List.map (cst cs) snd_))) snd_)) := sm_list (by
    have := List.length_filter_le (fun x => decide (cst cs x = minN (List.map (cst cs) snd_))) snd_
    omega) fun x hx => sm_list (by rw [tab_len (sin _ (List.mem_filter.mp hx).1)]; decide) fun _ _ => sm_nat
  simp -implicitDefEqProofs (disch := first | assumption | decide | omega | (simp only [List.length_map, List.length_take, List.length_drop, List.length_set, List.length_reverse, List.length_range, List.length_zip, List.length_append, List.length_cons, List.length_nil]; omega) | ((try simp only [List.length_map]); refine Nat.le_trans (List.length_filter_le _ _) ?_; first | assumption | omega | (simp only [List.length_map, List.length_take, List.length_drop, List.length_set, List.length_reverse, List.length_range, List.length_zip, List.length_append, List.length_cons, List.length_nil]; omega) | (refine Nat.le_trans (List.length_filter_le _ _) ?_; first | assumption | omega | (simp only [List.length_map, List.length_take, List.length_drop, List.length_set, List.length_reverse, List.length_range, List.length_zip, List.length_append, List.length_cons, List.length_nil]; omega))) | (repeat (first | exact sm_int | exact sm_bl | exact sm_non | assumption | exact sm_nil | refine sm_cons ?_ ?_ (by simp)))) only [w_var, w_cst, w_gl, w_tup, w_lst, w_op2, w_neg, w_nt, w_ife, w_cmp, w_chn, w_ix, w_sl, w_noe, Ev.w_rev, w_lz, w_call, w_calln, w_callf, w_bf, w_isi, w_and, w_or, w_and1, w_and2, w_or1, w_or2, w_lc, w_s0, w_s1, w_itE, w_itR, w_itN, w_itZ, zipO_eq, w_el, w_gn, w_tn0, w_tn1, w_tp0, w_tp1, gK_app, gQ_app, w_b0, w_b1, w_bp, w_bn, w_bt, w_wp0, w_wp1, x_nil, x_cons, x_pass, x_set, x_seto, x_asg, x_ret, x_ex, x_ife, x_for, x_whS, loopL_consB, Ev.loopL_nil, x_app, x_auga, x_ext, x_step_n, x_step_t, xK_app, tst_bl, asB_bl, ntO_bl, negO_int, optB_some, optO_some, retO_rt, retO_nx, retO_ite, nxt_nx, nxt_rt, nxtE_some, bd_ok, bd_ite, bd_assoc, ite_bl, Ev.ite_int, ite_ite, Bool.and_eq_true, Bool.or_eq_true,  if_tl, if_fr, if_fl, if_tr, dec_b,  of_some, Option.map_some, Option.bind_some, gv0, gvS, List.set_cons_zero, List.set_cons_succ, appO_lst, putv_some, oi_noe, oi_var, oi_cst, oi_gl, oi_op2, oi_neg, oi_ix, oi_bf, List.map_cons, List.map_nil, List.cons_append, List.nil_append, List.replicate_zero, List.replicate_succ, Bool.not_true, Bool.not_false, if_true, if_false, Bool.false_eq_true, reduceIte, decide_eq_true_eq, Bool.not_eq_true', decide_eq_false_iff_not, Bool.true_eq_false, eq_self, not_true_eq_false, not_false_eq_true, decide_true, decide_false, Bool.false_or, Bool.true_or, Bool.or_false, Bool.or_true, Bool.true_and, Bool.false_and, Bool.and_true, Bool.and_false, List.length_map, w_boE, w_boT, w_boI, ne_eq, bf_min2, bf_max2, Int.natCast_inj, Int.ofNat_le, Int.ofNat_lt, bf_sumN, bf_minN, lzEE, lzLE, lzLL, isBt, isBf, isnBt, isnBf, innT, innL, ninT, ninL, tupE, Int.reduceToNat, map_encN, map_idf, eqNilE, neNilE, eqE, neE, eqEL, neEL, ixEn, ixLn, addLE, addE, addTE, addET, opv_addL, opv_addT, cut_take, cut_drop, toNat_s, eqNil0, neNil0, cut_drop1, cut_takeI, cut_dropI, rngI, Int.toNat_natCast, innI1, innI2, innI3, enc_int, enc_nat, enc_bool, cov_lt, cov_le, cov_gt, cov_ge, cov_eqI, cov_neI, cov_isN, cov_isnN, opv_addI, opv_subI, itemsE, itemsL, itemsT, lenE, lenL, lenT, tupleL, tupleE, listE, listL, slE, slL, enumE, zipE, loopL_typed, loopL_rng, loopM_map, loopM_filt, loopM_flat, loopR_map, loopR_filt, loopR_flat, lcEnd_ok, eqOn, eqnO, neOn, eqOi, eqiO, neOi, innTn, innLn, ninTn, ninLn, innTo, innLo, ninTo, ninLo, innTi, innLi, bf_all, any_T, bf_sum, isNon_opt, isNon_nn, isNon_int, isNon_tup, n1, n2, ixt', ixr', e1', c_cost_of hcs ht, ixt, ixc, ixr, ht, sin, e1, same10, c_cheapest hcs, c_cheapest_by_least hcs, least_min hcs]
  exact ⟨_, _, rfl, _, rfl, ⟨_, _, _, _, _, _, rfl⟩, hc2⟩
def due4 : List (List Nat) := [[0, 0, 0, 1, 0, 1, 2], [0, 0, 1, 0, 1, 0, 2], [0, 1, 0, 0, 1, 0, 2], [1, 0, 0, 0, 0, 1, 2]]
theorem due4_in : ∀ t ∈ due4, t ∈ tabs := by decide +kernel
def free7 : List (List Nat) := [[0, 0], [0, 0], [0, 0], [0, 0], [0, 0], [0, 0, 0], [0, 0, 0]]
def C4 (i : Nat) : List (List Nat) := ([[0, 5], [0, 5], [0, 5], [0, 5], [0, 5], [0, 3, 2], [0, 0, 4]] : List (List Nat)).set i [0, 1]
theorem okC_free : okC free7 := by unfold okC; decide +kernel
theorem okC_C4 : ∀ i, i < 4 → okC (C4 i) := by unfold okC; decide +kernel
def mm (i : Nat) : Nat := at_ [7, 10, 10, 7] i
def ww (i : Nat) : List Nat := at_ [[1, 0, 0, 0, 0, 2, 2], [0, 1, 0, 0, 1, 0, 2], [0, 0, 1, 0, 1, 0, 2], [0, 0, 0, 1, 0, 2, 2]] i
theorem m4 : ∀ i, i < 4 → minN (snd_.map (cst (C4 i))) = mm i := by decide +kernel
theorem f4 : ∀ i, i < 4 → (snd_.filter fun t => decide (cst (C4 i) t = mm i)) = [ww i] := by decide +kernel
theorem m0 : minN (snd_.map (cst free7)) = 0 := by decide +kernel
theorem f0 : (snd_.filter fun t => decide (cst free7 t = 0)).length = 66 := by decide +kernel
theorem dn0 : (snd_.filter fun t => (due4.filter fun u => dnl t u).isEmpty) = [] := by decide +kernel
def VV (i : Nat) : D := .tup [.int (mm i : Int), enc [ww i], .int (mm i : Int)]
theorem turnC {n : Nat} {i : Nat} (hi : i < 4) {xs : List D} {s a1 a2 a3 a4 a5 a7 a8 a9 a10 a11 : Option D} {c : Cu} (hx : xs.length ≤ 100) : Ev.stepF (callN false P (n + 16)) (.nm 7) b_law_1 (.int (i : Int)) [s, a1, a2, a3, a4, a5, some (.lst xs), a7, a8, a9, a10, a11] c = .ok (.nx [s, a1, a2, a3, a4, a5, some (.lst (xs ++ [VV i])), some (.int (i : Int)), a8, some (.lst ((C4 i).map enc)), a10, a11]) c := by
  refine of_Ok ?_
  rw [x_step_n, b_law_1]
  refine Ok.nx (env1 := [s, a1, a2, a3, a4, a5, some (.lst xs), some (.int (i : Int)), a8, some (.lst (([[0, 5], [0, 5], [0, 5], [0, 5], [0, 5], [0, 3, 2], [0, 0, 4]] : List (List Nat)).map enc)), a10, a11]) (c1 := c) (by kernel_rfl) ?_
  refine Ok.nx (env1 := [s, a1, a2, a3, a4, a5, some (.lst xs), some (.int (i : Int)), a8, some (.lst ((C4 i).map enc)), a10, a11]) (c1 := c) (by
    obtain rfl | rfl | rfl | rfl : i = 0 ∨ i = 1 ∨ i = 2 ∨ i = 3 := by omega
    all_goals kernel_rfl) ?_
  have l7 : (C4 i).length = 7 := (okC_C4 i hi).1
  simp -implicitDefEqProofs (disch := first | assumption | decide | omega | (simp only [List.length_map, List.length_take, List.length_drop, List.length_set, List.length_reverse, List.length_range, List.length_zip, List.length_append, List.length_cons, List.length_nil]; omega) | ((try simp only [List.length_map]); refine Nat.le_trans (List.length_filter_le _ _) ?_; first | assumption | omega | (simp only [List.length_map, List.length_take, List.length_drop, List.length_set, List.length_reverse, List.length_range, List.length_zip, List.length_append, List.length_cons, List.length_nil]; omega) | (refine Nat.le_trans (List.length_filter_le _ _) ?_; first | assumption | omega | (simp only [List.length_map, List.length_take, List.length_drop, List.length_set, List.length_reverse, List.length_range, List.length_zip, List.length_append, List.length_cons, List.length_nil]; omega))) | (repeat (first | exact sm_int | exact sm_bl | exact sm_non | assumption | exact sm_nil | refine sm_cons ?_ ?_ (by simp)))) only [w_var, w_cst, w_gl, w_tup, w_lst, w_op2, w_neg, w_nt, w_ife, w_cmp, w_chn, w_ix, w_sl, w_noe, Ev.w_rev, w_lz, w_call, w_calln, w_callf, w_bf, w_isi, w_and, w_or, w_and1, w_and2, w_or1, w_or2, w_lc, w_s0, w_s1, w_itE, w_itR, w_itN, w_itZ, zipO_eq, w_el, w_gn, w_tn0, w_tn1, w_tp0, w_tp1, gK_app, gQ_app, w_b0, w_b1, w_bp, w_bn, w_bt, w_wp0, w_wp1, x_nil, x_cons, x_pass, x_set, x_seto, x_asg, x_ret, x_ex, x_ife, x_for, x_whS, loopL_consB, Ev.loopL_nil, x_app, x_auga, x_ext, x_step_n, x_step_t, xK_app, tst_bl, asB_bl, ntO_bl, negO_int, optB_some, optO_some, retO_rt, retO_nx, retO_ite, nxt_nx, nxt_rt, nxtE_some, bd_ok, bd_ite, bd_assoc, ite_bl, Ev.ite_int, ite_ite, Bool.and_eq_true, Bool.or_eq_true,  if_tl, if_fr, if_fl, if_tr, dec_b,  of_some, Option.map_some, Option.bind_some, gv0, gvS, List.set_cons_zero, List.set_cons_succ, appO_lst, putv_some, oi_noe, oi_var, oi_cst, oi_gl, oi_op2, oi_neg, oi_ix, oi_bf, List.map_cons, List.map_nil, List.cons_append, List.nil_append, List.replicate_zero, List.replicate_succ, Bool.not_true, Bool.not_false, if_true, if_false, Bool.false_eq_true, reduceIte, decide_eq_true_eq, Bool.not_eq_true', decide_eq_false_iff_not, Bool.true_eq_false, eq_self, not_true_eq_false, not_false_eq_true, decide_true, decide_false, Bool.false_or, Bool.true_or, Bool.or_false, Bool.or_true, Bool.true_and, Bool.false_and, Bool.and_true, Bool.and_false, List.length_map, w_boE, w_boT, w_boI, ne_eq, bf_min2, bf_max2, Int.natCast_inj, Int.ofNat_le, Int.ofNat_lt, bf_sumN, bf_minN, lzEE, lzLE, lzLL, isBt, isBf, isnBt, isnBf, innT, innL, ninT, ninL, tupE, Int.reduceToNat, map_encN, map_idf, eqNilE, neNilE, eqE, neE, eqEL, neEL, ixEn, ixLn, addLE, addE, addTE, addET, opv_addL, opv_addT, cut_take, cut_drop, toNat_s, eqNil0, neNil0, cut_drop1, cut_takeI, cut_dropI, rngI, Int.toNat_natCast, innI1, innI2, innI3, enc_int, enc_nat, enc_bool, cov_lt, cov_le, cov_gt, cov_ge, cov_eqI, cov_neI, cov_isN, cov_isnN, opv_addI, opv_subI, itemsE, itemsL, itemsT, lenE, lenL, lenT, tupleL, tupleE, listE, listL, slE, slL, enumE, zipE, loopL_typed, loopL_rng, loopM_map, loopM_filt, loopM_flat, loopR_map, loopR_filt, loopR_flat, lcEnd_ok, eqOn, eqnO, neOn, eqOi, eqiO, neOi, innTn, innLn, ninTn, ninLn, innTo, innLo, ninTo, ninLo, innTi, innLi, bf_all, any_T, bf_sum, isNon_opt, isNon_nn, isNon_int, isNon_tup, c_cheapest (okC_C4 i hi), c_cheapest_by_least (okC_C4 i hi), least_min (okC_C4 i hi), m4 i hi, f4 i hi, catv_lst]
  exact ⟨_, _, rfl, rfl, rfl⟩
theorem forL_c {f : D → Ev.Env → Cu → Out Fl} {x : D} {xs : List D} {env env' : Ev.Env} {c c' : Cu} (h : f x env c = .ok (.nx env') c') : forL f (x :: xs) env c = forL f xs env' c' := by
  show (f x env c).bind _ = _
  rw [h]; rfl
theorem tail77 {n : Nat} {env : Ev.Env} {c : Cu} (h : Inv77 env c) : Ok (ex (callN false P (n + 16)) (match s_law with | .cons _ (.cons _ (.cons _ s)) => s | _ => .nil) env c) fun r c => ∃ d, r = .rt d ∧ d = .bl true := by
  obtain ⟨⟨s, a3, a9, a10, a4, a8, rfl⟩, hc⟩ := h
  unfold s_law
  refine Ok.nx (env1 := [s, some .cup, some (.lst (snd_.map enc)), a3, some (enc due4), none, none, none, a8, a9, a10, none]) (c1 := c) (by kernel_rfl) ?_
  refine Ok.nx (env1 := [s, some .cup, some (.lst (snd_.map enc)), a3, some (enc due4), none, none, none, a8, a9, a10, none]) (c1 := c) (by kernel_rfl) ?_
  refine Ok.nx (env1 := [s, some .cup, some (.lst (snd_.map enc)), a3, some (enc due4), none, none, none, a8, a9, a10, none]) (c1 := c) (by kernel_rfl) ?_
  have l1 := snd_len
  have k1 : ∀ t, t ∈ snd_ → ∀ u, u ∈ due4 → ∀ (n : Nat) c, callN false P (n + 4) n_does_no_less [enc t, enc u] c = .ok (.bl (dnl t u)) c := fun t ht u hu n c => c_does_no_less (snd_in ht) (due4_in u hu)
  have l4 : due4.length = 4 := rfl
  refine Ok.nx (env1 := [s, some .cup, some (.lst (snd_.map enc)), a3, some (enc due4), none, none, none, a8, a9, a10, none]) (c1 := c) (by simp -implicitDefEqProofs (disch := first | assumption | decide | omega | (simp only [List.length_map, List.length_take, List.length_drop, List.length_set, List.length_reverse, List.length_range, List.length_zip, List.length_append, List.length_cons, List.length_nil]; omega) | ((try simp only [List.length_map]); refine Nat.le_trans (List.length_filter_le _ _) ?_; first | assumption | omega | (simp only [List.length_map, List.length_take, List.length_drop, List.length_set, List.length_reverse, List.length_range, List.length_zip, List.length_append, List.length_cons, List.length_nil]; omega) | (refine Nat.le_trans (List.length_filter_le _ _) ?_; first | assumption | omega | (simp only [List.length_map, List.length_take, List.length_drop, List.length_set, List.length_reverse, List.length_range, List.length_zip, List.length_append, List.length_cons, List.length_nil]; omega))) | (repeat (first | exact sm_int | exact sm_bl | exact sm_non | assumption | exact sm_nil | refine sm_cons ?_ ?_ (by simp)))) only [w_var, w_cst, w_gl, w_tup, w_lst, w_op2, w_neg, w_nt, w_ife, w_cmp, w_chn, w_ix, w_sl, w_noe, Ev.w_rev, w_lz, w_call, w_calln, w_callf, w_bf, w_isi, w_and, w_or, w_and1, w_and2, w_or1, w_or2, w_lc, w_s0, w_s1, w_itE, w_itR, w_itN, w_itZ, zipO_eq, w_el, w_gn, w_tn0, w_tn1, w_tp0, w_tp1, gK_app, gQ_app, w_b0, w_b1, w_bp, w_bn, w_bt, w_wp0, w_wp1, x_nil, x_cons, x_pass, x_set, x_seto, x_asg, x_ret, x_ex, x_ife, x_for, x_whS, loopL_consB, Ev.loopL_nil, x_app, x_auga, x_ext, x_step_n, x_step_t, xK_app, tst_bl, asB_bl, ntO_bl, negO_int, optB_some, optO_some, retO_rt, retO_nx, retO_ite, nxt_nx, nxt_rt, nxtE_some, bd_ok, bd_ite, bd_assoc, ite_bl, Ev.ite_int, ite_ite, Bool.and_eq_true, Bool.or_eq_true,  if_tl, if_fr, if_fl, if_tr, dec_b,  of_some, Option.map_some, Option.bind_some, gv0, gvS, List.set_cons_zero, List.set_cons_succ, appO_lst, putv_some, oi_noe, oi_var, oi_cst, oi_gl, oi_op2, oi_neg, oi_ix, oi_bf, List.map_cons, List.map_nil, List.cons_append, List.nil_append, List.replicate_zero, List.replicate_succ, Bool.not_true, Bool.not_false, if_true, if_false, Bool.false_eq_true, reduceIte, decide_eq_true_eq, Bool.not_eq_true', decide_eq_false_iff_not, Bool.true_eq_false, eq_self, not_true_eq_false, not_false_eq_true, decide_true, decide_false, Bool.false_or, Bool.true_or, Bool.or_false, Bool.or_true, Bool.true_and, Bool.false_and, Bool.and_true, Bool.and_false, List.length_map, w_boE, w_boT, w_boI, ne_eq, bf_min2, bf_max2, Int.natCast_inj, Int.ofNat_le, Int.ofNat_lt, bf_sumN, bf_minN, lzEE, lzLE, lzLL, isBt, isBf, isnBt, isnBf, innT, innL, ninT, ninL, tupE, Int.reduceToNat, map_encN, map_idf, eqNilE, neNilE, eqE, neE, eqEL, neEL, ixEn, ixLn, addLE, addE, addTE, addET, opv_addL, opv_addT, cut_take, cut_drop, toNat_s, eqNil0, neNil0, cut_drop1, cut_takeI, cut_dropI, rngI, Int.toNat_natCast, innI1, innI2, innI3, enc_int, enc_nat, enc_bool, cov_lt, cov_le, cov_gt, cov_ge, cov_eqI, cov_neI, cov_isN, cov_isnN, opv_addI, opv_subI, itemsE, itemsL, itemsT, lenE, lenL, lenT, tupleL, tupleE, listE, listL, slE, slL, enumE, zipE, loopL_typed, loopL_rng, loopM_map, loopM_filt, loopM_flat, loopR_map, loopR_filt, loopR_flat, lcEnd_ok, eqOn, eqnO, neOn, eqOi, eqiO, neOi, innTn, innLn, ninTn, ninLn, innTo, innLo, ninTo, ninLo, innTi, innLi, bf_all, any_T, bf_sum, isNon_opt, isNon_nn, isNon_int, isNon_tup, k1, dn0]) ?_
  refine Ok.nx (env1 := [s, some .cup, some (.lst (snd_.map enc)), a3, some (enc due4), some (enc free7), none, none, a8, a9, a10, none]) (c1 := c) (by kernel_rfl) ?_
  refine Ok.nx (env1 := [s, some .cup, some (.lst (snd_.map enc)), a3, some (enc due4), some (enc free7), some (.lst [.int 0, .int 66]), none, a8, a9, a10, none]) (c1 := c) (by
    have i1 : ∀ (xs : List (List Nat)) c, ixv (.tup [.int 0, enc xs]) (.int 1) c = some (enc xs) := fun _ _ => rfl
    have f0' : (snd_.filter fun t => decide (cst free7 t = 0)).length = 66 := f0
    have hS : (snd_.filter fun t => decide (cst free7 t = 0)).length ≤ 100 := by rw [f0]; decide
    simp -implicitDefEqProofs (disch := first | assumption | decide | omega | (simp only [List.length_map, List.length_take, List.length_drop, List.length_set, List.length_reverse, List.length_range, List.length_zip, List.length_append, List.length_cons, List.length_nil]; omega) | ((try simp only [List.length_map]); refine Nat.le_trans (List.length_filter_le _ _) ?_; first | assumption | omega | (simp only [List.length_map, List.length_take, List.length_drop, List.length_set, List.length_reverse, List.length_range, List.length_zip, List.length_append, List.length_cons, List.length_nil]; omega) | (refine Nat.le_trans (List.length_filter_le _ _) ?_; first | assumption | omega | (simp only [List.length_map, List.length_take, List.length_drop, List.length_set, List.length_reverse, List.length_range, List.length_zip, List.length_append, List.length_cons, List.length_nil]; omega))) | (repeat (first | exact sm_int | exact sm_bl | exact sm_non | assumption | exact sm_nil | refine sm_cons ?_ ?_ (by simp)))) only [w_var, w_cst, w_gl, w_tup, w_lst, w_op2, w_neg, w_nt, w_ife, w_cmp, w_chn, w_ix, w_sl, w_noe, Ev.w_rev, w_lz, w_call, w_calln, w_callf, w_bf, w_isi, w_and, w_or, w_and1, w_and2, w_or1, w_or2, w_lc, w_s0, w_s1, w_itE, w_itR, w_itN, w_itZ, zipO_eq, w_el, w_gn, w_tn0, w_tn1, w_tp0, w_tp1, gK_app, gQ_app, w_b0, w_b1, w_bp, w_bn, w_bt, w_wp0, w_wp1, x_nil, x_cons, x_pass, x_set, x_seto, x_asg, x_ret, x_ex, x_ife, x_for, x_whS, loopL_consB, Ev.loopL_nil, x_app, x_auga, x_ext, x_step_n, x_step_t, xK_app, tst_bl, asB_bl, ntO_bl, negO_int, optB_some, optO_some, retO_rt, retO_nx, retO_ite, nxt_nx, nxt_rt, nxtE_some, bd_ok, bd_ite, bd_assoc, ite_bl, Ev.ite_int, ite_ite, Bool.and_eq_true, Bool.or_eq_true,  if_tl, if_fr, if_fl, if_tr, dec_b,  of_some, Option.map_some, Option.bind_some, gv0, gvS, List.set_cons_zero, List.set_cons_succ, appO_lst, putv_some, oi_noe, oi_var, oi_cst, oi_gl, oi_op2, oi_neg, oi_ix, oi_bf, List.map_cons, List.map_nil, List.cons_append, List.nil_append, List.replicate_zero, List.replicate_succ, Bool.not_true, Bool.not_false, if_true, if_false, Bool.false_eq_true, reduceIte, decide_eq_true_eq, Bool.not_eq_true', decide_eq_false_iff_not, Bool.true_eq_false, eq_self, not_true_eq_false, not_false_eq_true, decide_true, decide_false, Bool.false_or, Bool.true_or, Bool.or_false, Bool.or_true, Bool.true_and, Bool.false_and, Bool.and_true, Bool.and_false, List.length_map, w_boE, w_boT, w_boI, ne_eq, bf_min2, bf_max2, Int.natCast_inj, Int.ofNat_le, Int.ofNat_lt, bf_sumN, bf_minN, lzEE, lzLE, lzLL, isBt, isBf, isnBt, isnBf, innT, innL, ninT, ninL, tupE, Int.reduceToNat, map_encN, map_idf, eqNilE, neNilE, eqE, neE, eqEL, neEL, ixEn, ixLn, addLE, addE, addTE, addET, opv_addL, opv_addT, cut_take, cut_drop, toNat_s, eqNil0, neNil0, cut_drop1, cut_takeI, cut_dropI, rngI, Int.toNat_natCast, innI1, innI2, innI3, enc_int, enc_nat, enc_bool, cov_lt, cov_le, cov_gt, cov_ge, cov_eqI, cov_neI, cov_isN, cov_isnN, opv_addI, opv_subI, itemsE, itemsL, itemsT, lenE, lenL, lenT, tupleL, tupleE, listE, listL, slE, slL, enumE, zipE, loopL_typed, loopL_rng, loopM_map, loopM_filt, loopM_flat, loopR_map, loopR_filt, loopR_flat, lcEnd_ok, eqOn, eqnO, neOn, eqOi, eqiO, neOi, innTn, innLn, ninTn, ninLn, innTo, innLo, ninTo, ninLo, innTi, innLi, bf_all, any_T, bf_sum, isNon_opt, isNon_nn, isNon_int, isNon_tup, c_cheapest okC_free, c_cheapest_by_least okC_free, least_min okC_free, m0, Int.natCast_zero, i1, f0]
    rfl) ?_
  refine Ok.nx (env1 := [s, some .cup, some (.lst (snd_.map enc)), a3, some (enc due4), some (enc free7), some (.lst [.int 0, .int 66, VV 0, VV 1, VV 2, VV 3]), some (.int 3), a8, some (.lst ((C4 3).map enc)), a10, none]) (c1 := c) (by
    have hf : ∀ env c, ex (callN false P (n + 16)) (.for_ (.nm 7) (.itR (.cons (.cst (.int 4)) .nil)) b_law_1) env c = forL (Ev.stepF (callN false P (n + 16)) (.nm 7) b_law_1) [.int ((0 : Nat) : Int), .int ((1 : Nat) : Int), .int ((2 : Nat) : Int), .int ((3 : Nat) : Int)] env c := fun env c => by kernel_rfl
    rw [hf, forL_c (turnC (by decide) (by decide)), forL_c (turnC (by decide) (by decide)), forL_c (turnC (by decide) (by decide)), forL_c (turnC (by decide) (by decide))]
    rfl) ?_
  refine Ok.nx (env1 := [s, some .cup, some (.lst (snd_.map enc)), a3, some (.lst [.int 0, .int 66, VV 0, VV 1]), some (enc free7), some (.lst [.int 0, .int 66, VV 0, VV 1, VV 2, VV 3]), some (.int 3), a8, some (.lst ((C4 3).map enc)), a10, none]) (c1 := c) (by kernel_rfl) ?_
  refine Ok.nx (env1 := [s, some .cup, some (.lst (snd_.map enc)), a3, some (.lst [.int 0, .int 66, VV 0, VV 1, VV 2, VV 3]), some (enc free7), some (.lst [.int 0, .int 66, VV 0, VV 1, VV 2, VV 3]), some (.int 3), a8, some (.lst ((C4 3).map enc)), a10, none]) (c1 := c) (by kernel_rfl) ?_
  have q : cov .eq (.lst [.int 0, .int 66, VV 0, VV 1, VV 2, VV 3]) (.lst [.int 0, .int 66, VV 0, VV 1, VV 2, VV 3]) = some true := by kernel_rfl
  simp -implicitDefEqProofs (disch := first | assumption | decide | omega | (simp only [List.length_map, List.length_take, List.length_drop, List.length_set, List.length_reverse, List.length_range, List.length_zip, List.length_append, List.length_cons, List.length_nil]; omega) | ((try simp only [List.length_map]); refine Nat.le_trans (List.length_filter_le _ _) ?_; first | assumption | omega | (simp only [List.length_map, List.length_take, List.length_drop, List.length_set, List.length_reverse, List.length_range, List.length_zip, List.length_append, List.length_cons, List.length_nil]; omega) | (refine Nat.le_trans (List.length_filter_le _ _) ?_; first | assumption | omega | (simp only [List.length_map, List.length_take, List.length_drop, List.length_set, List.length_reverse, List.length_range, List.length_zip, List.length_append, List.length_cons, List.length_nil]; omega))) | (repeat (first | exact sm_int | exact sm_bl | exact sm_non | assumption | exact sm_nil | refine sm_cons ?_ ?_ (by simp)))) only [w_var, w_cst, w_gl, w_tup, w_lst, w_op2, w_neg, w_nt, w_ife, w_cmp, w_chn, w_ix, w_sl, w_noe, Ev.w_rev, w_lz, w_call, w_calln, w_callf, w_bf, w_isi, w_and, w_or, w_and1, w_and2, w_or1, w_or2, w_lc, w_s0, w_s1, w_itE, w_itR, w_itN, w_itZ, zipO_eq, w_el, w_gn, w_tn0, w_tn1, w_tp0, w_tp1, gK_app, gQ_app, w_b0, w_b1, w_bp, w_bn, w_bt, w_wp0, w_wp1, x_nil, x_cons, x_pass, x_set, x_seto, x_asg, x_ret, x_ex, x_ife, x_for, x_whS, loopL_consB, Ev.loopL_nil, x_app, x_auga, x_ext, x_step_n, x_step_t, xK_app, tst_bl, asB_bl, ntO_bl, negO_int, optB_some, optO_some, retO_rt, retO_nx, retO_ite, nxt_nx, nxt_rt, nxtE_some, bd_ok, bd_ite, bd_assoc, ite_bl, Ev.ite_int, ite_ite, Bool.and_eq_true, Bool.or_eq_true,  if_tl, if_fr, if_fl, if_tr, dec_b,  of_some, Option.map_some, Option.bind_some, gv0, gvS, List.set_cons_zero, List.set_cons_succ, appO_lst, putv_some, oi_noe, oi_var, oi_cst, oi_gl, oi_op2, oi_neg, oi_ix, oi_bf, List.map_cons, List.map_nil, List.cons_append, List.nil_append, List.replicate_zero, List.replicate_succ, Bool.not_true, Bool.not_false, if_true, if_false, Bool.false_eq_true, reduceIte, decide_eq_true_eq, Bool.not_eq_true', decide_eq_false_iff_not, Bool.true_eq_false, eq_self, not_true_eq_false, not_false_eq_true, decide_true, decide_false, Bool.false_or, Bool.true_or, Bool.or_false, Bool.or_true, Bool.true_and, Bool.false_and, Bool.and_true, Bool.and_false, List.length_map, w_boE, w_boT, w_boI, ne_eq, bf_min2, bf_max2, Int.natCast_inj, Int.ofNat_le, Int.ofNat_lt, bf_sumN, bf_minN, lzEE, lzLE, lzLL, isBt, isBf, isnBt, isnBf, innT, innL, ninT, ninL, tupE, Int.reduceToNat, map_encN, map_idf, eqNilE, neNilE, eqE, neE, eqEL, neEL, ixEn, ixLn, addLE, addE, addTE, addET, opv_addL, opv_addT, cut_take, cut_drop, toNat_s, eqNil0, neNil0, cut_drop1, cut_takeI, cut_dropI, rngI, Int.toNat_natCast, innI1, innI2, innI3, enc_int, enc_nat, enc_bool, cov_lt, cov_le, cov_gt, cov_ge, cov_eqI, cov_neI, cov_isN, cov_isnN, opv_addI, opv_subI, itemsE, itemsL, itemsT, lenE, lenL, lenT, tupleL, tupleE, listE, listL, slE, slL, enumE, zipE, loopL_typed, loopL_rng, loopM_map, loopM_filt, loopM_flat, loopR_map, loopR_filt, loopR_flat, lcEnd_ok, eqOn, eqnO, neOn, eqOi, eqiO, neOi, innTn, innLn, ninTn, ninLn, innTo, innLo, ninTo, ninLo, innTi, innLi, bf_all, any_T, bf_sum, isNon_opt, isNon_nn, isNon_int, isNon_tup, q]
  exact ⟨_, _, rfl, _, rfl, rfl⟩
theorem law77 {n : Nat} {ns : List Int} (hn : ns.length ≤ 63) : Ok (callN false P (n + 17) n_law [.scr ns] none) fun d _ => d = .bl true := by
  rw [u_law]
  refine Ok.u ?_
  have e : s_law = .cons (.set 1 (.call n__law_cup (.cons (.var 0) .nil))) (.cons (.set 2 (.lc [10] (.gn (.nm 10) (.itE (.call n__law_every .nil)) (.cons (.call n__law_is_sound (.cons (.var 10) .nil)) .nil) (.el (.var 10))))) (.cons (.for_ (.nm 3) (.itR (.cons (.cst (.int 5)) .nil)) b_law_0) (match s_law with | .cons _ (.cons _ (.cons _ s)) => s | _ => .nil))) := rfl
  rw [e]
  refine Ok.set (Ok.eq (by simp -implicitDefEqProofs (disch := first | assumption | decide | omega | (simp only [List.length_map, List.length_take, List.length_drop, List.length_set, List.length_reverse, List.length_range, List.length_zip, List.length_append, List.length_cons, List.length_nil]; omega) | ((try simp only [List.length_map]); refine Nat.le_trans (List.length_filter_le _ _) ?_; first | assumption | omega | (simp only [List.length_map, List.length_take, List.length_drop, List.length_set, List.length_reverse, List.length_range, List.length_zip, List.length_append, List.length_cons, List.length_nil]; omega) | (refine Nat.le_trans (List.length_filter_le _ _) ?_; first | assumption | omega | (simp only [List.length_map, List.length_take, List.length_drop, List.length_set, List.length_reverse, List.length_range, List.length_zip, List.length_append, List.length_cons, List.length_nil]; omega))) | (repeat (first | exact sm_int | exact sm_bl | exact sm_non | assumption | exact sm_nil | refine sm_cons ?_ ?_ (by simp)))) only [w_var, w_cst, w_gl, w_tup, w_lst, w_op2, w_neg, w_nt, w_ife, w_cmp, w_chn, w_ix, w_sl, w_noe, Ev.w_rev, w_lz, w_call, w_calln, w_callf, w_bf, w_isi, w_and, w_or, w_and1, w_and2, w_or1, w_or2, w_lc, w_s0, w_s1, w_itE, w_itR, w_itN, w_itZ, zipO_eq, w_el, w_gn, w_tn0, w_tn1, w_tp0, w_tp1, gK_app, gQ_app, w_b0, w_b1, w_bp, w_bn, w_bt, w_wp0, w_wp1, x_nil, x_cons, x_pass, x_set, x_seto, x_asg, x_ret, x_ex, x_ife, x_for, x_whS, loopL_consB, Ev.loopL_nil, x_app, x_auga, x_ext, x_step_n, x_step_t, xK_app, tst_bl, asB_bl, ntO_bl, negO_int, optB_some, optO_some, retO_rt, retO_nx, retO_ite, nxt_nx, nxt_rt, nxtE_some, bd_ok, bd_ite, bd_assoc, ite_bl, Ev.ite_int, ite_ite, Bool.and_eq_true, Bool.or_eq_true,  if_tl, if_fr, if_fl, if_tr, dec_b,  of_some, Option.map_some, Option.bind_some, gv0, gvS, List.set_cons_zero, List.set_cons_succ, appO_lst, putv_some, oi_noe, oi_var, oi_cst, oi_gl, oi_op2, oi_neg, oi_ix, oi_bf, List.map_cons, List.map_nil, List.cons_append, List.nil_append, List.replicate_zero, List.replicate_succ, Bool.not_true, Bool.not_false, if_true, if_false, Bool.false_eq_true, reduceIte, decide_eq_true_eq, Bool.not_eq_true', decide_eq_false_iff_not, Bool.true_eq_false, eq_self, not_true_eq_false, not_false_eq_true, decide_true, decide_false, Bool.false_or, Bool.true_or, Bool.or_false, Bool.or_true, Bool.true_and, Bool.false_and, Bool.and_true, Bool.and_false, List.length_map, w_boE, w_boT, w_boI, ne_eq, bf_min2, bf_max2, Int.natCast_inj, Int.ofNat_le, Int.ofNat_lt, bf_sumN, bf_minN, lzEE, lzLE, lzLL, isBt, isBf, isnBt, isnBf, innT, innL, ninT, ninL, tupE, Int.reduceToNat, map_encN, map_idf, eqNilE, neNilE, eqE, neE, eqEL, neEL, ixEn, ixLn, addLE, addE, addTE, addET, opv_addL, opv_addT, cut_take, cut_drop, toNat_s, eqNil0, neNil0, cut_drop1, cut_takeI, cut_dropI, rngI, Int.toNat_natCast, innI1, innI2, innI3, enc_int, enc_nat, enc_bool, cov_lt, cov_le, cov_gt, cov_ge, cov_eqI, cov_neI, cov_isN, cov_isnN, opv_addI, opv_subI, itemsE, itemsL, itemsT, lenE, lenL, lenT, tupleL, tupleE, listE, listL, slE, slL, enumE, zipE, loopL_typed, loopL_rng, loopM_map, loopM_filt, loopM_flat, loopR_map, loopR_filt, loopR_flat, lcEnd_ok, eqOn, eqnO, neOn, eqOi, eqiO, neOi, innTn, innLn, ninTn, ninLn, innTo, innLo, ninTo, ninLo, innTi, innLi, bf_all, any_T, bf_sum, isNon_opt, isNon_nn, isNon_int, isNon_tup]) (ok_cup (n := n + 15) (ns := ns) (by omega))) ?_
  rintro _ c ⟨rfl, hc⟩
  have tl := tabs_len
  have e1 : List.filter (fun x => sound x) tabs = snd_ := rfl
  refine Ok.set1 (d := .lst (snd_.map enc)) (c1 := c) (by simp -implicitDefEqProofs (disch := first | assumption | decide | omega | (simp only [List.length_map, List.length_take, List.length_drop, List.length_set, List.length_reverse, List.length_range, List.length_zip, List.length_append, List.length_cons, List.length_nil]; omega) | ((try simp only [List.length_map]); refine Nat.le_trans (List.length_filter_le _ _) ?_; first | assumption | omega | (simp only [List.length_map, List.length_take, List.length_drop, List.length_set, List.length_reverse, List.length_range, List.length_zip, List.length_append, List.length_cons, List.length_nil]; omega) | (refine Nat.le_trans (List.length_filter_le _ _) ?_; first | assumption | omega | (simp only [List.length_map, List.length_take, List.length_drop, List.length_set, List.length_reverse, List.length_range, List.length_zip, List.length_append, List.length_cons, List.length_nil]; omega))) | (repeat (first | exact sm_int | exact sm_bl | exact sm_non | assumption | exact sm_nil | refine sm_cons ?_ ?_ (by simp)))) only [w_var, w_cst, w_gl, w_tup, w_lst, w_op2, w_neg, w_nt, w_ife, w_cmp, w_chn, w_ix, w_sl, w_noe, Ev.w_rev, w_lz, w_call, w_calln, w_callf, w_bf, w_isi, w_and, w_or, w_and1, w_and2, w_or1, w_or2, w_lc, w_s0, w_s1, w_itE, w_itR, w_itN, w_itZ, zipO_eq, w_el, w_gn, w_tn0, w_tn1, w_tp0, w_tp1, gK_app, gQ_app, w_b0, w_b1, w_bp, w_bn, w_bt, w_wp0, w_wp1, x_nil, x_cons, x_pass, x_set, x_seto, x_asg, x_ret, x_ex, x_ife, x_for, x_whS, loopL_consB, Ev.loopL_nil, x_app, x_auga, x_ext, x_step_n, x_step_t, xK_app, tst_bl, asB_bl, ntO_bl, negO_int, optB_some, optO_some, retO_rt, retO_nx, retO_ite, nxt_nx, nxt_rt, nxtE_some, bd_ok, bd_ite, bd_assoc, ite_bl, Ev.ite_int, ite_ite, Bool.and_eq_true, Bool.or_eq_true,  if_tl, if_fr, if_fl, if_tr, dec_b,  of_some, Option.map_some, Option.bind_some, gv0, gvS, List.set_cons_zero, List.set_cons_succ, appO_lst, putv_some, oi_noe, oi_var, oi_cst, oi_gl, oi_op2, oi_neg, oi_ix, oi_bf, List.map_cons, List.map_nil, List.cons_append, List.nil_append, List.replicate_zero, List.replicate_succ, Bool.not_true, Bool.not_false, if_true, if_false, Bool.false_eq_true, reduceIte, decide_eq_true_eq, Bool.not_eq_true', decide_eq_false_iff_not, Bool.true_eq_false, eq_self, not_true_eq_false, not_false_eq_true, decide_true, decide_false, Bool.false_or, Bool.true_or, Bool.or_false, Bool.or_true, Bool.true_and, Bool.false_and, Bool.and_true, Bool.and_false, List.length_map, w_boE, w_boT, w_boI, ne_eq, bf_min2, bf_max2, Int.natCast_inj, Int.ofNat_le, Int.ofNat_lt, bf_sumN, bf_minN, lzEE, lzLE, lzLL, isBt, isBf, isnBt, isnBf, innT, innL, ninT, ninL, tupE, Int.reduceToNat, map_encN, map_idf, eqNilE, neNilE, eqE, neE, eqEL, neEL, ixEn, ixLn, addLE, addE, addTE, addET, opv_addL, opv_addT, cut_take, cut_drop, toNat_s, eqNil0, neNil0, cut_drop1, cut_takeI, cut_dropI, rngI, Int.toNat_natCast, innI1, innI2, innI3, enc_int, enc_nat, enc_bool, cov_lt, cov_le, cov_gt, cov_ge, cov_eqI, cov_neI, cov_isN, cov_isnN, opv_addI, opv_subI, itemsE, itemsL, itemsT, lenE, lenL, lenT, tupleL, tupleE, listE, listL, slE, slL, enumE, zipE, loopL_typed, loopL_rng, loopM_map, loopM_filt, loopM_flat, loopR_map, loopR_filt, loopR_flat, lcEnd_ok, eqOn, eqnO, neOn, eqOi, eqiO, neOi, innTn, innLn, ninTn, ninLn, innTo, innLo, ninTo, ninLo, innTi, innLi, bf_all, any_T, bf_sum, isNon_opt, isNon_nn, isNon_int, isNon_tup, c__law_every, c__law_is_sound, e1]) ?_
  refine Ok.for_ (items := rngM 5 fun (i : Nat) => .int (i : Int)) (c := c) Inv77 (by simp -implicitDefEqProofs (disch := first | assumption | decide | omega | (simp only [List.length_map, List.length_take, List.length_drop, List.length_set, List.length_reverse, List.length_range, List.length_zip, List.length_append, List.length_cons, List.length_nil]; omega) | ((try simp only [List.length_map]); refine Nat.le_trans (List.length_filter_le _ _) ?_; first | assumption | omega | (simp only [List.length_map, List.length_take, List.length_drop, List.length_set, List.length_reverse, List.length_range, List.length_zip, List.length_append, List.length_cons, List.length_nil]; omega) | (refine Nat.le_trans (List.length_filter_le _ _) ?_; first | assumption | omega | (simp only [List.length_map, List.length_take, List.length_drop, List.length_set, List.length_reverse, List.length_range, List.length_zip, List.length_append, List.length_cons, List.length_nil]; omega))) | (repeat (first | exact sm_int | exact sm_bl | exact sm_non | assumption | exact sm_nil | refine sm_cons ?_ ?_ (by simp)))) only [w_var, w_cst, w_gl, w_tup, w_lst, w_op2, w_neg, w_nt, w_ife, w_cmp, w_chn, w_ix, w_sl, w_noe, Ev.w_rev, w_lz, w_call, w_calln, w_callf, w_bf, w_isi, w_and, w_or, w_and1, w_and2, w_or1, w_or2, w_lc, w_s0, w_s1, w_itE, w_itR, w_itN, w_itZ, zipO_eq, w_el, w_gn, w_tn0, w_tn1, w_tp0, w_tp1, gK_app, gQ_app, w_b0, w_b1, w_bp, w_bn, w_bt, w_wp0, w_wp1, x_nil, x_cons, x_pass, x_set, x_seto, x_asg, x_ret, x_ex, x_ife, x_for, x_whS, loopL_consB, Ev.loopL_nil, x_app, x_auga, x_ext, x_step_n, x_step_t, xK_app, tst_bl, asB_bl, ntO_bl, negO_int, optB_some, optO_some, retO_rt, retO_nx, retO_ite, nxt_nx, nxt_rt, nxtE_some, bd_ok, bd_ite, bd_assoc, ite_bl, Ev.ite_int, ite_ite, Bool.and_eq_true, Bool.or_eq_true,  if_tl, if_fr, if_fl, if_tr, dec_b,  of_some, Option.map_some, Option.bind_some, gv0, gvS, List.set_cons_zero, List.set_cons_succ, appO_lst, putv_some, oi_noe, oi_var, oi_cst, oi_gl, oi_op2, oi_neg, oi_ix, oi_bf, List.map_cons, List.map_nil, List.cons_append, List.nil_append, List.replicate_zero, List.replicate_succ, Bool.not_true, Bool.not_false, if_true, if_false, Bool.false_eq_true, reduceIte, decide_eq_true_eq, Bool.not_eq_true', decide_eq_false_iff_not, Bool.true_eq_false, eq_self, not_true_eq_false, not_false_eq_true, decide_true, decide_false, Bool.false_or, Bool.true_or, Bool.or_false, Bool.or_true, Bool.true_and, Bool.false_and, Bool.and_true, Bool.and_false, List.length_map, w_boE, w_boT, w_boI, ne_eq, bf_min2, bf_max2, Int.natCast_inj, Int.ofNat_le, Int.ofNat_lt, bf_sumN, bf_minN, lzEE, lzLE, lzLL, isBt, isBf, isnBt, isnBf, innT, innL, ninT, ninL, tupE, Int.reduceToNat, map_encN, map_idf, eqNilE, neNilE, eqE, neE, eqEL, neEL, ixEn, ixLn, addLE, addE, addTE, addET, opv_addL, opv_addT, cut_take, cut_drop, toNat_s, eqNil0, neNil0, cut_drop1, cut_takeI, cut_dropI, rngI, Int.toNat_natCast, innI1, innI2, innI3, enc_int, enc_nat, enc_bool, cov_lt, cov_le, cov_gt, cov_ge, cov_eqI, cov_neI, cov_isN, cov_isnN, opv_addI, opv_subI, itemsE, itemsL, itemsT, lenE, lenL, lenT, tupleL, tupleE, listE, listL, slE, slL, enumE, zipE, loopL_typed, loopL_rng, loopM_map, loopM_filt, loopM_flat, loopR_map, loopR_filt, loopR_flat, lcEnd_ok, eqOn, eqnO, neOn, eqOi, eqiO, neOi, innTn, innLn, ninTn, ninLn, innTo, innLo, ninTo, ninLo, innTi, innLi, bf_all, any_T, bf_sum, isNon_opt, isNon_nn, isNon_int, isNon_tup]) ⟨⟨_, _, _, _, _, _, rfl⟩, hc⟩ (fun x _ env c h => turn77 h) ?_
  intro env c h
  exact tail77 h
def most : Nat := 63
def depth : Nat := 40
theorem holds : ∀ ns : List Int, ns.length ≤ most → ∃ c, callN false (psOf ds) depth n_law [.scr ns] none = .ok (.bl true) c := by
  intro ns h
  obtain ⟨d, c, e, rfl⟩ := law77 (n := 23) h
  exact ⟨c, e⟩
end LW

set_option maxRecDepth 100000
set_option maxHeartbeats 0
namespace LW
open PySem PySem.Spec PyProof.Rows L2 Ev

theorem ok : okAll G ds txt 0 ds = true := by decide +kernel

theorem binds : AllB txt 0 ds := ⟨fun _ _ _ _ _ _ us hl => match us, hl with | [_, _, _], _ => rfl, fun _ _ _ _ _ _ us hl => match us, hl with | [_, _, _], _ => rfl, fun _ _ _ _ _ _ us hl => match us, hl with | [_], _ => rfl, fun _ _ _ _ _ _ us hl => match us, hl with | [_], _ => rfl, fun _ _ _ _ _ _ us hl => match us, hl with | [], _ => rfl, fun _ _ _ _ _ _ us hl => match us, hl with | [_, _], _ => rfl, fun _ _ _ _ _ _ us hl => match us, hl with | [_], _ => rfl, fun _ _ _ _ _ _ us hl => match us, hl with | [_, _], _ => rfl, fun _ _ _ _ _ _ us hl => match us, hl with | [_], _ => rfl, fun _ _ _ _ _ _ us hl => match us, hl with | [_], _ => rfl, fun _ _ _ _ _ _ us hl => match us, hl with | [_], _ => rfl, fun _ _ _ _ _ _ us hl => match us, hl with | [_], _ => rfl, fun _ _ _ _ _ _ us hl => match us, hl with | [_], _ => rfl, fun _ _ _ _ _ _ us hl => match us, hl with | [_], _ => rfl, fun _ _ _ _ _ _ us hl => match us, hl with | [_, _], _ => rfl, fun _ _ _ _ _ _ us hl => match us, hl with | [_, _], _ => rfl, fun _ _ _ _ _ _ us hl => match us, hl with | [_], _ => rfl, fun _ _ _ _ _ _ us hl => match us, hl with | [], _ => rfl, fun _ _ _ _ _ _ us hl => match us, hl with | [_, _], _ => rfl, fun _ _ _ _ _ _ us hl => match us, hl with | [_], _ => rfl, fun _ _ _ _ _ _ us hl => match us, hl with | [_], _ => rfl, fun _ _ _ _ _ _ us hl => match us, hl with | [_], _ => rfl, fun _ _ _ _ _ _ us hl => match us, hl with | [_, _], _ => rfl, fun _ _ _ _ _ _ us hl => match us, hl with | [_, _], _ => rfl, fun _ _ _ _ _ _ us hl => match us, hl with | [_, _], _ => rfl, fun _ _ _ _ _ _ us hl => match us, hl with | [_], _ => rfl, fun _ _ _ _ _ _ us hl => match us, hl with | [_], _ => rfl, fun _ _ _ _ _ _ us hl => match us, hl with | [], _ => rfl, fun _ _ _ _ _ _ us hl => match us, hl with | [_], _ => rfl, fun _ _ _ _ _ _ us hl => match us, hl with | [_], _ => rfl, trivial⟩
def fn : List He.DefD := dfOf txt 0 ds
def fa : List He.Fa := faOf ds bltNames
abbrev R : PySem.W.OpenRow := PySem.W.OpenLaw.row PySem.Challenge.rw_heapsswept_k77_whole_cheapest_tables
abbrev hk : PySem.W.Hook := hookX 4 G fa fn
def ob (s : PySem.W.SharedT) : AlX := obsXG 4 G fa fn (HandSHeadRun.getT s)
theorem ob_eq (s : PySem.W.SharedT) : ob s = hk.obs s.abs := obsXG_eq (HandSHeadRun.getT_eq s)
def names : List Str := (["SweepError", "InvalidTable", "InvalidPlan", "OLD", "NEW", "HOLDER", "LOAD", "AGAIN", "FRESH", "LATE", "SIZE", "MOST", "WHITE", "GREY", "WORDS_tables", "is_tuple_of", "fits_whole", "top_of", "fits_table", "tables_in"] : List Str) ++ (["does_no_less_in", "need_table", "does_no_less", "WORDS_shields", "BY_PLACE", "words_in", "REASONS", "is_sound_in", "reason_in", "reason_of", "needed_words", "DEAR", "LEAST", "fits_costs", "cost_in", "least_table", "need_costs", "least_tables", "cost_of", "cheapest"] : List Str) ++ (["cheapest_by_least", "_law_cup", "_law_roll", "_law_some", "_law_same", "_law_table", "_law_is_sound", "_law_every", "_law_costs"] : List Str)
theorem run (w : World) : HandSHeadRun.RunEq R (PySem.W.view R.prog [55]) hk ob 3000 names w := by
  intro os
  kernel_rfl
end LW

set_option maxRecDepth 100000
set_option maxHeartbeats 0
open PySem PySem.W PySem.Calls PyProof.Rows
theorem PySem.Challenge.cw_heapsswept_k77_whole_cheapest_tables_holds : PySem.Challenge.rw_heapsswept_k77_whole_cheapest_tables.Holds := by
  w_on; o_law
  refine HandSHeadRun.head_any (r := OpenLaw.row PySem.Challenge.rw_heapsswept_k77_whole_cheapest_tables) (q := view (OpenLaw.row PySem.Challenge.rw_heapsswept_k77_whole_cheapest_tables).prog [55]) (H := LW.hk) (ob := LW.ob) (M := 3000) (loose := LW.names) (d := HandSHeadRun.topDef (OpenLaw.row PySem.Challenge.rw_heapsswept_k77_whole_cheapest_tables).prog 55) (kwd := []) LW.ob_eq
    (by kernel_rfl) (fun s => by kernel_rfl) LW.run (by kernel_rfl) (by kernel_rfl) (by kernel_rfl) (by rfl) (by first | assumption | decide +kernel) (by decide +kernel) ⟨rfl, rfl, rfl, rfl, rfl, by decide +kernel⟩ ?hw ?hc
  case hw => w_witness2
  case hc =>
    refine L2.walk_ofE (l := PySem.Challenge.rw_heapsswept_k77_whole_cheapest_tables) (n := LW.most) (k := LW.depth) (x := "script") (CX := L2.CX0) rfl (by decide) (by kernel_rfl) ⟨rfl, by decide, by decide⟩ ?F (fun _ _ _ _ z => z)
    intro w mg fa h Y G hmg0
    have hmg : mg ("law" : PySem.Str) = some (.ref fa) := by
      have e : (HandSHeadRun.topDef (OpenLaw.row PySem.Challenge.rw_heapsswept_k77_whole_cheapest_tables).prog 55).name = ("law" : PySem.Str) := by kernel_rfl
      rw [← e]
      exact hmg0
    exact Ev.law_fn (d := LW.d_law) (f := LW.n_law) LW.ok LW.binds rfl rfl rfl Y G hmg LW.holds

