import PyProof.Rows.All
import Wide.All
import OpenK.AllK
import Wide.FinOn
import PySem.Str
import HandS.ForMost
import HandS.Exc
import HandS.TryOnly
import HandS.ExcOwn
import HandS.ExcIs
import HandS.IsInst
import HandS.CallSlots
import HandS.Wide
import HandS.TupAny
import HandS.Zip
import HandS.RevRange
import HandS.Flow
import HandS.Defaults
import HandS.WordsExc
import HandS.Conv
import HandS.Strs
import HandS.Style
import KE.KStateDown
import HandS.Ends
import HandS.EndBits
import HandS.More
import HandS.Words
import HandS.Head0
import HandS.Head1
import HandS.Head2
import HandS.HeadEnd
import HandS.HeadHook1
import HandS.HeadHook2
import HandS.TupMul
import PyProof.P3In
import HandS.SortInts
import KE.GoesMore
import PySem.Challenge.RW_kerbwise_k24_conditions_of_weighings
set_option linter.all false
/-! Kb0: pure data, the store, outcomes; what a text of the subset does, as plain functions. No machine here. -/
namespace Kb
open PySem
/-- data; a cell is a list that may change, by its number in the store; scr is the script itself -/
inductive D where
  | non | bl (b : Bool) | int (i : Int) | str (x : Str) | tup (xs : List D) | lst (xs : List D) | cell (n : Nat) | glo (x : Str) | scr (xs : List D)
  deriving Inhabited
inductive Slot where
  | no | val (d : D) | own (xs : List D) | ex (c : String)
  deriving Inhabited
abbrev Env := List Slot
abbrev Store := List (List D)
inductive Out (α : Type) where
  | ok (a : α) (S : Store) | exc (c : String) (S : Store) | stuck
abbrev M (α : Type) := Store → Out α
abbrev EM (α : Type) := Env → Store → Out α
inductive Fl where
  | nx | rt (d : D) | bk | ct
inductive SO where
  | ok (f : Fl) (e : Env) (S : Store) | exc (c : String) (e : Env) (S : Store) | stuck
abbrev SM := Env → Store → SO

@[inline] def Out.bind {α β : Type} (o : Out α) (f : α → Store → Out β) : Out β := match o with
  | .ok a S => f a S
  | .exc c S => .exc c S
  | .stuck => .stuck
def lift {α : Type} : Option α → Store → Out α
  | some a, S => .ok a S
  | none, _ => .stuck

/-- sizeLine, as a number -/
abbrev LN : Nat := 16777216

/-! ### expressions -/
def eC (d : D) : EM D := fun _ S => .ok d S
def slotV : Slot → Option D
  | .val d => some d
  | _ => none
def slotB : Slot → Option D
  | .val d => some d
  | .own xs => some (.lst xs)
  | _ => none
def eN (i : Nat) : EM D := fun env S => lift ((env[i]?).bind slotV) S
def eB (i : Nat) : EM D := fun env S => lift ((env[i]?).bind slotB) S
def e1 (op : D → Option D) (f : EM D) : EM D := fun env S => (f env S).bind fun x S1 => lift (op x) S1
def e2 (op : D → D → Option D) (f g : EM D) : EM D := fun env S => (f env S).bind fun x S1 => (g env S1).bind fun y S2 => lift (op x y) S2
def aNil : EM (List D) := fun _ S => .ok [] S
def aCons (f : EM D) (g : EM (List D)) : EM (List D) := fun env S => (f env S).bind fun x S1 => (g env S1).bind fun xs S2 => .ok (x :: xs) S2
def eA (op : List D → Option D) (g : EM (List D)) : EM D := fun env S => (g env S).bind fun xs S1 => lift (op xs) S1
def tupD (xs : List D) : Option D := if xs.length ≤ LN then some (.tup xs) else none
def lstD (xs : List D) : Option D := if xs.length ≤ LN then some (.lst xs) else none
/-- a call of a def -/
def eF (F : List D → M D) (g : EM (List D)) : EM D := fun env S => (g env S).bind fun xs S1 => F xs S1
/-! ### tests -/
def boolD : D → Option Bool
  | .bl b => some b
  | _ => none
/-- truth of a value -/
def truD : D → Option Bool
  | .non => some false
  | .bl b => some b
  | .int i => some (i != 0)
  | .str x => if x.length ≤ LN then some ((x.length : Int) != 0) else none
  | .tup xs => some (!xs.isEmpty)
  | .lst xs => some (!xs.isEmpty)
  | _ => none
/-- a value's truth as a test -/
def tV (f : EM D) : EM Bool := fun env S => (f env S).bind fun x S1 => lift (truD x) S1
/-- a comparison's bool as a test -/
def tB (f : EM D) : EM Bool := fun env S => (f env S).bind fun x S1 => lift (boolD x) S1
def tAnd (t u : EM Bool) : EM Bool := fun env S => (t env S).bind fun b S1 => if b = true then u env S1 else .ok false S1
def tOr (t u : EM Bool) : EM Bool := fun env S => (t env S).bind fun b S1 => if b = true then .ok true S1 else u env S1
def tNot (t : EM Bool) : EM Bool := fun env S => (t env S).bind fun b S1 => .ok (!b) S1
def eIf (t : EM Bool) (f g : EM D) : EM D := fun env S => (t env S).bind fun b S1 => if b = true then f env S1 else g env S1
/-- and, or, not as values -/
def eAnd (f g : EM D) : EM D := fun env S => (f env S).bind fun x S1 => (lift (boolD x) S1).bind fun b S2 => if b = true then g env S2 else .ok (.bl false) S2
def eOr (f g : EM D) : EM D := fun env S => (f env S).bind fun x S1 => (lift (boolD x) S1).bind fun b S2 => if b = true then .ok (.bl true) S2 else g env S2
def eNot (f : EM D) : EM D := fun env S => (f env S).bind fun x S1 => (lift (boolD x) S1).bind fun b S2 => .ok (.bl (!b)) S2
/-- a op b op' c -/
def eCh (op op' : D → D → Option D) (f g h : EM D) : EM D := fun env S => (f env S).bind fun x S1 => (g env S1).bind fun y S2 => (lift (op x y) S2).bind fun z S3 => (lift (boolD z) S3).bind fun b S4 =>
  if b = true then (h env S4).bind fun w S5 => lift (op' y w) S5 else .ok (.bl false) S4
/-! ### operators on data -/
def addD : D → D → Option D
  | .int i, .int j => some (.int (i + j))
  | .str x, .str y => if x.length + y.length ≤ LN then some (.str (x ++ y)) else none
  | .lst xs, .lst ys => if xs.length + ys.length ≤ LN then some (.lst (xs ++ ys)) else none
  | .tup xs, .tup ys => if xs.length + ys.length ≤ LN then some (.tup (xs ++ ys)) else none
  | _, _ => none
def subD : D → D → Option D
  | .int i, .int j => some (.int (i - j))
  | _, _ => none
/-- bits of a factor -/
def bit (i : Int) : Nat := i.natAbs.log2
def mulD : D → D → Option D
  | .int i, .int j => if bit i + bit j < 100000000 then some (.int (i * j)) else none
  | .lst xs, .int k => if -(2 ^ 63) ≤ k ∧ k < 2 ^ 63 ∧ xs.length * k.toNat ≤ LN then some (.lst (List.replicate k.toNat xs).flatten) else none
  | _, _ => none
/-- a row times an int -/
def mulTD : D → D → Option D
  | .tup xs, .int k => if xs ≠ [] ∧ -1000 ≤ k ∧ k ≤ 1000 ∧ xs.length ≤ 1000 then some (.tup (List.replicate k.toNat xs).flatten) else none
  | _, _ => none
/-- a list times an int -/
def mulLD : D → D → Option D
  | .lst xs, .int k => if -100000 ≤ k ∧ k ≤ 100000 ∧ xs.length * k.toNat ≤ LN then some (.lst (List.replicate k.toNat xs).flatten) else none
  | _, _ => none
def fdivD : D → D → Option D
  | .int i, .int j => if 0 < j ∧ bit j < 9000 then some (.int (i / j)) else none
  | _, _ => none
def modD : D → D → Option D
  | .int i, .int j => if 0 < j then some (.int (i % j)) else none
  | _, _ => none
def powD : D → D → Option D
  | .int i, .int j => if 0 ≤ j ∧ j ≤ 1000000 ∧ i.natAbs < 2 ^ 64 then some (.int (i ^ j.toNat)) else none
  | _, _ => none
def negD : D → Option D
  | .int i => some (.int (-i))
  | _ => none
def ltD : D → D → Option D
  | .int i, .int j => some (.bl (decide (i < j)))
  | _, _ => none
def leD : D → D → Option D
  | .int i, .int j => some (.bl (decide (i ≤ j)))
  | _, _ => none
def gtD : D → D → Option D
  | .int i, .int j => some (.bl (decide (j < i)))
  | _, _ => none
def geD : D → D → Option D
  | .int i, .int j => some (.bl (decide (j ≤ i)))
  | _, _ => none
/-! ### equality -/
mutual
/-- plain data of a depth -/
def okd : Nat → D → Bool
  | _, .non => true
  | _, .bl _ => true
  | _, .int _ => true
  | _, .str x => x.cps.all fun c => decide (c < 1114112)
  | n + 1, .tup xs => okds n xs
  | n + 1, .lst xs => okds n xs
  | _, _ => false
def okds : Nat → List D → Bool
  | _, [] => true
  | n, x :: xs => okd n x && okds n xs
end
mutual
def eqv : D → D → Bool
  | .non, .non => true
  | .bl a, .bl b => a == b
  | .bl a, .int j => (if a then 1 else 0) == j
  | .int i, .bl b => i == (if b then 1 else 0)
  | .int i, .int j => i == j
  | .str x, .str y => x == y
  | .lst xs, .lst ys => eqvs xs ys
  | .tup xs, .tup ys => eqvs xs ys
  | _, _ => false
def eqvs : List D → List D → Bool
  | [], [] => true
  | x :: xs, y :: ys => eqv x y && eqvs xs ys
  | _, _ => false
end
def eqD (x y : D) : Option D := if (okd 60 x && okd 60 y) = true then some (.bl (eqv x y)) else none
def neD (x y : D) : Option D := if (okd 60 x && okd 60 y) = true then some (.bl (!eqv x y)) else none
/-! ### is -/
def isNonD : D → Option D
  | .non => some (.bl true)
  | .bl _ => some (.bl false)
  | .int _ => some (.bl false)
  | .str _ => some (.bl false)
  | .tup _ => some (.bl false)
  | .lst _ => some (.bl false)
  | _ => none
def notNonD : D → Option D
  | .non => some (.bl false)
  | .bl _ => some (.bl true)
  | .int _ => some (.bl true)
  | .str _ => some (.bl true)
  | .tup _ => some (.bl true)
  | .lst _ => some (.bl true)
  | _ => none
/-- e is True, e is False: of boolsOf -/
def isBlD (k : Bool) : D → Option D
  | .bl b => some (.bl (b == k))
  | _ => none
/-! ### items, slices -/
def ixN (n : Nat) (i : Int) : Option Nat := if 0 ≤ i then (if i < n then some i.toNat else none) else (if -(n : Int) ≤ i then some (i + n).toNat else none)
def atD (xs : List D) (i : Int) : Option D := (ixN xs.length i).bind fun j => xs[j]?
def ixD : D → D → Option D
  | .lst xs, .int i => atD xs i
  | .tup xs, .int i => atD xs i
  | .scr xs, .int i => atD xs i
  | .str z, .int i => if z.length ≤ LN then (ixN z.cps.toList.length i).bind fun j => (z.cps.toList[j]?).map fun c => .str ⟨#[c]⟩ else none
  | _, _ => none
def sIx (n d : Nat) : Option Int → Nat
  | none => d
  | some v => if v < 0 then (v + (n : Int)).toNat else min v.toNat n
def cut {α : Type} (xs : List α) (lo hi : Option Int) : List α := (xs.drop (sIx xs.length 0 lo)).take (sIx xs.length xs.length hi - sIx xs.length 0 lo)
def slD : D → Option Int → Option Int → Option D
  | .lst xs, lo, hi => some (.lst (cut xs lo hi))
  | .tup xs, lo, hi => some (.tup (cut xs lo hi))
  | .scr xs, lo, hi => some (.lst (cut xs lo hi))
  | .str z, lo, hi => if z.length ≤ LN then some (.str ⟨(cut z.cps.toList lo hi).toArray⟩) else none
  | _, _, _ => none
def pNo : EM (Option Int) := fun _ S => .ok none S
def pSo (f : EM D) : EM (Option Int) := fun env S => (f env S).bind fun x S1 => match x with
  | .int i => .ok (some i) S1
  | _ => .stuck
def eSl (f : EM D) (lo hi : EM (Option Int)) : EM D := fun env S => (f env S).bind fun x S1 => (lo env S1).bind fun l S2 => (hi env S2).bind fun u S3 => lift (slD x l u) S3
/-! ### built-ins -/
def lenD : List D → Option D
  | [.lst xs] => some (.int xs.length)
  | [.tup xs] => some (.int xs.length)
  | [.scr xs] => some (.int xs.length)
  | [.str x] => if x.length ≤ LN then some (.int x.length) else none
  | _ => none
def absD : List D → Option D
  | [.int i] => some (.int (if i < 0 then -i else i))
  | _ => none
def intD : List D → Option D
  | [.int i] => some (.int i)
  | [.bl k] => some (.int (if k then 1 else 0))
  | _ => none
def maxD : List D → Option D
  | [.int i, .int j] => some (.int (if j > i then j else i))
  | _ => none
def minD : List D → Option D
  | [.int i, .int j] => some (.int (if j < i then j else i))
  | _ => none
def tupleD : List D → Option D
  | [.lst xs] => some (.tup xs)
  | [.tup xs] => some (.tup xs)
  | _ => none
def listD : List D → Option D
  | [.lst xs] => some (.lst xs)
  | [.tup xs] => some (.lst xs)
  | _ => none
def boolsOf : List D → Option (List Bool)
  | [] => some []
  | .bl b :: r => (boolsOf r).map (b :: ·)
  | _ => none
def intsOf : List D → Option (List Int)
  | [] => some []
  | .int b :: r => (intsOf r).map (b :: ·)
  | _ => none
def allD : List D → Option D
  | [.lst xs] => (boolsOf xs).map fun bs => .bl (bs.all id)
  | _ => none
def anyD : List D → Option D
  | [.lst xs] => (boolsOf xs).map fun bs => .bl (bs.any id)
  | _ => none
def sumD : List D → Option D
  | [.lst xs] => (intsOf xs).map fun ns => .int ns.sum
  | _ => none
/-- in order -/
def sortI (ns : List Int) : List Int := ns.mergeSort fun a b => decide (a ≤ b)
def sortD : List D → Option D
  | [.lst xs] => (intsOf xs).map fun ns => .lst ((sortI ns).map .int)
  | _ => none
/-- each once -/
def ded (ns : List Int) : List Int := ns.foldl (fun acc x => if acc.any (· == x) then acc else acc ++ [x]) []
/-- len(set(..)) -/
def lenSetD : D → Option D
  | .lst xs => (intsOf xs).bind fun ns => if ns.length ≤ 4000 then some (.int (ded ns).length) else none
  | _ => none
/-- isinstance: a built-in type by its name -/
def tyD : D → Option String
  | .non => some "NoneType"
  | .bl _ => some "bool"
  | .int _ => some "int"
  | .str _ => some "str"
  | .tup _ => some "tuple"
  | .lst _ => some "list"
  | _ => none
def isTyD (t : String) : D → Option D := fun d => (tyD d).map fun u => .bl (u == t || (u == "bool" && t == "int"))
def mulI : D → D → Option D := fun x y => match x, y with
  | .int i, .int j => if bit i + bit j < 100000000 then some (.int (i * j)) else none
  | _, _ => none
def isD : D → D → Option D
  | x, .non => isNonD x
  | .bl a, .bl b => some (.bl (decide (a = b)))
  | _, _ => none
def isntND : D → D → Option D
  | x, .non => notNonD x
  | .bl a, .bl b => some (.bl (!decide (a = b)))
  | _, _ => none
/-- x in y -/
def inD (x y : D) : Option D := match y with
  | .lst ys => if (okd 60 x && okd 60 (.lst ys)) = true then some (.bl (ys.any fun z => eqv z x)) else none
  | .tup ys => if (okd 60 x && okd 60 (.tup ys)) = true then some (.bl (ys.any fun z => eqv z x)) else none
  | .str z => match x with
    | .str ⟨⟨[c]⟩⟩ => some (.bl (decide (c ∈ z.cps.toList)))
    | _ => none
  | _ => none
def ninD (x y : D) : Option D := match y with
  | .lst ys => if (okd 60 x && okd 60 (.lst ys)) = true then some (.bl (!ys.any fun z => eqv z x)) else none
  | .tup ys => if (okd 60 x && okd 60 (.tup ys)) = true then some (.bl (!ys.any fun z => eqv z x)) else none
  | .str z => match x with
    | .str ⟨⟨[c]⟩⟩ => some (.bl (!decide (c ∈ z.cps.toList)))
    | _ => none
  | _ => none
def addI : D → D → Option D := fun x y => match x, y with | .int i, .int j => some (.int (i + j)) | _, _ => none
/-! ### targets -/
inductive Tg where
  | nm (i : Nat) | tp (ts : List Tg)
mutual
def Tg.put : Tg → D → Env → Option Env
  | .nm i, d, env => some (env.set i (.val d))
  | .tp ts, .tup ds, env => Tg.puts ts ds env
  | .tp ts, .lst ds, env => Tg.puts ts ds env
  | .tp _, _, _ => none
def Tg.puts : List Tg → List D → Env → Option Env
  | [], [], env => some env
  | t :: ts, d :: ds, env => (Tg.put t d env).bind fun env' => Tg.puts ts ds env'
  | _, _, _ => none
end
mutual
def Tg.idx : Tg → List Nat
  | .nm i => [i]
  | .tp ts => Tg.idxs ts
def Tg.idxs : List Tg → List Nat
  | [] => []
  | t :: ts => Tg.idx t ++ Tg.idxs ts
end
/-! ### what is walked -/
def seqD : D → Option (List D)
  | .lst xs => some xs
  | .tup xs => some xs
  | .str z => some (z.cps.toList.map fun c => .str ⟨#[c]⟩)
  | _ => none
def iS (f : EM D) : EM (List D) := fun env S => (f env S).bind fun x S1 => lift (seqD x) S1
def rngI (lo : Int) (n : Nat) : List D := (List.range n).map fun k => .int (lo + (k : Nat))
/-- a range's numbers lie within 2^62; the bound is kept from being reckoned with -/
noncomputable def lim62 : Int := (⟨2 ^ 62, rfl⟩ : ∃ n : Int, n = 2 ^ 62).choose
theorem lim62_eq : lim62 = 2 ^ 62 := (⟨2 ^ 62, rfl⟩ : ∃ n : Int, n = 2 ^ 62).choose_spec
noncomputable def rng1D : List D → Option (List D)
  | [.int j] => if -lim62 ≤ j ∧ j < lim62 then some (rngI 0 j.toNat) else none
  | _ => none
noncomputable def rng2D : List D → Option (List D)
  | [.int i, .int j] => if -lim62 ≤ i ∧ i < lim62 ∧ -lim62 ≤ j ∧ j < lim62 then some (rngI i (j - i).toNat) else none
  | _ => none
theorem rng1_ok {j : Int} (h : -4611686018427387904 ≤ j) (h2 : j < 4611686018427387904) : rng1D [.int j] = some (rngI 0 j.toNat) := by
  have e : lim62 = 4611686018427387904 := lim62_eq
  have z : rng1D [.int j] = if -lim62 ≤ j ∧ j < lim62 then some (rngI 0 j.toNat) else none := rfl
  rw [z, e, if_pos ⟨h, h2⟩]
theorem rng2_ok {i j : Int} (h : -4611686018427387904 ≤ i) (h2 : i < 4611686018427387904) (h3 : -4611686018427387904 ≤ j) (h4 : j < 4611686018427387904) : rng2D [.int i, .int j] = some (rngI i (j - i).toNat) := by
  have e : lim62 = 4611686018427387904 := lim62_eq
  have z : rng2D [.int i, .int j] = if -lim62 ≤ i ∧ i < lim62 ∧ -lim62 ≤ j ∧ j < lim62 then some (rngI i (j - i).toNat) else none := rfl
  rw [z, e, if_pos ⟨h, h2, h3, h4⟩]
theorem rng_nat {n : Nat} (h : n < 4611686018427387904) : rng1D [.int n] = some (rngI 0 n) := by
  rw [rng1_ok (by omega) (by omega), Int.toNat_natCast]
theorem rng_lit (n : Nat) (h : n < 4611686018427387904) : rng1D [.int (OfNat.ofNat n)] = some (rngI 0 n) := rng_nat h
def enumL (ds : List D) : List D := ds.mapIdx fun k d => .tup [.int (k : Nat), d]
def zipL (xs ys : List D) : List D := List.zipWith (fun x y => .tup [x, y]) xs ys
def enumD : List D → Option (List D)
  | [.lst xs] => some (enumL xs)
  | [.tup xs] => some (enumL xs)
  | _ => none
def zipD : List D → Option (List D)
  | [.lst xs, .lst ys] => some (zipL xs ys)
  | [.tup xs, .tup ys] => some (zipL xs ys)
  | _ => none
def iA (op : List D → Option (List D)) (g : EM (List D)) : EM (List D) := fun env S => (g env S).bind fun xs S1 => lift (op xs) S1
/-! ### comprehensions -/
def wipe (env : Env) : List Nat → Env
  | [] => env
  | v :: vs => (wipe env vs).set v .no
def lcGo (tg : Tg) (t : EM Bool) (f : EM D) (env : Env) : List D → List D → M (List D)
  | [], acc, S => .ok acc S
  | d :: ds, acc, S => match tg.put d env with
    | none => .stuck
    | some env' => match t env' S with
      | .ok true S1 => (match f env' S1 with
        | .ok y S2 => if acc.length < LN then lcGo tg t f env ds (acc ++ [y]) S2 else .stuck
        | _ => .stuck)
      | .ok false S1 => lcGo tg t f env ds acc S1
      | _ => .stuck
def eLc (it : EM (List D)) (tg : Tg) (vs : List Nat) (t : EM Bool) (f : EM D) : EM (List D) := fun env S => (it env S).bind fun ds S1 => lcGo tg t f (wipe env vs) ds [] S1
def tYes : EM Bool := fun _ S => .ok true S
def eLst (f : EM (List D)) : EM D := fun env S => (f env S).bind fun ds S1 => .ok (.lst ds) S1
def fLst (F : EM (List D)) : EM (List D) := fun env S => (F env S).bind fun ds S1 => if ds.length ≤ LN then .ok ds S1 else .stuck
def fList (g : EM (List D)) : EM (List D) := fun env S => (g env S).bind fun xs S1 => match listD xs with
  | some (.lst ds) => .ok ds S1
  | _ => .stuck
/-- a list and a list, a new one -/
def fCat (f g : EM D) : EM (List D) := fun env S => (f env S).bind fun x S1 => (g env S1).bind fun y S2 => match x, y with
  | .lst xs, .lst ys => if xs.length + ys.length ≤ LN then .ok (xs ++ ys) S2 else .stuck
  | _, _ => .stuck
/-- a list times an int, a new one -/
def fMul (f g : EM D) : EM (List D) := fun env S => (f env S).bind fun x S1 => (g env S1).bind fun y S2 => match x, y with
  | .lst xs, .int k => if -100000 ≤ k ∧ k ≤ 100000 ∧ xs.length * k.toNat ≤ LN then .ok (List.replicate k.toNat xs).flatten S2 else .stuck
  | _, _ => .stuck
def calm0 {α : Type} : Out α → Out α
  | .exc _ _ => .stuck
  | o => o
/-! ### statements -/
def SO.bind (o : SO) (f : Env → Store → SO) : SO := match o with
  | .ok .nx e S => f e S
  | o => o
def sNil : SM := fun env S => .ok .nx env S
def sSeq (a b : SM) : SM := fun env S => (a env S).bind b
/-- an expression ahead of what follows -/
def eS {α : Type} (o : Out α) (env : Env) (k : α → Store → SO) : SO := match o with
  | .ok a S => k a S
  | .exc c S => .exc c env S
  | .stuck => .stuck
def sExpr (f : EM D) : SM := fun env S => eS (f env S) env fun _ S1 => .ok .nx env S1
def sSet (i : Nat) (f : EM D) : SM := fun env S => eS (f env S) env fun d S1 => .ok .nx (env.set i (.val d)) S1
def sOwn (i : Nat) (f : EM (List D)) : SM := fun env S => eS (f env S) env fun ds S1 => .ok .nx (env.set i (.own ds)) S1
def sTg (tg : Tg) (f : EM D) : SM := fun env S => eS (f env S) env fun d S1 => match tg.put d env with
  | some env' => .ok .nx env' S1
  | none => .stuck
/-- i, j = e1, e2 -/
def sPar (i j : Nat) (g : EM (List D)) : SM := fun env S => eS (g env S) env fun ds S1 => match ds with
  | [x, y] => .ok .nx ((env.set i (.val x)).set j (.val y)) S1
  | _ => .stuck
def sAug (i : Nat) (op : D → D → Option D) (f : EM D) : SM := fun env S => match (env[i]?).bind slotV with
  | none => .stuck
  | some x => eS (f env S) env fun y S1 => match op x y with
    | some z => .ok .nx (env.set i (.val z)) S1
    | none => .stuck
/-- xs.append(e) -/
def sApp (i : Nat) (f : EM D) : SM := fun env S => match env[i]? with
  | some (.own xs) => eS (f env S) env fun d S1 => if xs.length < LN then .ok .nx (env.set i (.own (xs ++ [d]))) S1 else .stuck
  | _ => .stuck
/-- xs[k] = e -/
def sPut (i : Nat) (k f : EM D) : SM := fun env S => eS (f env S) env fun d S1 => match env[i]? with
  | some (.own xs) => eS (k env S1) env fun x S2 => match x with
    | .int j => (match ixN xs.length j with
      | some n => .ok .nx (env.set i (.own (xs.set n d))) S2
      | none => .stuck)
    | _ => .stuck
  | _ => .stuck
def sIf (t : EM Bool) (a b : SM) : SM := fun env S => eS (t env S) env fun c S1 => if c = true then a env S1 else b env S1
def sRet (f : EM D) : SM := fun env S => eS (f env S) env fun d S1 => .ok (.rt d) env S1
def sRetN : SM := fun env S => .ok (.rt .non) env S
def sBrk : SM := fun env S => .ok .bk env S
def sCont : SM := fun env S => .ok .ct env S
def sRaise (c : String) : SM := fun env S => .exc c env S
/-- the list of slot i is left alone from here on -/
def frz (i : Nat) (env : Env) : Env := match env[i]? with
  | some (.own xs) => env.set i (.val (.lst xs))
  | _ => env
def sFrz (i : Nat) (a : SM) : SM := fun env S => a (frz i env) S
def forGo (tg : Tg) (b : SM) : List D → SM
  | [], env, S => .ok .nx env S
  | d :: ds, env, S => match tg.put d env with
    | none => .stuck
    | some env' => match b env' S with
      | .ok .nx e1 S1 => forGo tg b ds e1 S1
      | .ok .ct e1 S1 => forGo tg b ds e1 S1
      | .ok .bk e1 S1 => .ok .nx e1 S1
      | .ok (.rt d) e1 S1 => .ok (.rt d) e1 S1
      | .exc c e1 S1 => .exc c e1 S1
      | .stuck => .stuck
def sFor (tg : Tg) (it : EM (List D)) (b : SM) : SM := fun env S => eS (it env S) env fun ds S1 => forGo tg b ds env S1
/-- n turns at most -/
def whGo (t : EM Bool) (b : SM) : Nat → SM
  | 0, _, _ => .stuck
  | n + 1, env, S => eS (t env S) env fun c S1 => if c = true then (match b env S1 with
      | .ok .nx e1 S2 => whGo t b n e1 S2
      | .ok .ct e1 S2 => whGo t b n e1 S2
      | .ok .bk e1 S2 => .ok .nx e1 S2
      | .ok (.rt d) e1 S2 => .ok (.rt d) e1 S2
      | .exc c e1 S2 => .exc c e1 S2
      | .stuck => .stuck) else .ok .nx env S1
open Classical in
noncomputable def sWhile (t : EM Bool) (b : SM) : SM := fun env S => if h : ∃ n, whGo t b n env S ≠ .stuck then whGo t b h.choose env S else .stuck
/-- try: a except X: cs tells, for each class that may come, whether the clause takes it -/
def notEx : Slot → Bool
  | .ex _ => false
  | _ => true
def sTry (a : SM) (cs : List (String × Bool)) (h : String → SM) : SM := fun env S => match a env S with
  | .exc c e1 S1 => (match cs.lookup c with
    | some true => if e1.all notEx = true then (match h c e1 S1 with
      | .ok f e2 S2 => if e2.all notEx = true then .ok f e2 S2 else .stuck
      | _ => .stuck) else .stuck
    | some false => .exc c e1 S1
    | none => .stuck)
  | o => o
/-- .. as the name of slot i -/
def sTryAs (i : Nat) (a : SM) (cs : List (String × Bool)) (h : String → SM) : SM := fun env S => match a env S with
  | .exc c e1 S1 => (match cs.lookup c with
    | some true => if e1.all notEx = true then (match h c (e1.set i (.ex c)) S1 with
      | .ok f e2 S2 => if (e2.set i .no).all notEx = true then .ok f (e2.set i .no) S2 else .stuck
      | _ => .stuck) else .stuck
    | some false => .exc c e1 S1
    | none => .stuck)
  | o => o
/-- isinstance(e, X), e of slot i of the class n -/
def eIsE (i : Nat) (n : String) (b : Bool) : EM D := fun env S => match env[i]? with
  | some (.ex m) => if m = n then .ok (.bl b) S else .stuck
  | _ => .stuck
/-! ### defs -/
/-- n parameters, k further names -/
def fnD (n k : Nat) (b : SM) : List D → M D := fun ds S => if ds.length = n then (match b (ds.map .val ++ List.replicate k .no) S with
  | .ok (.rt d) _ S1 => .ok d S1
  | .ok .nx _ S1 => .ok .non S1
  | .exc c _ S1 => .exc c S1
  | _ => .stuck) else .stuck
end Kb

set_option Elab.async false
set_option linter.all false
set_option maxRecDepth 100000
/-! Kb1: how the data stand in the abstract heap; what a step may change. -/
namespace Kb
open PySem PySem.Spec PyProof.Rows L2
/-- the module's names; the exception that is handled -/
abbrev MG := (Str → Option Value) × Addr
def xaOf : Option Value → Addr
  | some (.ref a) => a
  | _ => 0
def xm (X : Cx) : MG := (X.mg, xaOf X.A.handled)
/-- K the written part, mg the module's names; lv the addresses of lists that may change, ca those of the store's cells, cm the cells by number -/
structure Cc where
  K : PySem.W.Frag
  mg : MG
  lv : List Addr
  ca : List Addr
  cm : List Addr
/-- a list that stays as it is -/
def SqF (c : Cc) (H : Hp) (a : Addr) (vs : List V) : Prop := Rd H a (.lst vs) ∧ a ∉ c.lv
/-- the script -/
def SqS (K : PySem.W.Frag) (H : Hp) (a : Addr) (vs : List V) : Prop := (∃ o, H a = some (.frz o (.lst vs))) ∨
    ∃ (o : Obj) (its : Array Value) (n : Nat), K.lookup a = some o ∧ o.cls = .type "list" ∧ o.dict = none ∧ o.data = .seq its n ∧ its.size ≤ sizeLine ∧ Vals vs its.toList
theorem SqS.seq {K : PySem.W.Frag} {H : Hp} {a : Addr} {vs : List V} (h : SqS K H a vs) : SqL K H a vs := by
  rcases h with h | h
  · exact .inl (.inr h)
  · exact .inr h
mutual
def Rep (c : Cc) (H : Hp) : D → V → Prop
  | .non, v => v = .non
  | .bl b, v => v = .bl b
  | .int i, v => v = .int i
  | .str x, v => v = .str x
  | .tup ds, v => ∃ a vs, v = .ref a ∧ SqT c.K H a vs ∧ Reps c H ds vs
  | .lst ds, v => ∃ a vs, v = .ref a ∧ SqF c H a vs ∧ Reps c H ds vs
  | .cell n, v => ∃ a, v = .ref a ∧ c.cm[n]? = some a
  | .glo x, v => ∃ a, v = .ref a ∧ c.mg.1 x = some (.ref a)
  | .scr ds, v => ∃ a vs, v = .ref a ∧ SqS c.K H a vs ∧ Reps c H ds vs
def Reps (c : Cc) (H : Hp) : List D → List V → Prop
  | [], vs => vs = []
  | d :: ds, vs => ∃ v r, vs = v :: r ∧ Rep c H d v ∧ Reps c H ds r
end
section
variable {c c' c2 : Cc} {P P' : List Addr} {H H' H2 : Hp} {a : Addr} {d : D} {ds : List D} {v : V} {vs : List V} {S S' S2 : Store}
theorem SqF.seq (h : SqF c H a vs) : SqL c.K H a vs := .inl h.1
theorem Reps.length : ∀ {ds : List D} {vs : List V}, Reps c H ds vs → vs.length = ds.length
  | [], vs, h => by rw [show vs = [] from h]; rfl
  | d :: ds, vs, h => by
    obtain ⟨v, r, rfl, _, h2⟩ := h
    rw [List.length_cons, List.length_cons, Reps.length h2]
theorem Reps.get : ∀ {ds : List D} {vs : List V} {i : Nat} {d : D}, Reps c H ds vs → ds[i]? = some d → ∃ v, vs[i]? = some v ∧ Rep c H d v
  | [], vs, i, d, h, e => by simp at e
  | x :: ds, vs, 0, d, h, e => by
    obtain ⟨v, r, rfl, h1, h2⟩ := h
    have e1 : x = d := by simpa using e
    subst e1
    exact ⟨v, rfl, h1⟩
  | x :: ds, vs, i + 1, d, h, e => by
    obtain ⟨v, r, rfl, h1, h2⟩ := h
    obtain ⟨u, e1, e2⟩ := Reps.get (i := i) (d := d) h2 (by simpa using e)
    exact ⟨u, by simpa using e1, e2⟩
theorem Reps.getV : ∀ {ds : List D} {vs : List V} {i : Nat} {v : V}, Reps c H ds vs → vs[i]? = some v → ∃ d, ds[i]? = some d ∧ Rep c H d v
  | [], vs, i, d, h, e => by rw [show vs = [] from h] at e; simp at e
  | x :: ds, vs, 0, v, h, e => by
    obtain ⟨u, r, rfl, h1, h2⟩ := h
    have e1 : u = v := by simpa using e
    subst e1
    exact ⟨x, rfl, h1⟩
  | x :: ds, vs, i + 1, v, h, e => by
    obtain ⟨u, r, rfl, h1, h2⟩ := h
    obtain ⟨d, e1, e2⟩ := Reps.getV (i := i) (v := v) h2 (by simpa using e)
    exact ⟨d, by simpa using e1, e2⟩
theorem Reps.append : ∀ {ds es : List D} {vs us : List V}, Reps c H ds vs → Reps c H es us → Reps c H (ds ++ es) (vs ++ us)
  | [], es, vs, us, h, h' => by
    have e : vs = [] := h
    subst e
    exact h'
  | x :: ds, es, vs, us, h, h' => by
    obtain ⟨u, r, rfl, h1, h2⟩ := h
    exact ⟨u, r ++ us, rfl, h1, Reps.append h2 h'⟩
theorem Reps.take : ∀ (n : Nat) {ds : List D} {vs : List V}, Reps c H ds vs → Reps c H (ds.take n) (vs.take n)
  | 0, ds, vs, h => rfl
  | n + 1, [], vs, h => by
    have e : vs = [] := h
    subst e
    rfl
  | n + 1, x :: ds, vs, h => by
    obtain ⟨u, r, rfl, h1, h2⟩ := h
    exact ⟨u, r.take n, rfl, h1, Reps.take n h2⟩
theorem Reps.drop : ∀ (n : Nat) {ds : List D} {vs : List V}, Reps c H ds vs → Reps c H (ds.drop n) (vs.drop n)
  | 0, ds, vs, h => h
  | n + 1, [], vs, h => by
    have e : vs = [] := h
    subst e
    rfl
  | n + 1, x :: ds, vs, h => by
    obtain ⟨u, r, rfl, h1, h2⟩ := h
    exact Reps.drop n h2
theorem Reps.set : ∀ (n : Nat) {ds : List D} {vs : List V} {d : D} {v : V}, Rep c H d v → Reps c H ds vs → Reps c H (ds.set n d) (vs.set n v)
  | n, [], vs, d, v, q, h => by
    have e : vs = [] := h
    subst e
    rfl
  | 0, x :: ds, vs, d, v, q, h => by
    obtain ⟨u, r, rfl, h1, h2⟩ := h
    exact ⟨v, r, rfl, q, h2⟩
  | n + 1, x :: ds, vs, d, v, q, h => by
    obtain ⟨u, r, rfl, h1, h2⟩ := h
    exact ⟨u, r.set n v, rfl, h1, Reps.set n q h2⟩
theorem Reps.rep : ∀ (k : Nat) {ds : List D} {vs : List V}, Reps c H ds vs → Reps c H (List.replicate k ds).flatten (List.replicate k vs).flatten
  | 0, _, _, _ => rfl
  | k + 1, _, _, h => by
    rw [List.replicate_succ, List.flatten_cons, List.replicate_succ, List.flatten_cons]
    exact Reps.append h (Reps.rep k h)

/-! ### what a step may change -/
/-- from c, H to c', H': all that may not change stands; what may change behind it could so before, or is new. P: kept in any case -/
structure Ext (c : Cc) (P : List Addr) (H : Hp) (c' : Cc) (H' : Hp) : Prop where
  K : c'.K = c.K
  mg : c'.mg = c.mg
  cm : ∀ (n : Nat) (a : Addr), c.cm[n]? = some a → c'.cm[n]? = some a
  lv : ∀ a, a ∈ c'.lv → a ∈ c.lv ∨ H a = none
  there : ∀ a u, H a = some u → ∃ u', H' a = some u'
  keep : ∀ a u, H a = some u → (a ∈ c.lv → a ∉ P → ¬ Mut (some u)) → H' a = some u
theorem Ext.refl : Ext c P H c H := ⟨rfl, rfl, fun _ _ h => h, fun _ h => .inl h, fun _ u h => ⟨u, h⟩, fun _ _ h _ => h⟩
theorem Ext.trans (e : Ext c P H c' H') (f : Ext c' P H' c2 H2) : Ext c P H c2 H2 where
  K := f.K.trans e.K
  mg := f.mg.trans e.mg
  cm := fun n a h => f.cm n a (e.cm n a h)
  lv := fun a h => by
    rcases f.lv a h with h | h
    · exact e.lv a h
    · refine .inr ?_
      cases z : H a with
      | none => rfl
      | some u =>
        obtain ⟨u', q⟩ := e.there a u z
        rw [q] at h
        cases h
  there := fun a u h => by
    obtain ⟨u', q⟩ := e.there a u h
    exact f.there a u' q
  keep := fun a u h k => f.keep a u (e.keep a u h k) fun w1 w2 => by
    rcases e.lv a w1 with w | w
    · exact k w w2
    · rw [h] at w
      cases w
theorem Ext.mono (e : Ext c P H c' H') (h : ∀ a ∈ P', a ∈ P) : Ext c P' H c' H' :=
  ⟨e.K, e.mg, e.cm, e.lv, e.there, fun a u z k => e.keep a u z fun w1 w2 => k w1 fun w3 => w2 (h a w3)⟩
theorem Ext.rd {u : HO} (e : Ext c P H c' H') (h : Rd H a u) (nm : (a ∈ c.lv → a ∉ P → ¬ Mut (some u))) : Rd H' a u := by
  rcases h with h | ⟨o, h⟩
  · exact .inl (e.keep a u h nm)
  · exact .inr ⟨o, e.keep a _ h fun _ _ z => z⟩
theorem Rd.some {u : HO} (h : Rd H a u) : ∃ u', H a = some u' := by
  rcases h with h | ⟨o, h⟩ <;> exact ⟨_, h⟩
theorem Ext.sqT (e : Ext c P H c' H') (h : SqT c.K H a vs) : SqT c'.K H' a vs := by
  rw [e.K]
  rcases h with h | h
  · exact .inl (e.rd h fun _ _ z => z)
  · exact .inr h
theorem Ext.sqF (e : Ext c P H c' H') (h : SqF c H a vs) : SqF c' H' a vs := by
  obtain ⟨h, n⟩ := h
  refine ⟨e.rd h fun w => absurd w n, fun w => ?_⟩
  obtain ⟨u, q⟩ := Rd.some h
  rcases e.lv a w with w | w
  · exact n w
  · rw [q] at w
    cases w
theorem Ext.sqS (e : Ext c P H c' H') (h : SqS c.K H a vs) : SqS c'.K H' a vs := by
  rw [e.K]
  rcases h with ⟨o, h⟩ | h
  · exact .inl ⟨o, e.keep a _ h fun _ _ z => z⟩
  · exact .inr h
mutual
theorem Ext.rep (e : Ext c P H c' H') : ∀ (d : D) (v : V), Rep c H d v → Rep c' H' d v
  | .non, v, h => h
  | .bl b, v, h => h
  | .int i, v, h => h
  | .str x, v, h => h
  | .tup ds, v, h => by
    obtain ⟨a, vs, rfl, h1, h2⟩ := h
    exact ⟨a, vs, rfl, e.sqT h1, Ext.reps e ds vs h2⟩
  | .lst ds, v, h => by
    obtain ⟨a, vs, rfl, h1, h2⟩ := h
    exact ⟨a, vs, rfl, e.sqF h1, Ext.reps e ds vs h2⟩
  | .cell n, v, h => by
    obtain ⟨a, rfl, h1⟩ := h
    exact ⟨a, rfl, e.cm n a h1⟩
  | .glo x, v, h => by
    obtain ⟨a, rfl, h1⟩ := h
    exact ⟨a, rfl, by rw [e.mg]; exact h1⟩
  | .scr ds, v, h => by
    obtain ⟨a, vs, rfl, h1, h2⟩ := h
    exact ⟨a, vs, rfl, e.sqS h1, Ext.reps e ds vs h2⟩
theorem Ext.reps (e : Ext c P H c' H') : ∀ (ds : List D) (vs : List V), Reps c H ds vs → Reps c' H' ds vs
  | [], vs, h => h
  | d :: ds, vs, h => by
    obtain ⟨v, r, rfl, h1, h2⟩ := h
    exact ⟨v, r, rfl, Ext.rep e d v h1, Ext.reps e ds r h2⟩
end
/-- other lists may change from here on -/
theorem Rep.turn {lv' ca' cm' : List Addr} (hl : ∀ a u, H a = some u → a ∉ c.lv → a ∉ lv') (hc : ∀ (n : Nat) (a : Addr), c.cm[n]? = some a → cm'[n]? = some a) {d : D} {v : V} (h : Rep c H d v) : Rep ⟨c.K, c.mg, lv', ca', cm'⟩ H d v := by
  have key : ∀ {a vs}, SqF c H a vs → SqF ⟨c.K, c.mg, lv', ca', cm'⟩ H a vs := fun {a vs} h => by
    obtain ⟨h, n⟩ := h
    obtain ⟨u, q⟩ := Rd.some h
    exact ⟨h, hl a u q n⟩
  have all : ∀ n, (∀ d v, sizeOf d < n → Rep c H d v → Rep ⟨c.K, c.mg, lv', ca', cm'⟩ H d v) ∧ (∀ ds vs, sizeOf ds < n → Reps c H ds vs → Reps ⟨c.K, c.mg, lv', ca', cm'⟩ H ds vs) := by
    intro n
    induction n with
    | zero => exact ⟨fun _ _ h => absurd h (Nat.not_lt_zero _), fun _ _ h => absurd h (Nat.not_lt_zero _)⟩
    | succ n ih =>
      refine ⟨fun d v hs h => ?_, fun ds vs hs h => ?_⟩
      · cases d with
        | tup ds =>
          obtain ⟨a, vs, rfl, h1, h2⟩ := h
          have e : sizeOf (D.tup ds) = 1 + sizeOf ds := by simp
          exact ⟨a, vs, rfl, h1, ih.2 ds vs (by omega) h2⟩
        | lst ds =>
          obtain ⟨a, vs, rfl, h1, h2⟩ := h
          have e : sizeOf (D.lst ds) = 1 + sizeOf ds := by simp
          exact ⟨a, vs, rfl, key h1, ih.2 ds vs (by omega) h2⟩
        | cell k =>
          obtain ⟨a, rfl, h1⟩ := h
          exact ⟨a, rfl, hc k a h1⟩
        | scr ds =>
          obtain ⟨a, vs, rfl, h1, h2⟩ := h
          have e : sizeOf (D.scr ds) = 1 + sizeOf ds := by simp
          exact ⟨a, vs, rfl, h1, ih.2 ds vs (by omega) h2⟩
        | _ => exact h
      · cases ds with
        | nil => exact h
        | cons d ds =>
          obtain ⟨v, r, rfl, h1, h2⟩ := h
          have e : sizeOf (d :: ds) = 1 + sizeOf d + sizeOf ds := by simp
          exact ⟨v, r, rfl, ih.1 d v (by omega) h1, ih.2 ds r (by omega) h2⟩
  exact (all (sizeOf d + 1)).1 d v (Nat.lt_succ_self _) h
theorem Reps.turn {lv' ca' cm' : List Addr} (hl : ∀ a u, H a = some u → a ∉ c.lv → a ∉ lv') (hc : ∀ (n : Nat) (a : Addr), c.cm[n]? = some a → cm'[n]? = some a) : ∀ {ds : List D} {vs : List V}, Reps c H ds vs → Reps ⟨c.K, c.mg, lv', ca', cm'⟩ H ds vs
  | [], vs, h => h
  | d :: ds, vs, h => by
    obtain ⟨v, r, rfl, h1, h2⟩ := h
    exact ⟨v, r, rfl, Rep.turn hl hc h1, Reps.turn hl hc h2⟩

/-! ### the store -/
def CellOk (c : Cc) (H : Hp) (ds : List D) (a : Addr) : Prop := ∃ vs, H a = some (.lst vs) ∧ Reps c H ds vs
/-- the world of a step: P the lists that are others' or the frame's own, S the store -/
structure WOk (c : Cc) (P : List Addr) (S : Store) (H : Hp) : Prop where
  lv : ∀ a, a ∈ c.lv ↔ a ∈ P ∨ a ∈ c.cm
  disj : ∀ a ∈ c.cm, a ∉ P
  nd : c.cm.Nodup
  there : ∀ a ∈ P, ∃ u, H a = some u
  len : S.length = c.cm.length
  cells : ∀ (n : Nat) ds a, S[n]? = some ds → c.cm[n]? = some a → CellOk c H ds a
/-- a new thing beside -/
theorem ext_new {p : Addr} {o : HO} (h : H p = none) : Ext c P H c (upd H p o) :=
  ⟨rfl, rfl, fun _ _ h => h, fun _ h => .inl h, fun a u z => ⟨u, by rw [upd_ne (ne_of_none z h)]; exact z⟩, fun a u z _ => by rw [upd_ne (ne_of_none z h)]; exact z⟩
/-- things that only grow -/
theorem ext_grow (h : ∀ a u, H a = some u → H' a = some u) : Ext c P H c H' :=
  ⟨rfl, rfl, fun _ _ h => h, fun _ h => .inl h, fun a u z => ⟨u, h a u z⟩, fun a u z _ => h a u z⟩
theorem WOk.grow (w : WOk c P S H) (h : ∀ a u, H a = some u → H' a = some u) : WOk c P S H' :=
  ⟨w.lv, w.disj, w.nd, fun a q => by
    obtain ⟨u, z⟩ := w.there a q
    exact ⟨u, h a u z⟩, w.len, fun n ds a e1 e2 => by
    obtain ⟨vs, z, r⟩ := w.cells n ds a e1 e2
    exact ⟨vs, h a _ z, (ext_grow (P := P) h).reps _ _ r⟩⟩
theorem grow_new {p : Addr} {o : HO} (h : H p = none) : ∀ a u, H a = some u → upd H p o a = some u := fun a u z => by
  rw [upd_ne (ne_of_none z h)]
  exact z

/-! ### slots -/
def SlotOk (c : Cc) (P : List Addr) (H : Hp) : Slot → Option V → Prop
  | .no, _ => True
  | .ex _, o => o = some (.ref c.mg.2)
  | .val d, o => ∃ v, o = some v ∧ Rep c H d v
  | .own xs, o => ∃ a vs, o = some (.ref a) ∧ a ∈ P ∧ a ∈ c.lv ∧ H a = some (.lst vs) ∧ Reps c H xs vs
theorem SlotOk.ext {s : Slot} {o : Option V} (h : SlotOk c P H s o) (e : Ext c P H c' H') (hp : ∀ a ∈ P, a ∈ c'.lv) : SlotOk c' P H' s o := by
  cases s with
  | no => trivial
  | ex n =>
    have h' : o = some (.ref c.mg.2) := h
    show o = some (.ref c'.mg.2)
    rw [e.mg]
    exact h'
  | val d =>
    obtain ⟨v, e1, r⟩ := h
    exact ⟨v, e1, e.rep d v r⟩
  | own xs =>
    obtain ⟨a, vs, e1, h1, h2, h3, r⟩ := h
    exact ⟨a, vs, e1, h1, hp a h1, e.keep a _ h3 fun _ w => absurd h1 w, e.reps xs vs r⟩
/-- an expression's state -/
structure ER (c : Cc) (P : List Addr) (env : Env) (S : Store) (σ : L2.St) (H : Hp) : Prop where
  len : env.length = σ.length
  w : WOk c P S H
  slots : ∀ (i : Nat) s, env[i]? = some s → SlotOk c P H s ((σ[i]?).getD none)
theorem ER.ext {env : Env} {σ : L2.St} (r : ER c P env S σ H) (e : Ext c P H c' H') (w : WOk c' P S' H') : ER c' P env S' σ H' :=
  ⟨r.len, w, fun i s h => (r.slots i s h).ext e fun a q => (w.lv a).mpr (.inl q)⟩
end
end Kb

set_option Elab.async false
set_option linter.all false
set_option maxRecDepth 100000
/-! Kb2: what a piece of the text does, by the plain functions: expressions. -/
namespace Kb
open PySem PySem.Spec PyProof.Rows L2
/-- a reading's relation: data and values -/
abbrev RR (α β : Type) := Cc → List Addr → Hp → α → β → Prop
def RepV : RR D V := fun c _ H d v => Rep c H d v
def RepL : RR (List D) (List V) := fun c _ H d v => Reps c H d v
/-- .. that is read and let go at once: the frame's own lists too -/
def RepB : RR D V := fun c P H d v => Rep c H d v ∨ ∃ ds a vs, d = .lst ds ∧ v = .ref a ∧ a ∈ P ∧ H a = some (.lst vs) ∧ Reps c H ds vs
def RepsB : RR (List D) (List V)
  | c, P, H, [], vs => vs = []
  | c, P, H, d :: ds, vs => ∃ v r, vs = v :: r ∧ RepB c P H d v ∧ RepsB c P H ds r
def RepT : RR Bool Bool := fun _ _ _ a b => b = a
structure Sta (K : PySem.W.Frag) (mg : MG) (c : Cc) (P : List Addr) (env : Env) (S : Store) (σ : L2.St) (H : Hp) : Prop where
  K : c.K = K
  mg : c.mg = mg
  er : ER c P env S σ H
/-- what is wanted behind -/
def GPost {α β : Type} (c : Cc) (P : List Addr) (H : Hp) (W : WX) (σ : L2.St) (R : RR α β) (Q : β → Hp → Prop) : Out α → Prop
  | .ok a S' => ∀ c' H' b, Ext c P H c' H' → WOk c' P S' H' → R c' P H' a b → Q b H'
  | .exc n S' => ∀ c' H' C, Ext c P H c' H' → WOk c' P S' H' → c.mg.1 (Str.ofString n) = some (.ref C) → W (.ref C) none σ H'
  | .stuck => False
def tG {α β : Type} (K : PySem.W.Frag) (mg : MG) (R : RR α β) (f : EM α) (W : WX) : L2.St → Hp → (β → Hp → Prop) → Prop := fun σ H Q =>
  ∃ c P env S, Sta K mg c P env S σ H ∧ GPost c P H W σ R Q (f env S)
section
variable {K : PySem.W.Frag} {mg : MG} {c c1 c' : Cc} {P : List Addr} {env : Env} {S S1 S' : Store} {σ : L2.St} {H H1 H' : Hp} {W : WX} {α β γ δ : Type} {R : RR α β} {R2 : RR γ δ} {Q : δ → Hp → Prop} {Q1 : β → Hp → Prop} {a : Addr} {vs : List V} {ds : List D} {d : D} {v : V}
theorem Sta.ext (s : Sta K mg c P env S σ H) (e : Ext c P H c' H') (w : WOk c' P S' H') : Sta K mg c' P env S' σ H' := ⟨e.K.trans s.K, e.mg.trans s.mg, s.er.ext e w⟩
theorem GPost.ext {o : Out γ} (h : GPost c P H W σ R2 Q o) (e : Ext c P H c' H') : GPost c' P H' W σ R2 Q o := by
  cases o with
  | ok a S' => exact fun c2 H2 b e2 w r => h c2 H2 b (e.trans e2) w r
  | exc n S' => exact fun c2 H2 C e2 w m => h c2 H2 C (e.trans e2) w (by rw [← e.mg]; exact m)
  | stuck => exact h
/-- first f, then k -/
theorem gbind {f : EM α} {k : α → Store → Out γ} (st : Sta K mg c P env S σ H) (h : GPost c P H W σ R2 Q ((f env S).bind k))
    (step : ∀ c1 S1 H1 a b, Ext c P H c1 H1 → Sta K mg c1 P env S1 σ H1 → R c1 P H1 a b → GPost c1 P H1 W σ R2 Q (k a S1) → Q1 b H1) : tG K mg R f W σ H Q1 := by
  refine ⟨c, P, env, S, st, ?_⟩
  cases o : f env S with
  | ok a S1 =>
    rw [o] at h
    exact fun c1 H1 b e w r => step c1 S1 H1 a b e (st.ext e w) r (h.ext e)
  | exc n S1 =>
    rw [o] at h
    exact h
  | stuck =>
    rw [o] at h
    exact h
/-- the answer as it stands -/
theorem GPost.here (st : Sta K mg c P env S σ H) {a : γ} {b : δ} (h : GPost c P H W σ R2 Q (.ok a S)) (r : R2 c P H a b) : Q b H := h c H b Ext.refl st.er.w r
theorem GPost.grow (st : Sta K mg c P env S σ H) {a : γ} {b : δ} (h : GPost c P H W σ R2 Q (.ok a S)) (g : ∀ a u, H a = some u → H' a = some u) (r : R2 c P H' a b) : Q b H' := h c H' b (ext_grow g) (st.er.w.grow g) r
theorem GPost.lift {o : Option γ} {S : Store} (h : GPost c P H W σ R2 Q (lift o S)) : ∃ a, o = some a ∧ GPost c P H W σ R2 Q (.ok a S) := by
  cases o with
  | none => exact h.elim
  | some a => exact ⟨a, rfl, h⟩
/-! ### the borrowed -/
theorem RepB.of (h : Rep c H d v) : RepB c P H d v := .inl h
theorem Ext.repB (e : Ext c P H c' H') (h : RepB c P H d v) : RepB c' P H' d v := by
  rcases h with h | ⟨ds, a, vs, rfl, rfl, h1, h2, h3⟩
  · exact .inl (e.rep _ _ h)
  · exact .inr ⟨ds, a, vs, rfl, rfl, h1, e.keep a _ h2 fun _ w => absurd h1 w, e.reps _ _ h3⟩
theorem Ext.repsB (e : Ext c P H c' H') : ∀ {ds : List D} {vs : List V}, RepsB c P H ds vs → RepsB c' P H' ds vs
  | [], vs, h => h
  | d :: ds, vs, h => by
    obtain ⟨v, r, rfl, h1, h2⟩ := h
    exact ⟨v, r, rfl, e.repB h1, Ext.repsB e h2⟩
/-- a list, lent or not -/
theorem RepB.lst (h : RepB c P H (.lst ds) v) : ∃ a vs, v = .ref a ∧ Rd H a (.lst vs) ∧ Reps c H ds vs := by
  rcases h with h | ⟨ds', a, vs, e, rfl, h1, h2, h3⟩
  · obtain ⟨a, vs, rfl, h1, h2⟩ := h
    exact ⟨a, vs, rfl, h1.1, h2⟩
  · cases e
    exact ⟨a, vs, rfl, .inl h2, h3⟩
theorem RepB.tup (h : RepB c P H (.tup ds) v) : ∃ a vs, v = .ref a ∧ SqT c.K H a vs ∧ Reps c H ds vs := by
  rcases h with h | ⟨ds', a, vs, e, rfl, h1, h2, h3⟩
  · exact h
  · cases e
theorem RepB.int {i : Int} (h : RepB c P H (.int i) v) : v = .int i := by
  rcases h with h | ⟨ds', a, vs, e, rfl, h1, h2, h3⟩
  · exact h
  · cases e
theorem RepB.bl {i : Bool} (h : RepB c P H (.bl i) v) : v = .bl i := by
  rcases h with h | ⟨ds', a, vs, e, rfl, h1, h2, h3⟩
  · exact h
  · cases e
theorem RepB.str {i : Str} (h : RepB c P H (.str i) v) : v = .str i := by
  rcases h with h | ⟨ds', a, vs, e, rfl, h1, h2, h3⟩
  · exact h
  · cases e
theorem RepB.non (h : RepB c P H .non v) : v = .non := by
  rcases h with h | ⟨ds', a, vs, e, rfl, h1, h2, h3⟩
  · exact h
  · cases e
end

/-! ### the judgements -/
theorem wE {X : Cx} {e : Expr} {t t' : TE} (h : PE X e t) (w : ∀ σ H Q, t' σ H Q → t σ H Q) : PE X e t' := ⟨fun pins s σ H Q I q => h.run pins s σ H Q I (w σ H Q q)⟩
theorem wT {X : Cx} {e : Expr} {t t' : TT} (h : PT X e t) (w : ∀ σ H Q, t' σ H Q → t σ H Q) : PT X e t' := ⟨fun pins s σ H Q I q => h.run pins s σ H Q I (w σ H Q q)⟩
theorem wW {X : Cx} {e : Expr} {t t' : TT} (h : PW X e t) (w : ∀ σ H Q, t' σ H Q → t σ H Q) : PW X e t' := ⟨fun wh pins s σ H Q I q => h.run wh pins s σ H Q I (w σ H Q q)⟩
theorem wA {X : Cx} {e : List Expr} {t t' : TA} (h : PA X e t) (w : ∀ σ H Q, t' σ H Q → t σ H Q) : PA X e t' := ⟨fun pos pins s σ H Q I q => h.run pos pins s σ H Q I (w σ H Q q)⟩
theorem wS {X : Cx} {e : Stmt} {t t' : TS} (h : PS X e t) (w : ∀ D σ H, t' D σ H → t D σ H) : PS X e t' := ⟨fun pins s σ H D I q => h.run pins s σ H D I (w D σ H q)⟩
theorem wSs {X : Cx} {e : List Stmt} {t t' : TS} (h : PSs X e t) (w : ∀ D σ H, t' D σ H → t D σ H) : PSs X e t' := ⟨fun pins s σ H D I q => h.run pins s σ H D I (w D σ H q)⟩
/-- an expression does what f says -/
structure SG (R : RR D V) (X : Cx) (e : Expr) (f : EM D) : Prop where
  run : ∀ (pn : List (Addr × Obj)) (xe : Value → Shared → Prop) (W : WX), (∀ p ∈ X.pn, p ∈ pn) → Takes (X.tr pn xe) W → PE (X.tr pn xe) e (tG X.K (xm X) R f W)
abbrev SE := SG RepV
abbrev SB := SG RepB
structure SA (R : RR (List D) (List V)) (X : Cx) (e : List Expr) (f : EM (List D)) : Prop where
  run : ∀ (pn : List (Addr × Obj)) (xe : Value → Shared → Prop) (W : WX), (∀ p ∈ X.pn, p ∈ pn) → Takes (X.tr pn xe) W → PA (X.tr pn xe) e (tG X.K (xm X) R f W)
structure ST (X : Cx) (e : Expr) (f : EM Bool) : Prop where
  run : ∀ (pn : List (Addr × Obj)) (xe : Value → Shared → Prop) (W : WX), (∀ p ∈ X.pn, p ∈ pn) → Takes (X.tr pn xe) W → PT (X.tr pn xe) e (tG X.K (xm X) RepT f W)
structure SW (X : Cx) (e : Expr) (f : EM Bool) : Prop where
  run : ∀ (pn : List (Addr × Obj)) (xe : Value → Shared → Prop) (W : WX), (∀ p ∈ X.pn, p ∈ pn) → Takes (X.tr pn xe) W → PW (X.tr pn xe) e (tG X.K (xm X) RepT f W)
section
variable {X : Cx} {a b e o i : Expr} {es rest : List Expr} {f g h : EM D} {t u : EM Bool} {pos : Pos} {Ra Rb : RR D V} {x : Str}
theorem sb_of (h : SE X e f) : SB X e f := ⟨fun pn xe W hp tk => wE (h.run pn xe W hp tk) fun σ H Q ⟨c, P, env, S, st, q⟩ => ⟨c, P, env, S, st, by
  cases o : f env S with
  | ok a S' =>
    rw [o] at q
    exact fun c' H' b e w r => q c' H' b e w (.inl r)
  | exc n S' =>
    rw [o] at q
    exact q
  | stuck =>
    rw [o] at q
    exact q⟩⟩
theorem ST_of_SW (h : SW X e t) : ST X e t := ⟨fun pn xe W hp tk => (h.run pn xe W hp tk).pt⟩
/-! ### names, constants -/
theorem slot_val {c : Cc} {P : List Addr} {env : Env} {S : Store} {σ : L2.St} {H : Hp} {k : Nat} {d : D} (er : ER c P env S σ H) (hs : (env[k]?).bind slotV = some d) : ∃ v, σ[k]? = some (some v) ∧ Rep c H d v := by
  cases e : env[k]? with
  | none => rw [e] at hs; cases hs
  | some s =>
    rw [e] at hs
    have q := er.slots k s e
    cases s with
    | val d' =>
      have e2 : d' = d := by simpa [slotV] using hs
      subst e2
      obtain ⟨v, e3, r⟩ := q
      refine ⟨v, ?_, r⟩
      cases z : σ[k]? with
      | none => rw [z] at e3; cases e3
      | some w =>
        rw [z] at e3
        have e4 : w = some v := e3
        rw [e4]
    | _ => cases hs
theorem se_name (k : Nat) (hN : X.N[k]? = some x := by rfl) (hv : Vis X.env.scope x := by first | exact Or.inl rfl | exact Or.inr (Or.inl rfl) | exact Or.inr (Or.inr rfl)) (hd : (x == ("__debug__" : Str)) = false := by decide)
    (hcd : (x == ("__classdict__" : Str)) = false := by decide) : SE X (.Name x pos) (eN k) := ⟨fun pn xe W hp tk => wE (pe_var (X := X.tr pn xe) hN hv hd hcd) fun σ H Q ⟨c, P, env, S, st, q⟩ => by
  obtain ⟨d, e, q⟩ := GPost.lift q
  obtain ⟨v, e1, r⟩ := slot_val st.er e
  exact ⟨v, e1, q.here st r⟩⟩
theorem sb_name (k : Nat) (hN : X.N[k]? = some x := by rfl) (hv : Vis X.env.scope x := by first | exact Or.inl rfl | exact Or.inr (Or.inl rfl) | exact Or.inr (Or.inr rfl)) (hd : (x == ("__debug__" : Str)) = false := by decide)
    (hcd : (x == ("__classdict__" : Str)) = false := by decide) : SB X (.Name x pos) (eB k) := ⟨fun pn xe W hp tk => wE (pe_var (X := X.tr pn xe) hN hv hd hcd) fun σ H Q ⟨c, P, env, S, st, q⟩ => by
  obtain ⟨d, e, q⟩ := GPost.lift q
  cases e1 : env[k]? with
  | none => rw [e1] at e; cases e
  | some s =>
    have z := st.er.slots k s e1
    rw [e1] at e
    cases s with
    | no => cases e
    | ex c => cases e
    | val d' =>
      have e2 : d' = d := by simpa [slotB] using e
      subst e2
      obtain ⟨v, e3, r⟩ := slot_val (d := d') st.er (by rw [e1]; rfl)
      exact ⟨v, e3, q.here st (.inl r)⟩
    | own xs =>
      have e2 : D.lst xs = d := by simpa [slotB] using e
      subst e2
      obtain ⟨a, vs, e3, h1, h2, h3, r⟩ := z
      refine ⟨.ref a, ?_, q.here st (.inr ⟨xs, a, vs, rfl, rfl, h1, h3, r⟩)⟩
      cases z : σ[k]? with
      | none => rw [z] at e3; cases e3
      | some w =>
        rw [z] at e3
        have e4 : w = some (.ref a) := e3
        rw [e4]⟩
theorem se_of {e : Expr} {v : V} {d : D} (h : ∀ X' : Cx, PE X' e (tC v)) (r : ∀ c H, Rep c H d v) : SE X e (eC d) := ⟨fun pn xe W hp tk => wE (h (X.tr pn xe)) fun σ H Q ⟨c, P, env, S, st, q⟩ => q.here st (r c H)⟩
theorem se_int {n : Int} {j : Nat} : SE X (.Constant (.int n) j pos) (eC (.int n)) := se_of (fun _ => pe_int) fun _ _ => rfl
theorem se_str {s : Str} {j : Nat} : SE X (.Constant (.str s) j pos) (eC (.str s)) := se_of (fun _ => pe_str) fun _ _ => rfl
theorem se_bl {k : Bool} {j : Nat} : SE X (.Constant (.bool k) j pos) (eC (.bl k)) := se_of (fun _ => pe_bl) fun _ _ => rfl
theorem se_non {j : Nat} : SE X (.Constant .none j pos) (eC .non) := se_of (fun _ => pe_non) fun _ _ => rfl
/-! ### two operands -/
/-- the operator op of data is r of values -/
def OpS (K : PySem.W.Frag) (Ra Rb : RR D V) (op : D → D → Option D) (r : L2.R2) : Prop := ∀ (mg : MG) (c : Cc) (P : List Addr) (env : Env) (S : Store) (σ : L2.St) (H : Hp) (W : WX) (Q : VK) (x y : D) (v w : V) (z : D),
  Sta K mg c P env S σ H → Ra c P H x v → Rb c P H y w → op x y = some z → GPost c P H W σ RepV Q (.ok z S) → r v w H Q
class RX (R : RR D V) : Prop where
  ext : ∀ {c c' P H H' d v}, Ext c P H c' H' → R c P H d v → R c' P H' d v
instance : RX RepV := ⟨fun e h => e.rep _ _ h⟩
instance : RX RepB := ⟨fun e h => e.repB h⟩
end
end Kb

set_option Elab.async false
set_option linter.all false
set_option maxRecDepth 100000
/-! Kb3: operators, tests, displays, items, slices, built-ins. -/
namespace Kb
open PySem PySem.Spec PyProof.Rows L2
theorem LN_eq : LN = sizeLine := sizeLine_eq.symm
theorem iteS {α : Type} {p : Prop} [Decidable p] {a z : α} (e : (if p then some a else none) = some z) : p ∧ a = z := by
  by_cases h : p
  · rw [if_pos h] at e
    exact ⟨h, Option.some.inj e⟩
  · rw [if_neg h] at e
    cases e
section
variable {K : PySem.W.Frag} {mg : MG} {c c1 c' : Cc} {P : List Addr} {env : Env} {S S1 S' : Store} {σ : L2.St} {H H1 H' : Hp} {W : WX} {a : Addr} {vs : List V} {ds : List D} {d x y z : D} {v w : V} {Q : VK}
/-- a new thing that stands for z -/
theorem GPost.newT (st : Sta K mg c P env S σ H) (h : GPost c P H W σ RepV Q (.ok (.tup ds) S)) (r : Reps c H ds vs) {p : Addr} (hp : H p = none) : Q (.ref p) (upd H p (.tup vs)) :=
  h.grow st (grow_new hp) ⟨p, vs, rfl, SqT.of upd_same, (ext_new (P := P) hp).reps _ _ r⟩
theorem Sta.new_lv (st : Sta K mg c P env S σ H) {p : Addr} (hp : H p = none) : p ∉ c.lv := fun q => by
  rcases (st.er.w.lv p).mp q with q | q
  · obtain ⟨u, z⟩ := st.er.w.there p q
    rw [hp] at z; cases z
  · obtain ⟨i, hi⟩ := List.mem_iff_getElem?.mp q
    have hl := st.er.w.len
    have hi2 : i < c.cm.length := (List.getElem?_eq_some_iff.mp hi).1
    obtain ⟨ds, hd⟩ : ∃ ds, S[i]? = some ds := ⟨S[i], List.getElem?_eq_getElem (by omega)⟩
    obtain ⟨vs, z, _⟩ := st.er.w.cells i ds p hd hi
    rw [hp] at z; cases z
theorem GPost.newL (st : Sta K mg c P env S σ H) (h : GPost c P H W σ RepV Q (.ok (.lst ds) S)) (r : Reps c H ds vs) {p : Addr} (hp : H p = none) : Q (.ref p) (upd H p (.lst vs)) :=
  h.grow st (grow_new hp) ⟨p, vs, rfl, ⟨.inl upd_same, st.new_lv hp⟩, (ext_new (P := P) hp).reps _ _ r⟩
/-! ### two operands -/
theorem tOp_of {Ra Rb : RR D V} [RX Ra] {op : D → D → Option D} {r : L2.R2} (hS : OpS K Ra Rb op r) {f g : EM D} {σ : L2.St} {H : Hp} {Q : VK} (h : tG K mg RepV (e2 op f g) W σ H Q) : tOp r (tG K mg Ra f W) (tG K mg Rb g W) σ H Q := by
  obtain ⟨c, P, env, S, st, q⟩ := h
  refine gbind st q fun c1 S1 H1 a b x1 st1 r1 q1 => ?_
  refine gbind st1 q1 fun c2 S2 H2 a2 b2 x2 st2 r2 q2 => ?_
  obtain ⟨z, e, q3⟩ := GPost.lift q2
  exact hS mg c2 P env S2 σ H2 W Q a a2 b b2 z st2 (RX.ext x2 r1) r2 e q3
end
section
variable {X : Cx} {a b e o i : Expr} {es rest : List Expr} {f g h : EM D} {t u : EM Bool} {pos : Pos} {Ra Rb : RR D V} {x : Str}
theorem se_bin [RX Ra] {op : Operator} {r : L2.R2} {od : D → D → Option D} (ho : ∀ pn xe, OpR (X.tr pn xe) (binaryOp op) r) (hS : OpS X.K Ra Rb od r) (ha : SG Ra X a f) (hb : SG Rb X b g) : SE X (.BinOp a op b pos) (e2 od f g) :=
  ⟨fun pn xe W hp tk => wE (pe_op (ho pn xe) (ha.run pn xe W hp tk) (hb.run pn xe W hp tk)) fun σ H Q q => tOp_of hS q⟩
theorem se_cmp [RX Ra] {op : CmpOp} {r : L2.R2} {od : D → D → Option D} (ho : ∀ pn xe, OpR (X.tr pn xe) (compareOp op) r) (hS : OpS X.K Ra Rb od r) (ha : SG Ra X a f) (hb : SG Rb X b g) (hm : behindInMarks op b = false) : SE X (.Compare a [op] [b] pos) (e2 od f g) :=
  ⟨fun pn xe W hp tk => wE (pe_cmpR (ho pn xe) (ha.run pn xe W hp tk) (hb.run pn xe W hp tk) hm) fun σ H Q q => tOp_of hS q⟩
theorem st_cmp [RX Ra] {op : CmpOp} {r : L2.R2} {od : D → D → Option D} (ho : ∀ pn xe, OpR (X.tr pn xe) (compareOp op) r) (hS : OpS X.K Ra Rb od r) (ha : SG Ra X a f) (hb : SG Rb X b g) (hm : behindInMarks op b = false) : ST X (.Compare a [op] [b] pos) (tB (e2 od f g)) :=
  ⟨fun pn xe W hp tk => wT (pt_cmpR (ho pn xe) (ha.run pn xe W hp tk) (hb.run pn xe W hp tk) hm) fun σ H Q q => by
    refine tOp_of hS ?_
    obtain ⟨c, P, env, S, st, q⟩ := q
    refine gbind st q fun c1 S1 H1 a b x1 st1 r1 q1 => ?_
    obtain ⟨k, e, q2⟩ := GPost.lift q1
    cases a with
    | bl k' =>
      have e2 : k' = k := by simpa [boolD] using e
      subst e2
      exact ⟨k', r1, q2.here st1 rfl⟩
    | _ => cases e⟩
/-! ### operators -/
theorem addS : OpS X.K RepB RepB addD (fun x y H Q => rI0 (fun i j => .int (i + j)) x y H Q ∨ (∃ i j, x = .str i ∧ y = .str j ∧ i.length + j.length ≤ sizeLine ∧ Q (.str (i ++ j)) H) ∨
    (∃ l b xs zs, x = .ref l ∧ y = .ref b ∧ Rd H l (.lst xs) ∧ Rd H b (.lst zs) ∧ xs.length + zs.length ≤ sizeLine ∧ ∀ p, H p = none → Q (.ref p) (upd H p (.lst (xs ++ zs)))) ∨ rCatA X.K x y H Q) := by
  intro mg c P env S σ H W Q x y v w z st rx ry e q
  cases x with
  | int i =>
    cases y with
    | int j =>
      cases e
      exact .inl ⟨i, j, rx.int, ry.int, q.here st rfl⟩
    | _ => cases e
  | str i =>
    cases y with
    | str j =>
      obtain ⟨hl, rfl⟩ := iteS (p := i.length + j.length ≤ LN) e
      exact .inr (.inl ⟨i, j, rx.str, ry.str, by rw [LN_eq] at hl; exact hl, q.here st rfl⟩)
    | _ => cases e
  | lst xs =>
    cases y with
    | lst ys =>
      obtain ⟨hl, rfl⟩ := iteS (p := xs.length + ys.length ≤ LN) e
      obtain ⟨l, us, rfl, h1, r1⟩ := rx.lst
      obtain ⟨b, ws, rfl, h2, r2⟩ := ry.lst
      exact .inr (.inr (.inl ⟨l, b, us, ws, rfl, rfl, h1, h2, by rw [r1.length, r2.length, ← LN_eq]; exact hl, fun p hp => q.newL st (r1.append r2) hp⟩))
    | _ => cases e
  | tup xs =>
    cases y with
    | tup ys =>
      obtain ⟨hl, rfl⟩ := iteS (p := xs.length + ys.length ≤ LN) e
      obtain ⟨l, us, rfl, h1, r1⟩ := rx.tup
      obtain ⟨b, ws, rfl, h2, r2⟩ := ry.tup
      rw [st.K] at h1 h2
      refine .inr (.inr (.inr ⟨l, b, us, ws, rfl, rfl, h1, h2, by rw [r1.length, r2.length, ← LN_eq]; exact hl, fun e => ?_, fun _ e => ?_, fun _ _ p hp => q.newT st (r1.append r2) hp⟩))
      · subst e
        have n1 : xs = [] := List.eq_nil_of_length_eq_zero r1.length.symm
        subst n1
        exact q.here st ⟨b, ws, rfl, by rw [st.K]; exact h2, r2⟩
      · subst e
        have n1 : ys = [] := List.eq_nil_of_length_eq_zero r2.length.symm
        subst n1
        exact q.here st ⟨l, us, rfl, by rw [st.K]; exact h1, by rw [List.append_nil]; exact r1⟩
    | _ => cases e
  | _ => cases e
theorem op_catR {X : Cx} : OpR X (binaryOp .Add) (fun x y H Q => ∃ aA aB dA dB, x = .ref aA ∧ y = .ref aB ∧ Rd H aA (.lst dA) ∧ Rd H aB (.lst dB) ∧ dA.length + dB.length ≤ sizeLine ∧ ∀ p, H p = none → Q (.ref p) (upd H p (.lst (dA ++ dB)))) := by
  intro pn sh ρ H x y v u Q inv rx ry h
  obtain ⟨aA, aB, dA, dB, rfl, rfl, hA, hB, hz, post⟩ := h
  cases rx
  cases ry
  obtain ⟨z, vA, nA, rA, oA⟩ := hA.ok inv.hok
  obtain ⟨z2, vB, nB, rB, oB⟩ := hB.ok inv.hok
  have lA := rA.length
  have lB := rB.length
  refine PySem.P.add_list oA oB ?_ (by rw [List.size_toArray, List.size_toArray]; omega)
  have ez : vA.toArray ++ vB.toArray = (vA ++ vB).toArray := by simp
  rw [ez]
  exact ⟨.ref _, _, inv.lnew (t' := sh.toks) (rA.append rB) (by rw [List.length_append]; omega), rfl, post _ inv.fresh⟩
theorem se_add (ha : SB X a f) (hb : SB X b g) : SE X (.BinOp a .Add b pos) (e2 addD f g) := se_bin (fun pn xe => op_add.or (op_add_str.or (op_catR.or op_catA))) addS ha hb
theorem intsS {od : D → D → Option D} {C : Int → Int → Prop} {r : Int → Int → Int} (hd : ∀ x y z, od x y = some z → ∃ i j, x = .int i ∧ y = .int j ∧ C i j ∧ z = .int (r i j)) : OpS X.K RepV RepV od (rI C fun i j => .int (r i j)) := by
  intro mg c P env S σ H W Q x y v w z st rx ry e q
  obtain ⟨i, j, rfl, rfl, hc, rfl⟩ := hd x y z e
  exact ⟨i, j, rx, ry, hc, q.here st rfl⟩
theorem intsB {od : D → D → Option D} {r : Int → Int → Bool} (hd : ∀ x y z, od x y = some z → ∃ i j, x = .int i ∧ y = .int j ∧ z = .bl (r i j)) : OpS X.K RepV RepV od (rI0 fun i j => .bl (r i j)) := by
  intro mg c P env S σ H W Q x y v w z st rx ry e q
  obtain ⟨i, j, rfl, rfl, rfl⟩ := hd x y z e
  exact ⟨i, j, rx, ry, q.here st rfl⟩
theorem subS : OpS X.K RepV RepV subD (rI0 fun i j => .int (i - j)) := by
  intro mg c P env S σ H W Q x y v w z st rx ry e q
  cases x with
  | int i =>
    cases y with
    | int j =>
      cases e
      exact ⟨i, j, rx, ry, q.here st rfl⟩
    | _ => cases e
  | _ => cases e
theorem se_sub (ha : SE X a f) (hb : SE X b g) : SE X (.BinOp a .Sub b pos) (e2 subD f g) := se_bin (fun _ _ => op_sub) subS ha hb
theorem op_repR {X : Cx} : OpR X (binaryOp .Mult) (fun x y H Q => ∃ l k xs, x = .ref l ∧ y = .int k ∧ H l = some (.lst xs) ∧ -(2 ^ 63) ≤ k ∧ k < 2 ^ 63 ∧ xs.length * k.toNat ≤ sizeLine ∧
  ∀ p, H p = none → Q (.ref p) (upd H p (.lst (List.replicate k.toNat xs).flatten))) := op_rep
/-- the bits of a product's factors -/
def CMulX (i j : Int) : Prop := i.natAbs.log2 + j.natAbs.log2 < 100000000
theorem CMulX.ok {i j : Int} (h : CMulX i j) : IntMulOk i j := by
  have b : ∀ x : Int, Builtin.Int.intBits x ≤ x.natAbs.log2 + 1 := fun x => by
    unfold Builtin.Int.intBits
    split <;> omega
  have hi := b i
  have hj := b j
  have ht : i.natAbs.log2 + j.natAbs.log2 < 100000000 := h
  have e : bitsLine = 134217728 := by decide
  unfold IntMulOk
  intro z
  rw [Bool.and_eq_true] at z
  have zz := z.2
  unfold Builtin.Int.intTooBig at zz
  have zs := of_decide_eq_true zz
  rw [e] at zs
  omega
theorem op_mulX {X : Cx} : OpR X (binaryOp .Mult) (rI CMulX fun i j => .int (i * j)) := opI fun _ _ _ _ _ _ _ hc q => mul_int q hc.ok
theorem mulS : OpS X.K RepV RepV (fun x y => match x, y with
  | .int i, .int j => if bit i + bit j < 100000000 then some (.int (i * j)) else none
  | _, _ => none) (rI CMulX fun i j => .int (i * j)) := by
  refine intsS fun x y z e => ?_
  cases x with
  | int i =>
    cases y with
    | int j =>
      simp only at e
      split at e
      · cases e
        rename_i hl
        exact ⟨i, j, rfl, rfl, hl, rfl⟩
      · cases e
    | _ => cases e
  | _ => cases e
/-- ints alone -/
theorem se_mul (ha : SE X a f) (hb : SE X b g) : SE X (.BinOp a .Mult b pos) (e2 mulI f g) := se_bin (fun _ _ => op_mulX) mulS ha hb
theorem se_fdiv (ha : SE X a f) (hb : SE X b g) : SE X (.BinOp a .FloorDiv b pos) (e2 fdivD f g) := se_bin (fun _ _ => op_fdivW) (intsS fun x y z e => by
  cases x with
  | int i =>
    cases y with
    | int j =>
      obtain ⟨hl, rfl⟩ := iteS (p := 0 < j ∧ bit j < 9000) e
      exact ⟨i, j, rfl, rfl, hl, rfl⟩
    | _ => cases e
  | _ => cases e) ha hb
theorem se_mod (ha : SE X a f) (hb : SE X b g) : SE X (.BinOp a .Mod b pos) (e2 modD f g) := se_bin (fun _ _ => op_mod) (intsS (C := fun _ j => 0 < j) fun x y z e => by
  cases x with
  | int i =>
    cases y with
    | int j =>
      obtain ⟨hl, rfl⟩ := iteS (p := 0 < j) e
      exact ⟨i, j, rfl, rfl, hl, rfl⟩
    | _ => cases e
  | _ => cases e) ha hb
theorem se_pow (ha : SE X a f) (hb : SE X b g) : SE X (.BinOp a .Pow b pos) (e2 powD f g) := se_bin (fun _ _ => op_pow) (intsS (r := fun i j => i ^ j.toNat) fun x y z e => by
  cases x with
  | int i =>
    cases y with
    | int j =>
      obtain ⟨hl, rfl⟩ := iteS (p := 0 ≤ j ∧ j ≤ 1000000 ∧ i.natAbs < 2 ^ 64) e
      exact ⟨i, j, rfl, rfl, hl, rfl⟩
    | _ => cases e
  | _ => cases e) ha hb
theorem cmpS {od : D → D → Option D} {r : Int → Int → Bool} (hd : ∀ x y z, od x y = some z → ∃ i j, x = .int i ∧ y = .int j ∧ z = .bl (r i j)) : OpS X.K RepV RepV od (rI0 fun i j => .bl (r i j)) := intsB hd
theorem ltS : OpS X.K RepV RepV ltD (rI0 fun i j => .bl (decide (i < j))) := intsB fun x y z e => by
  cases x with
  | int i =>
    cases y with
    | int j => cases e; exact ⟨i, j, rfl, rfl, rfl⟩
    | _ => cases e
  | _ => cases e
theorem leS : OpS X.K RepV RepV leD (rI0 fun i j => .bl (decide (i ≤ j))) := intsB fun x y z e => by
  cases x with
  | int i =>
    cases y with
    | int j => cases e; exact ⟨i, j, rfl, rfl, rfl⟩
    | _ => cases e
  | _ => cases e
theorem gtS : OpS X.K RepV RepV gtD (rI0 fun i j => .bl (decide (j < i))) := intsB fun x y z e => by
  cases x with
  | int i =>
    cases y with
    | int j => cases e; exact ⟨i, j, rfl, rfl, rfl⟩
    | _ => cases e
  | _ => cases e
theorem geS : OpS X.K RepV RepV geD (rI0 fun i j => .bl (decide (j ≤ i))) := intsB fun x y z e => by
  cases x with
  | int i =>
    cases y with
    | int j => cases e; exact ⟨i, j, rfl, rfl, rfl⟩
    | _ => cases e
  | _ => cases e
theorem se_lt (ha : SE X a f) (hb : SE X b g) : SE X (.Compare a [.Lt] [b] pos) (e2 ltD f g) := se_cmp (fun _ _ => op_lt) ltS ha hb (nomark _)
theorem se_le (ha : SE X a f) (hb : SE X b g) : SE X (.Compare a [.LtE] [b] pos) (e2 leD f g) := se_cmp (fun _ _ => op_le) leS ha hb (nomark _)
theorem se_gt (ha : SE X a f) (hb : SE X b g) : SE X (.Compare a [.Gt] [b] pos) (e2 gtD f g) := se_cmp (fun _ _ => op_gt) gtS ha hb (nomark _)
theorem se_ge (ha : SE X a f) (hb : SE X b g) : SE X (.Compare a [.GtE] [b] pos) (e2 geD f g) := se_cmp (fun _ _ => op_ge) geS ha hb (nomark _)
theorem st_lt (ha : SE X a f) (hb : SE X b g) : ST X (.Compare a [.Lt] [b] pos) (tB (e2 ltD f g)) := st_cmp (fun _ _ => op_lt) ltS ha hb (nomark _)
theorem st_le (ha : SE X a f) (hb : SE X b g) : ST X (.Compare a [.LtE] [b] pos) (tB (e2 leD f g)) := st_cmp (fun _ _ => op_le) leS ha hb (nomark _)
theorem st_gt (ha : SE X a f) (hb : SE X b g) : ST X (.Compare a [.Gt] [b] pos) (tB (e2 gtD f g)) := st_cmp (fun _ _ => op_gt) gtS ha hb (nomark _)
theorem st_ge (ha : SE X a f) (hb : SE X b g) : ST X (.Compare a [.GtE] [b] pos) (tB (e2 geD f g)) := st_cmp (fun _ _ => op_ge) geS ha hb (nomark _)
end
/-! ### equality -/
mutual
def py : D → PyData
  | .non => .none
  | .bl b => .bool b
  | .int i => .int i
  | .str x => .str x
  | .tup xs => .tuple (pys xs)
  | .lst xs => .list (pys xs)
  | .cell _ => .none
  | .glo _ => .none
  | .scr _ => .none
def pys : List D → List PyData
  | [] => []
  | x :: xs => py x :: pys xs
end
mutual
theorem eqv_py : ∀ (n m : Nat) (x y : D), okd n x = true → okd m y = true → PyData.eqv (py x) (py y) = eqv x y
  | n, m, x, y, hx, hy => by
    cases x with
    | tup xs =>
      cases n with
      | zero => cases hx
      | succ n =>
        cases y with
        | tup ys =>
          cases m with
          | zero => cases hy
          | succ m => simpa [py, eqv, PyData.eqv] using eqvs_py n m xs ys hx hy
        | cell k => cases m <;> cases hy
        | glo k => cases m <;> cases hy
        | scr k => cases m <;> cases hy
        | _ => simp [py, eqv, PyData.eqv]
    | lst xs =>
      cases n with
      | zero => cases hx
      | succ n =>
        cases y with
        | lst ys =>
          cases m with
          | zero => cases hy
          | succ m => simpa [py, eqv, PyData.eqv] using eqvs_py n m xs ys hx hy
        | cell k => cases m <;> cases hy
        | glo k => cases m <;> cases hy
        | scr k => cases m <;> cases hy
        | _ => simp [py, eqv, PyData.eqv]
    | cell k => cases n <;> cases hx
    | glo k => cases n <;> cases hx
    | scr k => cases n <;> cases hx
    | _ =>
      cases y with
      | cell k => cases m <;> cases hy
      | glo k => cases m <;> cases hy
      | scr k => cases m <;> cases hy
      | _ => simp [py, eqv, PyData.eqv]
theorem eqvs_py : ∀ (n m : Nat) (x y : List D), okds n x = true → okds m y = true → PyData.eqvAll (pys x) (pys y) = eqvs x y
  | n, m, [], [], _, _ => by simp [pys, eqvs, PyData.eqvAll]
  | n, m, [], y :: ys, _, _ => by simp [pys, eqvs, PyData.eqvAll]
  | n, m, x :: xs, [], _, _ => by simp [pys, eqvs, PyData.eqvAll]
  | n, m, x :: xs, y :: ys, hx, hy => by
    unfold okds at hx hy
    simp only [Bool.and_eq_true] at hx hy
    simp only [pys, eqvs, PyData.eqvAll, eqv_py n m x y hx.1 hy.1, eqvs_py n m xs ys hx.2 hy.2]
end
end Kb

set_option Elab.async false
set_option linter.all false
set_option maxRecDepth 100000
/-! Kb4: equality, is, tests, displays, items, slices, built-ins. -/
namespace Kb
open PySem PySem.Spec PyProof.Rows L2
mutual
theorem okd_lay : ∀ (n : Nat) (x : D), okd n x = true → PyData.canLay0 (py x) = true ∧ (py x).depth ≤ n
  | n, x, h => by
    cases x with
    | tup xs =>
      cases n with
      | zero => cases h
      | succ n =>
        obtain ⟨h1, h2⟩ := okds_lay n xs h
        exact ⟨h1, by show PyData.depthAll (pys xs) + 1 ≤ n + 1; omega⟩
    | lst xs =>
      cases n with
      | zero => cases h
      | succ n =>
        obtain ⟨h1, h2⟩ := okds_lay n xs h
        exact ⟨h1, by show PyData.depthAll (pys xs) + 1 ≤ n + 1; omega⟩
    | str x =>
      have h' : (x.cps.all fun c => decide (c < 1114112)) = true := by cases n <;> exact h
      exact ⟨h', by show (0 : Nat) ≤ n; omega⟩
    | cell k => cases n <;> cases h
    | glo k => cases n <;> cases h
    | scr k => cases n <;> cases h
    | non => exact ⟨rfl, by show (0 : Nat) ≤ n; omega⟩
    | bl b => exact ⟨rfl, by show (0 : Nat) ≤ n; omega⟩
    | int b => exact ⟨rfl, by show (0 : Nat) ≤ n; omega⟩
theorem okds_lay : ∀ (n : Nat) (x : List D), okds n x = true → PyData.canLayAll0 (pys x) = true ∧ PyData.depthAll (pys x) ≤ n
  | n, [], h => ⟨rfl, by show (0 : Nat) ≤ n; omega⟩
  | n, x :: xs, h => by
    have h' : (okd n x && okds n xs) = true := h
    rw [Bool.and_eq_true] at h'
    obtain ⟨a1, a2⟩ := okd_lay n x h'.1
    obtain ⟨b1, b2⟩ := okds_lay n xs h'.2
    refine ⟨?_, ?_⟩
    · show (PyData.canLay0 (py x) && PyData.canLayAll0 (pys xs)) = true
      rw [a1, b1]; rfl
    · show max (py x).depth (PyData.depthAll (pys xs)) ≤ n
      omega
end
theorem okd_shaped {x : D} (h : okd 60 x = true) : SeqAt.shaped (py x) = true := by
  obtain ⟨h1, h2⟩ := okd_lay 60 x h
  unfold SeqAt.shaped
  rw [h1, decide_eq_true (by omega : (py x).depth ≤ 64)]
  rfl
section
variable {K : PySem.W.Frag} {mg : MG} {c c1 c' : Cc} {P : List Addr} {env : Env} {S S1 S' : Store} {σ : L2.St} {H H1 H' : Hp} {W : WX} {a : Addr} {vs : List V} {ds : List D} {d x y z : D} {v w : V} {Q : VK}
mutual
theorem Rep.dp : ∀ (n : Nat) (x : D) (v : V), okd n x = true → Rep c H x v → Dp c.K H v (py x)
  | n, x, v, h, r => by
    cases x with
    | tup xs =>
      cases n with
      | zero => cases h
      | succ n =>
        obtain ⟨a, vs, rfl, h1, h2⟩ := r
        exact .tup h1 (Reps.dp n xs vs h h2)
    | lst xs =>
      cases n with
      | zero => cases h
      | succ n =>
        obtain ⟨a, vs, rfl, h1, h2⟩ := r
        exact .lst h1.seq (Reps.dp n xs vs h h2)
    | cell k => cases n <;> cases h
    | glo k => cases n <;> cases h
    | scr k => cases n <;> cases h
    | non => have e : v = .non := r; subst e; exact .non
    | bl b => have e : v = .bl b := r; subst e; exact .bl b
    | int b => have e : v = .int b := r; subst e; exact .int b
    | str b => have e : v = .str b := r; subst e; exact .str b
theorem Reps.dp : ∀ (n : Nat) (x : List D) (v : List V), okds n x = true → Reps c H x v → DpAll c.K H v (pys x)
  | n, [], v, h, r => by
    have e : v = [] := r
    subst e
    exact .nil
  | n, x :: xs, v, h, r => by
    have h' : (okd n x && okds n xs) = true := h
    rw [Bool.and_eq_true] at h'
    obtain ⟨u, s, rfl, r1, r2⟩ := r
    exact .cons (Rep.dp n x u h'.1 r1) (Reps.dp n xs s h'.2 r2)
end
theorem RepB.dp (h : okd 60 x = true) (r : RepB c P H x v) : Dp c.K H v (py x) := by
  rcases r with r | ⟨ds, a, vs, rfl, rfl, h1, h2, h3⟩
  · exact Rep.dp 60 x v h r
  · exact .lst (SqL.of h2) (Reps.dp 59 ds vs h h3)
end
section
variable {X : Cx} {a b e o i : Expr} {es rest : List Expr} {f g h : EM D} {t u : EM Bool} {pos : Pos} {Ra Rb : RR D V} {x : Str}
theorem eqS : OpS X.K RepB RepB eqD (rEqD X.K) := by
  intro mg c P env S σ H W Q x y v w z st rx ry e q
  obtain ⟨hl, rfl⟩ := iteS (p := (okd 60 x && okd 60 y) = true) e
  rw [Bool.and_eq_true] at hl
  obtain ⟨h1, h2⟩ := hl
  have d1 := rx.dp h1
  have d2 := ry.dp h2
  rw [st.K] at d1 d2
  exact ⟨py x, py y, d1, d2, okd_shaped h1, okd_shaped h2, by rw [eqv_py 60 60 x y h1 h2]; exact q.here st rfl⟩
theorem neS : OpS X.K RepB RepB neD (rNeD X.K) := by
  intro mg c P env S σ H W Q x y v w z st rx ry e q
  obtain ⟨hl, rfl⟩ := iteS (p := (okd 60 x && okd 60 y) = true) e
  rw [Bool.and_eq_true] at hl
  obtain ⟨h1, h2⟩ := hl
  have d1 := rx.dp h1
  have d2 := ry.dp h2
  rw [st.K] at d1 d2
  exact ⟨py x, py y, d1, d2, okd_shaped h1, okd_shaped h2, by rw [eqv_py 60 60 x y h1 h2]; exact q.here st rfl⟩
/-- room for a comparison of data -/
def Hu (X : Cx) : Prop := X.A.units + 64 < cLine
theorem hu_room {k : Nat} {X : Cx} (hr : Room k X.A) : Hu X := Nat.lt_of_le_of_lt (by omega) hr.un
theorem se_eq (hu : Hu X) (ha : SB X a f) (hb : SB X b g) : SE X (.Compare a [.Eq] [b] pos) (e2 eqD f g) := se_cmp (fun pn xe => op_eqD (X := X.tr pn xe) hu) eqS ha hb (nomark _)
theorem se_ne (hu : Hu X) (ha : SB X a f) (hb : SB X b g) : SE X (.Compare a [.NotEq] [b] pos) (e2 neD f g) := se_cmp (fun pn xe => op_neD (X := X.tr pn xe) hu) neS ha hb (nomark _)
theorem st_eq (hu : Hu X) (ha : SB X a f) (hb : SB X b g) : ST X (.Compare a [.Eq] [b] pos) (tB (e2 eqD f g)) := st_cmp (fun pn xe => op_eqD (X := X.tr pn xe) hu) eqS ha hb (nomark _)
theorem st_ne (hu : Hu X) (ha : SB X a f) (hb : SB X b g) : ST X (.Compare a [.NotEq] [b] pos) (tB (e2 neD f g)) := st_cmp (fun pn xe => op_neD (X := X.tr pn xe) hu) neS ha hb (nomark _)
/-! ### is None, is True -/
theorem isNon_rep {c : Cc} {P : List Addr} {H : Hp} {x : D} {v : V} {z : D} (r : RepB c P H x v) (e : isNonD x = some z) : z = .bl (decide (v = .non)) ∧ notNonD x = some (.bl (!decide (v = .non))) := by
  cases x with
  | non => cases e; rw [r.non]; exact ⟨rfl, rfl⟩
  | bl b => cases e; rw [r.bl]; exact ⟨rfl, rfl⟩
  | int b => cases e; rw [r.int]; exact ⟨rfl, rfl⟩
  | str b => cases e; rw [r.str]; exact ⟨rfl, rfl⟩
  | tup b => cases e; obtain ⟨a, vs, rfl, _⟩ := r.tup; exact ⟨rfl, rfl⟩
  | lst b => cases e; obtain ⟨a, vs, rfl, _⟩ := r.lst; exact ⟨rfl, rfl⟩
  | _ => cases e
theorem isS : OpS X.K RepB RepB isD (fun x y H Q => (y = .non ∧ Q (.bl (decide (x = .non))) H) ∨ rIsB x y H Q) := by
  intro mg c P env S σ H W Q x y v w z st rx ry e q
  cases y with
  | non =>
    have e' : isNonD x = some z := by cases x <;> exact e
    obtain ⟨rfl, _⟩ := isNon_rep rx e'
    exact .inl ⟨ry.non, q.here st rfl⟩
  | bl b =>
    cases x with
    | bl a => cases e; exact .inr ⟨a, b, rx.bl, ry.bl, q.here st rfl⟩
    | _ => cases e
  | _ => cases x <;> cases e
theorem notNon_rep {c : Cc} {P : List Addr} {H : Hp} {x : D} {v : V} {z : D} (r : RepB c P H x v) (e : notNonD x = some z) : z = .bl (!decide (v = .non)) := by
  cases x with
  | non => cases e; rw [r.non]; rfl
  | bl b => cases e; rw [r.bl]; rfl
  | int b => cases e; rw [r.int]; rfl
  | str b => cases e; rw [r.str]; rfl
  | tup b => cases e; obtain ⟨a, vs, rfl, _⟩ := r.tup; rfl
  | lst b => cases e; obtain ⟨a, vs, rfl, _⟩ := r.lst; rfl
  | _ => cases e
theorem isntNS : OpS X.K RepB RepB isntND (fun x y H Q => (y = .non ∧ Q (.bl (!decide (x = .non))) H) ∨ rNotB x y H Q) := by
  intro mg c P env S σ H W Q x y v w z st rx ry e q
  cases y with
  | non =>
    have e' : notNonD x = some z := by cases x <;> exact e
    have e1 := notNon_rep rx e'
    subst e1
    exact .inl ⟨ry.non, q.here st rfl⟩
  | bl b =>
    cases x with
    | bl a => cases e; exact .inr ⟨a, b, rx.bl, ry.bl, q.here st rfl⟩
    | _ => cases e
  | _ => cases x <;> cases e
theorem se_is (ha : SB X a f) (hb : SB X b g) : SE X (.Compare a [.Is] [b] pos) (e2 isD f g) := se_cmp (fun _ _ => op_isN.or op_isBl) isS ha hb (nomark _)
theorem st_is (ha : SB X a f) (hb : SB X b g) : ST X (.Compare a [.Is] [b] pos) (tB (e2 isD f g)) := st_cmp (fun _ _ => op_isN.or op_isBl) isS ha hb (nomark _)
theorem se_isnt (ha : SB X a f) (hb : SB X b g) : SE X (.Compare a [.IsNot] [b] pos) (e2 isntND f g) := se_cmp (fun _ _ => op_notN.or op_notBl) isntNS ha hb (nomark _)
theorem st_isnt (ha : SB X a f) (hb : SB X b g) : ST X (.Compare a [.IsNot] [b] pos) (tB (e2 isntND f g)) := st_cmp (fun _ _ => op_notN.or op_notBl) isntNS ha hb (nomark _)
/-! ### one operand -/
theorem se_neg (ha : SE X a f) : SE X (.UnaryOp .USub a pos) (e1 negD f) := ⟨fun pn xe W hp tk => wE (pe_un un_neg (ha.run pn xe W hp tk)) fun σ H Q ⟨c, P, env, S, st, q⟩ => by
  refine gbind st q fun c1 S1 H1 a b x1 st1 r1 q1 => ?_
  obtain ⟨z, e, q2⟩ := GPost.lift q1
  cases a with
  | int i => cases e; exact ⟨i, r1, q2.here st1 rfl⟩
  | _ => cases e⟩
/-! ### and, or, not -/
theorem gbool {c : Cc} {P : List Addr} {S : Store} {σ : L2.St} {H : Hp} {W : WX} {α β : Type} {R : RR α β} {Q : β → Hp → Prop} {x : D} {v : V} {k : Bool → Store → Out α} (r : Rep c H x v) (h : GPost c P H W σ R Q ((lift (boolD x) S).bind k)) :
    ∃ b, x = .bl b ∧ v = .bl b ∧ GPost c P H W σ R Q (k b S) := by
  cases x with
  | bl b => exact ⟨b, rfl, r, h⟩
  | _ => exact h.elim
theorem se_one {op} (ha : SE X a f) : SE X (.BoolOp op [a] pos) f := ⟨fun pn xe W hp tk => pe_one (ha.run pn xe W hp tk)⟩
theorem se_and (ha : SE X a f) (hb : SE X (.BoolOp .And (b :: rest) pos) g) : SE X (.BoolOp .And (a :: b :: rest) pos) (eAnd f g) := ⟨fun pn xe W hp tk => wE (pe_and (ha.run pn xe W hp tk) (hb.run pn xe W hp tk)) fun σ H Q ⟨c, P, env, S, st, q⟩ => by
  refine gbind st q fun c1 S1 H1 a b x1 st1 r1 q1 => ?_
  obtain ⟨k, rfl, rfl, q2⟩ := gbool r1 q1
  refine ⟨k, rfl, ?_⟩
  cases k with
  | true => exact iteT ⟨c1, P, env, S1, st1, q2⟩
  | false => exact iteF (q2.here st1 rfl)⟩
theorem se_or (ha : SE X a f) (hb : SE X (.BoolOp .Or (b :: rest) pos) g) : SE X (.BoolOp .Or (a :: b :: rest) pos) (eOr f g) := ⟨fun pn xe W hp tk => wE (pe_or (ha.run pn xe W hp tk) (hb.run pn xe W hp tk)) fun σ H Q ⟨c, P, env, S, st, q⟩ => by
  refine gbind st q fun c1 S1 H1 a b x1 st1 r1 q1 => ?_
  obtain ⟨k, rfl, rfl, q2⟩ := gbool r1 q1
  refine ⟨k, rfl, ?_⟩
  cases k with
  | true => exact iteT (q2.here st1 rfl)
  | false => exact iteF ⟨c1, P, env, S1, st1, q2⟩⟩
theorem se_not (ha : SE X a f) : SE X (.UnaryOp .Not a pos) (eNot f) := ⟨fun pn xe W hp tk => wE (pe_not (ha.run pn xe W hp tk)) fun σ H Q ⟨c, P, env, S, st, q⟩ => by
  refine gbind st q fun c1 S1 H1 a b x1 st1 r1 q1 => ?_
  obtain ⟨k, rfl, rfl, q2⟩ := gbool r1 q1
  exact ⟨k, rfl, q2.here st1 rfl⟩⟩
/-! ### tests -/
theorem sw_and1 (ha : ST X a t) : SW X (.BoolOp .And [a] pos) t := ⟨fun pn xe W hp tk => pw_and1 (ha.run pn xe W hp tk)⟩
theorem sw_or1 (ha : ST X a t) : SW X (.BoolOp .Or [a] pos) t := ⟨fun pn xe W hp tk => pw_or1 (ha.run pn xe W hp tk)⟩
theorem sw_and (ha : ST X a t) (hb : SW X (.BoolOp .And (b :: rest) pos) u) : SW X (.BoolOp .And (a :: b :: rest) pos) (tAnd t u) := ⟨fun pn xe W hp tk => wW (pw_and (ha.run pn xe W hp tk) (hb.run pn xe W hp tk)) fun σ H Q ⟨c, P, env, S, st, q⟩ => by
  refine gbind st q fun c1 S1 H1 a b x1 st1 r1 q1 => ?_
  have e : b = a := r1
  subst e
  cases b with
  | true => exact iteT ⟨c1, P, env, S1, st1, q1⟩
  | false => exact iteF (q1.here st1 rfl)⟩
theorem sw_or (ha : ST X a t) (hb : SW X (.BoolOp .Or (b :: rest) pos) u) : SW X (.BoolOp .Or (a :: b :: rest) pos) (tOr t u) := ⟨fun pn xe W hp tk => wW (pw_or (ha.run pn xe W hp tk) (hb.run pn xe W hp tk)) fun σ H Q ⟨c, P, env, S, st, q⟩ => by
  refine gbind st q fun c1 S1 H1 a b x1 st1 r1 q1 => ?_
  have e : b = a := r1
  subst e
  cases b with
  | true => exact iteT (q1.here st1 rfl)
  | false => exact iteF ⟨c1, P, env, S1, st1, q1⟩⟩
theorem st_not (ha : ST X a t) : ST X (.UnaryOp .Not a pos) (tNot t) := ⟨fun pn xe W hp tk => wT (pt_not (ha.run pn xe W hp tk)) fun σ H Q ⟨c, P, env, S, st, q⟩ => by
  refine gbind st q fun c1 S1 H1 a b x1 st1 r1 q1 => ?_
  have e : b = a := r1
  subst e
  exact q1.here st1 rfl⟩
/-- a value's truth -/
theorem tru_rep {K : PySem.W.Frag} {c : Cc} {P : List Addr} {H : Hp} {x : D} {v : V} {k : Bool} (hK : c.K = K) (r : RepB c P H x v) (e : truD x = some k) : TruV K v H k := by
  subst hK
  cases x with
  | non => cases e; rw [r.non]; exact rfl
  | bl b => cases e; rw [r.bl]; exact rfl
  | int b => cases e; rw [r.int]; exact rfl
  | str b =>
    obtain ⟨hl, rfl⟩ := iteS (p := b.length ≤ LN) e
    rw [r.str]
    exact ⟨by rw [← LN_eq]; exact hl, rfl⟩
  | tup b =>
    cases e
    obtain ⟨a, vs, rfl, h1, h2⟩ := r.tup
    have hl := h2.length
    refine .inr (.inl ⟨vs, h1, ?_⟩)
    cases b <;> cases vs <;> first | rfl | simp at hl
  | lst b =>
    cases e
    obtain ⟨a, vs, rfl, h1, h2⟩ := r.lst
    have hl := h2.length
    refine .inl ⟨vs, .inl h1, ?_⟩
    cases b <;> cases vs <;> first | rfl | simp at hl
  | _ => cases e
theorem st_tru (ha : SB X a f) (he : ∀ (X' : Cx) whole, isTrue a X'.env whole = (do let v ← whole; standAt a.pos; holding [v] (truthy v)) := by intro _ _; rfl) : ST X a (tV f) := ⟨fun pn xe W hp tk => wT (pt_truth (ha.run pn xe W hp tk) (he (X.tr pn xe))) fun σ H Q ⟨c, P, env, S, st, q⟩ => by
  refine gbind st q fun c1 S1 H1 a b x1 st1 r1 q1 => ?_
  obtain ⟨k, e, q2⟩ := GPost.lift q1
  exact ⟨k, tru_rep st1.K r1 e, q2.here st1 rfl⟩⟩
theorem se_if {cnd : Expr} (hc : ST X cnd t) (ha : SE X a f) (hb : SE X b g) : SE X (.IfExp cnd a b pos) (eIf t f g) := ⟨fun pn xe W hp tk => wE (pe_ifExp (hc.run pn xe W hp tk) (ha.run pn xe W hp tk) (hb.run pn xe W hp tk)) fun σ H Q ⟨c, P, env, S, st, q⟩ => by
  refine gbind st q fun c1 S1 H1 a b x1 st1 r1 q1 => ?_
  have e : b = a := r1
  subst e
  cases b with
  | true => exact iteT ⟨c1, P, env, S1, st1, q1⟩
  | false => exact iteF ⟨c1, P, env, S1, st1, q1⟩⟩
/-! ### a op b op' c -/
theorem chain_of {K : PySem.W.Frag} {mg : MG} {W : WX} {r r' : L2.R2} {od od' : D → D → Option D} {σ : L2.St} {H : Hp} {Q : VK} (hS : OpS K RepV RepV od r) (hS' : OpS K RepV RepV od' r') (h0 : tG K mg RepV (eCh od od' f g h) W σ H Q) : tChain r r' (tG K mg RepV f W) (tG K mg RepV g W) (tG K mg RepV h W) σ H Q := by
  obtain ⟨c, P, env, S, st, q⟩ := h0
  refine gbind st q fun c1 S1 H1 a b x1 st1 r1 q1 => ?_
  refine gbind st1 q1 fun c2 S2 H2 a2 b2 x2 st2 r2 q2 => ?_
  have r1' := x2.rep _ _ r1
  cases e : od a a2 with
  | none =>
    rw [e] at q2
    exact q2.elim
  | some z =>
    rw [e] at q2
    refine hS mg c2 P env S2 σ H2 W _ a a2 b b2 z st2 r1' r2 e fun c3 H3 v3 x3 w3 r3 => ?_
    have st3 := st2.ext x3 w3
    have q3 : GPost c2 P H2 W σ RepV Q ((lift (boolD z) S2).bind fun b S4 => if b = true then (h env S4).bind fun w S5 => lift (od' a2 w) S5 else .ok (.bl false) S4) := q2
    obtain ⟨k, rfl, rfl, q4⟩ := gbool r3 (q3.ext x3)
    refine ⟨k, rfl, ?_⟩
    cases k with
    | false => exact iteF (q4.here st3 rfl)
    | true =>
      refine iteT ?_
      refine gbind st3 q4 fun c4 S4 H4 a4 b4 x4 st4 r4 q5 => ?_
      obtain ⟨z', e', q6⟩ := GPost.lift q5
      exact hS' mg c4 P env S4 σ H4 W Q a2 a4 b2 b4 z' st4 (x4.rep _ _ (x3.rep _ _ r2)) r4 e' q6
theorem se_chain {op op' : CmpOp} {r r' : L2.R2} {od od' : D → D → Option D} {d : Expr} (ho : ∀ pn xe, OpR (X.tr pn xe) (compareOp op) r) (ho' : ∀ pn xe, OpR (X.tr pn xe) (compareOp op') r') (hS : OpS X.K RepV RepV od r) (hS' : OpS X.K RepV RepV od' r') (ha : SE X a f) (hb : SE X b g) (hd : SE X d h)
    (hm : lastMarks [op, op'] [b, d] = false) : SE X (.Compare a [op, op'] [b, d] pos) (eCh od od' f g h) := ⟨fun pn xe W hp tk => wE (pe_chain (ho pn xe) (ho' pn xe) (ha.run pn xe W hp tk) (hb.run pn xe W hp tk) (hd.run pn xe W hp tk) hm) fun σ H Q q => chain_of hS hS' q⟩
theorem st_chain {op op' : CmpOp} {r r' : L2.R2} {od od' : D → D → Option D} {d : Expr} (ho : ∀ pn xe, OpR (X.tr pn xe) (compareOp op) r) (ho' : ∀ pn xe, OpR (X.tr pn xe) (compareOp op') r') (hS : OpS X.K RepV RepV od r) (hS' : OpS X.K RepV RepV od' r') (ha : SE X a f) (hb : SE X b g) (hd : SE X d h)
    (hm : lastMarks [op, op'] [b, d] = false) : ST X (.Compare a [op, op'] [b, d] pos) (tB (eCh od od' f g h)) := ⟨fun pn xe W hp tk => wT (pt_chain (ho pn xe) (ho' pn xe) (ha.run pn xe W hp tk) (hb.run pn xe W hp tk) (hd.run pn xe W hp tk) hm) fun σ H Q q => by
  refine chain_of hS hS' ?_
  obtain ⟨c, P, env, S, st, q⟩ := q
  refine gbind st q fun c1 S1 H1 a b x1 st1 r1 q1 => ?_
  obtain ⟨k, e, q2⟩ := GPost.lift q1
  cases a with
  | bl k' =>
    have e2 : k' = k := by simpa [boolD] using e
    subst e2
    exact ⟨k', r1, q2.here st1 rfl⟩
  | _ => cases e⟩
/-! ### arguments, displays -/
theorem sa_nil : SA RepL X [] aNil := ⟨fun pn xe W hp tk => wA pa_nil fun σ H Q ⟨c, P, env, S, st, q⟩ => q.here st rfl⟩
theorem sa_cons {g : EM (List D)} (ha : SE X e f) (hr : SA RepL X es g) (hs : ∀ X' : Cx, starEach (e :: es) X'.env = (false, eval e X'.env) :: starEach es X'.env := by intro _; rfl) : SA RepL X (e :: es) (aCons f g) :=
  ⟨fun pn xe W hp tk => wA (pa_cons (ha.run pn xe W hp tk) (hr.run pn xe W hp tk) (hs (X.tr pn xe))) fun σ H Q ⟨c, P, env, S, st, q⟩ => by
    refine gbind st q fun c1 S1 H1 a b x1 st1 r1 q1 => ?_
    refine gbind st1 q1 fun c2 S2 H2 a2 b2 x2 st2 r2 q2 => ?_
    exact q2.here st2 ⟨b, b2, rfl, x2.rep _ _ r1, r2⟩⟩
theorem sab_nil : SA RepsB X [] aNil := ⟨fun pn xe W hp tk => wA pa_nil fun σ H Q ⟨c, P, env, S, st, q⟩ => q.here st rfl⟩
theorem sab_cons {g : EM (List D)} (ha : SB X e f) (hr : SA RepsB X es g) (hs : ∀ X' : Cx, starEach (e :: es) X'.env = (false, eval e X'.env) :: starEach es X'.env := by intro _; rfl) : SA RepsB X (e :: es) (aCons f g) :=
  ⟨fun pn xe W hp tk => wA (pa_cons (ha.run pn xe W hp tk) (hr.run pn xe W hp tk) (hs (X.tr pn xe))) fun σ H Q ⟨c, P, env, S, st, q⟩ => by
    refine gbind st q fun c1 S1 H1 a b x1 st1 r1 q1 => ?_
    refine gbind st1 q1 fun c2 S2 H2 a2 b2 x2 st2 r2 q2 => ?_
    exact q2.here st2 ⟨b, b2, rfl, x2.repB r1, r2⟩⟩
theorem se_tup {x1} {g : EM (List D)} (ha : SA RepL X es g) : SE X (.Tuple es x1 pos) (eA tupD g) := ⟨fun pn xe W hp tk => wE (pe_tup (ha.run pn xe W hp tk)) fun σ H Q ⟨c, P, env, S, st, q⟩ => by
  refine gbind st q fun c1 S1 H1 a b x1 st1 r1 q1 => ?_
  obtain ⟨z, e, q2⟩ := GPost.lift q1
  obtain ⟨hl, rfl⟩ := iteS (p := a.length ≤ LN) e
  exact ⟨by rw [Reps.length r1, ← LN_eq]; exact hl, fun p hp => q2.newT st1 r1 hp⟩⟩
theorem se_lst {g : EM (List D)} (ha : SA RepL X es g) : SE X (.List es pos) (eA lstD g) := ⟨fun pn xe W hp tk => wE (pe_lst (ha.run pn xe W hp tk)) fun σ H Q ⟨c, P, env, S, st, q⟩ => by
  refine gbind st q fun c1 S1 H1 a b x1 st1 r1 q1 => ?_
  obtain ⟨z, e, q2⟩ := GPost.lift q1
  obtain ⟨hl, rfl⟩ := iteS (p := a.length ≤ LN) e
  exact ⟨by rw [Reps.length r1, ← LN_eq]; exact hl, fun p hp => q2.newL st1 r1 hp⟩⟩
/-! ### items -/
theorem atD_rep {c : Cc} {H : Hp} {ds : List D} {vs : List V} {i : Int} {d : D} (r : Reps c H ds vs) (e : atD ds i = some d) : ∃ v, atI vs i = some v ∧ Rep c H d v := by
  have hl := r.length
  unfold atD at e
  cases q : ixN ds.length i with
  | none => rw [q] at e; cases e
  | some j =>
    rw [q] at e
    obtain ⟨v, h1, h2⟩ := r.get (show ds[j]? = some d from e)
    refine ⟨v, ?_, h2⟩
    unfold atI
    rw [hl]
    have q2 : L2.ixN ds.length i = some j := q
    rw [q2]
    exact h1
theorem ixS : OpS X.K RepB RepV ixD (rIx X.K) := by
  intro mg c P env S σ H W Q x y v w z st rx ry e q
  cases x with
  | lst xs =>
    cases y with
    | int i =>
      obtain ⟨a, vs, rfl, h1, h2⟩ := rx.lst
      obtain ⟨v, e1, r⟩ := atD_rep h2 e
      exact .inl ⟨a, vs, i, v, rfl, ry, .inl h1, e1, q.here st r⟩
    | _ => cases e
  | tup xs =>
    cases y with
    | int i =>
      obtain ⟨a, vs, rfl, h1, h2⟩ := rx.tup
      rw [st.K] at h1
      obtain ⟨v, e1, r⟩ := atD_rep h2 e
      exact .inr (.inl ⟨a, vs, i, v, rfl, ry, h1, e1, q.here st r⟩)
    | _ => cases e
  | scr xs =>
    cases y with
    | int i =>
      rcases rx with ⟨a, vs, rfl, h1, h2⟩ | ⟨_, _, _, z, _⟩
      · obtain ⟨v, e1, r⟩ := atD_rep h2 e
        rw [st.K] at h1
        exact .inl ⟨a, vs, i, v, rfl, ry, h1.seq, e1, q.here st r⟩
      · cases z
    | _ => cases e
  | str s =>
    cases y with
    | int i =>
      have e' : (if s.length ≤ LN then (ixN s.cps.toList.length i).bind fun j => (s.cps.toList[j]?).map fun c => D.str ⟨#[c]⟩ else none) = some z := e
      by_cases hl : s.length ≤ LN
      · rw [if_pos hl] at e'
        cases q1 : ixN s.cps.toList.length i with
        | none => rw [q1] at e'; cases e'
        | some j =>
          rw [q1] at e'
          cases q2 : s.cps.toList[j]? with
          | none =>
            have e2 : (s.cps.toList[j]?).map (fun c => D.str ⟨#[c]⟩) = some z := e'
            rw [q2] at e2; cases e2
          | some cp =>
            have e2 : (s.cps.toList[j]?).map (fun c => D.str ⟨#[c]⟩) = some z := e'
            rw [q2] at e2
            cases e2
            refine .inr (.inr ⟨s, i, cp, rx.str, ry, by rw [← LN_eq]; exact hl, ?_, q.here st rfl⟩)
            unfold atI
            have q3 : L2.ixN s.cps.toList.length i = some j := q1
            rw [q3]
            exact q2
      · rw [if_neg hl] at e'; cases e'
    | _ => cases e
  | _ => cases y <;> cases e
theorem se_ix (ha : SB X a f) (hb : SE X b g) (hs : PlainIx b := by exact fun _ _ => rfl) : SE X (.Subscript a b pos) (e2 ixD f g) :=
  ⟨fun pn xe W hp tk => wE (pe_ix ix_seq (ha.run pn xe W hp tk) (hb.run pn xe W hp tk) hs) fun σ H Q q => tOp_of ixS q⟩
/-! ### slices -/
structure SP' (X : Cx) (e : Option Expr) (f : EM (Option Int)) : Prop where
  run : ∀ (pn : List (Addr × Obj)) (xe : Value → Shared → Prop) (W : WX), (∀ p ∈ X.pn, p ∈ pn) → Takes (X.tr pn xe) W → PO (X.tr pn xe) e (tG X.K (xm X) (fun _ _ _ a b => b = a) f W)
theorem wO {X : Cx} {e : Option Expr} {t t' : TO} (h : PO X e t) (w : ∀ σ H Q, t' σ H Q → t σ H Q) : PO X e t' := ⟨fun pins s σ H Q I q => h.run pins s σ H Q I (w σ H Q q)⟩
theorem sp_no : SP' X none pNo := ⟨fun pn xe W hp tk => wO po_none fun σ H Q ⟨c, P, env, S, st, q⟩ => q.here st rfl⟩
theorem sp_so (ha : SE X a f) : SP' X (some a) (pSo f) := ⟨fun pn xe W hp tk => wO (po_some (ha.run pn xe W hp tk)) fun σ H Q ⟨c, P, env, S, st, q⟩ => by
  refine gbind st q fun c1 S1 H1 a b x1 st1 r1 q1 => ?_
  cases a with
  | int i => exact ⟨i, r1, q1.here st1 rfl⟩
  | _ => exact q1.elim⟩
theorem sIx_eq (n d : Nat) (o : Option Int) : HT.sIx n d o = sIx n d o := by cases o <;> rfl
theorem cut_rep {c : Cc} {H : Hp} {ds : List D} {vs : List V} {lo hi : Option Int} (r : Reps c H ds vs) : Reps c H (cut ds lo hi) (cutV vs lo hi) := by
  unfold cut cutV
  rw [sIx_eq, sIx_eq, r.length]
  exact (r.drop _).take _
theorem se_sl {lo hi : Option Expr} {l u : EM (Option Int)} {p2 : Pos} (ha : SB X a f) (hl : SP' X lo l) (hh : SP' X hi u) : SE X (.Subscript a (.Slice lo hi none p2) pos) (eSl f l u) :=
  ⟨fun pn xe W hp tk => wE (pe_slice (sl_list.or (sl_tupA.or sl_str)) (ha.run pn xe W hp tk) (hl.run pn xe W hp tk) (hh.run pn xe W hp tk)) fun σ H Q ⟨c, P, env, S, st, q⟩ => by
    refine gbind st q fun c1 S1 H1 x v x1 st1 r1 q1 => ?_
    refine gbind st1 q1 fun c2 S2 H2 l' l2 x2 st2 r2 q2 => ?_
    refine gbind st2 q2 fun c3 S3 H3 u' u2 x3 st3 r3 q3 => ?_
    have e2 : l2 = l' := r2
    have e3 : u2 = u' := r3
    subst e2
    subst e3
    have r := x3.repB (x2.repB r1)
    obtain ⟨z, e, q4⟩ := GPost.lift q3
    cases x with
    | lst xs =>
      cases e
      obtain ⟨a, vs, rfl, h1, h2⟩ := r.lst
      exact .inl ⟨a, vs, rfl, .inl h1, fun p hp => q4.newL st3 (cut_rep h2) hp⟩
    | scr xs =>
      cases e
      rcases r with ⟨a, vs, rfl, h1, h2⟩ | ⟨_, _, _, z, _⟩
      · rw [st3.K] at h1
        exact .inl ⟨a, vs, rfl, h1.seq, fun p hp => q4.newL st3 (cut_rep h2) hp⟩
      · cases z
    | tup xs =>
      cases e
      obtain ⟨a, vs, rfl, h1, h2⟩ := r.tup
      have hlen := h2.length
      have h1' := h1
      rw [st3.K] at h1'
      refine .inr (.inl ⟨a, vs, rfl, h1', fun ⟨z1, z2⟩ => ?_, fun _ p hp => q4.newT st3 (cut_rep h2) hp⟩)
      have ec : cut xs l2 u2 = xs := by
        unfold cut
        rw [sIx_eq, hlen] at z1 z2
        rw [z1, z2]
        simp
      rw [ec] at q4
      exact q4.here st3 ⟨a, vs, rfl, h1, h2⟩
    | str s =>
      obtain ⟨hl, rfl⟩ := iteS (p := s.length ≤ LN) e
      refine .inr (.inr ⟨s, r.str, by rw [← LN_eq]; exact hl, ?_⟩)
      have es : cutS s l2 u2 = ⟨(cut s.cps.toList l2 u2).toArray⟩ := by
        unfold cutS cut
        have e1 : s.length = s.cps.toList.length := by simp [Str.length]
        rw [sIx_eq, sIx_eq, e1]
      rw [es]
      exact q4.here st3 rfl
    | _ => cases e⟩
end
end Kb

set_option Elab.async false
set_option linter.all false
set_option maxRecDepth 100000
/-! Kb5: built-in calls; what is walked; comprehensions. -/
namespace Kb
open PySem PySem.Spec PyProof.Rows L2
/-! ### built-in calls -/
def CallS (K : PySem.W.Frag) (op : List D → Option D) (r : List V → Hp → VK → Prop) : Prop := ∀ (mg : MG) (c : Cc) (P : List Addr) (env : Env) (S : Store) (σ : L2.St) (H : Hp) (W : WX) (Q : VK) (xs : List D) (vs : List V) (z : D),
  Sta K mg c P env S σ H → RepsB c P H xs vs → op xs = some z → GPost c P H W σ RepV Q (.ok z S) → r vs H Q
section
variable {X : Cx} {a b e o i : Expr} {es rest : List Expr} {f : EM D} {g : EM (List D)} {pos p : Pos} {x : Str}
theorem se_callB {id : String} {r : List V → Hp → VK → Prop} {op : List D → Option D} (hc : ∀ pn xe, CallR (X.tr pn xe) (.builtin id) r) (hS : CallS X.K op r) (hg : Gl X x) (hm : X.mg x = none) (hv : bootBuiltins x = some (.builtin id)) (ha : SA RepsB X (e :: es) g) (hn : x ≠ "__name__" := by decide) (hdb : (x == ("__debug__" : Str)) = false := by decide)
    (he : ∀ X' : Cx, starEach (e :: es) X'.env = (false, eval e X'.env) :: starEach es X'.env := by intro _; rfl) (hpl : ∀ X' : Cx, (backTo pos (starEach es X'.env)).any (·.1) = false := by intro _; rfl) : SE X (.Call (.Name x p) (e :: es) [] pos) (eA op g) :=
  ⟨fun pn xe W hp tk => wE (pe_callB (hc pn xe) hg hm hv (ha.run pn xe W hp tk) hn hdb (he (X.tr pn xe)) (hpl (X.tr pn xe))) fun σ H Q ⟨c, P, env, S, st, q⟩ => by
    refine gbind st q fun c1 S1 H1 a b x1 st1 r1 q1 => ?_
    obtain ⟨z, e, q2⟩ := GPost.lift q1
    exact hS (xm X) c1 P env S1 σ H1 W Q a b z st1 r1 e q2⟩
theorem se_callT {T : String} {r : List V → Hp → VK → Prop} {op : List D → Option D} (hc : ∀ pn xe, CallR (X.tr pn xe) (.type T) r) (hS : CallS X.K op r) (hg : Gl X x) (hm : X.mg x = none) (hv : bootBuiltins x = some (.type T)) (ha : SA RepsB X (e :: es) g) (hn : x ≠ "__name__" := by decide) (hdb : (x == ("__debug__" : Str)) = false := by decide)
    (he : ∀ X' : Cx, starEach (e :: es) X'.env = (false, eval e X'.env) :: starEach es X'.env := by intro _; rfl) (hpl : ∀ X' : Cx, (backTo pos (starEach es X'.env)).any (·.1) = false := by intro _; rfl) : SE X (.Call (.Name x p) (e :: es) [] pos) (eA op g) :=
  ⟨fun pn xe W hp tk => wE (pe_callTy (hc pn xe) hg hm hv (ha.run pn xe W hp tk) hn hdb (he (X.tr pn xe)) (hpl (X.tr pn xe))) fun σ H Q ⟨c, P, env, S, st, q⟩ => by
    refine gbind st q fun c1 S1 H1 a b x1 st1 r1 q1 => ?_
    obtain ⟨z, e, q2⟩ := GPost.lift q1
    exact hS (xm X) c1 P env S1 σ H1 W Q a b z st1 r1 e q2⟩
end
section
variable {K : PySem.W.Frag} {mg : MG} {c c1 c' : Cc} {P : List Addr} {env : Env} {S S1 S' : Store} {σ : L2.St} {H H1 H' : Hp} {W : WX} {a : Addr} {vs : List V} {ds : List D} {d x y z : D} {v w : V} {Q : VK}
theorem RepsB.one (r : RepsB c P H [x] vs) : ∃ v, vs = [v] ∧ RepB c P H x v := by
  obtain ⟨v, r, rfl, h1, h2⟩ := r
  have e : r = [] := h2
  subst e
  exact ⟨v, rfl, h1⟩
theorem RepsB.two (r : RepsB c P H [x, y] vs) : ∃ v w, vs = [v, w] ∧ RepB c P H x v ∧ RepB c P H y w := by
  obtain ⟨v, r, rfl, h1, h2⟩ := r
  obtain ⟨w, rfl, h3⟩ := RepsB.one h2
  exact ⟨v, w, rfl, h1, h3⟩
theorem bools_rep : ∀ {ds : List D} {vs : List V} {bs : List Bool}, boolsOf ds = some bs → Reps c H ds vs → vs = bs.map V.bl
  | [], vs, bs, e, r => by
    cases e
    exact r
  | d :: ds, vs, bs, e, r => by
    cases d with
    | bl b =>
      have e' : (boolsOf ds).map (b :: ·) = some bs := e
      cases q : boolsOf ds with
      | none => rw [q] at e'; cases e'
      | some cs =>
        rw [q] at e'
        cases e'
        obtain ⟨v, r, rfl, h1, h2⟩ := r
        have e1 : v = .bl b := h1
        rw [e1, bools_rep q h2]
        rfl
    | _ => cases e
theorem ints_rep : ∀ {ds : List D} {vs : List V} {bs : List Int}, intsOf ds = some bs → Reps c H ds vs → vs = bs.map V.int
  | [], vs, bs, e, r => by
    cases e
    exact r
  | d :: ds, vs, bs, e, r => by
    cases d with
    | int b =>
      have e' : (intsOf ds).map (b :: ·) = some bs := e
      cases q : intsOf ds with
      | none => rw [q] at e'; cases e'
      | some cs =>
        rw [q] at e'
        cases e'
        obtain ⟨v, r, rfl, h1, h2⟩ := r
        have e1 : v = .int b := h1
        rw [e1, ints_rep q h2]
        rfl
    | _ => cases e
end
section
variable {X : Cx}
theorem lenS : CallS X.K lenD (fun xs H Q => ∃ x n, xs = [x] ∧ LenV X.K x H n ∧ Q (.int n) H) := by
  intro mg c P env S σ H W Q xs vs z st r e q
  match xs, e with
  | [.lst ds], e =>
    cases e
    obtain ⟨v, rfl, r1⟩ := r.one
    obtain ⟨a, us, rfl, h1, h2⟩ := r1.lst
    exact ⟨_, ds.length, rfl, .inl ⟨us, .inl h1, h2.length.symm⟩, q.here st rfl⟩
  | [.tup ds], e =>
    cases e
    obtain ⟨v, rfl, r1⟩ := r.one
    obtain ⟨a, us, rfl, h1, h2⟩ := r1.tup
    rw [st.K] at h1
    exact ⟨_, ds.length, rfl, .inr ⟨us, h1, h2.length.symm⟩, q.here st rfl⟩
  | [.scr ds], e =>
    cases e
    obtain ⟨v, rfl, r1⟩ := r.one
    rcases r1 with ⟨a, us, rfl, h1, h2⟩ | ⟨_, _, _, z, _⟩
    · rw [st.K] at h1
      exact ⟨_, ds.length, rfl, .inl ⟨us, h1.seq, h2.length.symm⟩, q.here st rfl⟩
    · cases z
  | [.str s], e =>
    obtain ⟨hl, rfl⟩ := iteS (p := s.length ≤ LN) e
    obtain ⟨v, rfl, r1⟩ := r.one
    rw [r1.str]
    exact ⟨_, s.length, rfl, ⟨by rw [← LN_eq]; exact hl, rfl⟩, q.here st rfl⟩
theorem absS : CallS X.K absD (fun xs H Q => ∃ i, xs = [.int i] ∧ Q (.int (if i < 0 then -i else i)) H) := by
  intro mg c P env S σ H W Q xs vs z st r e q
  match xs, e with
  | [.int i], e =>
    cases e
    obtain ⟨v, rfl, r1⟩ := r.one
    exact ⟨i, by rw [r1.int], q.here st rfl⟩
theorem intS : CallS X.K intD (fun xs H Q => (∃ i, xs = [.int i] ∧ Q (.int i) H) ∨ ∃ k, xs = [.bl k] ∧ Q (.int (if k then 1 else 0)) H) := by
  intro mg c P env S σ H W Q xs vs z st r e q
  match xs, e with
  | [.int i], e =>
    cases e
    obtain ⟨v, rfl, r1⟩ := r.one
    exact .inl ⟨i, by rw [r1.int], q.here st rfl⟩
  | [.bl i], e =>
    cases e
    obtain ⟨v, rfl, r1⟩ := r.one
    exact .inr ⟨i, by rw [r1.bl], q.here st rfl⟩
theorem maxS : CallS X.K maxD (fun xs H Q => ∃ i j, xs = [.int i, .int j] ∧ Q (.int (if j > i then j else i)) H) := by
  intro mg c P env S σ H W Q xs vs z st r e q
  match xs, e with
  | [.int i, .int j], e =>
    cases e
    obtain ⟨v, w, rfl, r1, r2⟩ := r.two
    exact ⟨i, j, by rw [r1.int, r2.int], q.here st rfl⟩
theorem minS : CallS X.K minD (fun xs H Q => ∃ i j, xs = [.int i, .int j] ∧ Q (.int (if j < i then j else i)) H) := by
  intro mg c P env S σ H W Q xs vs z st r e q
  match xs, e with
  | [.int i, .int j], e =>
    cases e
    obtain ⟨v, w, rfl, r1, r2⟩ := r.two
    exact ⟨i, j, by rw [r1.int, r2.int], q.here st rfl⟩
theorem tupleS : CallS X.K tupleD (fun xs H Q => ∃ p ys, xs = [.ref p] ∧ ((SqL X.K H p ys ∧ ∀ l, H l = none → Q (.ref l) (upd H l (.tup ys))) ∨ (SqT X.K H p ys ∧ Q (.ref p) H))) := by
  intro mg c P env S σ H W Q xs vs z st r e q
  match xs, e with
  | [.lst ds], e =>
    cases e
    obtain ⟨v, rfl, r1⟩ := r.one
    obtain ⟨a, us, rfl, h1, h2⟩ := r1.lst
    exact ⟨a, us, rfl, .inl ⟨.inl h1, fun l hl => q.newT st h2 hl⟩⟩
  | [.tup ds], e =>
    cases e
    obtain ⟨v, rfl, r1⟩ := r.one
    obtain ⟨a, us, rfl, h1, h2⟩ := r1.tup
    exact ⟨a, us, rfl, .inr ⟨by rw [← st.K]; exact h1, q.here st ⟨a, us, rfl, h1, h2⟩⟩⟩
theorem listS : CallS X.K listD (fun xs H Q => ∃ p ys, xs = [.ref p] ∧ (SqL X.K H p ys ∨ SqT X.K H p ys) ∧ ∀ l, H l = none → Q (.ref l) (upd H l (.lst ys))) := by
  intro mg c P env S σ H W Q xs vs z st r e q
  match xs, e with
  | [.lst ds], e =>
    cases e
    obtain ⟨v, rfl, r1⟩ := r.one
    obtain ⟨a, us, rfl, h1, h2⟩ := r1.lst
    exact ⟨a, us, rfl, .inl (.inl h1), fun l hl => q.newL st h2 hl⟩
  | [.tup ds], e =>
    cases e
    obtain ⟨v, rfl, r1⟩ := r.one
    obtain ⟨a, us, rfl, h1, h2⟩ := r1.tup
    exact ⟨a, us, rfl, .inr (by rw [← st.K]; exact h1), fun l hl => q.newL st h2 hl⟩
theorem allS : CallS X.K allD (rAll X.K) := by
  intro mg c P env S σ H W Q xs vs z st r e q
  match xs, e with
  | [.lst ds], e =>
    have e' : (boolsOf ds).map (fun bs => D.bl (bs.all id)) = some z := e
    cases q1 : boolsOf ds with
    | none => rw [q1] at e'; cases e'
    | some bs =>
      rw [q1] at e'
      cases e'
      obtain ⟨v, rfl, r1⟩ := r.one
      obtain ⟨a, us, rfl, h1, h2⟩ := r1.lst
      have e1 := bools_rep q1 h2
      subst e1
      exact ⟨a, bs, rfl, .inl h1, q.here st rfl⟩
theorem anyS : CallS X.K anyD (rAny X.K) := by
  intro mg c P env S σ H W Q xs vs z st r e q
  match xs, e with
  | [.lst ds], e =>
    have e' : (boolsOf ds).map (fun bs => D.bl (bs.any id)) = some z := e
    cases q1 : boolsOf ds with
    | none => rw [q1] at e'; cases e'
    | some bs =>
      rw [q1] at e'
      cases e'
      obtain ⟨v, rfl, r1⟩ := r.one
      obtain ⟨a, us, rfl, h1, h2⟩ := r1.lst
      have e1 := bools_rep q1 h2
      subst e1
      exact ⟨a, bs, rfl, .inl h1, q.here st rfl⟩
theorem sumS : CallS X.K sumD (rSum X.K) := by
  intro mg c P env S σ H W Q xs vs z st r e q
  match xs, e with
  | [.lst ds], e =>
    have e' : (intsOf ds).map (fun bs => D.int bs.sum) = some z := e
    cases q1 : intsOf ds with
    | none => rw [q1] at e'; cases e'
    | some bs =>
      rw [q1] at e'
      cases e'
      obtain ⟨v, rfl, r1⟩ := r.one
      obtain ⟨a, us, rfl, h1, h2⟩ := r1.lst
      have e1 := ints_rep q1 h2
      subst e1
      exact ⟨a, bs, rfl, .inl h1, q.here st rfl⟩
end
/-! ### what is walked -/
/-- J walks ds, whatever grows or changes outside P -/
def ItOk (c : Cc) (P : List Addr) (H : Hp) (ds : List D) (J : It) : Prop := ∀ c1 H1, Ext c P H c1 H1 →
  (∀ i, i < ds.length → J.go i H1 ∧ ∀ x H2, J.yld i H1 x H2 → (∀ a u, H1 a = some u → H2 a = some u) ∧ ∃ d, ds[i]? = some d ∧ Rep c1 H2 d x) ∧ J.stop ds.length H1
def RepI : RR (List D) It := fun c _ H ds J => ItOk c [] H ds J
def RepJ : RR (List D) It := fun c P H ds J => ItOk c P H ds J
structure SI (R : RR (List D) It) (X : Cx) (tg iter : Expr) (f : EM (List D)) : Prop where
  run : ∀ (pn : List (Addr × Obj)) (xe : Value → Shared → Prop) (W : WX), (∀ p ∈ X.pn, p ∈ pn) → Takes (X.tr pn xe) W → PI (X.tr pn xe) tg iter (tG X.K (xm X) R f W)
theorem wI {X : Cx} {tg e : Expr} {t t' : TI} (h : PI X tg e t) (w : ∀ σ H Q, t' σ H Q → t σ H Q) : PI X tg e t' := ⟨fun pins s σ H Q I q => h.run pins s σ H Q I (w σ H Q q)⟩
/-- a list, a tuple, a text -/
def iSeq (K : PySem.W.Frag) (tl : TE) : TI := fun σ H R => tl σ H fun v H1 => (∃ a, v = .ref a ∧ (∃ xs, SqL K H1 a xs) ∧ R (Itl K a) H1) ∨ (∃ a, v = .ref a ∧ (∃ xs, SqT K H1 a xs) ∧ R (Itt K a) H1) ∨ ∃ x, v = .str x ∧ R (Its x) H1
theorem pi_seq {X : Cx} {tg l : Expr} {tl : TE} (hl : PE X l tl) : PI X tg l (iSeq X.K tl) := by
  refine ⟨fun pn sh ρ H Rst inv hh => ?_⟩
  refine thn (hl.run pn sh ρ H _ inv hh) fun v sh1 ⟨txt, Hn, iv1, r1, post1⟩ => ?_
  rcases post1 with ⟨a, ej, ⟨xs, hsq⟩, post⟩ | ⟨a, ej, ⟨xs, hsq⟩, post⟩ | ⟨txt, ej, post⟩
  · subst ej
    cases r1
    obtain ⟨vs, rr, p, hsz⟩ := iv1.list hsq
    refine wpAny_pyIter_list p.isList ?_
    refine ⟨sh1.heap.objs.size, [sh1.heap.objs.size], _, _, Hn, rfl, iv1.kept (t' := sh1.toks) fun j o ej => Heap.get?_push_of_some _ ej, turn_list a _, ⟨_, Heap.get?_push_size _ rfl, rfl, rfl⟩, fun j hb => ?_, post⟩
    have ej : j = sh1.heap.objs.size := by simpa using hb
    subst ej
    exact iv1.fpOk (Nat.le_refl _) (iv1.hok.fresh (Nat.le_refl _))
  · subst ej
    cases r1
    obtain ⟨vs, rr, p, hsz⟩ := iv1.tuple hsq
    refine wpAny_pyIter_tuple (show sh1.heap.IsTuple a vs.toArray from p) ?_
    refine ⟨sh1.heap.objs.size, [sh1.heap.objs.size], _, _, Hn, rfl, iv1.kept (t' := sh1.toks) fun j o ej => Heap.get?_push_of_some _ ej, turn_tuple a _, ⟨_, Heap.get?_push_size _ rfl, rfl, rfl⟩, fun j hb => ?_, post⟩
    have ej : j = sh1.heap.objs.size := by simpa using hb
    subst ej
    exact iv1.fpOk (Nat.le_refl _) (iv1.hok.fresh (Nat.le_refl _))
  · subst ej
    obtain ⟨t, rfl⟩ := r1
    cases asc : txt.cps.all (· < 128)
    · exact wpAny_pyIter_wide asc (pi_one (tk := sh1.toks) iv1 _ (turn_str _ txt t "str_iterator" (.inr rfl)) ⟨_, Heap.get?_push_size _ rfl, rfl, rfl⟩ post)
    · exact wpAny_pyIter_ascii asc (pi_one (tk := sh1.toks) iv1 _ (turn_str _ txt t "str_ascii_iterator" (.inl rfl)) ⟨_, Heap.get?_push_size _ rfl, rfl, rfl⟩ post)
section
variable {K : PySem.W.Frag} {mg : MG} {c c1 c' : Cc} {P : List Addr} {env : Env} {S S1 S' : Store} {σ : L2.St} {H H1 H' : Hp} {W : WX} {a b : Addr} {vs ws : List V} {ds es : List D} {d x y z : D} {v w : V} {Q : VK}
/-- a list of ds at a, to stay under what grows outside P -/
def Stay (c : Cc) (P : List Addr) (H : Hp) (a : Addr) (vs : List V) (ds : List D) : Prop := Rd H a (.lst vs) ∧ (a ∉ c.lv ∨ a ∈ P) ∧ Reps c H ds vs
theorem Stay.ext (s : Stay c P H a vs ds) (e : Ext c P H c1 H1) : Rd H1 a (.lst vs) ∧ Reps c1 H1 ds vs := by
  obtain ⟨h, n, r⟩ := s
  refine ⟨e.rd h fun w1 w2 => ?_, e.reps _ _ r⟩
  rcases n with n | n
  · exact absurd w1 n
  · exact absurd n w2
theorem itl_ok (s : Stay c P H a vs ds) : ItOk c P H ds (Itl c.K a) := by
  intro c1 H1 e
  obtain ⟨h, r⟩ := s.ext e
  have hl := r.length
  refine ⟨fun i hi => ?_, ⟨vs, .inl h, by omega⟩⟩
  obtain ⟨v, e1, r1⟩ := r.get (List.getElem?_eq_getElem hi)
  refine ⟨⟨vs, v, .inl h, e1⟩, fun x H2 q => ?_⟩
  obtain ⟨rfl, q⟩ := q
  have e2 := (q vs (.inl h)).symm.trans e1
  cases e2
  exact ⟨fun _ _ z => z, _, List.getElem?_eq_getElem hi, r1⟩
theorem itt_ok (h0 : SqT c.K H a vs) (r0 : Reps c H ds vs) : ItOk c P H ds (Itt c.K a) := by
  intro c1 H1 e
  have h := e.sqT h0
  have r := e.reps _ _ r0
  have hl := r.length
  rw [e.K] at h
  refine ⟨fun i hi => ?_, ⟨vs, h, by omega⟩⟩
  obtain ⟨v, e1, r1⟩ := r.get (List.getElem?_eq_getElem hi)
  refine ⟨⟨vs, v, h, e1⟩, fun x H2 q => ?_⟩
  obtain ⟨rfl, q⟩ := q
  have e2 := (q vs h).symm.trans e1
  cases e2
  exact ⟨fun _ _ z => z, _, List.getElem?_eq_getElem hi, r1⟩
theorem its_ok {s : Str} : ItOk c P H (s.cps.toList.map fun c => .str ⟨#[c]⟩) (Its s) := by
  intro c1 H1 e
  refine ⟨fun i hi => ?_, ?_⟩
  · rw [List.length_map, Array.length_toList] at hi
    refine ⟨hi, fun x H2 q => ?_⟩
    obtain ⟨rfl, k, e1, rfl⟩ := q
    refine ⟨fun _ _ z => z, .str ⟨#[k]⟩, ?_, rfl⟩
    rw [List.getElem?_map, Array.getElem?_toList, e1]
    rfl
  · rw [List.length_map, Array.length_toList]
    exact Nat.le_refl _
theorem rngI_len {lo : Int} {n : Nat} : (rngI lo n).length = n := by
  unfold rngI
  rw [List.length_map, List.length_range]
theorem rngI_get {lo : Int} {n i : Nat} (h : i < n) : (rngI lo n)[i]? = some (.int (lo + (i : Nat))) := by
  unfold rngI
  rw [List.getElem?_map, List.getElem?_range h]
  rfl
theorem itr_ok {lo : Int} {n : Nat} : ItOk c P H (rngI lo n) (Itr lo n) := by
  intro c1 H1 e
  refine ⟨fun i hi => ?_, ?_⟩
  · rw [rngI_len] at hi
    refine ⟨hi, fun x H2 q => ?_⟩
    obtain ⟨rfl, rfl⟩ := q
    exact ⟨fun _ _ z => z, _, rngI_get hi, rfl⟩
  · rw [rngI_len]
    exact Nat.le_refl _
end
section
variable {X : Cx} {a b e o i l : Expr} {es rest : List Expr} {f : EM D} {g : EM (List D)} {pos p : Pos} {x : Str} {tg : Expr}
theorem si_seq (ha : SE X l f) : SI RepI X tg l (iS f) := ⟨fun pn xe W hp tk => wI (pi_seq (ha.run pn xe W hp tk)) fun σ H R ⟨c, P, env, S, st, q⟩ => by
  refine gbind st q fun c1 S1 H1 d v x1 st1 r1 q1 => ?_
  obtain ⟨ds, e, q2⟩ := GPost.lift q1
  cases d with
  | lst xs =>
    cases e
    obtain ⟨a, vs, rfl, h1, h2⟩ := r1
    refine .inl ⟨a, rfl, ⟨vs, .inl h1.1⟩, q2.here st1 ?_⟩
    have z := itl_ok (P := []) (show Stay c1 [] H1 a vs _ from ⟨h1.1, .inl h1.2, h2⟩)
    rw [st1.K] at z
    exact z
  | tup xs =>
    cases e
    obtain ⟨a, vs, rfl, h1, h2⟩ := r1
    refine .inr (.inl ⟨a, rfl, ⟨vs, by rw [← show c1.K = (X.tr pn xe).K from st1.K]; exact h1⟩, q2.here st1 ?_⟩)
    have z := itt_ok (P := []) h1 h2
    rw [st1.K] at z
    exact z
  | str s =>
    cases e
    have e1 : v = .str s := r1
    subst e1
    exact .inr (.inr ⟨s, rfl, q2.here st1 its_ok⟩)
  | _ => cases e⟩
/-- the frame's own list may be walked where nothing but an expression comes between -/
theorem sj_seq (ha : SB X l f) : SI RepJ X tg l (iS f) := ⟨fun pn xe W hp tk => wI (pi_seq (ha.run pn xe W hp tk)) fun σ H R ⟨c, P, env, S, st, q⟩ => by
  refine gbind st q fun c1 S1 H1 d v x1 st1 r1 q1 => ?_
  obtain ⟨ds, e, q2⟩ := GPost.lift q1
  cases d with
  | lst xs =>
    cases e
    have z : ∃ a vs, v = .ref a ∧ Stay c1 P H1 a vs ds := by
      rcases r1 with ⟨a, vs, rfl, h1, h2⟩ | ⟨ds', a, vs, e, rfl, h1, h2, h3⟩
      · exact ⟨a, vs, rfl, h1.1, .inl h1.2, h2⟩
      · cases e
        exact ⟨a, vs, rfl, .inl h2, .inr h1, h3⟩
    obtain ⟨a, vs, rfl, h⟩ := z
    refine .inl ⟨a, rfl, ⟨vs, .inl h.1⟩, q2.here st1 ?_⟩
    have z := itl_ok h
    rw [st1.K] at z
    exact z
  | tup xs =>
    cases e
    obtain ⟨a, vs, rfl, h1, h2⟩ := r1.tup
    refine .inr (.inl ⟨a, rfl, ⟨vs, by rw [← show c1.K = (X.tr pn xe).K from st1.K]; exact h1⟩, q2.here st1 ?_⟩)
    have z := itt_ok (P := P) h1 h2
    rw [st1.K] at z
    exact z
  | str s =>
    cases e
    have e1 : v = .str s := r1.str
    subst e1
    exact .inr (.inr ⟨s, rfl, q2.here st1 its_ok⟩)
  | _ => cases e⟩
theorem si_j (h : SI RepI X tg l g) : SI RepJ X tg l g := ⟨fun pn xe W hp tk => wI (h.run pn xe W hp tk) fun σ H Q ⟨c, P, env, S, st, q⟩ => ⟨c, P, env, S, st, by
  cases o : g env S with
  | ok a S' =>
    rw [o] at q
    exact fun c' H' b e w r => q c' H' b e w fun c1 H1 e1 => r c1 H1 (e1.mono fun _ z => nomatch z)
  | exc n S' =>
    rw [o] at q
    exact q
  | stuck =>
    rw [o] at q
    exact q⟩⟩
end
end Kb

set_option Elab.async false
set_option linter.all false
set_option maxRecDepth 100000
/-! Kb5b: range, enumerate, zip; comprehensions. -/
namespace Kb
open PySem PySem.Spec PyProof.Rows L2 RZ
section
variable {K : PySem.W.Frag} {mg : MG} {c c1 c' : Cc} {P : List Addr} {env : Env} {S S1 S' : Store} {σ : L2.St} {H H1 H' : Hp} {W : WX} {a b : Addr} {vs ws : List V} {ds es : List D} {d x y z : D} {v w : V} {Q : VK}
theorem ite_ok (s : Stay c P H a vs ds) : ItOk c P H (enumL ds) (Ite c.K a) := by
  intro c1 H1 e
  obtain ⟨h, r⟩ := s.ext e
  have hl := r.length
  refine ⟨fun i hi => ?_, ⟨vs, .inl h, by unfold enumL; rw [List.length_mapIdx]; omega⟩⟩
  have hi' : i < ds.length := by
    unfold enumL at hi
    rw [List.length_mapIdx] at hi
    exact hi
  obtain ⟨v, e1, r1⟩ := r.get (List.getElem?_eq_getElem hi')
  refine ⟨⟨vs, v, .inl h, e1⟩, fun x H2 q => ?_⟩
  obtain ⟨T, x1, rfl, nT, rfl, q⟩ := q
  have e2 := (q vs (.inl h)).symm.trans e1
  cases e2
  refine ⟨grow_new nT, .tup [.int (i : Nat), ds[i]], ?_, T, _, rfl, SqT.of upd_same, _, _, rfl, rfl, _, _, rfl, (ext_new (P := P) nT).rep _ _ r1, rfl⟩
  unfold enumL
  rw [List.getElem?_mapIdx, List.getElem?_eq_getElem hi']
  rfl
theorem zipL_len : (zipL ds es).length = min ds.length es.length := by
  unfold zipL
  rw [List.length_zipWith]
theorem itz_ok (s : Stay c P H a vs ds) (s2 : Stay c P H b ws es) : ItOk c P H (zipL ds es) (Itz c.K a b) := by
  intro c1 H1 e
  obtain ⟨h, r⟩ := s.ext e
  obtain ⟨h2, r2⟩ := s2.ext e
  have hl := r.length
  have hl2 := r2.length
  refine ⟨fun i hi => ?_, ⟨vs, ws, .inl h, .inl h2, by rw [zipL_len]; omega⟩⟩
  rw [zipL_len] at hi
  obtain ⟨v, e1, r1⟩ := r.get (List.getElem?_eq_getElem (show i < ds.length by omega))
  obtain ⟨w, f1, t1⟩ := r2.get (List.getElem?_eq_getElem (show i < es.length by omega))
  refine ⟨⟨vs, ws, v, w, .inl h, .inl h2, e1, f1⟩, fun x H2 q => ?_⟩
  obtain ⟨T, x1, x2, rfl, nT, rfl, q, q2⟩ := q
  have e2 := (q vs (.inl h)).symm.trans e1
  cases e2
  have f2 := (q2 ws (.inl h2)).symm.trans f1
  cases f2
  refine ⟨grow_new nT, .tup [ds[i], es[i]], ?_, T, _, rfl, SqT.of upd_same, _, _, rfl, (ext_new (P := P) nT).rep _ _ r1, _, _, rfl, (ext_new (P := P) nT).rep _ _ t1, rfl⟩
  unfold zipL
  rw [List.getElem?_zipWith, List.getElem?_eq_getElem (show i < ds.length by omega), List.getElem?_eq_getElem (show i < es.length by omega)]
theorem itzT_ok (s0 : SqT c.K H a vs) (r0 : Reps c H ds vs) (t0 : SqT c.K H b ws) (q0 : Reps c H es ws) : ItOk c P H (zipL ds es) (ItzT c.K a b) := by
  intro c1 H1 e
  have h := e.sqT s0
  have h2 := e.sqT t0
  rw [e.K] at h h2
  have r := e.reps _ _ r0
  have r2 := e.reps _ _ q0
  have hl := r.length
  have hl2 := r2.length
  refine ⟨fun i hi => ?_, ⟨vs, ws, h, h2, by rw [zipL_len]; omega⟩⟩
  rw [zipL_len] at hi
  obtain ⟨v, e1, r1⟩ := r.get (List.getElem?_eq_getElem (show i < ds.length by omega))
  obtain ⟨w, f1, t1⟩ := r2.get (List.getElem?_eq_getElem (show i < es.length by omega))
  refine ⟨⟨vs, ws, v, w, h, h2, e1, f1⟩, fun x H2 q => ?_⟩
  obtain ⟨T, x1, x2, rfl, nT, rfl, q, q2⟩ := q
  have e2 := (q vs h).symm.trans e1
  cases e2
  have f2 := (q2 ws h2).symm.trans f1
  cases f2
  refine ⟨grow_new nT, .tup [ds[i], es[i]], ?_, T, _, rfl, SqT.of upd_same, _, _, rfl, (ext_new (P := P) nT).rep _ _ r1, _, _, rfl, (ext_new (P := P) nT).rep _ _ t1, rfl⟩
  unfold zipL
  rw [List.getElem?_zipWith, List.getElem?_eq_getElem (show i < ds.length by omega), List.getElem?_eq_getElem (show i < es.length by omega)]
theorem RepB.stay (r1 : RepB c P H (.lst ds) v) : ∃ a vs, v = .ref a ∧ Stay c P H a vs ds := by
  rcases r1 with ⟨a, vs, rfl, h1, h2⟩ | ⟨ds', a, vs, e, rfl, h1, h2, h3⟩
  · exact ⟨a, vs, rfl, h1.1, .inl h1.2, h2⟩
  · cases e
    exact ⟨a, vs, rfl, .inl h2, .inr h1, h3⟩
theorem Rep.stay (r1 : Rep c H (.lst ds) v) : ∃ a vs, v = .ref a ∧ Stay c [] H a vs ds := by
  obtain ⟨a, vs, rfl, h1, h2⟩ := r1
  exact ⟨a, vs, rfl, h1.1, .inl h1.2, h2⟩
end
section
variable {X : Cx} {a b e o i l : Expr} {es rest : List Expr} {f : EM D} {g : EM (List D)} {pos p tpos : Pos} {x : Str} {tg : Expr} {elts : List Expr} {kk : Nat}
theorem si_range1 (hg : Gl X "range") (hm : X.mg "range" = none) (ha : SA RepL X [a] g) (hs : ∀ X' : Cx, starEach [a] X'.env = [(false, eval a X'.env)] := by intro _; rfl) : SI RepI X tg (.Call (.Name "range" p) [a] [] pos) (iA rng1D g) :=
  ⟨fun pn xe W hp tk => wI (pi_range1 (X := X.tr pn xe) hg hm (ha.run pn xe W hp tk) (hs (X.tr pn xe))) fun σ H R ⟨c, P, env, S, st, q⟩ => by
    refine gbind st q fun c1 S1 H1 d v x1 st1 r1 q1 => ?_
    obtain ⟨ds, e, q2⟩ := GPost.lift q1
    match d, e with
    | [.int j], e =>
      obtain ⟨hl, rfl⟩ := iteS (p := -lim62 ≤ j ∧ j < lim62) e
      rw [lim62_eq] at hl
      obtain ⟨v1, r, rfl, h1, h2⟩ := r1
      have e1 : v1 = .int j := h1
      have e2 : r = [] := h2
      subst e1
      subst e2
      exact ⟨j, rfl, hl.1, hl.2, q2.here st1 itr_ok⟩⟩
theorem si_range2 (hg : Gl X "range") (hm : X.mg "range" = none) (ha : SA RepL X [a, b] g) (hs : ∀ X' : Cx, starEach [a, b] X'.env = [(false, eval a X'.env), (false, eval b X'.env)] := by intro _; rfl) (hs2 : ∀ X' : Cx, starEach [b] X'.env = [(false, eval b X'.env)] := by intro _; rfl) : SI RepI X tg (.Call (.Name "range" p) [a, b] [] pos) (iA rng2D g) :=
  ⟨fun pn xe W hp tk => wI (pi_range2 (X := X.tr pn xe) hg hm (ha.run pn xe W hp tk) (hs (X.tr pn xe)) (hs2 (X.tr pn xe))) fun σ H R ⟨c, P, env, S, st, q⟩ => by
    refine gbind st q fun c1 S1 H1 d v x1 st1 r1 q1 => ?_
    obtain ⟨ds, e, q2⟩ := GPost.lift q1
    match d, e with
    | [.int i, .int j], e =>
      obtain ⟨hl, rfl⟩ := iteS (p := -lim62 ≤ i ∧ i < lim62 ∧ -lim62 ≤ j ∧ j < lim62) e
      rw [lim62_eq] at hl
      obtain ⟨v1, r, rfl, h1, w1, r', rfl, h2, h3⟩ := r1
      have e1 : v1 = .int i := h1
      have e2 : w1 = .int j := h2
      have e3 : r' = [] := h3
      subst e1
      subst e2
      subst e3
      exact ⟨i, j, rfl, hl, q2.here st1 itr_ok⟩⟩
theorem si_zip (hg : Gl X "zip") (hm : X.mg "zip" = none) (ha : SA RepL X [a, b] g) (hs : ∀ X' : Cx, starEach [a, b] X'.env = (false, eval a X'.env) :: starEach [b] X'.env := by intro _; rfl) (hpl : ∀ X' : Cx, (backTo pos (starEach [b] X'.env)).any (·.1) = false := by intro _; rfl) : SI RepI X (.Tuple elts kk tpos) (.Call (.Name "zip" p) [a, b] [] pos) (iA zipD g) :=
  ⟨fun pn xe W hp tk => wI (pi_zipA (X := X.tr pn xe) hg hm (ha.run pn xe W hp tk) (hs (X.tr pn xe)) (hpl (X.tr pn xe))) fun σ H R ⟨c, P, env, S, st, q⟩ => by
    refine gbind st q fun c1 S1 H1 d v x1 st1 r1 q1 => ?_
    obtain ⟨ds, e, q2⟩ := GPost.lift q1
    match d, e with
    | [.lst xs, .lst ys], e =>
      cases e
      obtain ⟨v1, r, rfl, h1, w1, r', rfl, h2, h3⟩ := r1
      have e3 : r' = [] := h3
      subst e3
      obtain ⟨a, vs, rfl, s⟩ := Rep.stay h1
      obtain ⟨b, ws, rfl, s2⟩ := Rep.stay h2
      refine ⟨a, b, vs, ws, rfl, .inl ⟨.inl s.1, .inl s2.1, q2.here st1 ?_⟩⟩
      have z := itz_ok s s2
      rw [st1.K] at z
      exact z
    | [.tup xs, .tup ys], e =>
      cases e
      obtain ⟨v1, r, rfl, h1, w1, r', rfl, h2, h3⟩ := r1
      have e3 : r' = [] := h3
      subst e3
      obtain ⟨a, vs, rfl, s, t⟩ := h1
      obtain ⟨b, ws, rfl, s2, t2⟩ := h2
      refine ⟨a, b, vs, ws, rfl, .inr ⟨by rw [← show c1.K = (X.tr pn xe).K from st1.K]; exact s, by rw [← show c1.K = (X.tr pn xe).K from st1.K]; exact s2, q2.here st1 ?_⟩⟩
      have z := itzT_ok (P := []) s t s2 t2
      rw [st1.K] at z
      exact z⟩
theorem sj_zip (hg : Gl X "zip") (hm : X.mg "zip" = none) (ha : SA RepsB X [a, b] g) (hs : ∀ X' : Cx, starEach [a, b] X'.env = (false, eval a X'.env) :: starEach [b] X'.env := by intro _; rfl) (hpl : ∀ X' : Cx, (backTo pos (starEach [b] X'.env)).any (·.1) = false := by intro _; rfl) : SI RepJ X (.Tuple elts kk tpos) (.Call (.Name "zip" p) [a, b] [] pos) (iA zipD g) :=
  ⟨fun pn xe W hp tk => wI (pi_zipA (X := X.tr pn xe) hg hm (ha.run pn xe W hp tk) (hs (X.tr pn xe)) (hpl (X.tr pn xe))) fun σ H R ⟨c, P, env, S, st, q⟩ => by
    refine gbind st q fun c1 S1 H1 d v x1 st1 r1 q1 => ?_
    obtain ⟨ds, e, q2⟩ := GPost.lift q1
    match d, e with
    | [.lst xs, .lst ys], e =>
      cases e
      obtain ⟨v1, w1, rfl, h1, h2⟩ := RepsB.two r1
      obtain ⟨a, vs, rfl, s⟩ := h1.stay
      obtain ⟨b, ws, rfl, s2⟩ := h2.stay
      refine ⟨a, b, vs, ws, rfl, .inl ⟨.inl s.1, .inl s2.1, q2.here st1 ?_⟩⟩
      have z := itz_ok s s2
      rw [st1.K] at z
      exact z
    | [.tup xs, .tup ys], e =>
      cases e
      obtain ⟨v1, w1, rfl, h1, h2⟩ := RepsB.two r1
      obtain ⟨a, vs, rfl, s, t⟩ := h1.tup
      obtain ⟨b, ws, rfl, s2, t2⟩ := h2.tup
      refine ⟨a, b, vs, ws, rfl, .inr ⟨by rw [← show c1.K = (X.tr pn xe).K from st1.K]; exact s, by rw [← show c1.K = (X.tr pn xe).K from st1.K]; exact s2, q2.here st1 ?_⟩⟩
      have z := itzT_ok (P := P) s t s2 t2
      rw [st1.K] at z
      exact z⟩
end
/-! ### targets -/
def tT (K : PySem.W.Frag) (mg : MG) (tg : Tg) : TG := fun v σ H Q => ∃ c P env S d env', Sta K mg c P env S σ H ∧ Rep c H d v ∧ tg.put d env = some env' ∧
  ∀ σ', σ'.length = σ.length → (∀ j, j ∉ tg.idx → σ'[j]? = σ[j]?) → ER c P env' S σ' H → Q σ' H
def tTs (K : PySem.W.Frag) (mg : MG) (ts : List Tg) : TGs := fun vs σ H Q => ∃ c P env S ds env', Sta K mg c P env S σ H ∧ Reps c H ds vs ∧ Tg.puts ts ds env = some env' ∧
  ∀ σ', σ'.length = σ.length → (∀ j, j ∉ Tg.idxs ts → σ'[j]? = σ[j]?) → ER c P env' S σ' H → Q σ' H
structure STg (X : Cx) (e : Expr) (tg : Tg) : Prop where
  run : ∀ pn xe, PG (X.tr pn xe) e (tT X.K (xm X) tg)
structure STgs (X : Cx) (es : List Expr) (ts : List Tg) : Prop where
  run : ∀ pn xe, PGs (X.tr pn xe) es (tTs X.K (xm X) ts)
theorem wG {X : Cx} {e : Expr} {t t' : TG} (h : PG X e t) (w : ∀ v σ H Q, t' v σ H Q → t v σ H Q) : PG X e t' := ⟨fun pins s σ H v u Q I r q => h.run pins s σ H v u Q I r (w v σ H Q q)⟩
theorem wGs {X : Cx} {e : List Expr} {t t' : TGs} (h : PGs X e t) (w : ∀ v σ H Q, t' v σ H Q → t v σ H Q) : PGs X e t' := ⟨fun pins s σ H v u Q I r q => h.run pins s σ H v u Q I r (w v σ H Q q)⟩
theorem pg_or {X : Cx} {e : Expr} {t t' : TG} (h : PG X e t) (h' : PG X e t') : PG X e (fun v σ H Q => t v σ H Q ∨ t' v σ H Q) := ⟨fun pins s σ H v u Q I r q => by
  rcases q with q | q
  · exact h.run pins s σ H v u Q I r q
  · exact h'.run pins s σ H v u Q I r q⟩
theorem ER.put {c : Cc} {P : List Addr} {env : Env} {S : Store} {σ : L2.St} {H : Hp} {i : Nat} {d : D} {v : V} (er : ER c P env S σ H) (r : Rep c H d v) : ER c P (env.set i (.val d)) S (σ.set i (some v)) H := by
  refine ⟨by simp [er.len], er.w, fun j s e => ?_⟩
  by_cases hj : j = i
  · subst hj
    have hl : j < env.length := by
      have := (List.getElem?_eq_some_iff.mp e).1
      simpa using this
    rw [List.getElem?_set_self hl] at e
    cases e
    have hl2 : j < σ.length := by rw [← er.len]; exact hl
    rw [List.getElem?_set_self hl2]
    exact ⟨v, rfl, r⟩
  · rw [List.getElem?_set_ne (Ne.symm hj)] at e
    rw [List.getElem?_set_ne (Ne.symm hj)]
    exact er.slots j s e
section
variable {X : Cx} {e : Expr} {es : List Expr} {t : Tg} {ts : List Tg} {x : Str} {pos : Pos} {k : Nat}
theorem stg_name (i : Nat) (hN : X.N.Nodup) (hi : X.N[i]? = some x := by rfl) (hx : Loc X.env.scope x := by first | exact Or.inl rfl | exact Or.inr rfl) (hf : X.fn x = true ∨ X.env.scope.names.lookup x = some .local := by first | exact .inl rfl | exact .inr rfl) : STg X (.Name x pos) (.nm i) := ⟨fun pn xe => wG (pg_name (X := X.tr pn xe) (i := i) hN hi hx hf) fun v σ H Q ⟨c, P, env, S, d, env', st, r, e, q⟩ => by
  cases e
  refine q _ (by simp) (fun j hj => ?_) (st.er.put r)
  rw [List.getElem?_set_ne]
  intro z
  exact hj (by rw [← z]; exact List.mem_singleton.mpr rfl)⟩
theorem stgs_nil : STgs X [] [] := ⟨fun pn xe => wGs pgs_nil fun v σ H Q ⟨c, P, env, S, ds, env', st, r, e, q⟩ => by
  cases ds with
  | nil =>
    have e' : some env = some env' := e
    cases e'
    exact ⟨r, q σ rfl (fun _ _ => rfl) st.er⟩
  | cons d ds => cases e⟩
theorem stgs_cons (h1 : STg X e t) (h2 : STgs X es ts) (ha : ∀ X' : Cx, (assignEach (e :: es) X'.env).map (·.2) = assign e X'.env :: (assignEach es X'.env).map (·.2) := by intro _; rfl) : STgs X (e :: es) (t :: ts) := ⟨fun pn xe => wGs (pgs_cons (h1.run pn xe) (h2.run pn xe) (ha (X.tr pn xe))) fun v σ H Q ⟨c, P, env, S, ds, env', st, r, e, q⟩ => by
  cases ds with
  | nil => cases e
  | cons d ds =>
    obtain ⟨v1, vr, rfl, r1, r2⟩ := r
    have e' : (t.put d env).bind (fun env2 => Tg.puts ts ds env2) = some env' := e
    cases q1 : t.put d env with
    | none => rw [q1] at e'; cases e'
    | some env2 =>
      rw [q1] at e'
      refine ⟨v1, vr, rfl, c, P, env, S, d, env2, st, r1, q1, fun σ2 l2 o2 er2 => ?_⟩
      refine ⟨c, P, env2, S, ds, env', ⟨st.K, st.mg, er2⟩, r2, e', fun σ3 l3 o3 er3 => q σ3 (l3.trans l2) (fun j hj => ?_) er3⟩
      have hj' : j ∉ t.idx ++ Tg.idxs ts := hj
      rw [List.mem_append] at hj'
      rw [o3 j fun z => hj' (.inr z), o2 j fun z => hj' (.inl z)]⟩
theorem puts_len : ∀ {ts : List Tg} {ds : List D} {env env' : Env}, Tg.puts ts ds env = some env' → ds.length = ts.length
  | [], [], _, _, _ => rfl
  | [], _ :: _, _, _, h => nomatch h
  | _ :: _, [], _, _, h => nomatch h
  | t :: ts, d :: ds, env, env', h => by
    have e' : (t.put d env).bind (fun env2 => Tg.puts ts ds env2) = some env' := h
    cases q1 : t.put d env with
    | none => rw [q1] at e'; cases e'
    | some env2 =>
      rw [q1] at e'
      rw [List.length_cons, List.length_cons, puts_len e']
theorem stg_tup (hc : X.calm = true) (h : STgs X es ts) (hn : ∀ X' : Cx, (assignEach es X'.env).length = ts.length := by intro _; rfl) (hst : ∀ X' : Cx, (assignEach es X'.env).findIdx? (·.1) = none := by intro _; rfl) : STg X (.Tuple es k pos) (.tp ts) := ⟨fun pn xe =>
  wG (pg_or (pg_tup (X := X.tr pn xe) hc (h.run pn xe) (hn (X.tr pn xe)) (hst (X.tr pn xe))) (pg_lst (X := X.tr pn xe) hc (h.run pn xe) (hn (X.tr pn xe)) (hst (X.tr pn xe)))) fun v σ H Q ⟨c, P, env, S, d, env', st, r, e, q⟩ => by
    cases d with
    | tup ds =>
      have e' : Tg.puts ts ds env = some env' := e
      obtain ⟨a, vs, rfl, h1, h2⟩ := r
      exact .inl ⟨a, vs, rfl, by rw [← show c.K = (X.tr pn xe).K from st.K]; exact h1, by rw [h2.length, puts_len e'], c, P, env, S, ds, env', st, h2, e', q⟩
    | lst ds =>
      have e' : Tg.puts ts ds env = some env' := e
      obtain ⟨a, vs, rfl, h1, h2⟩ := r
      exact .inr ⟨a, vs, rfl, .inl h1.1, by rw [h2.length, puts_len e'], c, P, env, S, ds, env', st, h2, e', q⟩
    | _ => cases e⟩
end
/-! ### comprehensions -/
theorem ER.wipe {c : Cc} {P : List Addr} {env : Env} {S : Store} {σ : L2.St} {H : Hp} (er : ER c P env S σ H) : ∀ vs : List Nat, ER c P (Kb.wipe env vs) S (L2.wipe σ vs) H
  | [] => er
  | v :: vs => by
    have ih := ER.wipe er vs
    refine ⟨by show ((Kb.wipe env vs).set v .no).length = ((L2.wipe σ vs).set v none).length; simp [ih.len], ih.w, fun j s e => ?_⟩
    have e' : ((Kb.wipe env vs).set v .no)[j]? = some s := e
    show SlotOk c P H s ((((L2.wipe σ vs).set v none)[j]?).getD none)
    by_cases hj : j = v
    · subst hj
      have hl : j < (Kb.wipe env vs).length := by
        have := (List.getElem?_eq_some_iff.mp e').1
        simpa using this
      rw [List.getElem?_set_self hl] at e'
      cases e'
      trivial
    · rw [List.getElem?_set_ne (Ne.symm hj)] at e'
      rw [List.getElem?_set_ne (Ne.symm hj)]
      exact ih.slots j s e'
theorem wipe_get {σ : L2.St} : ∀ {vs : List Nat} {j : Nat}, j ∈ vs → j < σ.length → (L2.wipe σ vs)[j]? = some none
  | [], _, h, _ => nomatch h
  | v :: vs, j, h, hl => by
    show ((L2.wipe σ vs).set v none)[j]? = some none
    by_cases hj : j = v
    · subst hj
      rw [List.getElem?_set_self (by rw [wipe_length]; exact hl)]
    · rw [List.getElem?_set_ne (Ne.symm hj)]
      refine wipe_get ?_ hl
      rcases List.mem_cons.mp h with z | z
      · exact absurd z hj
      · exact z
theorem wipe_eq {σ σ' : L2.St} {vs : List Nat} (hl : σ'.length = σ.length) (h : ∀ j, j ∉ vs → σ'[j]? = σ[j]?) : L2.wipe σ' vs = L2.wipe σ vs := by
  refine List.ext_getElem? fun j => ?_
  by_cases hj : j ∈ vs
  · by_cases hlt : j < σ.length
    · rw [wipe_get hj hlt, wipe_get hj (by omega)]
    · rw [List.getElem?_eq_none (by rw [wipe_length]; omega), List.getElem?_eq_none (by rw [wipe_length]; omega)]
  · rw [wipe_out hj, wipe_out hj, h j hj]
theorem wipe_wipe {σ : L2.St} {vs : List Nat} : L2.wipe (L2.wipe σ vs) vs = L2.wipe σ vs := wipe_eq (wipe_length _ _) fun j hj => wipe_out hj
/-- the tests of a comprehension: none or one -/
structure STs (X : Cx) (ifs : List Expr) (t : EM Bool) : Prop where
  run : ∀ (pn : List (Addr × Obj)) (xe : Value → Shared → Prop) (W : WX), (∀ p ∈ X.pn, p ∈ pn) → Takes (X.tr pn xe) W → PTs (X.tr pn xe) ifs (tG X.K (xm X) RepT t W)
theorem sts_nil {X : Cx} : STs X [] tYes := ⟨fun pn xe W hp tk => ⟨fun pins s σ H Q I ⟨c, P, env, S, st, q⟩ => pts_nil.run pins s σ H Q I (q.here st rfl)⟩⟩
theorem sts_one {X : Cx} {e : Expr} {t : EM Bool} (h : ST X e t) : STs X [e] t := ⟨fun pn xe W hp tk => pts_one (h.run pn xe W hp tk)⟩
abbrev W0 : WX := fun _ _ _ _ => False
/-- a new list, nobody else's yet -/
def FPost (c : Cc) (P : List Addr) (H : Hp) (W : WX) (σ : L2.St) (Q : VK) : Out (List D) → Prop
  | .ok ds S' => ∀ c' H' L vs, Ext c P H c' H' → H L = none → H' L = some (.lst vs) → WOk c' (L :: P) S' H' → Reps c' H' ds vs → Q (.ref L) H'
  | .exc n S' => ∀ c' H' C, Ext c P H c' H' → WOk c' P S' H' → c.mg.1 (Str.ofString n) = some (.ref C) → W (.ref C) none σ H'
  | .stuck => False
def tFr (K : PySem.W.Frag) (mg : MG) (f : EM (List D)) (W : WX) : TE := fun σ H Q => ∃ c P env S, Sta K mg c P env S σ H ∧ FPost c P H W σ Q (f env S)
structure SF (X : Cx) (e : Expr) (f : EM (List D)) : Prop where
  run : ∀ (pn : List (Addr × Obj)) (xe : Value → Shared → Prop) (W : WX), (∀ p ∈ X.pn, p ∈ pn) → Takes (X.tr pn xe) W → PE (X.tr pn xe) e (tFr X.K (xm X) f W)
section
variable {K : PySem.W.Frag} {mg : MG} {c c1 c' : Cc} {P : List Addr} {env : Env} {S S1 S' : Store} {σ : L2.St} {H H1 H' : Hp} {W : WX} {a b L : Addr} {vs ws : List V} {ds es : List D} {d x y z : D} {v w : V} {Q : VK}
theorem FPost.ext {o : Out (List D)} (h : FPost c P H W σ Q o) (e : Ext c P H c' H') : FPost c' P H' W σ Q o := by
  cases o with
  | ok a S' =>
    refine fun c2 H2 L vs e2 n h2 w r => h c2 H2 L vs (e.trans e2) ?_ h2 w r
    cases z : H L with
    | none => rfl
    | some u =>
      obtain ⟨u', q⟩ := e.there L u z
      rw [n] at q
      cases q
  | exc n S' => exact fun c2 H2 C e2 w m => h c2 H2 C (e.trans e2) w (by rw [← e.mg]; exact m)
  | stuck => exact h
/-- first f, then k, that makes a new list -/
theorem fbind {α β : Type} {R : RR α β} {Q1 : β → Hp → Prop} {f : EM α} {k : α → Store → Out (List D)} (st : Sta K mg c P env S σ H) (h : FPost c P H W σ Q ((f env S).bind k))
    (step : ∀ c1 S1 H1 a b, Ext c P H c1 H1 → Sta K mg c1 P env S1 σ H1 → R c1 P H1 a b → FPost c1 P H1 W σ Q (k a S1) → Q1 b H1) : tG K mg R f W σ H Q1 := by
  refine ⟨c, P, env, S, st, ?_⟩
  cases o : f env S with
  | ok a S1 =>
    rw [o] at h
    exact fun c1 H1 b e w r => step c1 S1 H1 a b e (st.ext e w) r (h.ext e)
  | exc n S1 =>
    rw [o] at h
    exact h
  | stuck =>
    rw [o] at h
    exact h
/-- the list at L is nobody's any more, or no longer one of the frame's own -/
def less (c : Cc) (P : List Addr) : Cc := ⟨c.K, c.mg, P ++ c.cm, c.ca, c.cm⟩
theorem WOk.less (w : WOk c (L :: P) S H) : WOk (Kb.less c P) P S H := by
  have hl : ∀ a u, H a = some u → a ∉ c.lv → a ∉ P ++ c.cm := fun a u _ n q => n ((w.lv a).mpr (by
    rcases List.mem_append.mp q with q | q
    · exact .inl (List.mem_cons_of_mem _ q)
    · exact .inr q))
  refine ⟨fun a => List.mem_append, fun a h q => w.disj a h (List.mem_cons_of_mem _ q), w.nd, fun a h => w.there a (List.mem_cons_of_mem _ h), w.len, fun n ds a e1 e2 => ?_⟩
  obtain ⟨vs, z, r⟩ := w.cells n ds a e1 e2
  exact ⟨vs, z, Reps.turn hl (fun _ _ z => z) r⟩
theorem Reps.less (w : WOk c (L :: P) S H) (r : Reps c H ds vs) : Reps (Kb.less c P) H ds vs := by
  refine Reps.turn (fun a u _ n q => n ((w.lv a).mpr ?_)) (fun _ _ z => z) r
  rcases List.mem_append.mp q with q | q
  · exact .inl (List.mem_cons_of_mem _ q)
  · exact .inr q
theorem Ext.less (e : Ext c P H c' H') (w : WOk c' (L :: P) S H') : Ext c P H (Kb.less c' P) H' :=
  ⟨e.K, e.mg, e.cm, fun a h => e.lv a ((w.lv a).mpr (by
    rcases List.mem_append.mp h with h | h
    · exact .inl (List.mem_cons_of_mem _ h)
    · exact .inr h)), e.there, e.keep⟩
theorem notin_less (st : Sta K mg c P env S σ H) (n : H L = none) (w : WOk c' (L :: P) S' H') : L ∉ (Kb.less c' P).lv := fun q => by
  rcases List.mem_append.mp q with q | q
  · obtain ⟨u, z⟩ := st.er.w.there L q
    rw [n] at z; cases z
  · exact w.disj L q List.mem_cons_self
/-- .. as a list that stays -/
theorem frs_of {f : EM (List D)} (h : tG K mg RepV (eLst f) W σ H Q) : tFr K mg f W σ H Q := by
  obtain ⟨c, P, env, S, st, q⟩ := h
  refine ⟨c, P, env, S, st, ?_⟩
  have q' : GPost c P H W σ RepV Q ((f env S).bind fun ds S1 => .ok (.lst ds) S1) := q
  cases o : f env S with
  | ok ds S1 =>
    rw [o] at q'
    intro c' H' L vs e n h2 w r
    exact q' (Kb.less c' P) H' (.ref L) (e.less w) w.less ⟨L, vs, rfl, ⟨.inl h2, notin_less st n w⟩, Reps.less w r⟩
  | exc n S1 =>
    rw [o] at q'
    exact q'
  | stuck =>
    rw [o] at q'
    exact q'
/-- a new list laid beside -/
theorem FPost.lay (st : Sta K mg c P env S σ H) (h : FPost c P H W σ Q (.ok ds S)) (r : Reps c H ds vs) {p : Addr} (hp : H p = none) : Q (.ref p) (upd H p (.lst vs)) := by
  have hl : ∀ a u, H a = some u → a ∉ c.lv → a ∉ p :: c.lv := fun a u z n q => by
    rcases List.mem_cons.mp q with q | q
    · rw [q, hp] at z; cases z
    · exact n q
  have g := grow_new (o := .lst vs) hp
  refine h ⟨c.K, c.mg, p :: c.lv, c.ca, c.cm⟩ _ p vs ⟨rfl, rfl, fun _ _ z => z, fun a q => ?_, fun a u z => ⟨u, g a u z⟩, fun a u z _ => g a u z⟩ hp upd_same ⟨fun a => ?_, fun a q z => ?_, st.er.w.nd, fun a q => ?_, st.er.w.len, fun n ds a e1 e2 => ?_⟩ ?_
  · rcases List.mem_cons.mp q with q | q
    · exact .inr (by rw [q]; exact hp)
    · exact .inl q
  · constructor
    · intro q
      rcases List.mem_cons.mp q with q | q
      · exact .inl (by rw [q]; exact List.mem_cons_self)
      · rcases (st.er.w.lv a).mp q with q | q
        · exact .inl (List.mem_cons_of_mem _ q)
        · exact .inr q
    · intro q
      rcases q with q | q
      · rcases List.mem_cons.mp q with q | q
        · rw [q]; exact List.mem_cons_self
        · exact List.mem_cons_of_mem _ ((st.er.w.lv a).mpr (.inl q))
      · exact List.mem_cons_of_mem _ ((st.er.w.lv a).mpr (.inr q))
  · rcases List.mem_cons.mp z with z | z
    · rw [z] at q
      exact st.new_lv hp ((st.er.w.lv p).mpr (.inr q))
    · exact st.er.w.disj a q z
  · rcases List.mem_cons.mp q with q | q
    · rw [q]; exact ⟨_, upd_same⟩
    · obtain ⟨u, z⟩ := st.er.w.there a q
      exact ⟨u, g a u z⟩
  · obtain ⟨vs', z, r'⟩ := st.er.w.cells n ds a e1 e2
    exact ⟨vs', g a _ z, (ext_grow (P := P) g).reps _ _ (Reps.turn hl (fun _ _ z => z) r')⟩
  · exact (ext_grow (P := P) g).reps _ _ (Reps.turn hl (fun _ _ z => z) r)
end
section
variable {X : Cx} {a b e o i l : Expr} {es rest : List Expr} {f g h : EM D} {pos p : Pos} {x : Str} {F : EM (List D)}
theorem se_fr (h : SF X e F) : SE X e (eLst F) := ⟨fun pn xe W hp tk => wE (h.run pn xe W hp tk) fun σ H Q q => frs_of q⟩
/-- [a, b, ..] -/
theorem sf_lst (ha : SA RepL X es F) : SF X (.List es pos) (fLst F) := ⟨fun pn xe W hp tk => wE (pe_lst (ha.run pn xe W hp tk)) fun σ H Q ⟨c, P, env, S, st, q⟩ => by
  refine fbind st q fun c1 S1 H1 a b x1 st1 r1 q1 => ?_
  by_cases hl : a.length ≤ LN
  · rw [if_pos hl] at q1
    exact ⟨by rw [Reps.length r1, ← LN_eq]; exact hl, fun p hp => q1.lay st1 r1 hp⟩
  · rw [if_neg hl] at q1
    exact q1.elim⟩
end
/-! ### [elt for target in iter if ..] -/
theorem tLc_of {K : PySem.W.Frag} {mg : MG} {W : WX} {σ : L2.St} {H : Hp} {Q : VK} {it : EM (List D)} {tg : Tg} {vs : List Nat} {t : EM Bool} {f : EM D} (hidx : ∀ j ∈ tg.idx, j ∈ vs)
    (h : tFr K mg (eLc it tg vs t f) W σ H Q) : tLc (tG K mg RepJ it W) (tT K mg tg) (tG K mg RepT t W0) (tG K mg RepV f W0) vs σ H Q := by
  obtain ⟨c, P, env, S, st, q⟩ := h
  refine fbind st q fun c1 S1 H1 ds J x1 st1 hJ q1 => ?_
  intro L hL
  -- the list at L among those that change
  have key : Q (.ref L) = Q (.ref L) := rfl
  obtain ⟨o, ho⟩ : ∃ o, lcGo tg t f (Kb.wipe env vs) ds [] S1 = o := ⟨_, rfl⟩
  rw [ho] at q1
  refine ⟨fun i m H2 => m = ds.length - i ∧ i ≤ ds.length ∧ ∃ c2 acc us S2, Ext c1 P H1 c2 H2 ∧ WOk c2 (L :: P) S2 H2 ∧ H2 L = some (.lst us) ∧ Reps c2 H2 acc us ∧ lcGo tg t f (Kb.wipe env vs) (ds.drop i) acc S2 = o, ⟨ds.length, by simp, Nat.zero_le _, ?_⟩, ?_⟩
  · -- the start
    have hl : ∀ a u, H1 a = some u → a ∉ c1.lv → a ∉ L :: c1.lv := fun a u z n q => by
      rcases List.mem_cons.mp q with q | q
      · rw [q, hL] at z; cases z
      · exact n q
    have g := grow_new (o := .lst []) hL
    refine ⟨⟨c1.K, c1.mg, L :: c1.lv, c1.ca, c1.cm⟩, [], [], S1, ⟨rfl, rfl, fun _ _ z => z, fun a q => ?_, fun a u z => ⟨u, g a u z⟩, fun a u z _ => g a u z⟩, ⟨fun a => ?_, fun a q z => ?_, st1.er.w.nd, fun a q => ?_, st1.er.w.len, fun n ds a e1 e2 => ?_⟩, upd_same, rfl, ho⟩
    · rcases List.mem_cons.mp q with q | q
      · exact .inr (by rw [q]; exact hL)
      · exact .inl q
    · constructor
      · intro q
        rcases List.mem_cons.mp q with q | q
        · exact .inl (by rw [q]; exact List.mem_cons_self)
        · rcases (st1.er.w.lv a).mp q with q | q
          · exact .inl (List.mem_cons_of_mem _ q)
          · exact .inr q
      · intro q
        rcases q with q | q
        · rcases List.mem_cons.mp q with q | q
          · rw [q]; exact List.mem_cons_self
          · exact List.mem_cons_of_mem _ ((st1.er.w.lv a).mpr (.inl q))
        · exact List.mem_cons_of_mem _ ((st1.er.w.lv a).mpr (.inr q))
    · rcases List.mem_cons.mp z with z | z
      · rw [z] at q
        exact st1.new_lv hL ((st1.er.w.lv L).mpr (.inr q))
      · exact st1.er.w.disj a q z
    · rcases List.mem_cons.mp q with q | q
      · rw [q]; exact ⟨_, upd_same⟩
      · obtain ⟨u, z⟩ := st1.er.w.there a q
        exact ⟨u, g a u z⟩
    · obtain ⟨vs', z, r'⟩ := st1.er.w.cells n ds a e1 e2
      exact ⟨vs', g a _ z, (ext_grow (P := P) g).reps _ _ (Reps.turn hl (fun _ _ z => z) r')⟩
  · -- a turn
    rintro i m H2 ⟨rfl, hi, c2, acc, us, S2, e2, w2, hLu, ra, hgo⟩
    obtain ⟨go, stop⟩ := hJ c2 H2 e2
    by_cases hlt : i < ds.length
    · obtain ⟨g1, g2⟩ := go i hlt
      refine .inr ⟨g1, fun H3 => ds.length - (i + 1) = ds.length - (i + 1) ∧ i + 1 ≤ ds.length ∧ ∃ c2 acc us S2, Ext c1 P H1 c2 H3 ∧ WOk c2 (L :: P) S2 H3 ∧ H3 L = some (.lst us) ∧ Reps c2 H3 acc us ∧ lcGo tg t f (Kb.wipe env vs) (ds.drop (i + 1)) acc S2 = o, fun H3 hN => ⟨ds.length - (i + 1), by omega, hN⟩, fun x H3 hy => ?_⟩
      obtain ⟨grow, d, hd, rd⟩ := g2 x H3 hy
      have hdrop : ds.drop i = d :: ds.drop (i + 1) := by
        rw [List.drop_eq_getElem_cons hlt]
        rw [List.getElem?_eq_getElem hlt] at hd
        rw [Option.some.inj hd]
      rw [hdrop] at hgo
      have e3 : Ext c2 (L :: P) H2 c2 H3 := ext_grow grow
      have w3 := w2.grow grow
      -- the state within the block
      have er3 : ER c2 (L :: P) (Kb.wipe env vs) S2 (L2.wipe σ vs) H3 := by
        have er : ER c2 (L :: P) env S2 σ H3 := ⟨st1.er.len, w3, fun j s es => by
          have z := (st1.er.slots j s es).ext (e2.trans (e3.mono fun a h => List.mem_cons_of_mem _ h)) fun a h => (w3.lv a).mpr (.inl (List.mem_cons_of_mem _ h))
          cases s with
          | no => trivial
          | ex c => trivial
          | val d => exact z
          | own xs =>
            obtain ⟨a, vs, h1, h2, h3, h4, h5⟩ := z
            exact ⟨a, vs, h1, List.mem_cons_of_mem _ h2, h3, h4, h5⟩⟩
        exact er.wipe vs
      have st3 : Sta K mg c2 (L :: P) (Kb.wipe env vs) S2 (L2.wipe σ vs) H3 := ⟨e2.K.trans st1.K, e2.mg.trans st1.mg, er3⟩
      cases hp : tg.put d (Kb.wipe env vs) with
      | none =>
        have z : Out.stuck = o := by
          rw [← hgo]
          show Out.stuck = (match tg.put d (Kb.wipe env vs) with | none => _ | some env' => _)
          rw [hp]
        rw [← z] at q1
        exact q1.elim
      | some env2 =>
        refine ⟨c2, L :: P, _, S2, d, env2, st3, rd, hp, fun σ2 l2 o2 er4 => ⟨?_, ?_⟩⟩
        · exact (wipe_eq l2 fun j hj => o2 j fun z => hj (hidx j z)).trans wipe_wipe
        · have hgo2 := hgo
          rw [lcGo, hp] at hgo2
          dsimp only at hgo2
          have st4 : Sta K mg c2 (L :: P) env2 S2 σ2 H3 := ⟨st3.K, st3.mg, er4⟩
          refine ⟨c2, L :: P, env2, S2, st4, ?_⟩
          cases ht : t env2 S2 with
          | stuck =>
            rw [ht] at hgo2
            rw [← hgo2] at q1
            exact q1.elim
          | exc n S3 =>
            rw [ht] at hgo2
            rw [← hgo2] at q1
            exact q1.elim
          | ok b S3 =>
            rw [ht] at hgo2
            intro c5 H5 b' e5 w5 eb
            have eb' : b' = b := eb
            subst eb'
            have e15 : Ext c1 P H1 c5 H5 := (e2.trans (e3.mono fun a h => List.mem_cons_of_mem _ h)).trans (e5.mono fun a h => List.mem_cons_of_mem _ h)
            have hL5 : H5 L = some (.lst us) := e5.keep L _ (grow L _ hLu) fun _ n => absurd List.mem_cons_self n
            have ra5 : Reps c5 H5 acc us := e5.reps _ _ (e3.reps _ _ ra)
            cases b' with
            | false => exact iteF ⟨rfl, hlt, c5, acc, us, S3, e15, w5, hL5, ra5, hgo2⟩
            | true =>
              refine iteT ⟨c5, L :: P, env2, S3, st4.ext e5 w5, ?_⟩
              cases hf : f env2 S3 with
              | stuck =>
                have hgo3 : (match f env2 S3 with
                  | .ok y S2 => if acc.length < LN then lcGo tg t f (Kb.wipe env vs) (ds.drop (i + 1)) (acc ++ [y]) S2 else .stuck
                  | _ => .stuck) = o := hgo2
                rw [hf] at hgo3
                rw [← hgo3] at q1
                exact q1.elim
              | exc n S4 =>
                have hgo3 : (match f env2 S3 with
                  | .ok y S2 => if acc.length < LN then lcGo tg t f (Kb.wipe env vs) (ds.drop (i + 1)) (acc ++ [y]) S2 else .stuck
                  | _ => .stuck) = o := hgo2
                rw [hf] at hgo3
                rw [← hgo3] at q1
                exact q1.elim
              | ok y S4 =>
                have hgo3 : (match f env2 S3 with
                  | .ok y S2 => if acc.length < LN then lcGo tg t f (Kb.wipe env vs) (ds.drop (i + 1)) (acc ++ [y]) S2 else .stuck
                  | _ => .stuck) = o := hgo2
                rw [hf] at hgo3
                intro c6 H6 v e6 w6 rv
                have hL6 : H6 L = some (.lst us) := e6.keep L _ hL5 fun _ n => absurd List.mem_cons_self n
                have ra6 : Reps c6 H6 acc us := e6.reps _ _ ra5
                have hlen := ra6.length
                have hgo4 : (if acc.length < LN then lcGo tg t f (Kb.wipe env vs) (ds.drop (i + 1)) (acc ++ [y]) S4 else .stuck) = o := hgo3
                by_cases hacc : acc.length < LN
                · rw [if_pos hacc] at hgo4
                  refine ⟨us, hL6, by rw [hlen, ← LN_eq]; exact hacc, rfl, hlt, ?_⟩
                  have hLl : L ∈ c6.lv := (w6.lv L).mpr (.inl List.mem_cons_self)
                  have e7 : Ext c6 P H6 c6 (upd H6 L (.lst (us ++ [v]))) := by
                    refine ⟨rfl, rfl, fun _ _ z => z, fun _ z => .inl z, fun a u z => ?_, fun a u z k => ?_⟩
                    · by_cases ha : a = L
                      · subst ha; exact ⟨_, upd_same⟩
                      · exact ⟨u, by rw [upd_ne ha]; exact z⟩
                    · have ha : a ≠ L := fun ha => by
                        subst ha
                        rw [hL6] at z
                        cases z
                        refine k hLl (fun hP => ?_) trivial
                        obtain ⟨u, zz⟩ := st1.er.w.there a hP
                        rw [hL] at zz; cases zz
                      rw [upd_ne ha]
                      exact z
                  have e16 := (e15.trans (e6.mono fun a h => List.mem_cons_of_mem _ h)).trans e7
                  refine ⟨c6, acc ++ [y], us ++ [v], S4, e16, ⟨w6.lv, w6.disj, w6.nd, fun a q => ?_, w6.len, fun n ds a z1 z2 => ?_⟩, upd_same, e7.reps _ _ (Reps.append ra6 ⟨v, [], rfl, rv, rfl⟩), hgo4⟩
                  · obtain ⟨u, z⟩ := w6.there a q
                    exact e7.there a u z
                  · obtain ⟨us', z, r⟩ := w6.cells n ds a z1 z2
                    have ha : a ≠ L := fun ha => w6.disj a (List.mem_of_getElem? z2) (by rw [ha]; exact List.mem_cons_self)
                    exact ⟨us', by rw [upd_ne ha]; exact z, e7.reps _ _ r⟩
                · rw [if_neg hacc] at hgo4
                  rw [← hgo4] at q1
                  exact q1.elim
    · have ei : i = ds.length := by omega
      subst ei
      refine .inl ⟨stop, ?_⟩
      rw [List.drop_length] at hgo
      have z : Out.ok acc S2 = o := hgo
      rw [← z] at q1
      exact q1 c2 H2 L us e2 hL hLu w2 ra
section
variable {X : Cx} {elt tgE iter : Expr} {ifs : List Expr} {scope : Scope} {own : List (Str × Nat)} {pos : Pos} {it : EM (List D)} {tg : Tg} {t : EM Bool} {f : EM D}
theorem sf_lc (own : List (Str × Nat)) (hc : X.calm = true) (hN : X.N.Nodup) (hi : SI RepJ X tgE iter it) (ok : BlkOk X.N X.env.scope scope own)
    (hg : ∀ (s : Shared) (H : Hp) (C : Addr) (cl : List (Str × Addr)) (fp : List Addr), STg (X.blk s H scope (compEnvC scope cl C X.env) fp) tgE tg)
    (ht : ∀ (s : Shared) (H : Hp) (C : Addr) (cl : List (Str × Addr)) (fp : List Addr), STs (X.blk s H scope (compEnvC scope cl C X.env) fp) ifs t)
    (he : ∀ (s : Shared) (H : Hp) (C : Addr) (cl : List (Str × Addr)) (fp : List Addr), SE (X.blk s H scope (compEnvC scope cl C X.env) fp) elt f)
    (hidx : ∀ j ∈ tg.idx, j ∈ own.map (·.2) := by decide) (hs : ∀ (X' : Cx) x, foldedSetIterable iter X'.env x = pure x := by intro _ _; rfl) :
    SF X (.ListComp elt [⟨tgE, iter, ifs, 0⟩] scope pos) (eLc it tg (own.map (·.2)) t f) := ⟨fun pn xe W hp tk =>
  wE (pe_lc (X := X.tr pn xe) hc hN (hi.run pn xe W hp tk) ok (fun s H C cl fp => (hg s H C cl fp).run [] _) (fun s H C cl fp => (ht s H C cl fp).run [] _ W0 (fun _ z => z) takes0)
    (fun s H C cl fp => (he s H C cl fp).run [] _ W0 (fun _ z => z) takes0) (hs (X.tr pn xe))) fun σ H Q q => tLc_of hidx q⟩
end
end Kb

set_option Elab.async false
set_option linter.all false
set_option maxRecDepth 100000
/-! Kb6: statements. -/
namespace Kb
open PySem PySem.Spec PyProof.Rows L2 RZ
/-- the frame: G the lists of its own slots (and what it has let go), P those of the frames around -/
structure Fr' (c : Cc) (P G : List Addr) (env : Env) (S : Store) (σ : L2.St) (H : Hp) : Prop where
  er : ER c (G ++ P) env S σ H
  own : ∀ (i : Nat) xs a, env[i]? = some (.own xs) → σ[i]? = some (some (.ref a)) → a ∈ G
  inj : ∀ (i j : Nat) xs ys a, env[i]? = some (.own xs) → env[j]? = some (.own ys) → σ[i]? = some (some (.ref a)) → σ[j]? = some (some (.ref a)) → i = j
  gp : ∀ a ∈ G, a ∉ P
def EndQ (D : Ends) (c : Cc) (P : List Addr) (H : Hp) (σ : L2.St) : Fl → Prop
  | .nx => D.nx σ H
  | .rt d => ∀ v, Rep c H d v → D.rt v H
  | .bk => D.bk σ H
  | .ct => D.ct σ H
def SPost (c : Cc) (P : List Addr) (H : Hp) (W : WX) (Q : Cc → List Addr → Env → Store → L2.St → Hp → Fl → Prop) : SO → Prop
  | .ok fl env' S' => ∀ c' G' σ' H', Ext c P H c' H' → Fr' c' P G' env' S' σ' H' → Q c' G' env' S' σ' H' fl
  | .exc n env' S' => ∀ c' G' σ' H' C, Ext c P H c' H' → Fr' c' P G' env' S' σ' H' → c.mg.1 (Str.ofString n) = some (.ref C) → W (.ref C) none σ' H'
  | .stuck => False
structure StS (K : PySem.W.Frag) (mg : MG) (c : Cc) (P G : List Addr) (env : Env) (S : Store) (σ : L2.St) (H : Hp) : Prop where
  K : c.K = K
  mg : c.mg = mg
  fr : Fr' c P G env S σ H
def tS (K : PySem.W.Frag) (mg : MG) (g : SM) (W : WX) : TS := fun D σ H => ∃ c P G env S, StS K mg c P G env S σ H ∧ SPost c P H W (fun c' _ _ _ σ' H' fl => EndQ D c' P H' σ' fl) (g env S)
structure SS (X : Cx) (st : Stmt) (g : SM) : Prop where
  run : ∀ (pn : List (Addr × Obj)) (xe : Value → Shared → Prop) (W : WX), (∀ p ∈ X.pn, p ∈ pn) → Takes (X.tr pn xe) W → PassesOwn (model X.prog X.w) X.A X.env xe → PS (X.tr pn xe) st (tS X.K (xm X) g W)
structure SSs (X : Cx) (st : List Stmt) (g : SM) : Prop where
  run : ∀ (pn : List (Addr × Obj)) (xe : Value → Shared → Prop) (W : WX), (∀ p ∈ X.pn, p ∈ pn) → Takes (X.tr pn xe) W → PassesOwn (model X.prog X.w) X.A X.env xe → PSs (X.tr pn xe) st (tS X.K (xm X) g W)
section
variable {K : PySem.W.Frag} {mg : MG} {c c1 c' : Cc} {P G G' : List Addr} {env env' : Env} {S S1 S' : Store} {σ σ' : L2.St} {H H1 H' : Hp} {W : WX} {a b L : Addr} {vs ws us : List V} {ds es xs ys : List D} {d x y z : D} {v w : V} {D0 : Ends}
theorem StS.sta (s : StS K mg c P G env S σ H) : Sta K mg c (G ++ P) env S σ H := ⟨s.K, s.mg, s.fr.er⟩
theorem SPost.ext {Q : Cc → List Addr → Env → Store → L2.St → Hp → Fl → Prop} {o : SO} (h : SPost c P H W Q o) (e : Ext c P H c' H') : SPost c' P H' W Q o := by
  cases o with
  | ok fl env' S' => exact fun c2 G2 σ2 H2 e2 f => h c2 G2 σ2 H2 (e.trans e2) f
  | exc n env' S' => exact fun c2 G2 σ2 H2 C e2 f m => h c2 G2 σ2 H2 C (e.trans e2) f (by rw [← e.mg]; exact m)
  | stuck => exact h
/-- behind an expression -/
theorem Fr'.expr (f : Fr' c P G env S σ H) (e : Ext c (G ++ P) H c' H') (w : WOk c' (G ++ P) S' H') : Fr' c' P G env S' σ H' := ⟨f.er.ext e w, f.own, f.inj, f.gp⟩
theorem Ext.out (e : Ext c (G ++ P) H c' H') : Ext c P H c' H' := e.mono fun _ h => List.mem_append_right _ h
theorem StS.expr (s : StS K mg c P G env S σ H) (e : Ext c (G ++ P) H c' H') (w : WOk c' (G ++ P) S' H') : StS K mg c' P G env S' σ H' := ⟨e.K.trans s.K, e.mg.trans s.mg, s.fr.expr e w⟩
/-- an expression ahead of what follows -/
theorem sbind {α β : Type} {R : RR α β} {Q1 : β → Hp → Prop} {f : EM α} {k : α → Store → SO} {Q : Cc → List Addr → Env → Store → L2.St → Hp → Fl → Prop} (st : StS K mg c P G env S σ H) (h : SPost c P H W Q (eS (f env S) env k))
    (step : ∀ c1 S1 H1 a b, Ext c P H c1 H1 → StS K mg c1 P G env S1 σ H1 → R c1 (G ++ P) H1 a b → SPost c1 P H1 W Q (k a S1) → Q1 b H1) : tG K mg R f W σ H Q1 := by
  refine ⟨c, G ++ P, env, S, st.sta, ?_⟩
  cases o : f env S with
  | ok a S1 =>
    rw [o] at h
    exact fun c1 H1 b e w r => step c1 S1 H1 a b e.out (st.expr e w) r (SPost.ext h e.out)
  | exc n S1 =>
    rw [o] at h
    exact fun c1 H1 C e w m => h c1 G σ H1 C e.out (st.fr.expr e w) m
  | stuck =>
    rw [o] at h
    exact h
/-- a slot gets a value that stays -/
theorem Fr'.put (f : Fr' c P G env S σ H) (i : Nat) (r : Rep c H d v) : Fr' c P G (env.set i (.val d)) S (σ.set i (some v)) H := by
  have ho : ∀ (j : Nat) xs, (env.set i (.val d))[j]? = some (.own xs) → j ≠ i ∧ env[j]? = some (.own xs) := fun j xs e => by
    by_cases hj : j = i
    · subst hj
      have hl : j < env.length := by
        have := (List.getElem?_eq_some_iff.mp e).1
        simpa using this
      rw [List.getElem?_set_self hl] at e
      cases e
    · rw [List.getElem?_set_ne (Ne.symm hj)] at e
      exact ⟨hj, e⟩
  refine ⟨f.er.put r, fun j xs a e1 e2 => ?_, fun j k xs ys a e1 e2 e3 e4 => ?_, f.gp⟩
  · obtain ⟨hj, e⟩ := ho j xs e1
    rw [List.getElem?_set_ne (Ne.symm hj)] at e2
    exact f.own j xs a e e2
  · obtain ⟨hj, e⟩ := ho j xs e1
    obtain ⟨hk, e'⟩ := ho k ys e2
    rw [List.getElem?_set_ne (Ne.symm hj)] at e3
    rw [List.getElem?_set_ne (Ne.symm hk)] at e4
    exact f.inj j k xs ys a e e' e3 e4
theorem mem_G {L a : Addr} (h : a ∈ G ++ P) : a ∈ (L :: G) ++ P := List.mem_cons_of_mem _ h
/-- more lists of the frame's own -/
theorem ER.wider {P2 : List Addr} (er : ER c P env S σ H) (w : WOk c' P2 S' H') (e : Ext c P H c' H') (hp : ∀ a ∈ P, a ∈ P2) : ER c' P2 env S' σ H' := ⟨er.len, w, fun j s es => by
  have z := (er.slots j s es).ext e fun a h => (w.lv a).mpr (.inl (hp a h))
  cases s with
  | no => trivial
  | ex c => trivial
  | val d => exact z
  | own xs =>
    obtain ⟨a, vs, h1, h2, h3, h4, h5⟩ := z
    exact ⟨a, vs, h1, hp a h2, h3, h4, h5⟩⟩
/-- a slot gets a new list of its own -/
theorem Fr'.new (f : Fr' c P G env S σ H) (i : Nat) (e : Ext c (G ++ P) H c' H') (n : H L = none) (h : H' L = some (.lst us)) (w : WOk c' (L :: (G ++ P)) S' H') (r : Reps c' H' ds us) : Fr' c' P (L :: G) (env.set i (.own ds)) S' (σ.set i (some (.ref L))) H' := by
  have er : ER c' ((L :: G) ++ P) env S' σ H' := f.er.wider w e fun a h => List.mem_cons_of_mem _ h
  have nL : ∀ a ∈ G ++ P, a ≠ L := fun a q z => by
    subst z
    obtain ⟨u, q⟩ := f.er.w.there a q
    rw [n] at q; cases q
  have ho : ∀ (j : Nat) xs, (env.set i (.own ds))[j]? = some (.own xs) → (j = i ∧ i < env.length) ∨ (j ≠ i ∧ env[j]? = some (.own xs)) := fun j xs e => by
    by_cases hj : j = i
    · subst hj
      have hl : j < env.length := by
        have := (List.getElem?_eq_some_iff.mp e).1
        simpa using this
      exact .inl ⟨rfl, hl⟩
    · rw [List.getElem?_set_ne (Ne.symm hj)] at e
      exact .inr ⟨hj, e⟩
  refine ⟨⟨by simp [er.len], w, fun j s es => ?_⟩, fun j xs a e1 e2 => ?_, fun j k xs ys a e1 e2 e3 e4 => ?_, fun a q => ?_⟩
  · by_cases hj : j = i
    · subst hj
      have hl : j < env.length := by
        have := (List.getElem?_eq_some_iff.mp es).1
        simpa using this
      rw [List.getElem?_set_self hl] at es
      cases es
      rw [List.getElem?_set_self (by rw [← er.len]; exact hl)]
      exact ⟨L, us, rfl, List.mem_cons_self, (w.lv L).mpr (.inl List.mem_cons_self), h, r⟩
    · rw [List.getElem?_set_ne (Ne.symm hj)] at es
      rw [List.getElem?_set_ne (Ne.symm hj)]
      exact er.slots j s es
  · rcases ho j xs e1 with ⟨rfl, hl⟩ | ⟨hj, e⟩
    · rw [List.getElem?_set_self (by rw [← er.len]; exact hl)] at e2
      cases e2
      exact List.mem_cons_self
    · rw [List.getElem?_set_ne (Ne.symm hj)] at e2
      exact List.mem_cons_of_mem _ (f.own j xs a e e2)
  · rcases ho j xs e1 with ⟨rfl, hl⟩ | ⟨hj, e⟩
    · rcases ho k ys e2 with ⟨rfl, _⟩ | ⟨hk, e'⟩
      · rfl
      · rw [List.getElem?_set_self (by rw [← er.len]; exact hl)] at e3
        cases e3
        rw [List.getElem?_set_ne (Ne.symm hk)] at e4
        exact absurd rfl (nL L (List.mem_append_left _ (f.own k ys L e' e4)))
    · rcases ho k ys e2 with ⟨rfl, hl⟩ | ⟨hk, e'⟩
      · rw [List.getElem?_set_self (by rw [← er.len]; exact hl)] at e4
        cases e4
        rw [List.getElem?_set_ne (Ne.symm hj)] at e3
        exact absurd rfl (nL L (List.mem_append_left _ (f.own j xs L e e3)))
      · rw [List.getElem?_set_ne (Ne.symm hj)] at e3
        rw [List.getElem?_set_ne (Ne.symm hk)] at e4
        exact f.inj j k xs ys a e e' e3 e4
  · rcases List.mem_cons.mp q with q | q
    · rw [q]
      exact fun z => nL L (List.mem_append_right _ z) rfl
    · exact f.gp a q
/-- a slot's own list turns -/
theorem Fr'.upd (f : Fr' c P G env S σ H) {i : Nat} (ei : env[i]? = some (.own xs)) (ea : σ[i]? = some (some (.ref a))) (ha : H a = some (.lst ws)) (r : Reps c H ys us) : Ext c P H c (L2.upd H a (.lst us)) ∧ Fr' c P G (env.set i (.own ys)) S σ (L2.upd H a (.lst us)) := by
  have aG := f.own i xs a ei ea
  have aP := f.gp a aG
  have alv : a ∈ c.lv := (f.er.w.lv a).mpr (.inl (List.mem_append_left _ aG))
  have e : Ext c P H c (L2.upd H a (.lst us)) := by
    refine ⟨rfl, rfl, fun _ _ z => z, fun _ z => .inl z, fun b u z => ?_, fun b u z k => ?_⟩
    · by_cases hb : b = a
      · subst hb; exact ⟨_, upd_same⟩
      · exact ⟨u, by rw [upd_ne hb]; exact z⟩
    · have hb : b ≠ a := fun hb => by
        subst hb
        rw [ha] at z
        cases z
        exact k alv aP trivial
      rw [upd_ne hb]
      exact z
  have il : i < env.length := (List.getElem?_eq_some_iff.mp ei).1
  have ho : ∀ (j : Nat) zs, (env.set i (.own ys))[j]? = some (.own zs) → ∃ zs', env[j]? = some (.own zs') := fun j zs e => by
    by_cases hj : j = i
    · subst hj; exact ⟨xs, ei⟩
    · rw [List.getElem?_set_ne (Ne.symm hj)] at e
      exact ⟨zs, e⟩
  refine ⟨e, ⟨⟨by simp [f.er.len], ⟨f.er.w.lv, f.er.w.disj, f.er.w.nd, fun b q => ?_, f.er.w.len, fun n ds b z1 z2 => ?_⟩, fun j s es => ?_⟩, fun j zs b e1 e2 => ?_, fun j k zs ys' b e1 e2 e3 e4 => ?_, f.gp⟩⟩
  · obtain ⟨u, z⟩ := f.er.w.there b q
    exact e.there b u z
  · obtain ⟨vs, z, r⟩ := f.er.w.cells n ds b z1 z2
    have hb : b ≠ a := fun hb => f.er.w.disj b (List.mem_of_getElem? z2) (by rw [hb]; exact List.mem_append_left _ aG)
    exact ⟨vs, by rw [upd_ne hb]; exact z, e.reps _ _ r⟩
  · by_cases hj : j = i
    · subst hj
      rw [List.getElem?_set_self il] at es
      cases es
      rw [ea]
      exact ⟨a, us, rfl, List.mem_append_left _ aG, alv, upd_same, e.reps _ _ r⟩
    · rw [List.getElem?_set_ne (Ne.symm hj)] at es
      have z := f.er.slots j s es
      cases s with
      | no => trivial
      | ex c => trivial
      | val d =>
        obtain ⟨v, e1, r1⟩ := z
        exact ⟨v, e1, e.rep _ _ r1⟩
      | own zs =>
        obtain ⟨b, vs, h1, h2, h3, h4, h5⟩ := z
        have hb : b ≠ a := fun hb => by
          subst hb
          refine hj (f.inj j i zs xs b es ei ?_ ea)
          cases q : σ[j]? with
          | none => rw [q] at h1; cases h1
          | some w => rw [q] at h1; rw [show w = some (.ref b) from h1]
        exact ⟨b, vs, h1, h2, h3, by rw [upd_ne hb]; exact h4, e.reps _ _ h5⟩
  · obtain ⟨zs', e⟩ := ho j zs e1
    exact f.own j zs' b e e2
  · obtain ⟨zs', e⟩ := ho j zs e1
    obtain ⟨ys'', e'⟩ := ho k ys' e2
    exact f.inj j k zs' ys'' b e e' e3 e4
/-- a slot's list is left alone from here on -/
theorem Fr'.frz (f : Fr' c P G env S σ H) (i : Nat) : ∃ c' G', Ext c P H c' H ∧ Fr' c' P G' (Kb.frz i env) S σ H := by
  cases ei : env[i]? with
  | none => exact ⟨c, G, Ext.refl, by unfold Kb.frz; rw [ei]; exact f⟩
  | some s =>
    cases s with
    | own xs =>
      obtain ⟨a, vs, h1, h2, h3, h4, h5⟩ := f.er.slots i _ ei
      have ea : σ[i]? = some (some (.ref a)) := by
        cases q : σ[i]? with
        | none => rw [q] at h1; cases h1
        | some w => rw [q] at h1; rw [show w = some (.ref a) from h1]
      have aG := f.own i xs a ei ea
      have aP := f.gp a aG
      have aC : a ∉ c.cm := fun q => f.er.w.disj a q h2
      refine ⟨⟨c.K, c.mg, (G.filter (fun b => decide (b ≠ a)) ++ P) ++ c.cm, c.ca, c.cm⟩, G.filter (fun b => decide (b ≠ a)), ?_, ?_⟩
      · refine ⟨rfl, rfl, fun _ _ z => z, fun b q => .inl ((f.er.w.lv b).mpr ?_), fun b u z => ⟨u, z⟩, fun b u z _ => z⟩
        rcases List.mem_append.mp q with q | q
        · rcases List.mem_append.mp q with q | q
          · exact .inl (List.mem_append_left _ (List.mem_filter.mp q).1)
          · exact .inl (List.mem_append_right _ q)
        · exact .inr q
      · have hl : ∀ b u, H b = some u → b ∉ c.lv → b ∉ (G.filter (fun b => decide (b ≠ a)) ++ P) ++ c.cm := fun b u _ n q => n ((f.er.w.lv b).mpr (by
          rcases List.mem_append.mp q with q | q
          · rcases List.mem_append.mp q with q | q
            · exact .inl (List.mem_append_left _ (List.mem_filter.mp q).1)
            · exact .inl (List.mem_append_right _ q)
          · exact .inr q))
        have na : a ∉ (G.filter (fun b => decide (b ≠ a)) ++ P) ++ c.cm := fun q => by
          rcases List.mem_append.mp q with q | q
          · rcases List.mem_append.mp q with q | q
            · have := (List.mem_filter.mp q).2
              simp at this
            · exact aP q
          · exact aC q
        have ef : Kb.frz i env = env.set i (.val (.lst xs)) := by unfold Kb.frz; rw [ei]
        rw [ef]
        have il : i < env.length := (List.getElem?_eq_some_iff.mp ei).1
        have ho : ∀ (j : Nat) zs, (env.set i (.val (.lst xs)))[j]? = some (.own zs) → j ≠ i ∧ env[j]? = some (.own zs) := fun j zs e => by
          by_cases hj : j = i
          · subst hj
            rw [List.getElem?_set_self il] at e
            cases e
          · rw [List.getElem?_set_ne (Ne.symm hj)] at e
            exact ⟨hj, e⟩
        refine ⟨⟨by simp [f.er.len], ⟨fun b => List.mem_append, fun b h q => ?_, f.er.w.nd, fun b h => ?_, f.er.w.len, fun n ds b z1 z2 => ?_⟩, fun j s es => ?_⟩, fun j zs b e1 e2 => ?_, fun j k zs ys b e1 e2 e3 e4 => ?_, fun b h => f.gp b (List.mem_filter.mp h).1⟩
        · rcases List.mem_append.mp q with q | q
          · exact f.er.w.disj b h (List.mem_append_left _ (List.mem_filter.mp q).1)
          · exact f.er.w.disj b h (List.mem_append_right _ q)
        · rcases List.mem_append.mp h with q | q
          · exact f.er.w.there b (List.mem_append_left _ (List.mem_filter.mp q).1)
          · exact f.er.w.there b (List.mem_append_right _ q)
        · obtain ⟨vs, z, r⟩ := f.er.w.cells n ds b z1 z2
          exact ⟨vs, z, Reps.turn hl (fun _ _ z => z) r⟩
        · by_cases hj : j = i
          · subst hj
            rw [List.getElem?_set_self il] at es
            cases es
            rw [ea]
            exact ⟨.ref a, rfl, a, vs, rfl, ⟨.inl h4, na⟩, Reps.turn hl (fun _ _ z => z) h5⟩
          · rw [List.getElem?_set_ne (Ne.symm hj)] at es
            have z := f.er.slots j s es
            cases s with
            | no => trivial
            | ex c => trivial
            | val d =>
              obtain ⟨v, e1, r1⟩ := z
              exact ⟨v, e1, Rep.turn hl (fun _ _ z => z) r1⟩
            | own zs =>
              obtain ⟨b, ws, g1, g2, g3, g4, g5⟩ := z
              have eb : σ[j]? = some (some (.ref b)) := by
                cases q : σ[j]? with
                | none => rw [q] at g1; cases g1
                | some w => rw [q] at g1; rw [show w = some (.ref b) from g1]
              have hb : b ≠ a := fun hb => by
                subst hb
                exact hj (f.inj j i zs xs b es ei eb ea)
              have bG : b ∈ G.filter (fun b => decide (b ≠ a)) := List.mem_filter.mpr ⟨f.own j zs b es eb, by simp [hb]⟩
              exact ⟨b, ws, g1, List.mem_append_left _ bG, List.mem_append_left _ (List.mem_append_left _ bG), g4, Reps.turn hl (fun _ _ z => z) g5⟩
        · obtain ⟨hj, e⟩ := ho j zs e1
          have bG := f.own j zs b e e2
          refine List.mem_filter.mpr ⟨bG, ?_⟩
          have hb : b ≠ a := fun hb => by
            subst hb
            exact hj (f.inj j i zs xs b e ei e2 ea)
          simp [hb]
        · obtain ⟨hj, e⟩ := ho j zs e1
          obtain ⟨hk, e'⟩ := ho k ys e2
          exact f.inj j k zs ys b e e' e3 e4
    | no => exact ⟨c, G, Ext.refl, by unfold Kb.frz; rw [ei]; exact f⟩
    | ex n => exact ⟨c, G, Ext.refl, by unfold Kb.frz; rw [ei]; exact f⟩
    | val d => exact ⟨c, G, Ext.refl, by unfold Kb.frz; rw [ei]; exact f⟩
/-- the end as it stands -/
theorem SPost.here {Q : Cc → List Addr → Env → Store → L2.St → Hp → Fl → Prop} (s : Fr' c P G env S σ H) {fl : Fl} (h : SPost c P H W Q (.ok fl env S)) : Q c G env S σ H fl := h c G σ H Ext.refl s
end
end Kb

set_option Elab.async false
set_option linter.all false
set_option maxRecDepth 100000
/-! Kb7: statements, one by one. -/
namespace Kb
open PySem PySem.Spec PyProof.Rows L2 RZ
mutual
theorem put_own : ∀ (t : Tg) {d : D} {env env' : Env}, t.put d env = some env' → ∀ (j : Nat) xs, env'[j]? = some (.own xs) → j ∉ t.idx ∧ env[j]? = some (.own xs)
  | .nm i, d, env, env', h, j, xs, e => by
    cases h
    by_cases hj : j = i
    · subst hj
      have hl : j < env.length := by
        have := (List.getElem?_eq_some_iff.mp e).1
        simpa using this
      rw [List.getElem?_set_self hl] at e
      cases e
    · rw [List.getElem?_set_ne (Ne.symm hj)] at e
      exact ⟨fun z => hj (by simpa [Tg.idx] using z), e⟩
  | .tp ts, d, env, env', h, j, xs, e => by
    cases d with
    | tup ds => exact puts_own ts (show Tg.puts ts ds env = some env' from h) j xs e
    | lst ds => exact puts_own ts (show Tg.puts ts ds env = some env' from h) j xs e
    | _ => cases h
theorem puts_own : ∀ (ts : List Tg) {ds : List D} {env env' : Env}, Tg.puts ts ds env = some env' → ∀ (j : Nat) xs, env'[j]? = some (.own xs) → j ∉ Tg.idxs ts ∧ env[j]? = some (.own xs)
  | [], [], env, env', h, j, xs, e => by
    have h' : some env = some env' := h
    cases h'
    exact ⟨(fun z => by cases z), e⟩
  | [], _ :: _, _, _, h, _, _, _ => nomatch h
  | _ :: _, [], _, _, h, _, _, _ => nomatch h
  | t :: ts, d :: ds, env, env', h, j, xs, e => by
    have h' : (t.put d env).bind (fun env2 => Tg.puts ts ds env2) = some env' := h
    cases q1 : t.put d env with
    | none => rw [q1] at h'; cases h'
    | some env2 =>
      rw [q1] at h'
      obtain ⟨h1, h2⟩ := puts_own ts h' j xs e
      obtain ⟨h3, h4⟩ := put_own t q1 j xs h2
      refine ⟨fun z => ?_, h4⟩
      have z' : j ∈ t.idx ++ Tg.idxs ts := z
      rcases List.mem_append.mp z' with z | z
      · exact h3 z
      · exact h1 z
end
theorem Fr'.tgt {c : Cc} {P G : List Addr} {env env' : Env} {S : Store} {σ σ' : L2.St} {H : Hp} {tg : Tg} {d : D} (f : Fr' c P G env S σ H) (hp : tg.put d env = some env') (o : ∀ j, j ∉ tg.idx → σ'[j]? = σ[j]?) (er : ER c (G ++ P) env' S σ' H) : Fr' c P G env' S σ' H := by
  refine ⟨er, fun j xs a e1 e2 => ?_, fun j k xs ys a e1 e2 e3 e4 => ?_, f.gp⟩
  · obtain ⟨h1, h2⟩ := put_own tg hp j xs e1
    rw [o j h1] at e2
    exact f.own j xs a h2 e2
  · obtain ⟨h1, h2⟩ := put_own tg hp j xs e1
    obtain ⟨h3, h4⟩ := put_own tg hp k ys e2
    rw [o j h1] at e3
    rw [o k h3] at e4
    exact f.inj j k xs ys a h2 h4 e3 e4
section
variable {X : Cx} {a b e o i : Expr} {es rest : List Expr} {f g h : EM D} {t : EM Bool} {pos p pos' : Pos} {x y : Str} {F : EM (List D)} {s1 s2 : SM} {st : Stmt} {sts sts2 : List Stmt}
theorem sss_nil : SSs X [] sNil := ⟨fun pn xe W hp tk po => wSs pss_nil fun D σ H ⟨c, P, G, env, S, st, q⟩ => SPost.here st.fr q⟩
theorem sss_cons (h1 : SS X st s1) (h2 : SSs X sts s2) : SSs X (st :: sts) (sSeq s1 s2) := ⟨fun pn xe W hp tk po => wSs (pss_cons (h1.run pn xe W hp tk po) (h2.run pn xe W hp tk po)) fun D σ H ⟨c, P, G, env, S, st, q⟩ => by
  refine ⟨c, P, G, env, S, st, ?_⟩
  have q' : SPost c P H W (fun c' _ _ _ σ' H' fl => EndQ D c' P H' σ' fl) ((s1 env S).bind s2) := q
  cases o : s1 env S with
  | ok fl env1 S1 =>
    rw [o] at q'
    cases fl with
    | nx => exact fun c1 G1 σ1 H1 e f => ⟨c1, P, G1, env1, S1, ⟨e.K.trans st.K, e.mg.trans st.mg, f⟩, SPost.ext q' e⟩
    | rt d => exact q'
    | bk => exact q'
    | ct => exact q'
  | exc n env1 S1 => rw [o] at q'; exact q'
  | stuck => rw [o] at q'; exact q'⟩
theorem sss_one (h1 : SS X st s1) : SSs X [st] s1 := ⟨fun pn xe W hp tk po => wSs (pss_one (h1.run pn xe W hp tk po)) fun D σ H q => q⟩
theorem ss_pass : SS X (.Pass pos) sNil := ⟨fun pn xe W hp tk po => wS ps_pass fun D σ H ⟨c, P, G, env, S, st, q⟩ => SPost.here st.fr q⟩
theorem ss_break : SS X (.Break pos) sBrk := ⟨fun pn xe W hp tk po => wS ps_break fun D σ H ⟨c, P, G, env, S, st, q⟩ => SPost.here st.fr q⟩
theorem ss_continue : SS X (.Continue pos) sCont := ⟨fun pn xe W hp tk po => wS ps_continue fun D σ H ⟨c, P, G, env, S, st, q⟩ => SPost.here st.fr q⟩
theorem ss_retN : SS X (.Return none pos) sRetN := ⟨fun pn xe W hp tk po => wS ps_retN fun D σ H ⟨c, P, G, env, S, st, q⟩ => SPost.here st.fr q .non rfl⟩
theorem ss_ret (ha : SE X e f) : SS X (.Return (some e) pos) (sRet f) := ⟨fun pn xe W hp tk po => wS (ps_ret (ha.run pn xe W hp tk)) fun D σ H ⟨c, P, G, env, S, st, q⟩ => by
  refine sbind st q fun c1 S1 H1 d v x1 st1 r1 q1 => ?_
  exact SPost.here st1.fr q1 v r1⟩
theorem ss_expr (ha : SE X e f) (hs : ∀ X' : Cx, swapsWith e none pos.line X'.env = pure false := by intro _; rfl) : SS X (.Expr e pos) (sExpr f) := ⟨fun pn xe W hp tk po => wS (ps_expr (ha.run pn xe W hp tk) (hs (X.tr pn xe))) fun D σ H ⟨c, P, G, env, S, st, q⟩ => by
  refine sbind st q fun c1 S1 H1 d v x1 st1 r1 q1 => ?_
  exact SPost.here st1.fr q1⟩
theorem ss_if {cnd : Expr} {A B : List Stmt} (hc : ST X cnd t) (ha : SSs X A s1) (hb : SSs X B s2) : SS X (.If cnd A B pos) (sIf t s1 s2) := ⟨fun pn xe W hp tk po => wS (ps_if (hc.run pn xe W hp tk) (ha.run pn xe W hp tk po) (hb.run pn xe W hp tk po)) fun D σ H ⟨c, P, G, env, S, st, q⟩ => by
  refine sbind st q fun c1 S1 H1 d v x1 st1 r1 q1 => ?_
  have e : v = d := r1
  subst e
  cases v with
  | true => exact iteT ⟨c1, P, G, env, S1, st1, q1⟩
  | false => exact iteF ⟨c1, P, G, env, S1, st1, q1⟩⟩
theorem ss_frz (k : Nat) (h1 : SS X st s1) : SS X st (sFrz k s1) := ⟨fun pn xe W hp tk po => wS (h1.run pn xe W hp tk po) fun D σ H ⟨c, P, G, env, S, st, q⟩ => by
  obtain ⟨c', G', e, f⟩ := st.fr.frz k
  exact ⟨c', P, G', frz k env, S, ⟨e.K.trans st.K, e.mg.trans st.mg, f⟩, SPost.ext q e⟩⟩
/-- name = value -/
theorem ss_set (k : Nat) (hN : X.N.Nodup) (ha : SE X e f) (hi : X.N[k]? = some x := by rfl) (hx : Loc X.env.scope x := by first | exact Or.inl rfl | exact Or.inr rfl) (hs : ∀ X' : Cx, swapsWith e (some (.Name x pos')) pos.line X'.env = pure false := by intro _; rfl) (hf : X.fn x = true ∨ X.env.scope.names.lookup x = some .local := by first | exact .inl rfl | exact .inr rfl) :
    SS X (.Assign [.Name x pos'] e pos) (sSet k f) := ⟨fun pn xe W hp tk po => wS (ps_set (X := X.tr pn xe) (i := k) hN hi hx (ha.run pn xe W hp tk) (hs (X.tr pn xe)) hf) fun D σ H ⟨c, P, G, env, S, st, q⟩ => by
  refine sbind st q fun c1 S1 H1 d v x1 st1 r1 q1 => ?_
  exact SPost.here (st1.fr.put k r1) (SPost.ext (c' := c1) (H' := H1) q1 Ext.refl)⟩
/-- name = a new list, to be the frame's own -/
theorem own_of {K : PySem.W.Frag} {mg : MG} {W : WX} {k : Nat} {D : Ends} {σ : L2.St} {H : Hp} (h : tS K mg (sOwn k F) W D σ H) : tFr K mg F W σ H (fun x H1 => gName k x σ H1 D.nx) := by
  obtain ⟨c, P, G, env, S, st, q⟩ := h
  refine ⟨c, G ++ P, env, S, st.sta, ?_⟩
  have q' : SPost c P H W (fun c' _ _ _ σ' H' fl => EndQ D c' P H' σ' fl) (eS (F env S) env fun ds S1 => .ok .nx (env.set k (.own ds)) S1) := q
  cases o : F env S with
  | ok ds S1 =>
    rw [o] at q'
    intro c' H' L vs e n hL w r
    exact q' c' (L :: G) (σ.set k (some (.ref L))) H' e.out (st.fr.new k e n hL w r)
  | exc n S1 =>
    rw [o] at q'
    exact fun c1 H1 C e w m => q' c1 G σ H1 C e.out (st.fr.expr e w) m
  | stuck =>
    rw [o] at q'
    exact q'
theorem ss_own (k : Nat) (hN : X.N.Nodup) (ha : SF X e F) (hi : X.N[k]? = some x := by rfl) (hx : Loc X.env.scope x := by first | exact Or.inl rfl | exact Or.inr rfl) (hs : ∀ X' : Cx, swapsWith e (some (.Name x pos')) pos.line X'.env = pure false := by intro _; rfl) (hf : X.fn x = true ∨ X.env.scope.names.lookup x = some .local := by first | exact .inl rfl | exact .inr rfl) :
    SS X (.Assign [.Name x pos'] e pos) (sOwn k F) := ⟨fun pn xe W hp tk po => wS (ps_set (X := X.tr pn xe) (i := k) hN hi hx (ha.run pn xe W hp tk) (hs (X.tr pn xe)) hf) fun D σ H q => own_of q⟩
/-- x.append(e) -/
theorem ss_app (k : Nat) {apos cpos : Pos} (ha : SE X e f) (hN : X.N[k]? = some x := by rfl) (hv : Vis X.env.scope x := by first | exact Or.inl rfl | exact Or.inr (Or.inl rfl) | exact Or.inr (Or.inr rfl)) (hd : (x == ("__debug__" : Str)) = false := by decide)
    (hcd : (x == ("__classdict__" : Str)) = false := by decide) (hb : ∀ X' : Cx, attributeBase (.Name x p) "append" X'.env (eval (.Name x p) X'.env) = eval (.Name x p) X'.env := by intro _; rfl)
    (hfew : ∀ X' : Cx, ((backTo cpos (starEach [e] X'.env)).all (fun x => !x.1) && (backToKw cpos (keywordEach [] X'.env)).all (fun x => x.1.isSome) && decide (([e] : List Expr).length + ([] : List Keyword).length + (if ([] : List Keyword).isEmpty then 0 else 1) < 30)) = true := by intro _; rfl)
    (hline : (apos.endLine == cpos.line) = true := by rfl) (he : ∀ X' : Cx, starEach [e] X'.env = (false, eval e X'.env) :: starEach [] X'.env := by intro _; rfl) (hpl : ∀ X' : Cx, (backTo cpos (starEach [] X'.env)).any (·.1) = false := by intro _; rfl)
    (hs : ∀ X' : Cx, swapsWith (.Call (.Attribute (.Name x p) "append" apos) [e] [] cpos) none pos.line X'.env = pure false := by intro _; rfl) :
    SS X (.Expr (.Call (.Attribute (.Name x p) "append" apos) [e] [] cpos) pos) (sApp k f) := ⟨fun pn xe W hp tk po =>
  wS (ps_expr (pe_bm (X := X.tr pn xe) PySem.F.plainAttrs_list PySem.F.slot_list_append PySem.F.type_list_append mt_append (pe_var (X := X.tr pn xe) hN hv hd hcd) (pa_cons (ha.run pn xe W hp tk) pa_nil (he (X.tr pn xe))) (hb (X.tr pn xe)) (hfew (X.tr pn xe)) hline (he (X.tr pn xe)) (hpl (X.tr pn xe))) (hs (X.tr pn xe))) fun D σ H ⟨c, P, G, env, S, st, q⟩ => by
    have q0 : SPost c P H W (fun c' _ _ _ σ' H' fl => EndQ D c' P H' σ' fl) (match env[k]? with
      | some (.own xs) => eS (f env S) env fun d S1 => if xs.length < LN then .ok .nx (env.set k (.own (xs ++ [d]))) S1 else .stuck
      | _ => .stuck) := q
    cases ek : env[k]? with
    | none => rw [ek] at q0; exact q0.elim
    | some s =>
      rw [ek] at q0
      cases s with
      | no => exact q0.elim
      | ex n => exact q0.elim
      | val d => exact q0.elim
      | own xs =>
        obtain ⟨a, us, h1, h2, h3, h4, h5⟩ := st.fr.er.slots k _ ek
        have ea : σ[k]? = some (some (.ref a)) := by
          cases q : σ[k]? with
          | none => rw [q] at h1; cases h1
          | some w => rw [q] at h1; rw [show w = some (.ref a) from h1]
        refine ⟨.ref a, ea, .inl ⟨rfl, us, SqL.of h4⟩, ?_⟩
        refine sbind st q0 fun c1 S1 H1 d v x1 st1 r1 q1 => ?_
        obtain ⟨a', us', h1', h2', h3', h4', h5'⟩ := st1.fr.er.slots k _ ek
        rw [ea] at h1'
        cases h1'
        have hl := h5'.length
        by_cases hlen : xs.length < LN
        · rw [if_pos hlen] at q1
          obtain ⟨e2, f2⟩ := st1.fr.upd ek ea h4' (Reps.append h5' (show Reps c1 H1 [d] [v] from ⟨v, [], rfl, r1, rfl⟩))
          refine ⟨a, us', v, rfl, rfl, h4', by rw [hl, ← LN_eq]; exact hlen, ?_⟩
          have z := q1 c1 G _ _ e2 f2
          exact z
        · rw [if_neg hlen] at q1
          exact q1.elim⟩
/-- x[k] = e -/
theorem ss_put (k : Nat) {ix : Expr} {spos : Pos} (ha : SE X e f) (hb : SE X ix g) (hN : X.N[k]? = some x := by rfl) (hv : Vis X.env.scope x := by first | exact Or.inl rfl | exact Or.inr (Or.inl rfl) | exact Or.inr (Or.inr rfl)) (hd : (x == ("__debug__" : Str)) = false := by decide)
    (hcd : (x == ("__classdict__" : Str)) = false := by decide) (hs : ∀ X' : Cx, swapsWithSole [.Subscript (.Name x p) ix spos] e pos.line X'.env = pure false := by intro _; rfl) (hw : ∀ X' : Cx, swappedStores [.Subscript (.Name x p) ix spos] e X'.env = pure none := by intro _; rfl)
    (h1 : ∀ X' : Cx, (assignEach [.Subscript (.Name x p) ix spos] X'.env).map (·.2) = [assign (.Subscript (.Name x p) ix spos) X'.env] := by intro _; rfl)
    (h2 : ∀ (X' : Cx) v, assign (.Subscript (.Name x p) ix spos) X'.env v = (do
      let ov ← holding [v] (eval (.Name x p) X'.env)
      let iv ← holding [v, ov] (eval ix X'.env)
      standAt spos
      holding [v, ov, iv] (setItem ov iv v)
      release [v, ov, iv] []) := by intro _ _; rfl) :
    SS X (.Assign [.Subscript (.Name x p) ix spos] e pos) (sPut k g f) := ⟨fun pn xe W hp tk po =>
  wS (ps_asg (X := X.tr pn xe) (ha.run pn xe W hp tk) (pg_sub (X := X.tr pn xe) (pe_var (X := X.tr pn xe) hN hv hd hcd) (hb.run pn xe W hp tk) set_list (h2 (X.tr pn xe))) (hs (X.tr pn xe)) (hw (X.tr pn xe)) (h1 (X.tr pn xe))) fun D σ H ⟨c, P, G, env, S, st, q⟩ => by
    refine sbind st q fun c1 S1 H1 d v x1 st1 r1 q1 => ?_
    have q0 : SPost c1 P H1 W (fun c' _ _ _ σ' H' fl => EndQ D c' P H' σ' fl) (match env[k]? with
      | some (.own xs) => eS (g env S1) env fun x S2 => match x with
        | .int j => (match ixN xs.length j with
          | some n => .ok .nx (env.set k (.own (xs.set n d))) S2
          | none => .stuck)
        | _ => .stuck
      | _ => .stuck) := q1
    cases ek : env[k]? with
    | none => rw [ek] at q0; exact q0.elim
    | some s =>
      rw [ek] at q0
      cases s with
      | no => exact q0.elim
      | ex n => exact q0.elim
      | val d => exact q0.elim
      | own xs =>
        obtain ⟨a, us, h1, h2, h3, h4, h5⟩ := st1.fr.er.slots k _ ek
        have ea : σ[k]? = some (some (.ref a)) := by
          cases q : σ[k]? with
          | none => rw [q] at h1; cases h1
          | some w => rw [q] at h1; rw [show w = some (.ref a) from h1]
        refine ⟨.ref a, ea, ?_⟩
        have aG := st1.fr.own k xs a ek ea
        refine ⟨c1, G ++ P, env, S1, st1.sta, ?_⟩
        cases o : g env S1 with
        | stuck => rw [o] at q0; exact q0.elim
        | exc n S2 =>
          rw [o] at q0
          exact fun c2 H2 C e w m => q0 c2 G σ H2 C e.out (st1.fr.expr e w) m
        | ok z S2 =>
          rw [o] at q0
          intro c2 H2 iv e w ri
          have st2 := st1.expr e w
          have q2 := SPost.ext q0 e.out
          cases z with
          | int j =>
            have q3 : SPost c2 P H2 W (fun c' _ _ _ σ' H' fl => EndQ D c' P H' σ' fl) (match ixN xs.length j with
              | some n => .ok .nx (env.set k (.own (xs.set n d))) S2
              | none => .stuck) := q2
            cases en : ixN xs.length j with
            | none => rw [en] at q3; exact q3.elim
            | some n =>
              rw [en] at q3
              obtain ⟨a', us', h1', h2', h3', h4', h5'⟩ := st2.fr.er.slots k _ ek
              rw [ea] at h1'
              cases h1'
              have hl := h5'.length
              have rd : Rep c2 H2 d v := e.rep _ _ r1
              obtain ⟨e3, f3⟩ := st2.fr.upd ek ea h4' (Reps.set n rd h5')
              exact ⟨a, us', j, n, rfl, ri, h4', by rw [hl]; exact en, q3 c2 G _ _ e3 f3⟩
          | _ => exact q2.elim⟩
/-- a, (b, c) = e -/
theorem ss_tg {tgE : Expr} {tg : Tg} (ha : SE X e f) (hg : STg X tgE tg) (hs : ∀ X' : Cx, swapsWithSole [tgE] e pos.line X'.env = pure false := by intro _; rfl) (hw : ∀ X' : Cx, swappedStores [tgE] e X'.env = pure none := by intro _; rfl)
    (h1 : ∀ X' : Cx, (assignEach [tgE] X'.env).map (·.2) = [assign tgE X'.env] := by intro _; rfl) : SS X (.Assign [tgE] e pos) (sTg tg f) := ⟨fun pn xe W hp tk po =>
  wS (ps_asg (X := X.tr pn xe) (ha.run pn xe W hp tk) (hg.run pn xe) (hs (X.tr pn xe)) (hw (X.tr pn xe)) (h1 (X.tr pn xe))) fun D σ H ⟨c, P, G, env, S, st, q⟩ => by
    refine sbind st q fun c1 S1 H1 d v x1 st1 r1 q1 => ?_
    cases hp : tg.put d env with
    | none => rw [hp] at q1; exact q1.elim
    | some env' =>
      rw [hp] at q1
      exact ⟨c1, G ++ P, env, S1, d, env', st1.sta, r1, hp, fun σ' l o er => q1 c1 G σ' H1 Ext.refl (st1.fr.tgt hp o er)⟩⟩
/-- a, b = e1, e2 -/
theorem ss_par {i j : Nat} {a b : Expr} {px py pt : Pos} {kt k2 pt2} (hc : X.calm = true) (hN : X.N.Nodup) (ha : SA RepL X [a, b] F) (hi : X.N[i]? = some x := by rfl) (hj : X.N[j]? = some y := by rfl) (hij : i ≠ j := by decide)
    (hx : X.env.scope.names.lookup x = some .local := by rfl) (hy : X.env.scope.names.lookup y = some .local := by rfl)
    (hw : ∀ X' : Cx, X'.env = X.env → swappedStores [.Tuple [.Name x px, .Name y py] kt pt] (.Tuple [a, b] k2 pt2) X'.env = pure (some [x, y]))
    (hs : ∀ X' : Cx, swapsWithSole [.Tuple [.Name x px, .Name y py] kt pt] (.Tuple [a, b] k2 pt2) pos.line X'.env = pure false := by intro _; rfl) :
    SS X (.Assign [.Tuple [.Name x px, .Name y py] kt pt] (.Tuple [a, b] k2 pt2) pos) (sPar i j F) := ⟨fun pn xe W hp tk po =>
  wS (ps_par (X := X.tr pn xe) hc hN hi hj hij hx hy (ha.run pn xe W hp tk) (hw (X.tr pn xe) rfl) (hs (X.tr pn xe))) fun D σ H ⟨c, P, G, env, S, st, q⟩ => by
    refine sbind st q fun c1 S1 H1 ds vs x1 st1 r1 q1 => ?_
    match ds, r1, q1 with
    | [d1, d2], r1, q1 =>
      obtain ⟨v1, r, rfl, h1, v2, r', rfl, h2, h3⟩ := r1
      have e3 : r' = [] := h3
      subst e3
      exact ⟨v1, v2, rfl, q1 c1 G _ H1 Ext.refl ((st1.fr.put i h1).put j h2)⟩
    | [], r1, q1 => exact q1.elim
    | [_], r1, q1 => exact q1.elim
    | _ :: _ :: _ :: _, r1, q1 => exact q1.elim⟩
/-- x op= e -/
theorem ss_aug (k : Nat) {op : Operator} {od : D → D → Option D} {r : L2.R2} (ho : ∀ pn xe, OpR (X.tr pn xe) (inplaceOp op) r) (hS : OpS X.K RepV RepV od r) (hN : X.N.Nodup) (ha : SE X e f) (hi : X.N[k]? = some x := by rfl) (hx : Loc X.env.scope x := by first | exact Or.inl rfl | exact Or.inr rfl) (hf : X.fn x = true ∨ X.env.scope.names.lookup x = some .local := by first | exact .inl rfl | exact .inr rfl) :
    SS X (.AugAssign (.Name x pos') op e pos) (sAug k od f) := ⟨fun pn xe W hp tk po => wS (ps_aug (X := X.tr pn xe) (i := k) hN hi hx (ha.run pn xe W hp tk) (fun pins s σ H x y v u Q I r1 r2 q => ho pn xe pins s σ H x y v u Q I r1 r2 q) hf) fun D σ H ⟨c, P, G, env, S, st, q⟩ => by
  have q0 : SPost c P H W (fun c' _ _ _ σ' H' fl => EndQ D c' P H' σ' fl) (match (env[k]?).bind slotV with
    | none => .stuck
    | some x => eS (f env S) env fun y S1 => match od x y with
      | some z => .ok .nx (env.set k (.val z)) S1
      | none => .stuck) := q
  cases e : (env[k]?).bind slotV with
  | none => rw [e] at q0; exact q0.elim
  | some x0 =>
    rw [e] at q0
    obtain ⟨v, e1, r0⟩ := slot_val st.fr.er e
    refine ⟨v, e1, ?_⟩
    refine sbind st q0 fun c1 S1 H1 d w x1 st1 r1 q1 => ?_
    obtain ⟨v', e1', r0'⟩ := slot_val st1.fr.er e
    rw [e1] at e1'
    cases e1'
    cases ez : od x0 d with
    | none => rw [ez] at q1; exact q1.elim
    | some z =>
      rw [ez] at q1
      exact hS (xm X) c1 (G ++ P) env S1 σ H1 W _ x0 d v w z st1.sta r0' r1 ez fun c2 H2 v2 e2 w2 r2 => q1 c2 G _ H2 e2.out ((st1.fr.expr e2 w2).put k r2)⟩
theorem iop_mulW {X : Cx} : OpR X (inplaceOp .Mult) (rI CMulX fun i j => .int (i * j)) := opI fun _ _ _ _ _ _ _ hc q => imul_int q hc.ok
theorem addIS : OpS X.K RepV RepV (fun x y => match x, y with | .int i, .int j => some (.int (i + j)) | _, _ => none) (rI0 fun i j => .int (i + j)) := by
  intro mg c P env S σ H W Q x y v w z st rx ry e q
  cases x with
  | int i =>
    cases y with
    | int j =>
      cases e
      exact ⟨i, j, rx, ry, q.here st rfl⟩
    | _ => cases e
  | _ => cases e
theorem ss_augAdd (k : Nat) (hN : X.N.Nodup) (ha : SE X e f) (hi : X.N[k]? = some x := by rfl) (hx : Loc X.env.scope x := by first | exact Or.inl rfl | exact Or.inr rfl) (hf : X.fn x = true ∨ X.env.scope.names.lookup x = some .local := by first | exact .inl rfl | exact .inr rfl) : SS X (.AugAssign (.Name x pos') .Add e pos) (sAug k addI f) := ss_aug k (fun _ _ => iop_add) addIS hN ha hi hx hf
theorem ss_augMul (k : Nat) (hN : X.N.Nodup) (ha : SE X e f) (hi : X.N[k]? = some x := by rfl) (hx : Loc X.env.scope x := by first | exact Or.inl rfl | exact Or.inr rfl) (hf : X.fn x = true ∨ X.env.scope.names.lookup x = some .local := by first | exact .inl rfl | exact .inr rfl) : SS X (.AugAssign (.Name x pos') .Mult e pos) (sAug k mulI f) := ss_aug k (fun _ _ => iop_mulW) mulS hN ha hi hx hf
/-! ### loops -/
theorem ss_for {tgE iter : Expr} {tg : Tg} {body : List Stmt} (hc : X.calm = true) (hi : SI RepI X tgE iter F) (hg : STg X tgE tg) (hb : SSs X body s1) (hs : ∀ (X' : Cx) x, foldedSetIterable iter X'.env x = pure x := by intro _ _; rfl) : SS X (.For tgE iter body [] pos) (sFor tg F s1) := ⟨fun pn xe W hp tk po =>
  wS (ps_for (X := X.tr pn xe) po hc (hi.run pn xe W hp tk) (hg.run pn xe) (hb.run pn xe W hp tk po) (hs (X.tr pn xe))) fun D σ H ⟨c, P, G, env, S, st, q⟩ => by
    refine sbind st q fun c1 S1 H1 ds J x1 st1 hJ q1 => ?_
    refine ⟨fun i m σ2 H2 => m = ds.length - i ∧ i ≤ ds.length ∧ ∃ c2 G2 env2 S2, Ext c1 P H1 c2 H2 ∧ StS X.K (xm X) c2 P G2 env2 S2 σ2 H2 ∧ SPost c2 P H2 W (fun c' _ _ _ σ' H' fl => EndQ D c' P H' σ' fl) (forGo tg s1 (ds.drop i) env2 S2), ⟨ds.length, by simp, Nat.zero_le _, c1, G, env, S1, Ext.refl, st1, q1⟩, ?_⟩
    rintro i m σ2 H2 ⟨rfl, hi, c2, G2, env2, S2, e2, st2, q2⟩
    obtain ⟨go, stop⟩ := hJ c2 H2 (e2.mono fun _ h => nomatch h)
    by_cases hlt : i < ds.length
    · obtain ⟨g1, g2⟩ := go i hlt
      refine .inr ⟨g1, fun σ3 H3 => ds.length - (i + 1) = ds.length - (i + 1) ∧ i + 1 ≤ ds.length ∧ ∃ c2 G2 env2 S2, Ext c1 P H1 c2 H3 ∧ StS X.K (xm X) c2 P G2 env2 S2 σ3 H3 ∧ SPost c2 P H3 W (fun c' _ _ _ σ' H' fl => EndQ D c' P H' σ' fl) (forGo tg s1 (ds.drop (i + 1)) env2 S2), fun σ3 H3 hN => ⟨ds.length - (i + 1), by omega, hN⟩, fun x H3 hy => ?_⟩
      obtain ⟨grow, d, hd, rd⟩ := g2 x H3 hy
      have hdrop : ds.drop i = d :: ds.drop (i + 1) := by
        rw [List.drop_eq_getElem_cons hlt]
        rw [List.getElem?_eq_getElem hlt] at hd
        rw [Option.some.inj hd]
      rw [hdrop, forGo] at q2
      have e3 : Ext c2 (G2 ++ P) H2 c2 H3 := ext_grow grow
      have st3 := st2.expr e3 (st2.fr.er.w.grow grow)
      have q3 := SPost.ext q2 e3.out
      cases hp : tg.put d env2 with
      | none => rw [hp] at q3; exact q3.elim
      | some env3 =>
        rw [hp] at q3
        dsimp only at q3
        refine ⟨c2, G2 ++ P, env2, S2, d, env3, st3.sta, rd, hp, fun σ4 l o er => ?_⟩
        have f4 := st3.fr.tgt hp o er
        refine ⟨c2, P, G2, env3, S2, ⟨st3.K, st3.mg, f4⟩, ?_⟩
        have e13 := e2.trans e3.out
        cases ob : s1 env3 S2 with
        | stuck => rw [ob] at q3; exact q3.elim
        | exc n env4 S4 => rw [ob] at q3; exact q3
        | ok fl env4 S4 =>
          rw [ob] at q3
          cases fl with
          | nx => exact fun c4 G4 σ4 H4 e4 f => ⟨rfl, hlt, c4, G4, env4, S4, e13.trans e4, ⟨e4.K.trans st3.K, e4.mg.trans st3.mg, f⟩, SPost.ext q3 e4⟩
          | ct => exact fun c4 G4 σ4 H4 e4 f => ⟨rfl, hlt, c4, G4, env4, S4, e13.trans e4, ⟨e4.K.trans st3.K, e4.mg.trans st3.mg, f⟩, SPost.ext q3 e4⟩
          | bk => exact fun c4 G4 σ4 H4 e4 f => q3 c4 G4 σ4 H4 e4 f
          | rt d => exact fun c4 G4 σ4 H4 e4 f => q3 c4 G4 σ4 H4 e4 f
    · have ei : i = ds.length := by omega
      subst ei
      rw [List.drop_length] at q2
      exact .inl ⟨stop, SPost.here st2.fr q2⟩⟩
theorem whGo_of {t : EM Bool} {b : SM} {env : Env} {S : Store} {o : SO} (h : sWhile t b env S = o) (ho : o ≠ .stuck) : ∃ n, whGo t b n env S = o := by
  unfold sWhile at h
  split at h
  · exact ⟨_, h⟩
  · exact absurd h.symm ho
theorem ss_while {test : Expr} {body : List Stmt} (hc : ST X test t) (hb : SSs X body s1) : SS X (.While test body [] pos) (sWhile t s1) := ⟨fun pn xe W hp tk po =>
  wS (ps_while (X := X.tr pn xe) po (hc.run pn xe W hp tk) (hb.run pn xe W hp tk po)) fun D σ H ⟨c, P, G, env, S, st, q⟩ => by
    have hne : sWhile t s1 env S ≠ .stuck := fun z => by rw [z] at q; exact q
    obtain ⟨n, hn⟩ := whGo_of rfl hne
    rw [← hn] at q
    refine ⟨fun m σ2 H2 => ∃ c2 G2 env2 S2, Ext c P H c2 H2 ∧ StS X.K (xm X) c2 P G2 env2 S2 σ2 H2 ∧ SPost c2 P H2 W (fun c' _ _ _ σ' H' fl => EndQ D c' P H' σ' fl) (whGo t s1 m env2 S2), ⟨n, c, G, env, S, Ext.refl, st, q⟩, ?_⟩
    rintro m σ2 H2 ⟨c2, G2, env2, S2, e2, st2, q2⟩
    cases m with
    | zero => exact q2.elim
    | succ m =>
      rw [whGo] at q2
      refine sbind st2 q2 fun c3 S3 H3 k k' x3 st3 r3 q3 => ?_
      have e : k' = k := r3
      subst e
      have e23 := e2.trans x3
      cases k' with
      | false => exact iteF (SPost.here st3.fr q3)
      | true =>
        rw [if_pos rfl] at q3
        refine iteT ⟨fun σ4 H4 => ∃ c2 G2 env2 S2, Ext c P H c2 H4 ∧ StS X.K (xm X) c2 P G2 env2 S2 σ4 H4 ∧ SPost c2 P H4 W (fun c' _ _ _ σ' H' fl => EndQ D c' P H' σ' fl) (whGo t s1 m env2 S2), fun σ4 H4 hN => ⟨m, Nat.lt_succ_self _, hN⟩, ?_⟩
        refine ⟨c3, P, G2, env2, S3, st3, ?_⟩
        cases ob : s1 env2 S3 with
        | stuck => rw [ob] at q3; exact q3.elim
        | exc n env4 S4 => rw [ob] at q3; exact q3
        | ok fl env4 S4 =>
          rw [ob] at q3
          cases fl with
          | nx => exact fun c4 G4 σ4 H4 e4 f => ⟨c4, G4, env4, S4, e23.trans e4, ⟨e4.K.trans st3.K, e4.mg.trans st3.mg, f⟩, SPost.ext q3 e4⟩
          | ct => exact fun c4 G4 σ4 H4 e4 f => ⟨c4, G4, env4, S4, e23.trans e4, ⟨e4.K.trans st3.K, e4.mg.trans st3.mg, f⟩, SPost.ext q3 e4⟩
          | bk => exact fun c4 G4 σ4 H4 e4 f => q3 c4 G4 σ4 H4 e4 f
          | rt d => exact fun c4 G4 σ4 H4 e4 f => q3 c4 G4 σ4 H4 e4 f⟩
end
end Kb

set_option Elab.async false
set_option linter.all false
set_option maxRecDepth 100000
/-! Kb8: calls of defs, defs, raise, try. -/
namespace Kb
open PySem PySem.Spec PyProof.Rows L2 RZ
/-- what a def does, as a promise -/
def spF (K : PySem.W.Frag) (mg : Str → Option Value) (F : List D → M D) : Sp := fun vs H Q E => ∃ c P S ds, c.K = K ∧ c.mg = (mg, 0) ∧ WOk c P S H ∧ Reps c H ds vs ∧ GPost c P H (fun cls d _ H' => E cls d H') [] RepV Q (F ds S)
/-- the def at f does F -/
abbrev FnS (P : Program) (w : World) (K : PySem.W.Frag) (mg : Str → Option Value) (base : Heap) (k : Nat) (f : Addr) (fd : FuncData) (ps : List Str) (F : List D → M D) : Prop := FnOk P w K mg base (L2.CX P w) k f fd ps (spF K mg F)
section
variable {X : Cx} {a b e o i : Expr} {es rest : List Expr} {f g h : EM D} {t : EM Bool} {pos p pos' : Pos} {x y : Str} {F : EM (List D)} {s1 s2 : SM} {st : Stmt} {sts sts2 : List Stmt}
theorem xm_room {k : Nat} (hr : Room k X.A) : xm X = (X.mg, 0) := by
  unfold xm xaOf
  rw [hr.hd]
theorem se_call {k : Nat} {fa : Addr} {fd : FuncData} {ps : List Str} {R : List D → M D} (G : FnS X.prog X.w X.K X.mg X.base k fa fd ps R) (hr : Room k X.A) (hg : Gl X x) (hm : X.mg x = some (.ref fa)) (hk : PySem.W.keepIn X.K (.ref fa) = true) (hb : Binds X.K fd ps [])
    (ha : SA RepL X (e :: es) F) (hdb : (x == ("__debug__" : Str)) = false := by decide) (he : ∀ X' : Cx, starEach (e :: es) X'.env = (false, eval e X'.env) :: starEach es X'.env := by intro _; rfl) (hpl : ∀ X' : Cx, (backTo pos (starEach es X'.env)).any (·.1) = false := by intro _; rfl) :
    SE X (.Call (.Name x p) (e :: es) [] pos) (eF R F) := ⟨fun pn xe W hp tk => wE (pe_callS (X := X.tr pn xe) G hr hg hm hk hb (fun σ => passAt tk σ) (ha.run pn xe W hp tk) hdb (he (X.tr pn xe)) (hpl (X.tr pn xe))) fun σ H Q ⟨c, P, env, S, st, q⟩ => by
  refine gbind st q fun c1 S1 H1 ds vs x1 st1 r1 q1 => ?_
  refine ⟨c1, P, S1, ds, st1.K, by rw [st1.mg, xm_room hr], st1.er.w, r1, ?_⟩
  cases o : R ds S1 with
  | ok d S2 => rw [o] at q1; exact q1
  | exc n S2 => rw [o] at q1; exact q1
  | stuck => rw [o] at q1; exact q1⟩
/-- nothing is promised of a call without arguments that raises -/
theorem se_call0 {k : Nat} {fa : Addr} {fd : FuncData} {R : List D → M D} (G : FnS X.prog X.w X.K X.mg X.base k fa fd [] R) (hr : Room k X.A) (hg : Gl X x) (hm : X.mg x = some (.ref fa)) (hk : PySem.W.keepIn X.K (.ref fa) = true) (hb : Binds X.K fd [] [])
    (hdb : (x == ("__debug__" : Str)) = false := by decide) : SE X (.Call (.Name x p) [] [] pos) (fun env S => calm0 (R [] S)) := ⟨fun pn xe W hp tk => wE (pe_call0 (X := X.tr pn xe) (E := E0) G hr hg hm hk hb .nil passL hdb) fun σ H Q ⟨c, P, env, S, st, q⟩ => by
  refine ⟨c, P, S, [], st.K, by rw [st.mg, xm_room hr], st.er.w, rfl, ?_⟩
  have q' : GPost c P H W σ RepV Q (calm0 (R [] S)) := q
  cases o : R [] S with
  | ok d S2 => rw [o] at q'; exact q'
  | exc n S2 => rw [o] at q'; exact q'.elim
  | stuck => rw [o] at q'; exact q'⟩
/-! ### raise X('..') -/
structure ExcF (K : PySem.W.Frag) (mg : Str → Option Value) (n : String) (C : Addr) : Prop where
  g : mg (Str.ofString n) = some (.ref C)
  x : PySem.W.excIn K C [.type "ValueError", .type "Exception", .type "BaseException", .type "object"] "ValueError.__new__" = true
  k : PySem.W.keepIn K (.ref C) = true
  s : PySem.W.subIn K (.ref C) (.type "BaseException") = some true
  t : PySem.W.typeIn K (.ref C) = some (.type "type")
theorem ss_raise {n : String} {C : Addr} {m : Str} {j : Nat} {p2 p3 : Pos} (E : ExcF X.K X.mg n C) (hc : X.calm = true) (hg : Gl X (Str.ofString n)) (hdb : (Str.ofString n == ("__debug__" : Str)) = false := by decide) :
    SS X (.Raise (some (.Call (.Name (Str.ofString n) p) [.Constant (.str m) j p2] [] p3)) none pos) (sRaise n) := ⟨fun pn xe W hp tk po =>
  wS (ps_raise (X := X.tr pn xe) hc tk (pmk_own (X := X.tr pn xe) PySem.F.excBase_ValueError E.x E.g E.k (raises_own (X := X.tr pn xe) E.s E.t) hg hdb)) fun D σ H ⟨c, P, G, env, S, st, q⟩ => by
    exact q c G σ H C Ext.refl st.fr (by rw [st.mg]; exact E.g)⟩
/-! ### try -/
theorem lookup_ex {env : Env} (h : env.all notEx = true) {i : Nat} {n : String} : env[i]? ≠ some (.ex n) := fun e => by
  have z := List.all_eq_true.mp h _ (List.mem_of_getElem? e)
  cases z
section
variable {c : Cc} {P G : List Addr} {env : Env} {S : Store} {σ : L2.St} {H : Hp} {m : Addr}
abbrev Cc.at_ (c : Cc) (m : Addr) : Cc := ⟨c.K, (c.mg.1, m), c.lv, c.ca, c.cm⟩
mutual
theorem Rep.at_ : ∀ (d : D) (v : V), Rep c H d v → Rep (c.at_ m) H d v
  | .non, v, h => h
  | .bl b, v, h => h
  | .int i, v, h => h
  | .str x, v, h => h
  | .tup ds, v, h => by
    obtain ⟨a, vs, rfl, h1, h2⟩ := h
    exact ⟨a, vs, rfl, h1, Reps.at_ ds vs h2⟩
  | .lst ds, v, h => by
    obtain ⟨a, vs, rfl, h1, h2⟩ := h
    exact ⟨a, vs, rfl, h1, Reps.at_ ds vs h2⟩
  | .cell n, v, h => h
  | .glo x, v, h => h
  | .scr ds, v, h => by
    obtain ⟨a, vs, rfl, h1, h2⟩ := h
    exact ⟨a, vs, rfl, h1, Reps.at_ ds vs h2⟩
theorem Reps.at_ : ∀ (ds : List D) (vs : List V), Reps c H ds vs → Reps (c.at_ m) H ds vs
  | [], vs, h => h
  | d :: ds, vs, h => by
    obtain ⟨v, r, rfl, h1, h2⟩ := h
    exact ⟨v, r, rfl, Rep.at_ d v h1, Reps.at_ ds r h2⟩
end
theorem WOk.at_ (w : WOk c P S H) : WOk (c.at_ m) P S H := ⟨w.lv, w.disj, w.nd, w.there, w.len, fun n ds a e1 e2 => by
  obtain ⟨vs, z, r⟩ := w.cells n ds a e1 e2
  exact ⟨vs, z, Reps.at_ _ _ r⟩⟩
theorem Fr'.at_ (f : Fr' c P G env S σ H) (h : env.all notEx = true) : Fr' (c.at_ m) P G env S σ H := ⟨⟨f.er.len, f.er.w.at_, fun i s e => by
  have z := f.er.slots i s e
  cases s with
  | no => trivial
  | ex n => exact absurd e (lookup_ex h)
  | val d =>
    obtain ⟨v, e1, r⟩ := z
    exact ⟨v, e1, Rep.at_ _ _ r⟩
  | own xs =>
    obtain ⟨a, vs, h1, h2, h3, h4, h5⟩ := z
    exact ⟨a, vs, h1, h2, h3, h4, Reps.at_ _ _ h5⟩⟩, f.own, f.inj, f.gp⟩
/-- a slot gets the exception -/
theorem Fr'.setEx (f : Fr' c P G env S σ H) (i : Nat) (n : String) : Fr' c P G (env.set i (.ex n)) S (σ.set i (some (.ref c.mg.2))) H := by
  have ho : ∀ (j : Nat) xs, (env.set i (.ex n))[j]? = some (.own xs) → j ≠ i ∧ env[j]? = some (.own xs) := fun j xs e => by
    by_cases hj : j = i
    · subst hj
      have hl : j < env.length := by
        have := (List.getElem?_eq_some_iff.mp e).1
        simpa using this
      rw [List.getElem?_set_self hl] at e
      cases e
    · rw [List.getElem?_set_ne (Ne.symm hj)] at e
      exact ⟨hj, e⟩
  refine ⟨⟨by simp [f.er.len], f.er.w, fun j s e => ?_⟩, fun j xs a e1 e2 => ?_, fun j k xs ys a e1 e2 e3 e4 => ?_, f.gp⟩
  · by_cases hj : j = i
    · subst hj
      have hl : j < env.length := by
        have := (List.getElem?_eq_some_iff.mp e).1
        simpa using this
      rw [List.getElem?_set_self hl] at e
      cases e
      rw [List.getElem?_set_self (by rw [← f.er.len]; exact hl)]
      rfl
    · rw [List.getElem?_set_ne (Ne.symm hj)] at e
      rw [List.getElem?_set_ne (Ne.symm hj)]
      exact f.er.slots j s e
  · obtain ⟨hj, e⟩ := ho j xs e1
    rw [List.getElem?_set_ne (Ne.symm hj)] at e2
    exact f.own j xs a e e2
  · obtain ⟨hj, e⟩ := ho j xs e1
    obtain ⟨hk, e'⟩ := ho k ys e2
    rw [List.getElem?_set_ne (Ne.symm hj)] at e3
    rw [List.getElem?_set_ne (Ne.symm hk)] at e4
    exact f.inj j k xs ys a e e' e3 e4
/-- a slot is let go -/
theorem Fr'.setNo (f : Fr' c P G env S σ H) (i : Nat) : Fr' c P G (env.set i .no) S (σ.set i none) H := by
  have ho : ∀ (j : Nat) xs, (env.set i .no)[j]? = some (.own xs) → j ≠ i ∧ env[j]? = some (.own xs) := fun j xs e => by
    by_cases hj : j = i
    · subst hj
      have hl : j < env.length := by
        have := (List.getElem?_eq_some_iff.mp e).1
        simpa using this
      rw [List.getElem?_set_self hl] at e
      cases e
    · rw [List.getElem?_set_ne (Ne.symm hj)] at e
      exact ⟨hj, e⟩
  refine ⟨⟨by simp [f.er.len], f.er.w, fun j s e => ?_⟩, fun j xs a e1 e2 => ?_, fun j k xs ys a e1 e2 e3 e4 => ?_, f.gp⟩
  · by_cases hj : j = i
    · subst hj
      have hl : j < env.length := by
        have := (List.getElem?_eq_some_iff.mp e).1
        simpa using this
      rw [List.getElem?_set_self hl] at e
      cases e
      trivial
    · rw [List.getElem?_set_ne (Ne.symm hj)] at e
      rw [List.getElem?_set_ne (Ne.symm hj)]
      exact f.er.slots j s e
  · obtain ⟨hj, e⟩ := ho j xs e1
    rw [List.getElem?_set_ne (Ne.symm hj)] at e2
    exact f.own j xs a e e2
  · obtain ⟨hj, e⟩ := ho j xs e1
    obtain ⟨hk, e'⟩ := ho k ys e2
    rw [List.getElem?_set_ne (Ne.symm hj)] at e3
    rw [List.getElem?_set_ne (Ne.symm hk)] at e4
    exact f.inj j k xs ys a e e' e3 e4
theorem Ext.at_ {c' c2 : Cc} {H' H2 : Hp} (e : Ext c P H c' H') (e2 : Ext (c'.at_ m) P H' c2 H2) : Ext c P H ⟨c2.K, c'.mg, c2.lv, c2.ca, c2.cm⟩ H2 := by
  have z : Ext c' P H' ⟨c2.K, c'.mg, c2.lv, c2.ca, c2.cm⟩ H2 := ⟨e2.K, rfl, e2.cm, e2.lv, e2.there, e2.keep⟩
  exact e.trans z
theorem back {c2 : Cc} {mg : MG} (h : c2.mg.1 = mg.1) : (⟨c2.K, mg, c2.lv, c2.ca, c2.cm⟩ : Cc) = c2.at_ mg.2 := by
  obtain ⟨m1, m2⟩ := mg
  have h' : c2.mg.1 = m1 := h
  subst h'
  rfl
end
/-- the suites of an except clause: one for each class that it takes -/
def tEx (K : PySem.W.Frag) (mg : Str → Option Value) (cs : List (String × Bool)) (h : String → SM) (a : Addr) (cls : Value) (d : Option Addr) : TS := fun D σ H => ∃ n C, cls = .ref C ∧ d = none ∧ cs.lookup n = some true ∧ mg (Str.ofString n) = some (.ref C) ∧ tS K (mg, a) (h n) W0 D σ H
theorem suite_of {body : List Stmt} {cs : List (String × Bool)} {hh : String → SM}
    (hsu : ∀ n C, cs.lookup n = some true → X.mg (Str.ofString n) = some (.ref C) → ∀ (a : Addr) (oe : Obj) (pn : List (Addr × Obj)), Zc (.ref C) none oe → (∃ vs, oe.data = .fields vs) → SSs (X.suite a ((a, oe) :: pn)) body (hh n))
    (a : Addr) (oe : Obj) (cls : Value) (d : Option Addr) (pn : List (Addr × Obj)) (hz : Zc cls d oe) (hf : ∃ vs, oe.data = .fields vs) : PSs (X.suite a ((a, oe) :: pn)) body (tEx X.K X.mg cs hh a cls d) := ⟨fun pins s σ H D I ⟨n, C, e1, e2, e3, e4, q⟩ => by
  subst e1
  subst e2
  exact ((hsu n C e3 e4 a oe pn hz hf).run ((a, oe) :: pn) (fun _ _ => False) W0 (fun _ z => z) takes0 PassesOwn.never).run pins s σ H D I q⟩
theorem ss_try {b₀ : Stmt} {suite body : List Stmt} {np pos2 : Pos} {cv : Value} {cs : List (String × Bool)} {hh : String → SM} (hs : X.stack = X.env :: X.outer) (hf : X.env.frame = some X.env.locals) (hpn : X.pn = []) (hc : Names X x cv) (hh0 : X.A.handled = none)
    (hex : ∀ n b, cs.lookup n = some b → ∀ C, X.mg (Str.ofString n) = some (.ref C) → PySem.W.exmOne X.K (.ref C) cv = some b)
    (hb : SSs X body s1)
    (hsu : ∀ n C, cs.lookup n = some true → X.mg (Str.ofString n) = some (.ref C) → ∀ (a : Addr) (oe : Obj) (pn : List (Addr × Obj)), Zc (.ref C) none oe → (∃ vs, oe.data = .fields vs) → SSs (X.suite a ((a, oe) :: pn)) (b₀ :: suite) (hh n)) :
    SS X (.Try body [.ExceptHandler (some (.Name x np)) none (b₀ :: suite) pos2] [] [] pos) (sTry s1 cs hh) := ⟨fun pn xe W hp tk po =>
  wS (ps_try_only (X := X.tr pn xe) (tb := fun W => tS X.K (xm X) s1 W) (ts := tEx X.K X.mg cs hh) hs hf hc tk (fun W pn2 xe2 tk2 po2 => hb.run pn2 xe2 W (by rw [hpn]; exact fun _ z => nomatch z) tk2 po2)
    (fun a oe cls d pn2 hz hfl => suite_of hsu a oe cls d pn2 hz hfl)) fun D σ H ⟨c, P, G, env, S, st, q⟩ => by
    have hm : c.mg.1 = X.mg := congrArg Prod.fst st.mg
    refine ⟨c, P, G, env, S, st, ?_⟩
    have q0 : SPost c P H W (fun c' _ _ _ σ' H' fl => EndQ D c' P H' σ' fl) (sTry s1 cs hh env S) := q
    unfold sTry at q0
    cases o : s1 env S with
    | ok fl e1 S1 => rw [o] at q0; exact q0
    | stuck => rw [o] at q0; exact q0
    | exc n e1 S1 =>
      rw [o] at q0
      dsimp only at q0
      intro c1 G1 σ1 H1 C x1 f1 hC
      cases hl : cs.lookup n with
      | none => rw [hl] at q0; exact q0.elim
      | some b =>
        rw [hl] at q0
        refine ⟨b, hex n b hl C (by rw [← hm]; exact hC), fun hb => ?_, fun hb => ?_⟩
        · subst hb
          dsimp only at q0
          by_cases hne : e1.all notEx = true
          · rw [if_pos hne] at q0
            intro a na
            refine ⟨n, C, rfl, rfl, hl, by rw [← hm]; exact hC, c1.at_ a, P, G1, e1, S1, ⟨x1.K.trans st.K, ?_, f1.at_ hne⟩, ?_⟩
            · show (c1.mg.1, a) = (X.mg, a)
              rw [x1.mg, hm]
            · cases oh : hh n e1 S1 with
              | stuck => rw [oh] at q0; exact q0
              | exc m e2 S2 => rw [oh] at q0; exact q0.elim
              | ok fl e2 S2 =>
                rw [oh] at q0
                dsimp only at q0
                by_cases hne2 : e2.all notEx = true
                · rw [if_pos hne2] at q0
                  intro c2 G2 σ2 H2 x2 f2
                  have hm2 : c2.mg.1 = c1.mg.1 := by rw [x2.mg]
                  have z := q0 ⟨c2.K, c1.mg, c2.lv, c2.ca, c2.cm⟩ G2 σ2 H2 (Ext.at_ x1 x2) (by rw [back hm2]; exact f2.at_ hne2)
                  cases fl with
                  | nx => exact z
                  | bk => exact z
                  | ct => exact z
                  | rt d => exact fun v r => z v (by rw [back hm2]; exact Rep.at_ d v r)
                · rw [if_neg hne2] at q0
                  exact q0.elim
          · rw [if_neg hne] at q0
            exact q0.elim
        · subst hb
          exact q0 c1 G1 σ1 H1 C x1 f1 hC⟩
theorem ss_tryAs (i : Nat) {n₀ : Str} {b₀ : Stmt} {suite body : List Stmt} {np pos2 : Pos} {cv : Value} {cs : List (String × Bool)} {hh : String → SM} (hs : X.stack = X.env :: X.outer) (hf : X.env.frame = some X.env.locals) (hpn : X.pn = []) (hN : X.N.Nodup) (hc : Names X x cv) (hh0 : X.A.handled = none)
    (hex : ∀ n b, cs.lookup n = some b → ∀ C, X.mg (Str.ofString n) = some (.ref C) → PySem.W.exmOne X.K (.ref C) cv = some b)
    (hb : SSs X body s1)
    (hsu : ∀ n C, cs.lookup n = some true → X.mg (Str.ofString n) = some (.ref C) → ∀ (a : Addr) (oe : Obj) (pn : List (Addr × Obj)), Zc (.ref C) none oe → (∃ vs, oe.data = .fields vs) → SSs (X.suite a ((a, oe) :: pn)) (b₀ :: suite) (hh n))
    (hi : X.N[i]? = some n₀ := by rfl) (hln : X.env.kindOf n₀ = some .local := by rfl) :
    SS X (.Try body [.ExceptHandler (some (.Name x np)) (some n₀) (b₀ :: suite) pos2] [] [] pos) (sTryAs i s1 cs hh) := ⟨fun pn xe W hp tk po =>
  wS (ps_try_as (X := X.tr pn xe) (i := i) (tb := fun W => tS X.K (xm X) s1 W) (ts := tEx X.K X.mg cs hh) hs hf hN hi hln hc tk (fun W pn2 xe2 tk2 po2 => hb.run pn2 xe2 W (by rw [hpn]; exact fun _ z => nomatch z) tk2 po2)
    (fun a oe cls d pn2 hz hfl => suite_of hsu a oe cls d pn2 hz hfl)) fun D σ H ⟨c, P, G, env, S, st, q⟩ => by
    have hm : c.mg.1 = X.mg := congrArg Prod.fst st.mg
    refine ⟨c, P, G, env, S, st, ?_⟩
    have q0 : SPost c P H W (fun c' _ _ _ σ' H' fl => EndQ D c' P H' σ' fl) (sTryAs i s1 cs hh env S) := q
    unfold sTryAs at q0
    cases o : s1 env S with
    | ok fl e1 S1 => rw [o] at q0; exact q0
    | stuck => rw [o] at q0; exact q0
    | exc n e1 S1 =>
      rw [o] at q0
      dsimp only at q0
      intro c1 G1 σ1 H1 C x1 f1 hC
      cases hl : cs.lookup n with
      | none => rw [hl] at q0; exact q0.elim
      | some b =>
        rw [hl] at q0
        refine ⟨b, hex n b hl C (by rw [← hm]; exact hC), fun hb => ?_, fun hb => ?_⟩
        · subst hb
          dsimp only at q0
          by_cases hne : e1.all notEx = true
          · rw [if_pos hne] at q0
            intro a na
            refine ⟨n, C, rfl, rfl, hl, by rw [← hm]; exact hC, c1.at_ a, P, G1, e1.set i (.ex n), S1, ⟨x1.K.trans st.K, ?_, (f1.at_ (m := a) hne).setEx i n⟩, ?_⟩
            · show (c1.mg.1, a) = (X.mg, a)
              rw [x1.mg, hm]
            · cases oh : hh n (e1.set i (.ex n)) S1 with
              | stuck => rw [oh] at q0; exact q0
              | exc m e2 S2 => rw [oh] at q0; exact q0.elim
              | ok fl e2 S2 =>
                rw [oh] at q0
                dsimp only at q0
                by_cases hne2 : (e2.set i .no).all notEx = true
                · rw [if_pos hne2] at q0
                  intro c2 G2 σ2 H2 x2 f2
                  have hm2 : c2.mg.1 = c1.mg.1 := by rw [x2.mg]
                  have z := q0 ⟨c2.K, c1.mg, c2.lv, c2.ca, c2.cm⟩ G2 (σ2.set i none) H2 (Ext.at_ x1 x2) (by rw [back hm2]; exact (f2.setNo i).at_ hne2)
                  cases fl with
                  | nx => exact z
                  | bk => exact z
                  | ct => exact z
                  | rt d => exact fun v r => z v (by rw [back hm2]; exact Rep.at_ d v r)
                · rw [if_neg hne2] at q0
                  exact q0.elim
          · rw [if_neg hne] at q0
            exact q0.elim
        · subst hb
          exact q0 c1 G1 σ1 H1 C x1 f1 hC⟩
end
end Kb

set_option Elab.async false
set_option linter.all false
set_option maxRecDepth 100000
/-! Kb9: defs; names of the module; isinstance; name = [..]. -/
namespace Kb
open PySem PySem.Spec PyProof.Rows L2 RZ
section
variable {P : Program} {w : World} {K : PySem.W.Frag} {mg : Str → Option Value} {base : Heap} {k : Nat} {f : Addr} {fd : FuncData} {N ps : List Str} {x qual : Str} {params : Arguments} {body : List Stmt} {scope : Scope} {g : SM}
theorem GPost.ne {c : Cc} {P : List Addr} {H : Hp} {W : WX} {σ : L2.St} {Q : VK} {n k : Nat} {ds : List D} {S : Store} (h : GPost c P H W σ RepV Q (fnD n k g ds S)) : ds.length = n := by
  by_cases e : ds.length = n
  · exact e
  · unfold fnD at h
    rw [if_neg e] at h
    exact h.elim
theorem slots_start {c : Cc} {P : List Addr} {H : Hp} : ∀ {ds : List D} {vs : List V} (m : Nat), Reps c H ds vs → ∀ (i : Nat) s, (ds.map Slot.val ++ List.replicate m .no)[i]? = some s → SlotOk c P H s (((vs.map some ++ List.replicate m (none : Option V))[i]?).getD none)
  | [], vs, m, r, i, s, e => by
    have e' : (List.replicate m Slot.no)[i]? = some s := e
    have z := List.mem_of_getElem? e'
    rw [List.eq_of_mem_replicate z]
    trivial
  | d :: ds, vs, m, r, 0, s, e => by
    obtain ⟨v, r, rfl, h1, h2⟩ := r
    have e' : some (Slot.val d) = some s := e
    cases e'
    exact ⟨v, rfl, h1⟩
  | d :: ds, vs, m, r, i + 1, s, e => by
    obtain ⟨v, r, rfl, h1, h2⟩ := r
    exact slots_start m h2 i s e
theorem not_own {ds : List D} {m i : Nat} {xs : List D} (e : (ds.map Slot.val ++ List.replicate m .no)[i]? = some (.own xs)) : False := by
  have z := List.mem_of_getElem? e
  rcases List.mem_append.mp z with z | z
  · obtain ⟨d, _, q⟩ := List.mem_map.mp z
    cases q
  · have q := List.eq_of_mem_replicate z
    cases q
theorem WOk.lessG {c : Cc} {P G : List Addr} {S : Store} {H : Hp} (w : WOk c (G ++ P) S H) : WOk (Kb.less c P) P S H := by
  have hl : ∀ a u, H a = some u → a ∉ c.lv → a ∉ P ++ c.cm := fun a u _ n q => n ((w.lv a).mpr (by
    rcases List.mem_append.mp q with q | q
    · exact .inl (List.mem_append_right _ q)
    · exact .inr q))
  refine ⟨fun a => List.mem_append, fun a h q => w.disj a h (List.mem_append_right _ q), w.nd, fun a h => w.there a (List.mem_append_right _ h), w.len, fun n ds a e1 e2 => ?_⟩
  obtain ⟨vs, z, r⟩ := w.cells n ds a e1 e2
  exact ⟨vs, z, Reps.turn hl (fun _ _ z => z) r⟩
theorem Ext.lessG {c c' : Cc} {P G : List Addr} {S : Store} {H H' : Hp} (e : Ext c P H c' H') (w : WOk c' (G ++ P) S H') : Ext c P H (Kb.less c' P) H' :=
  ⟨e.K, e.mg, e.cm, fun a h => e.lv a ((w.lv a).mpr (by
    rcases List.mem_append.mp h with h | h
    · exact .inl (List.mem_append_right _ h)
    · exact .inr h)), e.there, e.keep⟩
theorem Rep.lessG {c : Cc} {P G : List Addr} {S : Store} {H : Hp} {d : D} {v : V} (w : WOk c (G ++ P) S H) (r : Rep c H d v) : Rep (Kb.less c P) H d v := by
  refine Rep.turn (fun a u _ n q => n ((w.lv a).mpr ?_)) (fun _ _ z => z) r
  rcases List.mem_append.mp q with q | q
  · exact .inl (List.mem_append_right _ q)
  · exact .inr q
/-- THE RULE for a def -/
theorem fns_ok {n m : Nat} (F : FunD K x qual params body scope [] [] f fd) (S : FnScope N ps scope) (hn : ps.length = n) (hm : N.length - ps.length = m)
    (hb : ∀ (cdv : Value) (A : Around) (outer : List PySem.Env) (s : Shared) (H : Hp) (E : XK), Room k (A.deeper (envOfC qual scope s.heap.objs.size f cdv)) → SSs (cxOf (L2.CX P w) P w K mg base N qual scope f cdv A outer s H E) body g) :
    FnS P w K mg base (k + 1) f fd ps (fnD n m g) := by
  subst hn
  subst hm
  refine F.ok S (fun vs H Q E h => ?_) (fun cdv A outer s H vs Q E hr h => ?_)
  · obtain ⟨c, P', S', ds, hK, hm, hw, r, q⟩ := h
    rw [r.length, q.ne]
  · obtain ⟨c, P', S', ds, hK, hm, hw, r, q⟩ := h
    refine ⟨_, (hb cdv A outer s H E hr).run [] _ (fun cls d _ H' => E cls d H') (fun _ z => z) (takes_of (X := cxOf (L2.CX P w) P w K mg base N qual scope f cdv A outer s H E) rfl rfl rfl rfl) (passes_of (X := cxOf (L2.CX P w) P w K mg base N qual scope f cdv A outer s H E) rfl), ?_⟩
    have hl := q.ne
    have hv : vs.length = ps.length := r.length.trans hl
    unfold fnD at q
    rw [if_pos hl] at q
    refine ⟨c, P', [], ds.map .val ++ List.replicate (N.length - ps.length) .no, S', ⟨hK, ?_, ⟨⟨?_, hw, fun i s e => ?_⟩, fun i xs a e _ => (not_own e).elim, fun i j xs ys a e _ _ _ => (not_own e).elim, fun _ z => nomatch z⟩⟩, ?_⟩
    · show c.mg = (mg, xaOf (A.deeper (envOfC qual scope s.heap.objs.size f cdv)).handled)
      rw [hr.hd]
      exact hm
    · show _ = (vs.map some ++ List.replicate (N.length - vs.length) none).length
      rw [List.length_append, List.length_append, List.length_map, List.length_map, List.length_replicate, List.length_replicate, hv, hl]
    · show SlotOk c P' H s (((vs.map some ++ List.replicate (N.length - vs.length) none)[i]?).getD none)
      rw [hv]
      exact slots_start _ r i s e
    · cases o : g (ds.map .val ++ List.replicate (N.length - ps.length) .no) S' with
      | stuck => rw [o] at q; exact q.elim
      | exc n e1 S1 =>
        rw [o] at q
        exact fun c' G' σ' H' C e f m => q (Kb.less c' P') H' C (e.lessG f.er.w) f.er.w.lessG m
      | ok fl e1 S1 =>
        rw [o] at q
        cases fl with
        | nx => exact fun c' G' σ' H' e f => q (Kb.less c' P') H' .non (e.lessG f.er.w) f.er.w.lessG rfl
        | rt d => exact fun c' G' σ' H' e f v r => q (Kb.less c' P') H' v (e.lessG f.er.w) f.er.w.lessG (r.lessG f.er.w)
        | bk => exact q.elim
        | ct => exact q.elim
end
section
variable {X : Cx} {a b e o i : Expr} {es rest : List Expr} {f g h : EM D} {t : EM Bool} {pos p pos' : Pos} {x y : Str} {F : EM (List D)}
/-! ### a name of the module that stands for data -/
theorem se_glob {d : D} {v : V} {u : Value} (hg : Gl X x) (hm : X.mg x = some u) (r : RelV v u) (hr : ∀ (c : Cc) (H : Hp), c.K = X.K → Rep c H d v) (hd : (x == ("__debug__" : Str)) = false := by decide) : SE X (.Name x pos) (eC d) :=
  ⟨fun pn xe W hp tk => wE (pe_glob (X := X.tr pn xe) hg hm r hd) fun σ H Q ⟨c, P, env, S, st, q⟩ => q.here st (hr c H st.K)⟩
/-! ### name = [..] -/
theorem set_fr {K : PySem.W.Frag} {mg : MG} {W : WX} {k : Nat} {D : Ends} {σ : L2.St} {H : Hp} (h : tS K mg (sSet k (eLst F)) W D σ H) : tFr K mg F W σ H (fun x H1 => gName k x σ H1 D.nx) := by
  refine frs_of ?_
  obtain ⟨c, P, G, env, S, st, q⟩ := h
  refine sbind st q fun c1 S1 H1 d v x1 st1 r1 q1 => ?_
  exact SPost.here (st1.fr.put k r1) (SPost.ext (c' := c1) (H' := H1) q1 Ext.refl)
variable {elt tgE iter : Expr} {ifs : List Expr} {scope : Scope} {spos : Pos} {it : EM (List D)} {tg : Tg}
theorem ss_lc (k : Nat) {s : SM} {tt : EM Bool} {fe : EM D} (own : List (Str × Nat)) (hfr : ∀ {W D σ H}, tS X.K (xm X) s W D σ H → tFr X.K (xm X) (eLc it tg (own.map (·.2)) tt fe) W σ H (fun x H1 => gName k x σ H1 D.nx)) (hc : X.calm = true) (hN : X.N.Nodup) (hi : SI RepJ X tgE iter it) (ok : BlkOk X.N X.env.scope scope own)
    (hg : ∀ (s : Shared) (H : Hp) (C : Addr) (cl : List (Str × Addr)) (fp : List Addr), STg (X.blk s H scope (compEnvC scope cl C X.env) fp) tgE tg)
    (ht : ∀ (s : Shared) (H : Hp) (C : Addr) (cl : List (Str × Addr)) (fp : List Addr), STs (X.blk s H scope (compEnvC scope cl C X.env) fp) ifs tt)
    (he : ∀ (s : Shared) (H : Hp) (C : Addr) (cl : List (Str × Addr)) (fp : List Addr), SE (X.blk s H scope (compEnvC scope cl C X.env) fp) elt fe)
    (hidx : ∀ j ∈ tg.idx, j ∈ own.map (·.2) := by decide) (hy : X.N[k]? = some x := by rfl) (hyl : X.env.scope.names.lookup x = some .local := by rfl)
    (hsw : ∀ X' : Cx, X'.env = X.env → swapsWith (.ListComp elt [⟨tgE, iter, ifs, 0⟩] scope pos) (some (.Name x pos')) spos.line X'.env = pure true) (hs : ∀ (X' : Cx) x, foldedSetIterable iter X'.env x = pure x := by intro _ _; rfl) :
    SS X (.Assign [.Name x pos'] (.ListComp elt [⟨tgE, iter, ifs, 0⟩] scope pos) spos) s := ⟨fun pn xe W hp tk po =>
  wS (ps_setLc (X := X.tr pn xe) (i := k) hc hN hy hyl (hsw (X.tr pn xe) rfl) (hi.run pn xe W hp tk) ok (fun s H C cl fp => (hg s H C cl fp).run [] _) (fun s H C cl fp => (ht s H C cl fp).run [] _ W0 (fun _ z => z) takes0)
    (fun s H C cl fp => (he s H C cl fp).run [] _ W0 (fun _ z => z) takes0) (hs (X.tr pn xe))) fun D σ H q => tLc_of hidx (hfr q)⟩
/-! ### isinstance of the exception that the suite holds -/
theorem call_isE' {Y : Cx} {a D : Addr} {oe : Obj} (hp : (a, oe) ∈ Y.pn) (C : ExcC Y.K D) (hz : Zc (.ref D) none oe) (hf : ∃ vs, oe.data = .fields vs) : CallR Y (.builtin "isinstance") (rIsE Y.K D a) := by
  intro pn sh ρ Hn ds vv Q inv rel hh
  obtain ⟨c, kv, ans, rfl, hkv, ee, post⟩ := hh
  cases rel with
  | cons rx rr =>
    cases rr with
    | cons rt rr =>
      cases rr
      cases rx
      have ec := hkv _ rt
      subst ec
      obtain ⟨hat, _⟩ := inv.pin (a, oe) (List.mem_append.mpr (.inl hp))
      obtain ⟨vs, hv⟩ := hf
      have at1 : PySem.W.InstAt sh.heap a oe D none := by
        obtain ⟨kc, kd, ka, ks⟩ := oe
        obtain ⟨h1, h2⟩ := hz
        dsimp only at h1 h2 hv
        subst h1 h2 hv
        exact ⟨hat, rfl, rfl, trivial⟩
      exact PySem.W.kia_one (PySem.W.handS_kitx_exc C.hg C.hk C.hs C.hd C.ha C.hn C.ht C.hm) inv.kIn at1 ee (fun z => nomatch z) fun tt => ⟨.bl ans, Hn, inv.kept (t' := tt) fun _ _ z => z, rfl, post⟩
/-- isinstance(e, C) in the suite: e in slot k, its class stands at D and is called n; b by kitOne -/
theorem se_isE (k : Nat) {n : String} {a D : Addr} {oe : Obj} {b : Bool} {cls : Expr} {cv : V} {cu : Value} {p1 : Pos} (hx : xaOf X.A.handled = a) (hp : (a, oe) ∈ X.pn) (C : ExcC X.K D) (hz : Zc (.ref D) none oe) (hf : ∃ vs, oe.data = .fields vs)
    (hcls : ∀ X' : Cx, X'.env = X.env → X'.mg = X.mg → PE X' cls (tC cv)) (hcv : ∀ u, RelV cv u → u = cu) (hkit : PySem.W.kitOne X.K (.ref D) cu = some b) (hg : Gl X "isinstance") (hm : X.mg "isinstance" = none)
    (hN : X.N[k]? = some x := by rfl) (hv : Vis X.env.scope x := by first | exact Or.inl rfl | exact Or.inr (Or.inl rfl) | exact Or.inr (Or.inr rfl)) (hd : (x == ("__debug__" : Str)) = false := by decide) (hcd : (x == ("__classdict__" : Str)) = false := by decide)
    (he : ∀ X' : Cx, starEach [.Name x p1, cls] X'.env = (false, eval (.Name x p1) X'.env) :: starEach [cls] X'.env := by intro _; rfl) (he2 : ∀ X' : Cx, starEach [cls] X'.env = (false, eval cls X'.env) :: starEach [] X'.env := by intro _; rfl) (hpl : ∀ X' : Cx, (backTo pos (starEach [cls] X'.env)).any (·.1) = false := by intro _; rfl) :
    SE X (.Call (.Name "isinstance" p) [.Name x p1, cls] [] pos) (eIsE k n b) := ⟨fun pn xe W hpn tk => wE (pe_callB (X := X.tr pn xe) (call_isE' (Y := X.tr pn xe) (hpn _ hp) C hz hf) hg hm (by decide +kernel) (pa_cons (pe_var (X := X.tr pn xe) hN hv hd hcd) (pa_cons (hcls (X.tr pn xe) rfl rfl) pa_nil (he2 (X.tr pn xe))) (he (X.tr pn xe))) (by decide) (by decide) (he (X.tr pn xe)) (hpl (X.tr pn xe))) fun σ H Q ⟨c, P, env, S, st, q⟩ => by
  have q0 : GPost c P H W σ RepV Q (match env[k]? with
    | some (.ex m) => if m = n then .ok (.bl b) S else .stuck
    | _ => .stuck) := q
  cases ek : env[k]? with
  | none => rw [ek] at q0; exact q0.elim
  | some s =>
    rw [ek] at q0
    cases s with
    | ex m =>
      by_cases hmn : m = n
      · have q1 : GPost c P H W σ RepV Q (if m = n then .ok (.bl b) S else .stuck) := q0
        rw [if_pos hmn] at q1
        have z : (σ[k]?).getD none = some (.ref c.mg.2) := st.er.slots k _ ek
        have ea : σ[k]? = some (some (.ref a)) := by
          have hma : c.mg.2 = a := by rw [st.mg]; exact hx
          rw [hma] at z
          cases q : σ[k]? with
          | none => rw [q] at z; cases z
          | some w => rw [q] at z; rw [show w = some (.ref a) from z]
        exact ⟨.ref a, ea, cv, cu, b, rfl, hcv, hkit, q1.here st rfl⟩
      · have q1 : GPost c P H W σ RepV Q (if m = n then .ok (.bl b) S else .stuck) := q0
        rw [if_neg hmn] at q1
        exact q1.elim
    | no => exact q0.elim
    | val d => exact q0.elim
    | own d => exact q0.elim⟩
/-- isinstance(e, (A, B, ..)) -/
def rIsET (K : PySem.W.Frag) (D a : Addr) : List V → Hp → VK → Prop := fun xs H Q => ∃ (tp : Addr) (cs : List V) (us : List Value) (b : Bool), xs = [.ref a, .ref tp] ∧ H tp = some (.tup cs) ∧ Paired ClsV cs us ∧ PySem.W.kitAny K (.ref D) us = some b ∧ Q (.bl b) H
theorem call_isET' {Y : Cx} {a D : Addr} {oe : Obj} (hp : (a, oe) ∈ Y.pn) (C : ExcC Y.K D) (hz : Zc (.ref D) none oe) (hf : ∃ vs, oe.data = .fields vs) : CallR Y (.builtin "isinstance") (rIsET Y.K D a) := by
  intro pn sh ρ Hn ds vv Q inv rel hh
  obtain ⟨tp, cs, ws, ans, rfl, hT, k, ee, post⟩ := hh
  obtain ⟨w1, w2, rfl, r1, r2⟩ := vals2 rel
  cases (show w2 = Value.ref tp from r2)
  cases (show w1 = Value.ref a from r1)
  obtain ⟨hat, _⟩ := inv.pin (a, oe) (List.mem_append.mpr (.inl hp))
  obtain ⟨vs, hv⟩ := hf
  have at1 : PySem.W.InstAt sh.heap a oe D none := by
    obtain ⟨kc, kd, ka, ks⟩ := oe
    obtain ⟨h1, h2⟩ := hz
    dsimp only at h1 h2 hv
    subst h1 h2 hv
    exact ⟨hat, rfl, rfl, trivial⟩
  obtain ⟨_, its, rv, o, h1, h2, n, h3⟩ := (show ObjOk Y.prog Y.w Hn sh.heap tp (.tup cs) from inv.hok tp _ hT)
  have e3 := ClsV.all k rv
  subst e3
  obtain ⟨kc, kd, dt, sl⟩ := o
  simp only at h2 h3
  subst h2 h3
  exact PySem.W.kia_tup (PySem.W.handS_kitx_exc C.hg C.hk C.hs C.hd C.ha C.hn C.ht C.hm) inv.kIn at1 h1 ee (fun z => nomatch z) fun tt => ⟨.bl ans, Hn, inv.kept (t' := tt) fun _ _ z => z, rfl, post⟩
def tCs (cs : List V) : TA := fun _ H Q => Q cs H
theorem se_isET (k : Nat) {n : String} {a D : Addr} {oe : Obj} {b : Bool} {cvs : List V} {us : List Value} {p1 tpos : Pos} {kk : Nat} {es : List Expr} (hx : xaOf X.A.handled = a) (hp : (a, oe) ∈ X.pn) (C : ExcC X.K D) (hz : Zc (.ref D) none oe) (hf : ∃ vs, oe.data = .fields vs)
    (hcls : ∀ X' : Cx, X'.env = X.env → X'.mg = X.mg → PA X' es (tCs cvs)) (hlen : cvs.length ≤ sizeLine) (hcv : Paired ClsV cvs us) (hkit : PySem.W.kitAny X.K (.ref D) us = some b) (hg : Gl X "isinstance") (hm : X.mg "isinstance" = none)
    (hN : X.N[k]? = some x := by rfl) (hv : Vis X.env.scope x := by first | exact Or.inl rfl | exact Or.inr (Or.inl rfl) | exact Or.inr (Or.inr rfl)) (hd : (x == ("__debug__" : Str)) = false := by decide) (hcd : (x == ("__classdict__" : Str)) = false := by decide)
    (he : ∀ X' : Cx, starEach [.Name x p1, .Tuple es kk tpos] X'.env = (false, eval (.Name x p1) X'.env) :: starEach [.Tuple es kk tpos] X'.env := by intro _; rfl) (he2 : ∀ X' : Cx, starEach [.Tuple es kk tpos] X'.env = (false, eval (.Tuple es kk tpos) X'.env) :: starEach [] X'.env := by intro _; rfl) (hpl : ∀ X' : Cx, (backTo pos (starEach [.Tuple es kk tpos] X'.env)).any (·.1) = false := by intro _; rfl) :
    SE X (.Call (.Name "isinstance" p) [.Name x p1, .Tuple es kk tpos] [] pos) (eIsE k n b) := ⟨fun pn xe W hpn tk => wE (pe_callB (X := X.tr pn xe) (call_isET' (Y := X.tr pn xe) (hpn _ hp) C hz hf) hg hm (by decide +kernel) (pa_cons (pe_var (X := X.tr pn xe) hN hv hd hcd) (pa_cons (pe_tup (hcls (X.tr pn xe) rfl rfl)) pa_nil (he2 (X.tr pn xe))) (he (X.tr pn xe))) (by decide) (by decide) (he (X.tr pn xe)) (hpl (X.tr pn xe))) fun σ H Q ⟨c, P, env, S, st, q⟩ => by
  have q0 : GPost c P H W σ RepV Q (match env[k]? with
    | some (.ex m) => if m = n then .ok (.bl b) S else .stuck
    | _ => .stuck) := q
  cases ek : env[k]? with
  | none => rw [ek] at q0; exact q0.elim
  | some s =>
    rw [ek] at q0
    cases s with
    | ex m =>
      by_cases hmn : m = n
      · have q1 : GPost c P H W σ RepV Q (if m = n then .ok (.bl b) S else .stuck) := q0
        rw [if_pos hmn] at q1
        have z : (σ[k]?).getD none = some (.ref c.mg.2) := st.er.slots k _ ek
        have ea : σ[k]? = some (some (.ref a)) := by
          have hma : c.mg.2 = a := by rw [st.mg]; exact hx
          rw [hma] at z
          cases q : σ[k]? with
          | none => rw [q] at z; cases z
          | some w => rw [q] at z; rw [show w = some (.ref a) from z]
        exact ⟨.ref a, ea, hlen, fun tp htp => ⟨tp, cvs, us, b, rfl, upd_same, hcv, hkit, q1.grow st (grow_new htp) rfl⟩⟩
      · have q1 : GPost c P H W σ RepV Q (if m = n then .ok (.bl b) S else .stuck) := q0
        rw [if_neg hmn] at q1
        exact q1.elim
    | no => exact q0.elim
    | val d => exact q0.elim
    | own d => exact q0.elim⟩
/-! ### isinstance of data: a built-in type -/
theorem ty_rep {c : Cc} {P : List Addr} {H : Hp} {d : D} {v : V} {u : String} (r : RepB c P H d v) (e : tyD d = some u) : TyX c.K H v (.type u) := by
  cases d with
  | non => cases e; rw [r.non]; exact .base .non
  | bl b => cases e; rw [r.bl]; exact .base (.bl b)
  | int b => cases e; rw [r.int]; exact .base (.int b)
  | str b => cases e; rw [r.str]; exact .base (.str b)
  | tup ds =>
    cases e
    obtain ⟨a, vs, rfl, h, _⟩ := r.tup
    rcases h with (h | ⟨o, h⟩) | ⟨o, its, n, h1, h2, _⟩
    · exact .base (.tup h)
    · exact .fTuple h
    · exact .kTuple h1 h2
  | lst ds =>
    cases e
    obtain ⟨a, vs, rfl, h, _⟩ := r.lst
    rcases h with h | ⟨o, h⟩
    · exact .base (.lst h)
    · exact .base (.frz h)
  | _ => cases e
/-- the types that data have -/
def tyNames : List String := ["NoneType", "bool", "int", "str", "tuple", "list"]
theorem tyD_mem {d : D} {u : String} (e : tyD d = some u) : u ∈ tyNames := by
  cases d <;> first
    | (cases e; decide)
    | cases e
theorem se_isTy {tn : String} {p1 : Pos} (ha : SB X e f) (ht : ∀ u ∈ tyNames, kitB u tn = some (u == tn || (u == "bool" && tn == "int"))) (hg : Gl X "isinstance") (hm : X.mg "isinstance" = none) (hgt : Gl X x) (hmt : X.mg x = none) (hvt : bootBuiltins x = some (.type tn)) (hn : x ≠ "__name__" := by decide) (hd : (x == ("__debug__" : Str)) = false := by decide)
    (he : ∀ X' : Cx, starEach [e, .Name x p1] X'.env = (false, eval e X'.env) :: starEach [.Name x p1] X'.env := by intro _; rfl) (he2 : ∀ X' : Cx, starEach [.Name x p1] X'.env = (false, eval (.Name x p1) X'.env) :: starEach [] X'.env := by intro _; rfl) (hpl : ∀ X' : Cx, (backTo pos (starEach [.Name x p1] X'.env)).any (·.1) = false := by intro _; rfl) :
    SE X (.Call (.Name "isinstance" p) [e, .Name x p1] [] pos) (e1 (isTyD tn) f) := ⟨fun pn xe W hpn tk => wE (pe_callB (X := X.tr pn xe) call_isi hg hm (by decide +kernel) (pa_cons (ha.run pn xe W hpn tk) (pa_cons (pe_bltn (X := X.tr pn xe) (v := .ty tn) hgt hmt hvt rfl hn hd) pa_nil (he2 (X.tr pn xe))) (he (X.tr pn xe))) (by decide) (by decide) (he (X.tr pn xe)) (hpl (X.tr pn xe))) fun σ H Q ⟨c, P, env, S, st, q⟩ => by
  refine gbind st q fun c1 S1 H1 d v x1 st1 r1 q1 => ?_
  obtain ⟨z, e, q2⟩ := GPost.lift q1
  cases eu : tyD d with
  | none => unfold isTyD at e; rw [eu] at e; cases e
  | some u =>
    unfold isTyD at e
    rw [eu] at e
    cases e
    have ty := ty_rep r1 eu
    rw [st1.K] at ty
    exact ⟨v, .ty tn, .type u, .type tn, _, rfl, .ty tn, ty, kit_ty (ht u (tyD_mem eu)), q2.here st1 rfl⟩⟩
end
end Kb

set_option Elab.async false
set_option linter.all false
set_option maxRecDepth 100000
/-! Kb10: the end of a law; what the head tells. -/
namespace Kb
open PySem PySem.Spec PyProof.Rows L2 RZ
theorem ints_reps {c : Cc} {H : Hp} : ∀ ns : List Int, Reps c H (ns.map D.int) (ns.map V.int)
  | [] => rfl
  | n :: ns => ⟨.int n, ns.map V.int, rfl, rfl, ints_reps ns⟩
theorem law_hsp {K : PySem.W.Frag} {mg : Str → Option Value} {F : List D → M D} {H : Hp} {a : Addr} {ns : List Int} (hO : Only H) (hS : SqL K H a (ns.map V.int)) (h : ∃ S', F [.scr (ns.map D.int)] [] = .ok (.bl true) S') :
    spF K mg F [.ref a] H (fun v _ => v = .bl true) fun _ _ _ => False := by
  obtain ⟨S', e⟩ := h
  refine ⟨⟨K, (mg, 0), [], [], []⟩, [], [], [.scr (ns.map D.int)], rfl, rfl, ⟨fun a => by simp, (fun a z => by cases z), List.nodup_nil, (fun a z => by cases z), rfl, (fun n ds a e1 e2 => by cases e1)⟩, ⟨.ref a, [], rfl, ⟨a, ns.map V.int, rfl, ?_, ints_reps ns⟩, rfl⟩, ?_⟩
  · rcases hS with (h | ⟨o, h⟩) | h
    · rcases hO a with z | ⟨o, xs, z⟩
      · rw [z] at h; cases h
      · rw [z] at h; cases h
    · exact .inl ⟨o, h⟩
    · exact .inr h
  · rw [e]
    exact fun c' H' b _ _ r => r
theorem law_cx {P : Program} {w : World} (H : Hp) (s : Shared) (e : Value) (s' : Shared) (h : L2.CX P w [] H s (fun _ _ _ => False) e s') : False := by
  obtain ⟨_, _, _, _, _, _, _, _, _, _, _, _, none⟩ := h
  exact none.elim
theorem bit_bits (z : Int) : bit z ≤ Builtin.Int.intBits z := by
  unfold bit Builtin.Int.intBits
  split
  · rename_i h
    have : z.natAbs = 0 := by first | omega | simpa using h
    rw [this]
    decide
  · omega
/-- a law's end: the wish may hang on the world -/
theorem walk_ofY {l : PySem.W.OpenLaw} {n k : Nat} {qq : Program} {lo : List Str} {XP : (Str → Option Value) → Heap → Prop} {YP : World → Heap → Prop} {d : DefRec} {CX : World → CXT} {x : Str}
    (hmost : l.most = some n) (hsz : n ≤ sizeLine) (hnod : d.params.defaults = []) (room : Room k callerA)
    (law : ∀ (wd : World) (mg : Str → Option Value) (la : Addr) (h : Heap), YP wd h → h.Ns mainGlobals mg → mg d.name = some (.ref la) →
      ∃ (K : PySem.W.Frag) (ld : FuncData) (lsp : Sp), K.In h ∧ (∀ (s : Shared) (u : Value), BindsTo s ld ⟨[u], []⟩ [(x, u)]) ∧
        (∀ (H : Hp) (a : Addr) (ns : List Int), ns.length ≤ n → (∀ z ∈ ns, bit z ≤ 1048576) → Only H → SqL K H a (ns.map V.int) → lsp [.ref a] H (fun v _ => v = .bl true) fun _ _ _ => False) ∧
        ∀ base : Heap, K.In base → base.Ns mainGlobals mg → FnOk l.prog wd K mg base (CX wd) k la ld [x] lsp)
    (noX : ∀ (wd : World) (H : Hp) (s : Shared) (e : Value) (s' : Shared), CX wd [] H s (fun _ _ _ => False) e s' → False) :
    PySem.W.WalkO qq lo XP YP l.row.toRowW d [] (fun f vs => PySem.call f vs) := by
  refine Att.attach_callB hmost hnod fun wd sa sb mg mb la o pm cd doc a vs ns G Y ho hd hcd hmg hobj hints hlen hbits hg => ?_
  obtain ⟨K, ld, lsp, KX, hbd, hls, hlaw⟩ := law wd mg la _ Y G.T.g hmg
  exact law_call KX G.T.g G.T.b G.T.builtins G.T.nolimit hg hobj hints (Nat.le_trans hlen hsz) room hlaw hbd (fun H hO hS => hls H a ns hlen (fun z hz => Nat.le_trans (bit_bits z) (hbits z hz)) hO hS) fun H e s' => noX wd H sb e s'
/-- the function data of a def of the top -/
def fdOf (K : PySem.W.Frag) (p : Str × Option Str) : FuncData := match K.lookup (He.fAd K p) with
  | some ⟨_, _, .func fd, _⟩ => fd
  | _ => PySem.W.fnOf Str.empty Str.empty { posonlyargs := [], args := [], vararg := none, kwonlyargs := [], kw_defaults := [], kwarg := none, defaults := [] } [] { kind := .function, names := [], isGenerator := false, isCoroutine := false } .none .none .none .none none .none .none
theorem fd_of {K : PySem.W.Frag} {x qual : Str} {params : Arguments} {body : List Stmt} {scope : Scope} {dvs : List V} {kws : List (Str × V)} {p : Str × Option Str} (h : ∃ fd, FunD K x qual params body scope dvs kws (He.fAd K p) fd) : FunD K x qual params body scope dvs kws (He.fAd K p) (fdOf K p) := by
  obtain ⟨fd, F⟩ := h
  obtain ⟨oc, od, dV, kV, doc, pm, an, cdv, ct, osl, e, lk, _⟩ := F.ex
  have z : fdOf K p = fd := by
    unfold fdOf
    rw [lk]
  rw [z]
  exact F
section
variable {h : Heap} {mg : Str → Option Value} {K : PySem.W.Frag}
/-- a tuple of the top -/
def tupF (x : Str) (vs : List He.Dv) (K : PySem.W.Frag) : Bool := He.eqO (PySem.W.nsIn K mainGlobals x) (some (some (.ref (He.ga K x)))) && He.tupB K x vs
/-- the Hook: facts, defs, one more Bool -/
abbrev AlY : Type := He.AlD × Bool
def obsY (n : Nat) (fa : List He.Fa) (fn : List He.DefD) (ex : PySem.W.Frag → Bool) (g : Addr → Option Obj) : AlY := (He.obsD fa fn (He.frG g (He.asD g n)), ex (He.frG g (He.asD g n)))
def hookY (n : Nat) (fa : List He.Fa) (fn : List He.DefD) (ex : PySem.W.Frag → Bool) : PySem.W.Hook where
  α := AlY
  obs := fun s => obsY n fa fn ex s.heap.get?
  val := fun _ => (He.valD fn, true)
  says := fun _ h => ∃ Fr : PySem.W.Frag, Fr.In h ∧ He.SaysD fa fn Fr ∧ ex Fr = true
  of := fun _ _ e => ⟨_, He.frG_in, congrArg (fun z : AlY => z.1) e, congrArg (fun z : AlY => z.2) e⟩
  keeps := fun _ _ _ ⟨Fr, hF, cc⟩ kp => ⟨Fr, PySem.W.Frag.In.keeps hF kp, cc⟩
theorem obsY_eq {n : Nat} {fa : List He.Fa} {fn : List He.DefD} {ex : PySem.W.Frag → Bool} {g : Addr → Option Obj} {s : Shared} (h : ∀ a, g a = s.heap.get? a) : obsY n fa fn ex g = (hookY n fa fn ex).obs s := by
  have eg : g = s.heap.get? := funext h
  rw [eg] <;> rfl
/-- an exception class of the top -/
theorem exc_of (X : K.In h) (G : h.Ns mainGlobals mg) {n : String} (c1 : (He.Fa.glo (Str.ofString n)).ok K = true) (c2 : (He.Fa.exc (Str.ofString n)).ok K = true) : ExcF K mg n (He.ga K (Str.ofString n)) := by
  obtain ⟨h1, h2, h3, h4⟩ := He.exc_ok c2
  exact ⟨He.glo_ok X G c1, h1, h2, h3, h4⟩
/-- .. so that isinstance asks its errors rightly -/
def excCB (K : PySem.W.Frag) (n : String) : Bool := He.eqO (PySem.W.findIn K (.ref (He.ga K (Str.ofString n))) "__getattribute__") (some (some (.builtin "BaseException.__getattribute__"))) && (He.eqO (PySem.W.findIn K (.ref (He.ga K (Str.ofString n))) "__getattr__") (some none) &&
  (decide (PySem.W.subIn K (.ref (He.ga K (Str.ofString n))) (.type "BaseException") = some true) && (PySem.W.hasDictIn K (He.ga K (Str.ofString n)) && (He.eqO (PySem.W.findIn K (.ref (He.ga K (Str.ofString n))) "__class__") (some (some (.builtin "object.__class__"))) &&
  (He.eqO (PySem.W.specialIn K (.builtin "object.__class__") "__get__") (some (some (.builtin "getset_descriptor.__get__"))) && (decide (PySem.W.takesIn K (.builtin "object.__class__") = some true) && decide (PySem.W.mroIn K (He.ga K (Str.ofString n)) (.type "object") = some true)))))))
theorem excCB_ok {n : String} (h : excCB K n = true) : ExcC K (He.ga K (Str.ofString n)) := by
  unfold excCB at h
  obtain ⟨h1, h⟩ := He.ba h
  obtain ⟨h2, h⟩ := He.ba h
  obtain ⟨h3, h⟩ := He.ba h
  obtain ⟨h4, h⟩ := He.ba h
  obtain ⟨h5, h⟩ := He.ba h
  obtain ⟨h6, h⟩ := He.ba h
  obtain ⟨h7, h8⟩ := He.ba h
  exact ⟨He.eqO_ok h1, He.eqO_ok h2, of_decide_eq_true h3, h4, He.eqO_ok h5, He.eqO_ok h6, of_decide_eq_true h7, of_decide_eq_true h8⟩
/-- isinstance of an error of the class n against the class m -/
def kitF (K : PySem.W.Frag) (n m : String) (b : Bool) : Bool := decide (PySem.W.kitOne K (.ref (He.ga K (Str.ofString n))) (.ref (He.ga K (Str.ofString m))) = some b)
theorem kitF_ok {n m : String} {b : Bool} (h : kitF K n m b = true) : PySem.W.kitOne K (.ref (He.ga K (Str.ofString n))) (.ref (He.ga K (Str.ofString m))) = some b := of_decide_eq_true h
def exB (fs : List (PySem.W.Frag → Bool)) (K : PySem.W.Frag) : Bool := fs.all fun f => f K
theorem exB_at {fs : List (PySem.W.Frag → Bool)} (h : exB fs K = true) (i : Nat) {f : PySem.W.Frag → Bool} (e : fs[i]? = some f := by rfl) : f K = true := List.all_eq_true.mp h f (List.mem_of_getElem? e)
end
section
variable {X : Cx} {e : Expr} {f : EM D} {pos p : Pos} {g : EM (List D)}
/-- list(e), a new one -/
theorem sf_list (hg : Gl X "list") (hm : X.mg "list" = none) (ha : SA RepsB X [e] g) (he : ∀ X' : Cx, starEach [e] X'.env = (false, eval e X'.env) :: starEach [] X'.env := by intro _; rfl) (hpl : ∀ X' : Cx, (backTo pos (starEach [] X'.env)).any (·.1) = false := by intro _; rfl) : SF X (.Call (.Name "list" p) [e] [] pos) (fList g) :=
  ⟨fun pn xe W hp tk => wE (pe_callTy (X := X.tr pn xe) call_list_of hg hm (by decide +kernel) (ha.run pn xe W hp tk) (by decide) (by decide) (he (X.tr pn xe)) (hpl (X.tr pn xe))) fun σ H Q ⟨c, P, env, S, st, q⟩ => by
    refine fbind st q fun c1 S1 H1 a b x1 st1 r1 q1 => ?_
    match a, q1 with
    | [.lst ds], q1 =>
      obtain ⟨v, rfl, r⟩ := r1.one
      obtain ⟨a, us, rfl, h1, h2⟩ := r.lst
      exact ⟨a, us, rfl, .inl (.inl h1), fun l hl => q1.lay st1 h2 hl⟩
    | [.tup ds], q1 =>
      obtain ⟨v, rfl, r⟩ := r1.one
      obtain ⟨a, us, rfl, h1, h2⟩ := r.tup
      exact ⟨a, us, rfl, .inr (by rw [← show c1.K = (X.tr pn xe).K from st1.K]; exact h1), fun l hl => q1.lay st1 h2 hl⟩⟩
end
end Kb

set_option linter.all false
set_option maxRecDepth 100000
set_option Elab.async false
set_option maxHeartbeats 4000000
/-! Kb11: a row times an int. -/
namespace Kb
open L2 PySem PySem.Spec PyProof.Rows
theorem tmul_one (l : Addr) (items : Array Value) (n : Nat) (dd : Option Addr) (sl : Array (Option Value)) (x : Int) (u : Tok) (h1 : x = 1) :
    Meets (Builtin.«tuple.__mul__» ⟨[.ref l, .int x u], []⟩) (fun _ R s => s.heap.get? l = some { cls := .type "tuple", dict := dd, data := .seq items n, slots := sl } ∧ R (.ok (.ret (Value.ref l))) s) :=
  .of_wp fun prog w A R s h => by
    obtain ⟨hp, g, d, tk, os⟩ := s
    obtain ⟨hl, h⟩ := h
    have f1 := AutoSeq1.idx_int
    subst h1
    wp_walk using wpAny_loadPart' hl
    exact ⟨_, rfl, h⟩
theorem tmul_none (l : Addr) (items : Array Value) (n : Nat) (dd : Option Addr) (sl : Array (Option Value)) (x : Int) (u : Tok) (c0 : (decide (x < -(2 ^ 63)) || decide (x ≥ 2 ^ 63)) = false) (c1 : (items.isEmpty || x == 1) = false) (c2 : (decide (x ≤ 0) || items.isEmpty) = true) :
    Meets (Builtin.«tuple.__mul__» ⟨[.ref l, .int x u], []⟩) (fun _ R s => s.heap.get? l = some { cls := .type "tuple", dict := dd, data := .seq items n, slots := sl } ∧
      R (.ok (.ret (Value.ref s.heap.objs.size))) { s with heap := s.heap.push { cls := Value.type "tuple", data := Data.seq #[] }, toks := s.toks }) :=
  .of_wp fun prog w A R s h => by
    obtain ⟨hp, g, d, tk, os⟩ := s
    obtain ⟨hl, h⟩ := h
    have f1 := AutoSeq1.idx_int
    wp_walk using wpAny_loadPart' hl
    repeat (first
      | (refine wpAny_ite_false (decide_eq_false (by rw [c0]; exact Bool.false_ne_true)) ?_; wp_walk using wpAny_loadPart' hl)
      | (refine wpAny_ite_false (decide_eq_false (by rw [c1]; exact Bool.false_ne_true)) ?_; wp_walk using wpAny_loadPart' hl)
      | (refine wpAny_ite_true (decide_eq_true c2) ?_; wp_walk using wpAny_loadPart' hl))
    exact ⟨_, rfl, h⟩
end Kb
namespace Kb
open L2 PySem PySem.Spec PyProof.Rows
section
variable {X : Cx} {a b : Expr} {f g : EM D} {pos : Pos}
/-- a row times an int, whatever the int -/
theorem op_tmul : OpR X (binaryOp .Mult) (fun x y H Q => ∃ l k xs, x = .ref l ∧ y = .int k ∧ SqT X.K H l xs ∧ xs ≠ [] ∧ -1000 ≤ k ∧ k ≤ 1000 ∧ xs.length ≤ 1000 ∧ (k = 1 → Q (.ref l) H) ∧ (k ≠ 1 → ∀ p, H p = none → Q (.ref p) (upd H p (.tup (List.replicate k.toNat xs).flatten)))) := by
  intro pn sh ρ H x y v u Q inv rx ry h
  obtain ⟨l, k, xs, rfl, rfl, hT, hne, h0, h1, hz, q1, q2⟩ := h
  by_cases h2 : 2 ≤ k
  · exact op_repT _ _ _ _ _ _ _ _ _ inv rx ry ⟨l, k, xs, rfl, rfl, hT, hne, h2, h1, hz, q2 (by omega)⟩
  · cases rx
    obtain ⟨t, rfl⟩ := ry
    obtain ⟨its, r, ⟨⟨cls, dd, data, sl⟩, ho, hc, n, hd⟩, hs⟩ := inv.tuple hT
    simp only at hc hd
    subst hc hd
    have hi : its.toArray.isEmpty = false := by
      cases its with
      | nil => exact absurd (List.eq_nil_of_length_eq_zero r.length) hne
      | cons _ _ => rfl
    have c0 : (decide (k < -(2 ^ 63)) || decide (k ≥ 2 ^ 63)) = false := by
      rw [decide_eq_false (by omega), decide_eq_false (by omega)] <;> rfl
    refine wpAny_binaryOp_repeat_ref (T := "tuple") (U := "int") (by decide) ⟨_, ho, rfl⟩ (fun s' => typeIs_int s' k t) noFill_tuple_mul F.fills_int_mul F.slot_int_rmul repeat_tuple F.slot_int_index.lookup
      (call_meets F.slot_int_rmul (typeIs_int sh k t) F.entry_int_rmul (F.args_int_rmul_2 _ _) (int_rmul_tuple k t l its.toArray n dd sl)
        ⟨ho, rfl, ⟨_, ho, rfl⟩, ?_⟩)
    by_cases h3 : k = 1
    · exact call_meets F.slot_tuple_mul ⟨_, ho, rfl⟩ F.entry_tuple_mul (F.args_tuple_mul_2 _ _) (tmul_one l its.toArray n dd sl k t h3) ⟨ho, .ref l, H, inv, rfl, q1 h3⟩
    · refine call_meets F.slot_tuple_mul ⟨_, ho, rfl⟩ F.entry_tuple_mul (F.args_tuple_mul_2 _ _) (tmul_none l its.toArray n dd sl k t c0 (by rw [hi, Bool.false_or]; exact beq_eq_false_iff_ne.mpr h3) (by rw [hi, Bool.or_false]; exact decide_eq_true (by omega))) ⟨ho, ?_⟩
      have e0 : k.toNat = 0 := by omega
      have q3 := q2 h3 sh.heap.objs.size (inv.hok.fresh (Nat.le_refl _))
      rw [e0] at q3
      refine ⟨.ref sh.heap.objs.size, _, inv.laid (t' := sh.toks) (o := .tup []) (fun b ob q => Heap.get?_push_of_some _ q) (Nat.le_refl _) ?_, rfl, q3⟩
      exact ⟨Nat.zero_le _, _, .nil, IsTup.new _ _⟩
theorem tmulS : OpS X.K RepB RepV mulTD (fun x y H Q => ∃ l k xs, x = .ref l ∧ y = .int k ∧ SqT X.K H l xs ∧ xs ≠ [] ∧ -1000 ≤ k ∧ k ≤ 1000 ∧ xs.length ≤ 1000 ∧ (k = 1 → Q (.ref l) H) ∧ (k ≠ 1 → ∀ p, H p = none → Q (.ref p) (upd H p (.tup (List.replicate k.toNat xs).flatten)))) := by
  intro mg c P env S σ H W Q x y v w z st rx ry e q
  cases x with
  | tup ds =>
    cases y with
    | int k =>
      obtain ⟨⟨hne, h0, h1, h2⟩, rfl⟩ := iteS (p := ds ≠ [] ∧ -1000 ≤ k ∧ k ≤ 1000 ∧ ds.length ≤ 1000) e
      obtain ⟨l, us, rfl, hT, r⟩ := rx.tup
      have ey : w = .int k := ry
      subst ey
      rw [st.K] at hT
      refine ⟨l, k, us, rfl, rfl, hT, fun e0 => hne ?_, h0, h1, by rw [r.length]; exact h2, fun e1 => ?_, fun _ p hp => q.newT st (Reps.rep k.toNat r) hp⟩
      · subst e0; exact List.eq_nil_of_length_eq_zero r.length.symm
      · subst e1
        have e2 : (List.replicate (1 : Int).toNat ds).flatten = ds := by simp
        rw [e2] at q
        exact q.here st ⟨l, us, rfl, by rw [st.K]; exact hT, r⟩
    | _ => cases e
  | _ => cases e
theorem se_mulT (ha : SB X a f) (hb : SE X b g) : SE X (.BinOp a .Mult b pos) (e2 mulTD f g) := se_bin (fun _ _ => op_tmul) tmulS ha hb
theorem lmulS : OpS X.K RepB RepV mulLD (fun x y H Q => ∃ l k xs, x = .ref l ∧ y = .int k ∧ Rd H l (.lst xs) ∧ -(2 ^ 63) ≤ k ∧ k < 2 ^ 63 ∧ xs.length * k.toNat ≤ sizeLine ∧ ∀ p, H p = none → Q (.ref p) (upd H p (.lst (List.replicate k.toNat xs).flatten))) := by
  intro mg c P env S σ H W Q x y v w z st rx ry e q
  cases x with
  | lst ds =>
    cases y with
    | int k =>
      obtain ⟨⟨h0, h1, h2⟩, rfl⟩ := iteS (p := -100000 ≤ k ∧ k ≤ 100000 ∧ ds.length * k.toNat ≤ LN) e
      obtain ⟨l, us, rfl, hT, r⟩ := rx.lst
      have ey : w = .int k := ry
      subst ey
      exact ⟨l, k, us, rfl, rfl, hT, by omega, by omega, by rw [r.length, ← LN_eq]; exact h2, fun p hp => q.newL st (Reps.rep k.toNat r) hp⟩
    | _ => cases e
  | _ => cases e
end
end Kb

set_option Elab.async false
set_option linter.all false
set_option maxRecDepth 100000
/-! Kb12: constants of the top, in, not in, a list comprehension to a name that is a cell, isinstance of an error and a built-in class. -/
namespace Kb
open L2 PySem PyProof.Rows PySem.Spec
/-- the value v stands for the datum d, whatever happens -/
def datB (K : PySem.W.Frag) : Nat → D → Value → Bool
  | 0, _, _ => false
  | n + 1, d, v => match d, v with
    | .non, .none => true
    | .bl b, .bool c => b == c
    | .int i, .int k _ => decide (i = k)
    | .str x, .str z _ => decide (x = z)
    | .tup ds, .ref a => match K.lookup a with
      | some ⟨.type c, _, .seq its _, _⟩ => decide (c = "tuple") && (decide (its.size ≤ sizeLine) && (decide (ds.length = its.toList.length) && (List.zipWith (datB K n) ds its.toList).all id))
      | _ => false
    | _, _ => false
def conB (x : Str) (d : D) (K : PySem.W.Frag) : Bool := match PySem.W.nsIn K mainGlobals x with
  | some (some v) => datB K 8 d v
  | _ => false
/-- a name of the top that stands for data -/
def ConF (K : PySem.W.Frag) (mg : Str → Option Value) (x : Str) (d : D) : Prop := ∃ u v, mg x = some u ∧ RelV v u ∧ ∀ (c : Cc) (H : Hp), c.K = K → Rep c H d v
theorem ConF.se {X : Cx} {x : Str} {d : D} {pos : Pos} (h : ConF X.K X.mg x d) (hg : Gl X x) (hd : (x == ("__debug__" : Str)) = false) : SE X (.Name x pos) (eC d) := let ⟨_, _, hm, r, hr⟩ := h; se_glob hg hm r hr hd
theorem datB_ok {K : PySem.W.Frag} : ∀ (n : Nat) (d : D) (v : Value), datB K n d v = true → ∃ u : V, RelV u v ∧ ∀ (c : Cc) (H : Hp), c.K = K → Rep c H d u
  | 0, _, _, h => by cases h
  | n + 1, d, v, h => by
    unfold datB at h
    split at h
    · exact ⟨.non, rfl, fun _ _ _ => rfl⟩
    · rename_i b c
      exact ⟨.bl c, rfl, fun _ _ _ => by rw [beq_iff_eq.mp h]; rfl⟩
    · rename_i i j t
      exact ⟨.int j, ⟨t, rfl⟩, fun _ _ _ => by rw [of_decide_eq_true h]; rfl⟩
    · rename_i x y t
      exact ⟨.str y, ⟨t, rfl⟩, fun _ _ _ => by rw [of_decide_eq_true h]; rfl⟩
    · rename_i ds a
      split at h
      · rename_i cl dd its m sl q
        obtain ⟨h1, h⟩ := He.ba h
        obtain ⟨h2, h⟩ := He.ba h
        obtain ⟨h3, h4⟩ := He.ba h
        have go : ∀ (ds : List D) (vs : List Value), ds.length = vs.length → (List.zipWith (datB K n) ds vs).all id = true → ∃ us : List V, Vals us vs ∧ ∀ (c : Cc) (H : Hp), c.K = K → Reps c H ds us := by
          intro ds
          induction ds with
          | nil =>
            intro vs hl _
            cases vs with
            | nil => exact ⟨[], .nil, fun _ _ _ => rfl⟩
            | cons _ _ => cases hl
          | cons d ds ih =>
            intro vs hl ha
            cases vs with
            | nil => cases hl
            | cons v vs =>
              rw [List.zipWith_cons_cons, List.all_cons, Bool.and_eq_true] at ha
              obtain ⟨u, r1, r2⟩ := datB_ok n d v ha.1
              obtain ⟨us, r3, r4⟩ := ih vs (by simpa using hl) ha.2
              exact ⟨u :: us, .cons r1 r3, fun c H e => ⟨u, us, rfl, r2 c H e, r4 c H e⟩⟩
        obtain ⟨us, r1, r2⟩ := go ds its.toList (of_decide_eq_true h3) h4
        refine ⟨.ref a, rfl, fun c H e => ⟨a, us, rfl, ?_, r2 c H e⟩⟩
        subst e
        exact .inr ⟨_, its, m, q, congrArg Value.type (of_decide_eq_true h1), rfl, of_decide_eq_true h2, r1⟩
      · cases h
    · cases h
theorem con_ok {K : PySem.W.Frag} {h : Heap} {mg : Str → Option Value} {x : Str} {d : D} (X : K.In h) (G : h.Ns mainGlobals mg) (e : conB x d K = true) : ConF K mg x d := by
  unfold conB at e
  split at e
  · rename_i v q
    obtain ⟨u, r1, r2⟩ := datB_ok 8 d v e
    exact ⟨v, u, PySem.W.mg_of X G q, r1, r2⟩
  · cases e
theorem gl_ {X X' : Cx} {x : Str} (e : X'.env = X.env) (h : Gl X x) : Gl X' x := by unfold Gl; rw [e]; exact h
theorem lk_ : ∀ (cs : List (String × Bool)) {n : String}, cs.lookup n = some true → (n, true) ∈ cs := fun cs n h => by
  induction cs with
  | nil => cases h
  | cons p r ih =>
    obtain ⟨m, b⟩ := p
    rw [List.lookup_cons] at h
    cases q : (n == m) with
    | true => rw [q] at h; cases h; rw [beq_iff_eq.mp q]; exact List.mem_cons_self
    | false => rw [q] at h; exact List.mem_cons_of_mem _ (ih h)
/-- isinstance of an error of the class n against a built-in one -/
def kitT (K : PySem.W.Frag) (n T : String) (b : Bool) : Bool := decide (PySem.W.kitOne K (.ref (He.ga K (Str.ofString n))) (.type T) = some b)
theorem kitT_ok {K : PySem.W.Frag} {n T : String} {b : Bool} (h : kitT K n T b = true) : PySem.W.kitOne K (.ref (He.ga K (Str.ofString n))) (.type T) = some b := of_decide_eq_true h
section
variable {X : Cx} {a b e : Expr} {f g : EM D} {pos pos' : Pos} {x : Str}
theorem sw_cell {elt : Expr} {gs : List Comprehension} {scope : Scope} {p py : Pos} {y : Str} {l : Nat} {env : PySem.Env} (h : (env.kindOf y == some .local) = false) : swapsWith (.ListComp elt gs scope p) (some (.Name y py)) l env = pure false := by
  unfold swapsWith
  simp only [h, Bool.and_false, Bool.false_and]
theorem ss_setC (k : Nat) (hN : X.N.Nodup) (ha : SE X e f) (hs : ∀ X' : Cx, X'.env = X.env → swapsWith e (some (.Name x pos')) pos.line X'.env = pure false) (hi : X.N[k]? = some x := by rfl) (hx : Loc X.env.scope x := by first | exact Or.inl rfl | exact Or.inr rfl) (hf : X.fn x = true ∨ X.env.scope.names.lookup x = some .local := by first | exact .inl rfl | exact .inr rfl) :
    SS X (.Assign [.Name x pos'] e pos) (sSet k f) := ⟨fun pn xe W hp tk po => wS (ps_set (X := X.tr pn xe) (i := k) hN hi hx (ha.run pn xe W hp tk) (hs (X.tr pn xe) rfl) hf) fun D σ H ⟨c, P, G, env, S, st, q⟩ => by
  refine sbind st q fun c1 S1 H1 d v x1 st1 r1 q1 => ?_
  exact SPost.here (st1.fr.put k r1) (SPost.ext (c' := c1) (H' := H1) q1 Ext.refl)⟩
/-! ### in -/
def rInX (K : PySem.W.Frag) (k : Bool) : R2 := fun x y H Q =>
  (∃ d ds, Dp K H x d ∧ (Dp K H y (.list ds) ∨ Dp K H y (.tuple ds)) ∧ SeqAt.shaped d = true ∧ SeqAt.shaped (.list ds) = true ∧ Q (.bl (k != ds.any fun z => PyData.eqv z d)) H) ∨
  (∃ (c : Nat) (z : Str), x = .str ⟨#[c]⟩ ∧ y = .str z ∧ Q (.bl (k != decide (c ∈ z.cps.toList))) H)
theorem op_inX (hu : X.A.units + 65 < cLine) : OpR X (compareOp .In) (rInX X.K false) := by
  intro pn z σ H x y v u Q I rx ry h
  rcases h with ⟨d, ds, hd, he, sd, se, q⟩ | h
  · obtain ⟨as, r1⟩ := Dp.reads I d x v hd rx
    rw [Bool.false_bne] at q
    rcases he with he | he
    · obtain ⟨bs, r2⟩ := Dp.reads I (.list ds) y u he ry
      exact SeqAt.in_list_reads r2 r1 (SeqAt.canLay_of_shaped se) (SeqAt.canLay_of_shaped sd) (room_in_shaped sd hu) (by exact ⟨.bl _, H, I, rfl, q⟩)
    · obtain ⟨bs, r2⟩ := Dp.reads I (.tuple ds) y u he ry
      exact SeqAt.in_tuple_reads r2 r1 (SeqAt.canLay_of_shaped se) (SeqAt.canLay_of_shaped sd) (room_in_shaped sd hu) ⟨.bl _, H, I, rfl, q⟩
  · obtain ⟨c, z, rfl, rfl, q⟩ := h
    rw [Bool.false_bne] at q
    exact op_in_sign _ _ _ _ _ _ _ _ _ I rx ry ⟨c, z, rfl, rfl, q⟩
theorem op_ninX (hu : X.A.units + 65 < cLine) : OpR X (compareOp .NotIn) (rInX X.K true) := by
  intro pn z σ H x y v u Q I rx ry h
  rcases h with ⟨d, ds, hd, he, sd, se, q⟩ | h
  · obtain ⟨as, r1⟩ := Dp.reads I d x v hd rx
    rw [Bool.true_bne] at q
    rcases he with he | he
    · obtain ⟨bs, r2⟩ := Dp.reads I (.list ds) y u he ry
      exact SeqAt.notIn_list_reads r2 r1 (SeqAt.canLay_of_shaped se) (SeqAt.canLay_of_shaped sd) (room_in_shaped sd hu) (by exact ⟨.bl _, H, I, rfl, q⟩)
    · obtain ⟨bs, r2⟩ := Dp.reads I (.tuple ds) y u he ry
      exact SeqAt.notIn_tuple_reads r2 r1 (SeqAt.canLay_of_shaped se) (SeqAt.canLay_of_shaped sd) (room_in_shaped sd hu) ⟨.bl _, H, I, rfl, q⟩
  · obtain ⟨c, z, rfl, rfl, q⟩ := h
    rw [Bool.true_bne] at q
    exact op_notIn_sign _ _ _ _ _ _ _ _ _ I rx ry ⟨c, z, rfl, rfl, q⟩
theorem any_py {x : D} : ∀ {ys : List D}, okd 60 x = true → okds 59 ys = true → ((pys ys).any fun z => PyData.eqv z (py x)) = ys.any fun z => eqv z x
  | [], _, _ => rfl
  | y :: ys, h, h2 => by
    have h' : (okd 59 y && okds 59 ys) = true := h2
    rw [Bool.and_eq_true] at h'
    show (PyData.eqv (py y) (py x) || (pys ys).any fun z => PyData.eqv z (py x)) = _
    rw [any_py h h'.2, eqv_py 59 60 y x h'.1 h]
    rfl
theorem inS {k : Bool} {od : D → D → Option D} (hod : ∀ x y, od x y = match y with
  | .lst ys => if (okd 60 x && okd 60 (.lst ys)) = true then some (.bl (k != ys.any fun z => eqv z x)) else none
  | .tup ys => if (okd 60 x && okd 60 (.tup ys)) = true then some (.bl (k != ys.any fun z => eqv z x)) else none
  | .str z => match x with
    | .str ⟨⟨[c]⟩⟩ => some (.bl (k != decide (c ∈ z.cps.toList)))
    | _ => none
  | _ => none) : OpS X.K RepB RepB od (rInX X.K k) := by
  intro mg c P env S σ H W Q x y v w z st rx ry e q
  rw [hod] at e
  split at e
  · rename_i ys
    obtain ⟨hl, rfl⟩ := iteS (p := (okd 60 x && okd 60 (.lst ys)) = true) e
    rw [Bool.and_eq_true] at hl
    obtain ⟨h1, h2⟩ := hl
    have d1 := rx.dp h1
    have d2 := ry.dp h2
    rw [st.K] at d1 d2
    exact .inl ⟨py x, pys ys, d1, .inl d2, okd_shaped h1, okd_shaped h2, by rw [any_py h1 h2]; exact q.here st rfl⟩
  · rename_i ys
    obtain ⟨hl, rfl⟩ := iteS (p := (okd 60 x && okd 60 (.tup ys)) = true) e
    rw [Bool.and_eq_true] at hl
    obtain ⟨h1, h2⟩ := hl
    have d1 := rx.dp h1
    have d2 := ry.dp h2
    rw [st.K] at d1 d2
    exact .inl ⟨py x, pys ys, d1, .inr d2, okd_shaped h1, okd_shaped (x := .lst ys) h2, by rw [any_py h1 h2]; exact q.here st rfl⟩
  · rename_i z
    split at e
    · rename_i c
      cases e
      exact .inr ⟨c, z, rx.str, ry.str, q.here st rfl⟩
    · cases e
  · cases e
def Hu5 (X : Cx) : Prop := X.A.units + 65 < cLine
theorem hu5_room {k : Nat} {X : Cx} (hr : Room k X.A) : Hu5 X := Nat.lt_of_le_of_lt (by omega) hr.un
theorem se_in (hu : Hu5 X) (ha : SB X a f) (hb : SB X b g) (hm : behindInMarks .In b = false := by rfl) : SE X (.Compare a [.In] [b] pos) (e2 inD f g) := se_cmp (fun pn xe => op_inX (X := X.tr pn xe) hu) (inS fun x y => by unfold inD; simp only [Bool.false_bne] <;> rfl) ha hb hm
theorem se_nin (hu : Hu5 X) (ha : SB X a f) (hb : SB X b g) (hm : behindInMarks .NotIn b = false := by rfl) : SE X (.Compare a [.NotIn] [b] pos) (e2 ninD f g) := se_cmp (fun pn xe => op_ninX (X := X.tr pn xe) hu) (inS fun x y => by unfold ninD; simp only [Bool.true_bne] <;> rfl) ha hb hm
theorem st_in (hu : Hu5 X) (ha : SB X a f) (hb : SB X b g) (hm : behindInMarks .In b = false := by rfl) : ST X (.Compare a [.In] [b] pos) (tB (e2 inD f g)) := st_cmp (fun pn xe => op_inX (X := X.tr pn xe) hu) (inS fun x y => by unfold inD; simp only [Bool.false_bne] <;> rfl) ha hb hm
theorem st_nin (hu : Hu5 X) (ha : SB X a f) (hb : SB X b g) (hm : behindInMarks .NotIn b = false := by rfl) : ST X (.Compare a [.NotIn] [b] pos) (tB (e2 ninD f g)) := st_cmp (fun pn xe => op_ninX (X := X.tr pn xe) hu) (inS fun x y => by unfold ninD; simp only [Bool.true_bne] <;> rfl) ha hb hm
end
end Kb

set_option Elab.async false
set_option linter.all false
set_option maxRecDepth 100000
/-! Kb13: sorted. -/
namespace Kb
open L2 PySem PyProof.Rows PySem.Spec
theorem sort_one : ∀ {xs ys : List Int}, xs.Perm ys → xs.Pairwise (· ≤ ·) → ys.Pairwise (· ≤ ·) → xs = ys
  | [], ys, h, _, _ => (List.Perm.nil_eq h)
  | x :: xs, [], h, _, _ => absurd (List.Perm.eq_nil h) (by intro z; cases z)
  | x :: xs, y :: ys, h, h1, h2 => by
    have h3 := List.pairwise_cons.mp h1
    have h4 := List.pairwise_cons.mp h2
    have e : x = y := by
      have a1 : y ∈ x :: xs := h.symm.subset List.mem_cons_self
      have a2 : x ∈ y :: ys := h.subset List.mem_cons_self
      have b1 : x ≤ y := by
        rcases List.mem_cons.mp a1 with z | z
        · omega
        · exact h3.1 y z
      have b2 : y ≤ x := by
        rcases List.mem_cons.mp a2 with z | z
        · omega
        · exact h4.1 x z
      omega
    subst e
    rw [sort_one (List.perm_cons x |>.mp h) h3.2 h4.2]
theorem sortI_is {ns ns' : List Int} (h : ns'.Perm ns) (h2 : ns'.Pairwise (· ≤ ·)) : ns' = sortI ns := by
  have p : (sortI ns).Perm ns := List.mergeSort_perm _ _
  have q : (sortI ns).Pairwise fun a b => decide (a ≤ b) = true := List.pairwise_mergeSort (fun a b c h1 h2 => decide_eq_true (by have := of_decide_eq_true h1; have := of_decide_eq_true h2; omega)) (fun a b => by
    by_cases h : a ≤ b
    · rw [decide_eq_true h]; rfl
    · rw [decide_eq_true (by omega : b ≤ a), Bool.or_true]) _
  exact sort_one (h.trans p.symm) h2 (q.imp fun h => of_decide_eq_true h)
section
variable {X : Cx}
theorem sortS : CallS X.K sortD (rSortedI X.K) := by
  intro mg c P env S σ H W Q xs vs z st r e q
  match xs, e with
  | [.lst ds], e =>
    have e' : (intsOf ds).map (fun ns => D.lst ((sortI ns).map .int)) = some z := e
    cases q1 : intsOf ds with
    | none => rw [q1] at e'; cases e'
    | some bs =>
      rw [q1] at e'
      cases e'
      obtain ⟨v, rfl, r1⟩ := r.one
      obtain ⟨a, us, rfl, h1, h2⟩ := r1.lst
      have e1 := ints_rep q1 h2
      subst e1
      refine ⟨a, bs, rfl, .inl h1, fun ns' p hp hs hf => ?_⟩
      rw [sortI_is hp hs]
      refine q.newL st ?_ hf
      have go : ∀ ns : List Int, Reps c H (ns.map .int) (ns.map V.int) := by
        intro ns
        induction ns with
        | nil => rfl
        | cons n ns ih => exact ⟨.int n, ns.map V.int, rfl, rfl, ih⟩
      exact go _
end
end Kb

set_option Elab.async false
set_option linter.all false
set_option maxRecDepth 100000
/-! Kb14: enumerate of a tuple. -/
namespace Kb
open PySem PySem.Spec PyProof.Rows L2 RZ
open Sem (wp)
/-- a new enumerate over the tuple at l -/
theorem enum_newT (l : Addr) (xs : Array Value) (n : Nat) (dc : Option Addr) (sl : Array (Option Value)) :
    Meets (Builtin.«enumerate.__new__» ⟨[.type "enumerate", .ref l], []⟩) (fun _ R z => z.heap.get? l = some { cls := .type "tuple", dict := dc, data := .seq xs n, slots := sl } ∧
      R (.ok (.ret (.ref (z.heap.push { cls := .type "tuple_iterator", data := .fields #[.ref l, .int 0 0] }).objs.size)))
        { z with heap := (z.heap.push { cls := .type "tuple_iterator", data := .fields #[.ref l, .int 0 0] }).push { cls := .type "enumerate", data := .fields #[.none, .bool false, .ref z.heap.objs.size, rawInt 0, .none, .none] } }) :=
  .of_wp fun prog w A R z h => by
    obtain ⟨hp, g, d, tk, os⟩ := z
    obtain ⟨hT, h⟩ := h
    have hsub := sub_enumerate
    have hI : Heap.IsTuple (Shared.heap ⟨hp, g, d, tk, os⟩) l xs := ⟨_, hT, rfl, n, rfl⟩
    wp_walk using AutoSeq1.wpAny_loadPart' hT
    refine wpAny_stack_any fun top => wpAny_pure ?_
    split
    · rename_i c _ _ _ _ _
      cases (c == Value.type "enumerate") <;>
      · wp_walk using AutoSeq1.wpAny_loadPart' hT, wpAny_pyIter_tuple hI
        exact ⟨_, rfl, h⟩
    · wp_walk using AutoSeq1.wpAny_loadPart' hT, wpAny_pyIter_tuple hI
      exact ⟨_, rfl, h⟩
section
variable {prog : Program} {w : World} {A : Around} {E : Value → Shared → Prop} {z : Shared}
theorem call_enumT {l : Addr} {xs : Array Value} {Q : Value → Shared → Prop} (ht : z.heap.IsTuple l xs)
    (k : ∀ g, IsEnum g (z.heap.objs.size + 1) z.heap.objs.size 0 .none → g.IsTupleIter z.heap.objs.size l 0 → g.objs.size = z.heap.objs.size + 2 →
      (∀ b o, z.heap.get? b = some o → g.get? b = some o) → Q (.ref (z.heap.objs.size + 1)) { z with heap := g }) :
    wpAny (model prog w) A (call (.type "enumerate") [.ref l]) Q E z := by
  obtain ⟨⟨c, dc, dt, sl⟩, hl, e1, n, e2⟩ := ht
  have e1' : c = .type "tuple" := e1
  have e2' : dt = .seq xs n := e2
  subst e1' e2'
  refine callType_new F.called_enumerate (by decide) (F.typeCall_enumerate_1 _) (F.newCall_enumerate_1 _) (fun q => F.args_object_init_2 q _) F.entry_enumerate_new (enum_newT l xs n dc sl) ⟨hl, ?_⟩
  have sz : (z.heap.push { cls := .type "tuple_iterator", data := .fields #[.ref l, .int 0 0] }).objs.size = z.heap.objs.size + 1 := Heap.size_push ..
  show _ ∧ _
  rw [sz]
  have en : IsEnum ((z.heap.push { cls := .type "tuple_iterator", data := .fields #[.ref l, .int 0 0] }).push { cls := .type "enumerate", data := .fields #[.none, .bool false, .ref z.heap.objs.size, rawInt 0, .none, .none] }) (z.heap.objs.size + 1) z.heap.objs.size 0 .none := by
    have q := Heap.get?_push_size (z.heap.push { cls := .type "tuple_iterator", data := .fields #[.ref l, .int 0 0] }) (o := { cls := .type "enumerate", data := .fields #[.none, .bool false, .ref z.heap.objs.size, rawInt 0, .none, .none] }) rfl
    rw [sz] at q
    exact q
  exact ⟨⟨_, en, rfl⟩, k _ en ⟨_, Heap.get?_push_of_some _ (Heap.get?_push_size _ rfl), rfl, rfl⟩ (by rw [Heap.size_push, sz]) fun b o q => Heap.get?_push_of_some _ (Heap.get?_push_of_some _ q)⟩
end
/-- the tuple at a, its items in new pairs -/
def IteT (K : PySem.W.Frag) (a : Addr) : It :=
  ⟨fun i H => ∃ (ys : List V) (y : V), SqT K H a ys ∧ ys[i]? = some y,
    fun i H v H' => ∃ T y, v = .ref T ∧ H T = none ∧ H' = upd H T (.tup [.int (i : Nat), y]) ∧ ∀ ys, SqT K H a ys → ys[i]? = some y,
    fun i H => ∃ ys : List V, SqT K H a ys ∧ ys.length ≤ i⟩
theorem turn_enumT {P : Program} {w : World} {K : PySem.W.Frag} {elts : List Expr} {kk : Nat} {tpos : Pos} (a e it : Addr) (hae : a ≠ e) (hai : a ≠ it) :
    Turn P w K (.Tuple elts kk tpos) (IteT K a) [e, it] e (fun i g => (∃ old, IsEnum g e it ((i : Nat) : Int) old) ∧ g.IsTupleIter it a i ∧ e ≠ it) where
  mem := by simp
  obj := fun i g st b hb => by
    obtain ⟨⟨old, he⟩, ⟨o, ho, _, hd⟩, _⟩ := st
    have q : b = e ∨ b = it := by simpa using hb
    rcases q with rfl | rfl
    · exact ⟨_, he, fun v q => nomatch q⟩
    · exact ⟨o, ho, fun v q => by rw [hd] at q; cases q⟩
  keep := fun i g g' st k => by
    obtain ⟨⟨old, he⟩, hi, hn⟩ := st
    exact ⟨⟨old, k e (by simp) _ he⟩, hi.at fun o q => k it (by simp) o q, hn⟩
  item := by
    intro X hP hw hK hc j pins s σ H E I hf st hg
    subst hP hw hK
    obtain ⟨⟨old, he⟩, hit, hn⟩ := st
    obtain ⟨ys, y, hq, hy⟩ := hg
    obtain ⟨its, rv, p, _⟩ := I.tuple hq
    obtain ⟨u, hu, ru⟩ := rv.get hy
    have le : e < s.heap.objs.size := Heap.lt_size he
    have li : it < s.heap.objs.size := by obtain ⟨_, q, _⟩ := hit; exact Heap.lt_size q
    have hlt : j < its.toArray.size := by
      obtain ⟨q, _⟩ := List.getElem?_eq_some_iff.mp hu
      simpa using q
    refine wpAny_pyNext_enum_itemD (Draws.tuple (A := X.A.in1) (show X.A.in1.handled = none from I.ok.hd hc) it a hai its.toArray) he ⟨hit, p⟩ hlt hn (by simp [hn]; exact fun q => hae q.symm) fun x g tk hPx ho hst hT hsz hk => ?_
    have hxu : x = u := by
      have q : its.toArray[j]? = some u := by simpa using hu
      rw [q] at hPx
      exact (Option.some.inj hPx).symm
    subst hxu
    refine ⟨_, rfl, wpAny_letOwnedTupleGo_enum (s := { s with heap := g, toks := tk + 1 }) ho fun g2 he' sb => ?_⟩
    have hTT : g2.get? s.heap.objs.size = some { cls := .type "tuple", data := .seq #[.int j tk, x] } := (sb.2 _ (Nat.ne_of_gt le)).trans hT
    have nw : ObjOk X.prog X.w (upd H s.heap.objs.size (.tup [.int (j : Nat), y])) g2 s.heap.objs.size (.tup [.int (j : Nat), y]) :=
      ⟨by show 2 ≤ sizeLine; decide, [.int j tk, x], .cons ⟨_, rfl⟩ (.cons ru .nil), ⟨_, hTT, rfl, _, rfl⟩⟩
    have II : Inv X pins σ (upd H s.heap.objs.size (.tup [.int (j : Nat), y])) { s with heap := g2, toks := tk + 1 } :=
      I.turnedNew (ch := [e, it]) (fun b ob hb q => (sb.2 b (fun zz => hb (by simp [zz]))).trans (hk b ob (fun zz => hb (by simp [zz])) (fun zz => hb (by simp [zz])) q)) hf (Nat.le_refl _) nw
    refine ⟨.ref s.heap.objs.size, _, II, rfl, ⟨_, y, rfl, I.hok.fresh (Nat.le_refl _), rfl, fun zs hz => by rw [I.tuple_inj hz hq]; exact hy⟩, ⟨⟨x, ?_⟩, hst.1.at fun o q => (sb.2 it (Ne.symm hn)).trans q, hn⟩, fun b hb => ?_⟩
    · have ei : ((j + 1 : Nat) : Int) = (j : Int) + 1 := by omega
      rw [ei]
      exact he'
    · have lb : b < s.heap.objs.size := by
        have q : b = e ∨ b = it := by simpa using hb
        rcases q with rfl | rfl
        · exact le
        · exact li
      rw [upd_ne (Nat.ne_of_lt lb)]
      exact (hf b hb).1
  done := by
    intro X hP hw hK hc j pins s σ H E I hf st hg
    subst hP hw hK
    obtain ⟨⟨old, he⟩, hit, hn⟩ := st
    obtain ⟨ys, hq, hy⟩ := hg
    obtain ⟨its, rv, p, _⟩ := I.tuple hq
    obtain ⟨y0, y1, y2, y3, y4, y5⟩ := hf it (by simp)
    have hl := rv.length
    have T : s.TypeIs (.ref e) "enumerate" := ⟨_, he, rfl⟩
    unfold pyNext
    refine wpAny_bind (wpAny_attempt (wpAny_callSpecial?_slot (name := Str.ofString "__next__") T F.slot_enumerate_next (wpAny_call_entry F.slot_enumerate_next T F.entry_enumerate_next ?_ (F.args_enumerate_next_1 _))))
    refine wpAny_bind (m := field (.ref e) 2) (wpAny_field he rfl (x := .ref it) rfl ?_)
    refine wpAny_bind (wpAny_nextOf_tuple_end (I.ok.hd hc) hit p (by simp; omega) fun g x eb hx => ?_)
    obtain ⟨o, ho, ec⟩ := hx
    refine wpAny_bind (wpAny_isInstance (T := "StopIteration") (b := true) ⟨o, ho, ec⟩ isSubtype_stop ?_)
    exact wpAny_pure ⟨rfl, I.turned (t' := s.toks) (fun b o hb q => eb b o hb q) y0 y1 y3 y4 y5⟩
  self := fun _ _ _ _ _ st h => let ⟨⟨_, he⟩, _⟩ := st; wpAny_pyIter_enum he h
/-- of a list | of a tuple -/
def iEnumA (K : PySem.W.Frag) (ta : TA) : TI := fun σ H R => ta σ H fun vs H1 => ∃ a ys, vs = [.ref a] ∧ ((SqL K H1 a ys ∧ R (Ite K a) H1) ∨ (SqT K H1 a ys ∧ R (IteT K a) H1))
theorem pi_enumA {X : Cx} {e : Expr} {ta : TA} {p pos tpos : Pos} {elts : List Expr} {kk : Nat} (hg : Gl X "enumerate") (hm : X.mg "enumerate" = none) (ha : PA X [e] ta) (hs : starEach [e] X.env = [(false, eval e X.env)] := by rfl) :
    PI X (.Tuple elts kk tpos) (.Call (.Name "enumerate" p) [e] [] pos) (iEnumA X.K ta) := by
  refine ⟨fun pins y σ H R I h => ?_⟩
  refine Call_ (ld_blt I hg hm boot_enumerate (PyProof.Rows.callWith_type1 (thn (ha.run pos pins y σ H _ I h) fun us z ⟨vs, H1, I1, r1, q1⟩ => ?_) hs rfl))
  obtain ⟨a, ys, ex, q⟩ := q1
  subst ex
  cases r1 with
  | cons r rr =>
    cases rr
    cases r
    have fr : ∀ b, b ∈ [z.heap.objs.size + 1, z.heap.objs.size] → FpOk X pins H1 b := fun b hb => by
      have e' : b = z.heap.objs.size + 1 ∨ b = z.heap.objs.size := by simpa using hb
      have hle : z.heap.objs.size ≤ b := by omega
      have ff := I1.hok.fresh hle
      exact I1.fpOk hle ff
    rcases q with ⟨hL, q⟩ | ⟨hL, q⟩
    · obtain ⟨its, rv, p', _⟩ := I1.list hL
      refine call_enumerate_list p'.isList fun g he hit hsz hk => wpAny_pyIter_enum he ?_
      exact ⟨z.heap.objs.size + 1, [z.heap.objs.size + 1, z.heap.objs.size], _, _, H1, rfl, I1.kept (t' := z.toks) hk, turn_enum a (z.heap.objs.size + 1) z.heap.objs.size, ⟨⟨.none, he⟩, hit, Nat.succ_ne_self _⟩, fr, q⟩
    · obtain ⟨its, rv, p', _⟩ := I1.tuple hL
      have la : a < z.heap.objs.size := by obtain ⟨o, q, _⟩ := id p'; exact Heap.lt_size q
      refine call_enumT (show z.heap.IsTuple a its.toArray from p') fun g he hit hsz hk => wpAny_pyIter_enum he ?_
      exact ⟨z.heap.objs.size + 1, [z.heap.objs.size + 1, z.heap.objs.size], _, _, H1, rfl, I1.kept (t' := z.toks) hk, turn_enumT a (z.heap.objs.size + 1) z.heap.objs.size (Nat.ne_of_lt (Nat.lt_succ_of_lt la)) (Nat.ne_of_lt la), ⟨⟨.none, he⟩, hit, Nat.succ_ne_self _⟩, fr, q⟩
section
variable {K : PySem.W.Frag} {mg : MG} {c c1 c' : Cc} {P : List Addr} {H : Hp} {a : Addr} {vs : List V} {ds : List D}
theorem iteT_ok (h0 : SqT c.K H a vs) (r0 : Reps c H ds vs) : ItOk c P H (enumL ds) (IteT c.K a) := by
  intro c1 H1 e
  have h := e.sqT h0
  have r := e.reps _ _ r0
  have hl := r.length
  rw [e.K] at h
  refine ⟨fun i hi => ?_, ⟨vs, h, by unfold enumL; rw [List.length_mapIdx]; omega⟩⟩
  have hi' : i < ds.length := by
    unfold enumL at hi
    rw [List.length_mapIdx] at hi
    exact hi
  obtain ⟨v, e1, r1⟩ := r.get (List.getElem?_eq_getElem hi')
  refine ⟨⟨vs, v, h, e1⟩, fun x H2 q => ?_⟩
  obtain ⟨T, x1, rfl, nT, rfl, q⟩ := q
  have e2 := (q vs h).symm.trans e1
  cases e2
  refine ⟨grow_new nT, .tup [.int (i : Nat), ds[i]], ?_, T, _, rfl, SqT.of upd_same, _, _, rfl, rfl, _, _, rfl, (ext_new (P := P) nT).rep _ _ r1, rfl⟩
  unfold enumL
  rw [List.getElem?_mapIdx, List.getElem?_eq_getElem hi']
  rfl
end
section
variable {X : Cx} {a : Expr} {g : EM (List D)} {p pos tpos : Pos} {elts : List Expr} {kk : Nat}
theorem si_enum (hg : Gl X "enumerate") (hm : X.mg "enumerate" = none) (ha : SA RepL X [a] g) (hs : ∀ X' : Cx, starEach [a] X'.env = [(false, eval a X'.env)] := by intro _; rfl) : SI RepI X (.Tuple elts kk tpos) (.Call (.Name "enumerate" p) [a] [] pos) (iA enumD g) :=
  ⟨fun pn xe W hp tk => wI (pi_enumA (X := X.tr pn xe) hg hm (ha.run pn xe W hp tk) (hs (X.tr pn xe))) fun σ H R ⟨c, P, env, S, st, q⟩ => by
    refine gbind st q fun c1 S1 H1 d v x1 st1 r1 q1 => ?_
    obtain ⟨ds, e, q2⟩ := GPost.lift q1
    match d, e with
    | [.lst xs], e =>
      cases e
      obtain ⟨v1, r, rfl, h1, h2⟩ := r1
      have e2 : r = [] := h2
      subst e2
      obtain ⟨a, vs, rfl, s⟩ := Rep.stay h1
      refine ⟨a, vs, rfl, .inl ⟨.inl s.1, q2.here st1 ?_⟩⟩
      have z := ite_ok s
      rw [st1.K] at z
      exact z
    | [.tup xs], e =>
      cases e
      obtain ⟨v1, r, rfl, h1, h2⟩ := r1
      have e2 : r = [] := h2
      subst e2
      obtain ⟨a, vs, rfl, h3, h4⟩ := h1
      refine ⟨a, vs, rfl, .inr ⟨by rw [← show c1.K = (X.tr pn xe).K from st1.K]; exact h3, q2.here st1 ?_⟩⟩
      have z := iteT_ok (P := []) h3 h4
      rw [st1.K] at z
      exact z⟩
theorem sj_enum (hg : Gl X "enumerate") (hm : X.mg "enumerate" = none) (ha : SA RepsB X [a] g) (hs : ∀ X' : Cx, starEach [a] X'.env = [(false, eval a X'.env)] := by intro _; rfl) : SI RepJ X (.Tuple elts kk tpos) (.Call (.Name "enumerate" p) [a] [] pos) (iA enumD g) :=
  ⟨fun pn xe W hp tk => wI (pi_enumA (X := X.tr pn xe) hg hm (ha.run pn xe W hp tk) (hs (X.tr pn xe))) fun σ H R ⟨c, P, env, S, st, q⟩ => by
    refine gbind st q fun c1 S1 H1 d v x1 st1 r1 q1 => ?_
    obtain ⟨ds, e, q2⟩ := GPost.lift q1
    match d, e with
    | [.lst xs], e =>
      cases e
      obtain ⟨v1, rfl, h1⟩ := RepsB.one r1
      obtain ⟨a, vs, rfl, s⟩ := h1.stay
      refine ⟨a, vs, rfl, .inl ⟨.inl s.1, q2.here st1 ?_⟩⟩
      have z := ite_ok s
      rw [st1.K] at z
      exact z
    | [.tup xs], e =>
      cases e
      obtain ⟨v1, rfl, h1⟩ := RepsB.one r1
      obtain ⟨a, vs, rfl, h3, h4⟩ := h1.tup
      refine ⟨a, vs, rfl, .inr ⟨by rw [← show c1.K = (X.tr pn xe).K from st1.K]; exact h3, q2.here st1 ?_⟩⟩
      have z := iteT_ok (P := P) h3 h4
      rw [st1.K] at z
      exact z⟩
end
section
variable {X : Cx} {a b : Expr} {f g : EM D} {pos : Pos}
/-- a + b, to be the frame's own -/
theorem sf_cat (ha : SB X a f) (hb : SB X b g) : SF X (.BinOp a .Add b pos) (fCat f g) :=
  ⟨fun pn xe W hp tk => wE (pe_op op_catR (ha.run pn xe W hp tk) (hb.run pn xe W hp tk)) fun σ H Q ⟨c, P, env, S, st, q⟩ => by
    refine fbind st q fun c1 S1 H1 x v x1 st1 r1 q1 => ?_
    refine fbind st1 q1 fun c2 S2 H2 y w x2 st2 r2 q2 => ?_
    have rx := RX.ext x2 r1
    cases x with
    | lst xs =>
      cases y with
      | lst ys =>
        by_cases hl : xs.length + ys.length ≤ LN
        · have q3 : FPost c2 P H2 W σ Q (if xs.length + ys.length ≤ LN then .ok (xs ++ ys) S2 else .stuck) := q2
          rw [if_pos hl] at q3
          obtain ⟨l, us, rfl, h1, t1⟩ := rx.lst
          obtain ⟨b, ws, rfl, h2, t2⟩ := r2.lst
          exact ⟨l, b, us, ws, rfl, rfl, h1, h2, by rw [t1.length, t2.length, ← LN_eq]; exact hl, fun p hp => q3.lay st2 (t1.append t2) hp⟩
        · have q3 : FPost c2 P H2 W σ Q (if xs.length + ys.length ≤ LN then .ok (xs ++ ys) S2 else .stuck) := q2
          rw [if_neg hl] at q3
          exact q3.elim
      | _ => exact (show False from q2).elim
    | _ => exact (show False from q2).elim⟩
end
theorem op_lmul {X : Cx} : OpR X (binaryOp .Mult) (fun x y H Q => ∃ l k xs, x = .ref l ∧ y = .int k ∧ Rd H l (.lst xs) ∧ -(2 ^ 63) ≤ k ∧ k < 2 ^ 63 ∧ xs.length * k.toNat ≤ sizeLine ∧ ∀ p, H p = none → Q (.ref p) (upd H p (.lst (List.replicate k.toNat xs).flatten))) := by
  intro pn z ρ H x y v u Q inv rx ry h
  obtain ⟨l, k, xs, rfl, rfl, hR, g1, g2, hz, q⟩ := h
  cases rx
  obtain ⟨t, rfl⟩ := ry
  obtain ⟨_, us, n, r, e⟩ := hR.ok inv.hok
  have hl := r.length
  have len : us.toArray.size * k.toNat ≤ sizeLine := by rw [List.size_toArray, ← hl]; exact hz
  have cap : ¬ us.toArray.size * k.toNat > (2 ^ 63 - 1) / 8 := by
    have zz : (sizeLine : Nat) ≤ (2 ^ 63 - 1) / 8 := by decide
    omega
  have fit : ¬ (!Builtin.List.listFitsIndex k) = true := by rw [fitsIndex_both g1 g2]; exact Bool.false_ne_true
  have long : ¬ Builtin.List.listTooLong (us.toArray.size * k.toNat) = true := by rw [notLongL len]; exact Bool.false_ne_true
  have mk : List.foldl (fun x1 x2 => x1 ++ x2) #[] (List.replicate (if us.toArray.isEmpty = true then 0 else k.toNat) us.toArray) = (List.replicate k.toNat us).flatten.toArray := by
    have go : ∀ m : Nat, List.foldl (fun x1 x2 => x1 ++ x2) #[] (List.replicate m us.toArray) = (List.replicate m us).flatten.toArray := fun m => by
      have q := foldl_rep us m []
      rw [List.nil_append] at q
      exact q
    rw [go]
    cases us with
    | nil => simp
    | cons a b => rw [if_neg (by simp)]
  refine wpAny_binaryOp_repeat_ref (T := "list") (U := "int") (by decide) ⟨_, e, rfl⟩ (fun y => typeIs_int y k t) noFill_list_mul F.fills_int_mul F.slot_int_rmul repeat_list F.slot_int_index.lookup
    (call_meets F.slot_int_rmul (typeIs_int z k t) F.entry_int_rmul (F.args_int_rmul_2 _ _) (int___rmul___int_list k t l us.toArray n)
      ⟨e, rfl, ⟨_, e, rfl⟩, call_meets F.slot_list_mul ⟨_, e, rfl⟩ F.entry_list_mul (F.args_list_mul_2 _ _) (AutoListH.list___mul___list_int_3 l us.toArray n k t fit cap long) ⟨e, ?_⟩⟩)
  rw [mk]
  exact ⟨.ref _, _, inv.lnew (t' := z.toks) (r.rep k.toNat) (by rw [PyProof.Rows.lm_len_rep_flat, Nat.mul_comm]; exact hz), rfl, q _ inv.fresh⟩
section
variable {X : Cx} {a b : Expr} {f g : EM D} {pos : Pos}
theorem se_mulL (ha : SB X a f) (hb : SE X b g) : SE X (.BinOp a .Mult b pos) (e2 mulLD f g) := se_bin (fun _ _ => op_lmul) lmulS ha hb
theorem sf_mul (ha : SB X a f) (hb : SE X b g) : SF X (.BinOp a .Mult b pos) (fMul f g) :=
  ⟨fun pn xe W hp tk => wE (pe_op op_lmul (ha.run pn xe W hp tk) (hb.run pn xe W hp tk)) fun σ H Q ⟨c, P, env, S, st, q⟩ => by
    refine fbind st q fun c1 S1 H1 x v x1 st1 r1 q1 => ?_
    refine fbind st1 q1 fun c2 S2 H2 y w x2 st2 r2 q2 => ?_
    have rx := RX.ext x2 r1
    cases x with
    | lst xs =>
      cases y with
      | int k =>
        have q3 : FPost c2 P H2 W σ Q (if -100000 ≤ k ∧ k ≤ 100000 ∧ xs.length * k.toNat ≤ LN then .ok (List.replicate k.toNat xs).flatten S2 else .stuck) := q2
        by_cases hl : -100000 ≤ k ∧ k ≤ 100000 ∧ xs.length * k.toNat ≤ LN
        · rw [if_pos hl] at q3
          obtain ⟨l, us, rfl, h1, t1⟩ := rx.lst
          have ey : w = .int k := r2
          subst ey
          exact ⟨l, k, us, rfl, rfl, h1, by omega, by omega, by rw [t1.length, ← LN_eq]; exact hl.2.2, fun p hp => q3.lay st2 (Reps.rep k.toNat t1) hp⟩
        · rw [if_neg hl] at q3
          exact q3.elim
      | _ => exact (show False from q2).elim
    | _ => exact (show False from q2).elim⟩
/-! ### len(set(..)) of ints -/
theorem met_ded (ns : List Int) : PyProof.Rows.firstMet (fun i => ns.getD i 0) ns.length = ded ns := by
  have all : (List.range ns.length).map (fun i => ns.getD i 0) = ns := by
    apply List.ext_getElem?
    intro i
    rw [List.getElem?_map]
    by_cases h : i < ns.length
    · rw [List.getElem?_range h, List.getElem?_eq_getElem h, Option.map_some, List.getD_eq_getElem?_getD, List.getElem?_eq_getElem h]
      rfl
    · rw [List.getElem?_eq_none (by rw [List.length_range]; omega), List.getElem?_eq_none (by omega)]
      rfl
  unfold PyProof.Rows.firstMet ded
  rw [all]
  rfl
theorem ded_le (ns : List Int) : (ded ns).length ≤ ns.length := by
  rw [← met_ded]
  exact PyProof.Rows.firstMet_length_le _ _
def tLenSet (K : PySem.W.Frag) (ta : TE) : TE := fun σ H Q => ta σ H fun x H1 => ∃ (l : Addr) (ns : List Int), x = .ref l ∧ SqL K H1 l (ns.map V.int) ∧ ns.length ≤ 4000 ∧ Q (.int ((ded ns).length : Nat)) H1
theorem pe_lenSetA {X : Cx} {a : Expr} {ta : TE} {p p2 q pos : Pos} (hg : Gl X "len") (nLen : X.mg "len" = none) (gSet : Gl X "set") (nSet : X.mg "set" = none) (ha : PE X a ta) (hc : X.calm = true := by rfl)
    (na : starEach [a] X.env = (false, eval a X.env) :: starEach [] X.env := by rfl) :
    PE X (.Call (.Name "len" p) [.Call (.Name "set" p2) [a] [] q] [] pos) (tLenSet X.K ta) := by
  refine ⟨fun pins z σ H Q I h => ?_⟩
  refine Call_ (ld_blt I hg nLen boot_len ?_)
  refine PyProof.Rows.callWith_builtin1 (PyProof.Rows.args_cons ?_ (by rfl)) rfl rfl
  refine Call_ (ld_blt I gSet nSet boot_set ?_)
  refine PyProof.Rows.callWith_type1 (PyProof.Rows.args_cons (thn (ha.run pins z σ H _ I h) fun v y ⟨x, H1, I1, r1, q1⟩ => PyProof.Rows.args_nil ?_) na) na rfl
  obtain ⟨l, ns, rfl, hq, hl, q1⟩ := q1
  cases r1
  obtain ⟨us, r, pl, hz⟩ := I1.list hq
  have lenU : us.toArray.size = ns.length := by rw [List.size_toArray, ← r.length, List.length_map]
  refine call_set_list (I1.ok.hd hc) pl.isList (by simpa using RZ.intsAre_vals r) (by rw [lenU]; unfold scanBound; omega) fun g tk hS hk => ?_
  refine PyProof.Rows.args_nil (?_)
  rw [lenU, met_ded] at hS
  obtain ⟨o, es, ep, t, ho, hex, hd, _, _, _, hf, cnt⟩ := hS
  have dl := ded_le ns
  have I2 : Inv X pins σ H1 { y with heap := g, toks := tk } := I1.kept fun b o e => hk b o (Heap.lt_size e) e
  exact call_len_set ho hex hd hf (by rw [cnt] <;> omega) ⟨.int (ded ns).length, H1, I2.tok _, ⟨_, by rw [cnt]⟩, q1⟩
theorem se_lenSet {p p2 q : Pos} (ha : SB X a f) (hg : Gl X "len") (hm : X.mg "len" = none) (hg2 : Gl X "set") (hm2 : X.mg "set" = none) (hc : X.calm = true := by rfl) (na : ∀ X' : Cx, starEach [a] X'.env = (false, eval a X'.env) :: starEach [] X'.env := by intro _; rfl) : SE X (.Call (.Name "len" p) [.Call (.Name "set" p2) [a] [] q] [] pos) (e1 lenSetD f) :=
  ⟨fun pn xe W hp tk => wE (pe_lenSetA (X := X.tr pn xe) hg hm hg2 hm2 (ha.run pn xe W hp tk) (hc := hc) (na := na (X.tr pn xe))) fun σ H Q ⟨c, P, env, S, st, q⟩ => by
    refine gbind st q fun c1 S1 H1 d v x1 st1 r1 q1 => ?_
    obtain ⟨z, e, q2⟩ := GPost.lift q1
    cases d with
    | lst ds =>
      have e' : ((intsOf ds).bind fun ns => if ns.length ≤ 4000 then some (D.int (ded ns).length) else none) = some z := e
      cases hi : intsOf ds with
      | none => rw [hi] at e'; cases e'
      | some ns =>
        rw [hi, Option.bind_some] at e'
        obtain ⟨hl, rfl⟩ := iteS (p := ns.length ≤ 4000) e'
        obtain ⟨l, us, rfl, h1, t1⟩ := r1.lst
        have eu := ints_rep hi t1
        subst eu
        exact ⟨l, ns, rfl, .inl h1, hl, q2.here st1 rfl⟩
    | _ => cases e⟩
end
end Kb

set_option linter.all false
set_option maxRecDepth 100000
/-! printed by gen.py: the defs that many laws share, as plain functions. -/
namespace Ks
open Kb PySem
noncomputable def b_common_1 : SM :=
  ((sPar 0 1 (aCons (eN 1) (aCons (e2 modD (eN 0) (eN 1)) aNil))))
noncomputable def b_common : SM :=
  (sSeq ((sSet 0 (eA absD (aCons (eB 0) aNil)))) (sSeq ((sSet 1 (eA absD (aCons (eB 1) aNil)))) (sSeq ((sWhile (tB (e2 neD (eB 1) (eC (.int 0)))) b_common_1)) ((sRet (eN 0))))))
noncomputable def d_common : List D → M D := fnD 2 0 b_common

noncomputable def b_ratio : SM :=
  (sSeq ((sIf (tB (e2 eqD (eB 1) (eC (.int 0)))) ((sRaise "NotAllowed")) sNil)) (sSeq ((sIf (tB (e2 ltD (eN 1) (eC (.int 0)))) (sSeq ((sSet 0 (e1 negD (eN 0)))) ((sSet 1 (e1 negD (eN 1))))) sNil)) (sSeq ((sSet 2 (eF Ks.d_common (aCons (eN 0) (aCons (eN 1) aNil))))) ((sRet (eA tupD (aCons (e2 fdivD (eN 0) (eN 2)) (aCons (e2 fdivD (eN 1) (eN 2)) aNil))))))))
noncomputable def d_ratio : List D → M D := fnD 2 1 b_ratio

noncomputable def b_is_ratio : SM :=
  ((sRet (eAnd (e2 eqD (eA lenD (aCons (eB 0) aNil)) (eC (.int 2))) (eAnd (e2 geD (e2 ixD (eB 0) (eC (.int 1))) (eC (.int 1))) (e2 eqD (eF Ks.d_common (aCons (e2 ixD (eB 0) (eC (.int 0))) (aCons (e2 ixD (eB 0) (eC (.int 1))) aNil))) (eC (.int 1)))))))
noncomputable def d_is_ratio : List D → M D := fnD 1 0 b_is_ratio

noncomputable def b_of_int : SM :=
  ((sRet (eA tupD (aCons (eN 0) (aCons (eC (.int 1)) aNil)))))
noncomputable def d_of_int : List D → M D := fnD 1 0 b_of_int

noncomputable def b__law_stream_1 : SM :=
  (sSeq ((sApp 1 (e2 modD (eA intD (aCons (eB 3) aNil)) (eC (.int 1009))))) (sSeq ((sSet 3 (e2 fdivD (eN 3) (eC (.int 1009))))) ((sIf (tB (e2 eqD (eB 3) (eC (.int 0)))) ((sBrk)) sNil))))
noncomputable def b__law_stream_2 : SM :=
  (sSeq ((sSet 5 (e2 modD (eA intD (aCons (e2 addD (e2 addD (e2 mulI (eN 5) (eC (.int 48271))) (e2 mulI (eC (.int 7)) (eN 4))) (eC (.int 11))) aNil)) (eC (.int 2147483647))))) ((sApp 1 (e2 modD (e2 modD (eA intD (aCons (e2 addD (e2 mulI (eN 5) (eC (.int 69621))) (eB 4)) aNil)) (eC (.int 2147483629))) (eC (.int 1009))))))
noncomputable def b__law_stream_3 : SM :=
  (sSeq ((sSet 3 (eA intD (aCons (eB 2) aNil)))) ((sIf (tB (e2 geD (eN 3) (e2 powD (eC (.int 10)) (eC (.int 18))))) ((sFor (.nm 4) (iA rng1D (aCons (eC (.int 60)) aNil)) b__law_stream_1)) (sSeq ((sSet 5 (e2 modD (eA intD (aCons (eB 3) aNil)) (eC (.int 2147483647))))) ((sFor (.nm 4) (iA rng1D (aCons (eC (.int 10)) aNil)) b__law_stream_2))))))
noncomputable def b__law_stream : SM :=
  (sSeq ((sOwn 1 (fLst aNil))) (sSeq ((sFor (.nm 2) (iS (eSl (eB 0) pNo (pSo (eC (.int 63))))) b__law_stream_3)) (sSeq ((sIf (tB (e2 eqD (eA lenD (aCons (eB 1) aNil)) (eC (.int 0)))) ((sApp 1 (eC (.int 0)))) sNil)) ((sFrz 1 (sRet (eN 1)))))))
noncomputable def d__law_stream : List D → M D := fnD 1 5 b__law_stream

noncomputable def b__law_pick : SM :=
  ((sRet (e2 modD (eA intD (aCons (e2 ixD (eB 0) (e2 modD (eN 1) (eA lenD (aCons (eB 0) aNil)))) aNil)) (eN 2))))
noncomputable def d__law_pick : List D → M D := fnD 3 0 b__law_pick

noncomputable def b__law_gcd_1 : SM :=
  (sSeq ((sIf (tB (e2 eqD (eB 1) (eC (.int 0)))) ((sBrk)) sNil)) ((sPar 0 1 (aCons (eN 1) (aCons (e2 modD (eA intD (aCons (eB 0) aNil)) (eN 1)) aNil)))))
noncomputable def b__law_gcd : SM :=
  (sSeq ((sSet 0 (eA absD (aCons (eB 0) aNil)))) (sSeq ((sSet 1 (eA absD (aCons (eB 1) aNil)))) (sSeq ((sFor (.nm 2) (iA rng1D (aCons (eC (.int 40000)) aNil)) b__law_gcd_1)) ((sRet (eN 0))))))
noncomputable def d__law_gcd : List D → M D := fnD 2 1 b__law_gcd

noncomputable def b__law_int_1 : SM :=
  ((sSet 4 (e2 addD (e2 mulI (eN 4) (eC (.int 1009))) (eF Ks.d__law_pick (aCons (eN 0) (aCons (e2 addD (e2 addD (eB 1) (eC (.int 3))) (eB 5)) (aCons (eC (.int 1009)) aNil)))))))
noncomputable def b__law_int : SM :=
  (sSeq ((sSet 2 (eF Ks.d__law_pick (aCons (eN 0) (aCons (eN 1) (aCons (eC (.int 6)) aNil)))))) (sSeq ((sSet 3 (e2 ixD (eA lstD (aCons (eC (.int 1)) (aCons (e1 negD (eC (.int 1))) aNil))) (eF Ks.d__law_pick (aCons (eN 0) (aCons (e2 addD (eB 1) (eC (.int 1))) (aCons (eC (.int 2)) aNil))))))) (sSeq ((sIf (tB (e2 eqD (eB 2) (eC (.int 0)))) ((sRet (e2 ixD (eA lstD (aCons (eC (.int 0)) (aCons (eC (.int 1)) (aCons (e1 negD (eC (.int 1))) (aCons (eC (.int 2)) aNil))))) (eF Ks.d__law_pick (aCons (eN 0) (aCons (e2 addD (eB 1) (eC (.int 2))) (aCons (eC (.int 4)) aNil))))))) sNil)) (sSeq ((sIf (tB (e2 ltD (eN 2) (eC (.int 4)))) ((sRet (e2 mulI (eN 3) (eF Ks.d__law_pick (aCons (eN 0) (aCons (e2 addD (eB 1) (eC (.int 2))) (aCons (e2 ixD (eA lstD (aCons (eC (.int 12)) (aCons (eC (.int 60)) (aCons (eC (.int 1009)) aNil)))) (e2 subD (eN 2) (eC (.int 1)))) aNil))))))) sNil)) (sSeq ((sSet 4 (eC (.int 0)))) (sSeq ((sFor (.nm 5) (iA rng1D (aCons (e2 addD (eC (.int 1)) (eF Ks.d__law_pick (aCons (eN 0) (aCons (e2 addD (eB 1) (eC (.int 2))) (aCons (eC (.int 12)) aNil))))) aNil)) b__law_int_1)) ((sRet (e2 mulI (eN 3) (eN 4))))))))))
noncomputable def d__law_int : List D → M D := fnD 2 4 b__law_int

noncomputable def b__law_ratio : SM :=
  (sSeq ((sIf (tB (e2 ltD (eN 1) (eC (.int 0)))) (sSeq ((sSet 0 (e2 subD (eC (.int 0)) (eN 0)))) ((sSet 1 (e2 subD (eC (.int 0)) (eN 1))))) sNil)) (sSeq ((sSet 2 (eF Ks.d__law_gcd (aCons (eN 0) (aCons (eN 1) aNil))))) ((sRet (eA tupD (aCons (e2 fdivD (eN 0) (eN 2)) (aCons (e2 fdivD (eN 1) (eN 2)) aNil)))))))
noncomputable def d__law_ratio : List D → M D := fnD 2 1 b__law_ratio

noncomputable def b__law_plus : SM :=
  ((sRet (eF Ks.d__law_ratio (aCons (e2 addD (e2 mulI (e2 ixD (eB 0) (eC (.int 0))) (e2 ixD (eB 1) (eC (.int 1)))) (e2 mulI (e2 ixD (eB 1) (eC (.int 0))) (e2 ixD (eB 0) (eC (.int 1))))) (aCons (e2 mulI (e2 ixD (eB 0) (eC (.int 1))) (e2 ixD (eB 1) (eC (.int 1)))) aNil)))))
noncomputable def d__law_plus : List D → M D := fnD 2 0 b__law_plus

noncomputable def b__law_times : SM :=
  ((sRet (eF Ks.d__law_ratio (aCons (e2 mulI (e2 ixD (eB 0) (eC (.int 0))) (e2 ixD (eB 1) (eC (.int 0)))) (aCons (e2 mulI (e2 ixD (eB 0) (eC (.int 1))) (e2 ixD (eB 1) (eC (.int 1)))) aNil)))))
noncomputable def d__law_times : List D → M D := fnD 2 0 b__law_times

noncomputable def b_plus : SM :=
  ((sRet (eF Ks.d_ratio (aCons (e2 addD (e2 mulI (e2 ixD (eB 0) (eC (.int 0))) (e2 ixD (eB 1) (eC (.int 1)))) (e2 mulI (e2 ixD (eB 1) (eC (.int 0))) (e2 ixD (eB 0) (eC (.int 1))))) (aCons (e2 mulI (e2 ixD (eB 0) (eC (.int 1))) (e2 ixD (eB 1) (eC (.int 1)))) aNil)))))
noncomputable def d_plus : List D → M D := fnD 2 0 b_plus

noncomputable def b_negated : SM :=
  ((sRet (eA tupD (aCons (e1 negD (e2 ixD (eB 0) (eC (.int 0)))) (aCons (e2 ixD (eB 0) (eC (.int 1))) aNil)))))
noncomputable def d_negated : List D → M D := fnD 1 0 b_negated

noncomputable def b_minus : SM :=
  ((sRet (eF Ks.d_plus (aCons (eN 0) (aCons (eF Ks.d_negated (aCons (eN 1) aNil)) aNil)))))
noncomputable def d_minus : List D → M D := fnD 2 0 b_minus

noncomputable def b_times : SM :=
  ((sRet (eF Ks.d_ratio (aCons (e2 mulI (e2 ixD (eB 0) (eC (.int 0))) (e2 ixD (eB 1) (eC (.int 0)))) (aCons (e2 mulI (e2 ixD (eB 0) (eC (.int 1))) (e2 ixD (eB 1) (eC (.int 1)))) aNil)))))
noncomputable def d_times : List D → M D := fnD 2 0 b_times

noncomputable def b_over : SM :=
  ((sRet (eF Ks.d_ratio (aCons (e2 mulI (e2 ixD (eB 0) (eC (.int 0))) (e2 ixD (eB 1) (eC (.int 1)))) (aCons (e2 mulI (e2 ixD (eB 0) (eC (.int 1))) (e2 ixD (eB 1) (eC (.int 0)))) aNil)))))
noncomputable def d_over : List D → M D := fnD 2 0 b_over

noncomputable def b_sign_of : SM :=
  (sSeq ((sIf (tB (e2 eqD (e2 ixD (eB 0) (eC (.int 0))) (eC (.int 0)))) ((sRet (eC (.int 0)))) sNil)) ((sRet (eIf (tB (e2 gtD (e2 ixD (eB 0) (eC (.int 0))) (eC (.int 0)))) (eC (.int 1)) (e1 negD (eC (.int 1)))))))
noncomputable def d_sign_of : List D → M D := fnD 1 0 b_sign_of

noncomputable def b_compare : SM :=
  ((sRet (eF Ks.d_sign_of (aCons (eA tupD (aCons (e2 subD (e2 mulI (e2 ixD (eB 0) (eC (.int 0))) (e2 ixD (eB 1) (eC (.int 1)))) (e2 mulI (e2 ixD (eB 1) (eC (.int 0))) (e2 ixD (eB 0) (eC (.int 1))))) (aCons (eC (.int 1)) aNil))) aNil))))
noncomputable def d_compare : List D → M D := fnD 2 0 b_compare

noncomputable def b_floor_of : SM :=
  ((sRet (e2 fdivD (e2 ixD (eB 0) (eC (.int 0))) (e2 ixD (eB 0) (eC (.int 1))))))
noncomputable def d_floor_of : List D → M D := fnD 1 0 b_floor_of

noncomputable def b_check_widths : SM :=
  ((sIf (tB (e2 neD (eA lenD (aCons (eB 0) aNil)) (eA lenD (aCons (eB 1) aNil)))) ((sRaise "NotAllowed")) sNil))
noncomputable def d_check_widths : List D → M D := fnD 2 0 b_check_widths

noncomputable def l_add_rows_1 : EM (List D) :=
  (eLc (iA zipD (aCons (eB 0) (aCons (eB 1) aNil))) (.tp [(.nm 2), (.nm 3)]) [2, 3] tYes (eF Ks.d_plus (aCons (eN 2) (aCons (eN 3) aNil))))
noncomputable def b_add_rows : SM :=
  (sSeq ((sExpr (eF Ks.d_check_widths (aCons (eN 0) (aCons (eN 1) aNil))))) ((sRet (eA tupleD (aCons (eLst l_add_rows_1) aNil)))))
noncomputable def d_add_rows : List D → M D := fnD 2 2 b_add_rows

noncomputable def l_scale_row_1 : EM (List D) :=
  (eLc (iS (eB 1)) (.nm 2) [2] tYes (eF Ks.d_times (aCons (eN 0) (aCons (eN 2) aNil))))
noncomputable def b_scale_row : SM :=
  ((sRet (eA tupleD (aCons (eLst l_scale_row_1) aNil))))
noncomputable def d_scale_row : List D → M D := fnD 2 1 b_scale_row

noncomputable def b_product_1 : SM :=
  ((sSet 2 (eF Ks.d_plus (aCons (eN 2) (aCons (eF Ks.d_times (aCons (eN 3) (aCons (eN 4) aNil))) aNil)))))
noncomputable def b_product : SM :=
  (sSeq ((sExpr (eF Ks.d_check_widths (aCons (eN 0) (aCons (eN 1) aNil))))) (sSeq ((sSet 2 (eF Ks.d_of_int (aCons (eC (.int 0)) aNil)))) (sSeq ((sFor (.tp [(.nm 3), (.nm 4)]) (iA zipD (aCons (eN 0) (aCons (eN 1) aNil))) b_product_1)) ((sRet (eN 2))))))
noncomputable def d_product : List D → M D := fnD 2 3 b_product

noncomputable def b_value_at : SM :=
  ((sRet (eF Ks.d_plus (aCons (eF Ks.d_product (aCons (e2 ixD (eB 0) (eC (.int 0))) (aCons (eN 1) aNil))) (aCons (e2 ixD (eB 0) (eC (.int 1))) aNil)))))
noncomputable def d_value_at : List D → M D := fnD 2 0 b_value_at

noncomputable def b_add_forms : SM :=
  ((sRet (eA tupD (aCons (eF Ks.d_add_rows (aCons (e2 ixD (eB 0) (eC (.int 0))) (aCons (e2 ixD (eB 1) (eC (.int 0))) aNil))) (aCons (eF Ks.d_plus (aCons (e2 ixD (eB 0) (eC (.int 1))) (aCons (e2 ixD (eB 1) (eC (.int 1))) aNil))) aNil)))))
noncomputable def d_add_forms : List D → M D := fnD 2 0 b_add_forms

noncomputable def b_scale_form : SM :=
  ((sRet (eA tupD (aCons (eF Ks.d_scale_row (aCons (eN 0) (aCons (e2 ixD (eB 1) (eC (.int 0))) aNil))) (aCons (eF Ks.d_times (aCons (eN 0) (aCons (e2 ixD (eB 1) (eC (.int 1))) aNil))) aNil)))))
noncomputable def d_scale_form : List D → M D := fnD 2 0 b_scale_form

def c_MAX_WIDTH : D := .int 24
noncomputable def l_check_row_1 : EM (List D) :=
  (eLc (iS (eB 0)) (.nm 1) [1] tYes (eF Ks.d_is_ratio (aCons (eN 1) aNil)))
noncomputable def b_check_row : SM :=
  ((sIf (tOr (tB (e2 ltD (eA lenD (aCons (eB 0) aNil)) (eC (.int 1)))) (tOr (tB (e2 gtD (eA lenD (aCons (eB 0) aNil)) (eC c_MAX_WIDTH))) (tNot (tV (eA allD (aCons (eLst l_check_row_1) aNil)))))) ((sRaise "NotAllowed")) sNil))
noncomputable def d_check_row : List D → M D := fnD 1 1 b_check_row

noncomputable def l_zero_row_1 : EM (List D) :=
  (eLc (iA rng1D (aCons (eN 0) aNil)) (.nm 1) [1] tYes (eF Ks.d_of_int (aCons (eC (.int 0)) aNil)))
noncomputable def b_zero_row : SM :=
  (sSeq ((sIf (tOr (tB (e2 ltD (eN 0) (eC (.int 1)))) (tB (e2 gtD (eN 0) (eC Ks.c_MAX_WIDTH)))) ((sRaise "NotAllowed")) sNil)) ((sRet (eA tupleD (aCons (eLst l_zero_row_1) aNil)))))
noncomputable def d_zero_row : List D → M D := fnD 1 1 b_zero_row

noncomputable def b_unit_row : SM :=
  (sSeq ((sSet 2 (eF Ks.d_zero_row (aCons (eN 0) aNil)))) (sSeq ((sIf (tOr (tB (e2 ltD (eN 1) (eC (.int 0)))) (tB (e2 geD (eN 1) (eN 0)))) ((sRaise "NotAllowed")) sNil)) ((sRet (e2 addD (e2 addD (eSl (eB 2) pNo (pSo (eN 1))) (eA tupD (aCons (eF Ks.d_of_int (aCons (eC (.int 1)) aNil)) aNil))) (eSl (eB 2) (pSo (e2 addD (eB 1) (eC (.int 1)))) pNo))))))
noncomputable def d_unit_row : List D → M D := fnD 2 1 b_unit_row

noncomputable def l_row_of_ints_1 : EM (List D) :=
  (eLc (iS (eB 0)) (.nm 1) [1] tYes (eF Ks.d_of_int (aCons (eN 1) aNil)))
noncomputable def b_row_of_ints : SM :=
  (sSeq ((sIf (tOr (tB (e2 ltD (eA lenD (aCons (eB 0) aNil)) (eC (.int 1)))) (tB (e2 gtD (eA lenD (aCons (eB 0) aNil)) (eC Ks.c_MAX_WIDTH)))) ((sRaise "NotAllowed")) sNil)) ((sRet (eA tupleD (aCons (eLst l_row_of_ints_1) aNil)))))
noncomputable def d_row_of_ints : List D → M D := fnD 1 1 b_row_of_ints

noncomputable def b__law_numbersN_1 : SM :=
  ((sIf (tAnd (tB (e2 gtD (eN 4) (eC (.int 0)))) (tB (e2 ltD (eA lenD (aCons (eB 2) aNil)) (eN 1)))) (sSeq ((sApp 2 (e2 modD (eN 4) (eC (.int 10007))))) ((sSet 4 (e2 fdivD (eN 4) (eC (.int 10007)))))) sNil))
noncomputable def b__law_numbersN_2 : SM :=
  (sSeq ((sSet 4 (eA absD (aCons (eA intD (aCons (e2 ixD (eB 0) (eN 3)) aNil)) aNil)))) ((sIf (tB (e2 geD (eN 4) (e2 powD (eC (.int 10)) (eC (.int 18))))) ((sFor (.nm 5) (iA rng1D (aCons (eC (.int 60)) aNil)) b__law_numbersN_1)) ((sIf (tB (e2 ltD (eA lenD (aCons (eB 2) aNil)) (eN 1))) (sSeq ((sSet 6 (e2 modD (eA intD (aCons (e2 addD (e2 addD (e2 mulI (eN 4) (eC (.int 48271))) (e2 mulI (eN 3) (eC (.int 69621)))) (eC (.int 11))) aNil)) (eC (.int 2147483647))))) ((sApp 2 (e2 fdivD (e2 modD (eA intD (aCons (e2 addD (e2 addD (e2 mulI (eN 6) (eC (.int 16807))) (e2 mulI (eC (.int 7)) (eN 3))) (eC (.int 3))) aNil)) (eC (.int 2147483647))) (eC (.int 3)))))) sNil)))))
noncomputable def b__law_numbersN_3 : SM :=
  (sSeq ((sIf (tB (e2 gtD (eN 7) (eC (.int 0)))) ((sSet 8 (e2 addD (eB 8) (e2 ixD (eB 2) (e2 modD (eN 3) (eN 7)))))) sNil)) (sSeq ((sSet 8 (e2 modD (eA intD (aCons (e2 addD (e2 mulI (eN 8) (eC (.int 48271))) (eB 3)) aNil)) (eC (.int 2147483647))))) ((sApp 2 (e2 fdivD (eN 8) (eC (.int 7)))))))
noncomputable def b__law_numbersN : SM :=
  (sSeq ((sOwn 2 (fLst aNil))) (sSeq ((sFor (.nm 3) (iA rng1D (aCons (eA lenD (aCons (eB 0) aNil)) aNil)) b__law_numbersN_2)) (sSeq ((sSet 7 (eA lenD (aCons (eB 2) aNil)))) (sSeq ((sSet 8 (e2 addD (eC (.int 5381)) (eA lenD (aCons (eB 0) aNil))))) (sSeq ((sFor (.nm 3) (iA rng1D (aCons (eA maxD (aCons (eC (.int 0)) (aCons (e2 subD (eN 1) (eN 7)) aNil))) aNil)) b__law_numbersN_3)) ((sRet (eSl (eB 2) pNo (pSo (eN 1))))))))))
noncomputable def d__law_numbersN : List D → M D := fnD 2 7 b__law_numbersN

noncomputable def b__law_ratioN_1 : SM :=
  (sSeq ((sIf (tB (e2 eqD (eB 3) (eC (.int 0)))) ((sBrk)) sNil)) (sSeq ((sSet 5 (e2 modD (eA intD (aCons (eB 2) aNil)) (eN 3)))) (sSeq ((sSet 2 (eN 3))) ((sSet 3 (eN 5))))))
noncomputable def b__law_ratioN : SM :=
  (sSeq ((sSet 2 (eA absD (aCons (eB 0) aNil)))) (sSeq ((sSet 3 (eA absD (aCons (eB 1) aNil)))) (sSeq ((sFor (.nm 4) (iA rng1D (aCons (eC (.int 4000)) aNil)) b__law_ratioN_1)) (sSeq ((sIf (tB (e2 ltD (eN 1) (eC (.int 0)))) ((sSet 2 (e2 subD (eC (.int 0)) (eN 2)))) sNil)) ((sRet (eA tupD (aCons (e2 fdivD (eN 0) (eN 2)) (aCons (e2 fdivD (eN 1) (eN 2)) aNil)))))))))
noncomputable def d__law_ratioN : List D → M D := fnD 2 4 b__law_ratioN

noncomputable def b__law_plusN : SM :=
  ((sRet (eF Ks.d__law_ratioN (aCons (e2 addD (e2 mulI (e2 ixD (eB 0) (eC (.int 0))) (e2 ixD (eB 1) (eC (.int 1)))) (e2 mulI (e2 ixD (eB 1) (eC (.int 0))) (e2 ixD (eB 0) (eC (.int 1))))) (aCons (e2 mulI (e2 ixD (eB 0) (eC (.int 1))) (e2 ixD (eB 1) (eC (.int 1)))) aNil)))))
noncomputable def d__law_plusN : List D → M D := fnD 2 0 b__law_plusN

noncomputable def b__law_timesN : SM :=
  ((sRet (eF Ks.d__law_ratioN (aCons (e2 mulI (e2 ixD (eB 0) (eC (.int 0))) (e2 ixD (eB 1) (eC (.int 0)))) (aCons (e2 mulI (e2 ixD (eB 0) (eC (.int 1))) (e2 ixD (eB 1) (eC (.int 1)))) aNil)))))
noncomputable def d__law_timesN : List D → M D := fnD 2 0 b__law_timesN

noncomputable def b__law_less : SM :=
  ((sRet (e2 ltD (e2 mulI (e2 ixD (eB 0) (eC (.int 0))) (e2 ixD (eB 1) (eC (.int 1)))) (e2 mulI (e2 ixD (eB 1) (eC (.int 0))) (e2 ixD (eB 0) (eC (.int 1)))))))
noncomputable def d__law_less : List D → M D := fnD 2 0 b__law_less

noncomputable def b__law_product_1 : SM :=
  ((sIf (tAnd (tB (e2 neD (e2 ixD (e2 ixD (eB 0) (eN 3)) (eC (.int 0))) (eC (.int 0)))) (tB (e2 neD (e2 ixD (e2 ixD (eB 1) (eN 3)) (eC (.int 0))) (eC (.int 0))))) ((sSet 2 (eF Ks.d__law_plusN (aCons (eN 2) (aCons (eF Ks.d__law_timesN (aCons (e2 ixD (eB 0) (eN 3)) (aCons (e2 ixD (eB 1) (eN 3)) aNil))) aNil))))) sNil))
noncomputable def b__law_product : SM :=
  (sSeq ((sSet 2 (eA tupD (aCons (eC (.int 0)) (aCons (eC (.int 1)) aNil))))) (sSeq ((sFor (.nm 3) (iA rng1D (aCons (eA lenD (aCons (eB 0) aNil)) aNil)) b__law_product_1)) ((sRet (eN 2)))))
noncomputable def d__law_product : List D → M D := fnD 2 2 b__law_product

noncomputable def b_is_kept : SM :=
  (sSeq ((sSet 3 (eF Ks.d_compare (aCons (eN 0) (aCons (eN 2) aNil))))) ((sRet (eOr (e2 eqD (eB 3) (eC (.int 0))) (eAnd (e2 ltD (eN 3) (eC (.int 0))) (e2 eqD (eB 1) (eC (.str "<="))))))))
noncomputable def d_is_kept : List D → M D := fnD 3 1 b_is_kept

noncomputable def b_keeps : SM :=
  ((sRet (eF Ks.d_is_kept (aCons (eF Ks.d_product (aCons (e2 ixD (eB 0) (eC (.int 0))) (aCons (eN 1) aNil))) (aCons (e2 ixD (eB 0) (eC (.int 1))) (aCons (e2 ixD (eB 0) (eC (.int 2))) aNil))))))
noncomputable def d_keeps : List D → M D := fnD 2 0 b_keeps

noncomputable def l_is_positive_1 : EM (List D) :=
  (eLc (iS (eB 0)) (.nm 2) [2] tYes (e2 geD (eF Ks.d_sign_of (aCons (eN 2) aNil)) (eC (.int 0))))
noncomputable def b_is_positive : SM :=
  ((sRet (eAnd (e2 eqD (eA lenD (aCons (eB 0) aNil)) (eB 1)) (eA allD (aCons (eLst l_is_positive_1) aNil)))))
noncomputable def d_is_positive : List D → M D := fnD 2 1 b_is_positive

noncomputable def l_is_history_1 : EM (List D) :=
  (eLc (iS (e2 ixD (eB 0) (eC (.int 1)))) (.nm 2) [2] tYes (eF Ks.d_keeps (aCons (eN 2) (aCons (eN 1) aNil))))
noncomputable def b_is_history : SM :=
  (sSeq ((sIf (tNot (tV (eF Ks.d_is_positive (aCons (eN 1) (aCons (e2 ixD (eB 0) (eC (.int 0))) aNil))))) ((sRet (eC (.bl false)))) sNil)) ((sRet (eA allD (aCons (eLst l_is_history_1) aNil)))))
noncomputable def d_is_history : List D → M D := fnD 2 1 b_is_history

noncomputable def b__law_keeps : SM :=
  (sSeq ((sSet 2 (eF Ks.d__law_product (aCons (e2 ixD (eB 0) (eC (.int 0))) (aCons (eN 1) aNil))))) ((sRet (eOr (e2 eqD (eB 2) (e2 ixD (eB 0) (eC (.int 2)))) (eAnd (e2 eqD (e2 ixD (eB 0) (eC (.int 1))) (eC (.str "<="))) (eF Ks.d__law_less (aCons (eN 2) (aCons (e2 ixD (eB 0) (eC (.int 2))) aNil))))))))
noncomputable def d__law_keeps : List D → M D := fnD 2 1 b__law_keeps

noncomputable def l__law_is_history_1 : EM (List D) :=
  (eLc (iS (eB 1)) (.nm 3) [3] tYes (e2 geD (e2 ixD (eB 3) (eC (.int 0))) (eC (.int 0))))
noncomputable def l__law_is_history_2 : EM (List D) :=
  (eLc (iS (e2 ixD (eB 0) (eC (.int 1)))) (.nm 2) [2] tYes (eF Ks.d__law_keeps (aCons (eN 2) (aCons (eN 1) aNil))))
noncomputable def b__law_is_history : SM :=
  (sSeq ((sIf (tOr (tB (e2 neD (eA lenD (aCons (eB 1) aNil)) (e2 ixD (eB 0) (eC (.int 0))))) (tNot (tV (eA allD (aCons (eLst l__law_is_history_1) aNil))))) ((sRet (eC (.bl false)))) sNil)) ((sRet (eA allD (aCons (eLst l__law_is_history_2) aNil)))))
noncomputable def d__law_is_history : List D → M D := fnD 2 2 b__law_is_history

noncomputable def b__law_part : SM :=
  (sSeq ((sSet 1 (e2 modD (eN 0) (eC (.int 7))))) (sSeq ((sIf (tB (e2 ltD (eN 1) (eC (.int 2)))) ((sRet (eA tupD (aCons (eC (.int 0)) (aCons (eC (.int 1)) aNil))))) sNil)) (sSeq ((sIf (tB (e2 ltD (eN 1) (eC (.int 5)))) ((sRet (eA tupD (aCons (e2 subD (e2 modD (e2 fdivD (eN 0) (eC (.int 7))) (eC (.int 7))) (eC (.int 3))) (aCons (eC (.int 1)) aNil))))) sNil)) ((sRet (eF Ks.d__law_ratioN (aCons (e2 subD (e2 modD (e2 fdivD (eN 0) (eC (.int 7))) (eC (.int 11))) (eC (.int 5))) (aCons (e2 addD (eC (.int 1)) (e2 modD (e2 fdivD (eN 0) (eC (.int 77))) (eC (.int 4)))) aNil))))))))
noncomputable def d__law_part : List D → M D := fnD 1 1 b__law_part

noncomputable def l__law_rowN_1 : EM (List D) :=
  (eLc (iA rng1D (aCons (eN 2) aNil)) (.nm 3) [3] tYes (eF Ks.d__law_part (aCons (e2 ixD (eB 0) (e2 modD (eA intD (aCons (e2 addD (eB 1) (e2 mulI (eC (.int 3)) (eN 3))) aNil)) (eA lenD (aCons (eB 0) aNil)))) aNil)))
noncomputable def b__law_rowN : SM :=
  ((sRet (eA tupleD (aCons (eLst l__law_rowN_1) aNil))))
noncomputable def d__law_rowN : List D → M D := fnD 3 1 b__law_rowN

noncomputable def b__law_bound : SM :=
  ((sRet (eF Ks.d__law_ratioN (aCons (e2 subD (e2 modD (eN 0) (eC (.int 25))) (eN 1)) (aCons (e2 addD (eC (.int 1)) (e2 modD (e2 fdivD (eN 0) (eC (.int 25))) (eC (.int 3)))) aNil)))))
noncomputable def d__law_bound : List D → M D := fnD 2 0 b__law_bound

noncomputable def b__law_system_1 : SM :=
  (sSeq ((sSet 6 (e2 ixD (eA lstD (aCons (eC (.str "<=")) (aCons (eC (.str "<=")) (aCons (eC (.str "=")) aNil)))) (e2 modD (e2 ixD (eB 0) (e2 modD (eA intD (aCons (e2 addD (eC (.int 7)) (e2 mulI (eC (.int 5)) (eN 5))) aNil)) (eA lenD (aCons (eB 0) aNil)))) (eC (.int 3)))))) (sSeq ((sSet 7 (eF Ks.d__law_bound (aCons (e2 ixD (eB 0) (e2 modD (eA intD (aCons (e2 addD (eC (.int 11)) (e2 mulI (eC (.int 5)) (eN 5))) aNil)) (eA lenD (aCons (eB 0) aNil)))) (aCons (eN 3) aNil))))) ((sApp 4 (eA tupD (aCons (eF Ks.d__law_rowN (aCons (eN 0) (aCons (e2 addD (eC (.int 13)) (e2 mulI (eC (.int 41)) (eN 5))) (aCons (eN 1) aNil)))) (aCons (eN 6) (aCons (eN 7) aNil))))))))
noncomputable def b__law_system : SM :=
  (sSeq ((sOwn 4 (fLst aNil))) (sSeq ((sFor (.nm 5) (iA rng1D (aCons (eN 2) aNil)) b__law_system_1)) ((sRet (eA tupD (aCons (eN 1) (aCons (eA tupleD (aCons (eB 4) aNil)) aNil)))))))
noncomputable def d__law_system : List D → M D := fnD 4 4 b__law_system

noncomputable def b_are_multipliers_1 : SM :=
  ((sIf (tAnd (tB (e2 eqD (e2 ixD (eB 3) (eC (.int 1))) (eC (.str "<=")))) (tB (e2 ltD (eF Ks.d_sign_of (aCons (eN 2) aNil)) (eC (.int 0))))) ((sRet (eC (.bl false)))) sNil))
noncomputable def b_are_multipliers : SM :=
  (sSeq ((sIf (tB (e2 neD (eA lenD (aCons (eB 1) aNil)) (eA lenD (aCons (e2 ixD (eB 0) (eC (.int 1))) aNil)))) ((sRet (eC (.bl false)))) sNil)) (sSeq ((sFor (.tp [(.nm 2), (.nm 3)]) (iA zipD (aCons (eN 1) (aCons (e2 ixD (eB 0) (eC (.int 1))) aNil))) b_are_multipliers_1)) ((sRet (eC (.bl true))))))
noncomputable def d_are_multipliers : List D → M D := fnD 2 2 b_are_multipliers

def c_ZERO : D := .tup [.int 0, .int 1]
noncomputable def b_mixture_1 : SM :=
  (sSeq ((sSet 2 (eF Ks.d_add_rows (aCons (eN 2) (aCons (eF Ks.d_scale_row (aCons (eN 4) (aCons (e2 ixD (eB 5) (eC (.int 0))) aNil))) aNil))))) ((sSet 3 (eF Ks.d_plus (aCons (eN 3) (aCons (eF Ks.d_times (aCons (eN 4) (aCons (e2 ixD (eB 5) (eC (.int 2))) aNil))) aNil))))))
noncomputable def b_mixture : SM :=
  (sSeq ((sIf (tNot (tV (eF Ks.d_are_multipliers (aCons (eN 0) (aCons (eN 1) aNil))))) ((sRaise "NotAllowed")) sNil)) (sSeq ((sSet 2 (eF Ks.d_zero_row (aCons (e2 ixD (eB 0) (eC (.int 0))) aNil)))) (sSeq ((sSet 3 (eC c_ZERO))) (sSeq ((sFor (.tp [(.nm 4), (.nm 5)]) (iA zipD (aCons (eN 1) (aCons (e2 ixD (eB 0) (eC (.int 1))) aNil))) b_mixture_1)) ((sRet (eA tupD (aCons (eN 2) (aCons (eN 3) aNil)))))))))
noncomputable def d_mixture : List D → M D := fnD 2 4 b_mixture

def c_MAX_CONDITIONS : D := .int 40
def c_RELATIONS : D := .tup [.str "<=", .str "="]
noncomputable def l_check_system_1 : EM (List D) :=
  (eLc (iS (eB 3)) (.nm 6) [6] tYes (eF Ks.d_is_ratio (aCons (eN 6) aNil)))
noncomputable def b_check_system_2 : SM :=
  (sSeq ((sIf (tOr (tB (e2 neD (eA lenD (aCons (eB 3) aNil)) (eB 1))) (tOr (tB (e2 ninD (eB 4) (eC c_RELATIONS))) (tNot (tV (eF Ks.d_is_ratio (aCons (eN 5) aNil)))))) ((sRaise "NotAllowed")) sNil)) ((sIf (tNot (tV (eA allD (aCons (eLst l_check_system_1) aNil)))) ((sRaise "NotAllowed")) sNil)))
noncomputable def b_check_system : SM :=
  (sSeq ((sTg (.tp [(.nm 1), (.nm 2)]) (eN 0))) (sSeq ((sIf (tOr (tB (e2 ltD (eN 1) (eC (.int 1)))) (tOr (tB (e2 gtD (eN 1) (eC c_MAX_WIDTH))) (tB (e2 gtD (eA lenD (aCons (eB 2) aNil)) (eC c_MAX_CONDITIONS))))) ((sRaise "NotAllowed")) sNil)) ((sFor (.tp [(.nm 3), (.nm 4), (.nm 5)]) (iS (eN 2)) b_check_system_2))))
noncomputable def d_check_system : List D → M D := fnD 1 6 b_check_system

def c_MAX_NAME : D := .int 4
def c_LETTERS : D := .str "abcdefghijklmnopqrstuvwxyz"
noncomputable def l_is_scale_1 : EM (List D) :=
  (eLc (iS (eB 0)) (.nm 1) [1] tYes (e2 inD (eB 1) (eC c_LETTERS)))
noncomputable def b_is_scale : SM :=
  ((sRet (eAnd (eCh leD leD (eC (.int 1)) (eA lenD (aCons (eB 0) aNil)) (eC c_MAX_NAME)) (eA allD (aCons (eLst l_is_scale_1) aNil)))))
noncomputable def d_is_scale : List D → M D := fnD 1 1 b_is_scale

def c_MAX_DAY : D := .int 999
noncomputable def b_is_day : SM :=
  ((sRet (eCh leD leD (eC (.int 0)) (eN 0) (eC c_MAX_DAY))))
noncomputable def d_is_day : List D → M D := fnD 1 0 b_is_day

noncomputable def b_check_scale : SM :=
  ((sIf (tNot (tV (eF Ks.d_is_scale (aCons (eN 0) aNil)))) ((sRaise "NotAllowed")) sNil))
noncomputable def d_check_scale : List D → M D := fnD 1 0 b_check_scale

noncomputable def b_check_day : SM :=
  ((sIf (tNot (tV (eF Ks.d_is_day (aCons (eN 0) aNil)))) ((sRaise "NotAllowed")) sNil))
noncomputable def d_check_day : List D → M D := fnD 1 0 b_check_day

noncomputable def b_is_counting : SM :=
  (sSeq ((sTg (.tp [(.nm 3), (.nm 4), (.nm 5)]) (eN 0))) ((sRet (eAnd (e2 eqD (eB 3) (eB 1)) (eAnd (eCh leD leD (e2 ixD (eB 4) (eC (.int 0))) (eN 2) (e2 ixD (eB 4) (eC (.int 1)))) (eOr (e2 isD (eB 5) (eC .non)) (e2 ltD (eN 2) (eN 5))))))))
noncomputable def d_is_counting : List D → M D := fnD 3 3 b_is_counting

noncomputable def l_counting_1 : EM (List D) :=
  (eLc (iA enumD (aCons (eB 0) aNil)) (.tp [(.nm 3), (.nm 4)]) [3, 4] (tV (eF Ks.d_is_counting (aCons (eN 4) (aCons (eN 1) (aCons (eN 2) aNil))))) (eN 3))
noncomputable def b_counting : SM :=
  (sSeq ((sExpr (eF Ks.d_check_scale (aCons (eN 1) aNil)))) (sSeq ((sExpr (eF Ks.d_check_day (aCons (eN 2) aNil)))) ((sRet (eLst l_counting_1)))))
noncomputable def d_counting : List D → M D := fnD 3 2 b_counting

noncomputable def b_check_weight : SM :=
  ((sIf (tB (e2 ltD (eF Ks.d_sign_of (aCons (eN 0) aNil)) (eC (.int 0)))) ((sRaise "NotAllowed")) sNil))
noncomputable def d_check_weight : List D → M D := fnD 1 0 b_check_weight

noncomputable def b_limits_1 : SM :=
  (sSeq ((sTg (.tp [(.nm 5), (.nm 5), (.nm 6), (.nm 7), (.nm 8), (.nm 9)]) (e2 ixD (e2 ixD (eB 0) (eN 4)) (eC (.int 1))))) ((sApp 3 (eA tupD (aCons (eF Ks.d_plus (aCons (eN 6) (aCons (eF Ks.d_times (aCons (eN 8) (aCons (eF Ks.d_of_int (aCons (e2 subD (eN 2) (eN 9)) aNil)) aNil))) aNil))) (aCons (eN 7) aNil))))))
noncomputable def b_limits : SM :=
  (sSeq ((sOwn 3 (fLst aNil))) (sSeq ((sFor (.nm 4) (iS (eF Ks.d_counting (aCons (eN 0) (aCons (eN 1) (aCons (eN 2) aNil))))) b_limits_1)) ((sFrz 3 (sRet (eN 3))))))
noncomputable def d_limits : List D → M D := fnD 3 7 b_limits

noncomputable def b_greater_of : SM :=
  ((sRet (eIf (tB (e2 geD (eF Ks.d_compare (aCons (eN 0) (aCons (eN 1) aNil))) (eC (.int 0)))) (eN 0) (eN 1))))
noncomputable def d_greater_of : List D → M D := fnD 2 0 b_greater_of

noncomputable def b_lesser_of : SM :=
  ((sRet (eIf (tOr (tB (e2 isD (eB 0) (eC .non))) (tB (e2 gtD (eF Ks.d_compare (aCons (eN 0) (aCons (eN 1) aNil))) (eC (.int 0))))) (eN 1) (eN 0))))
noncomputable def d_lesser_of : List D → M D := fnD 2 0 b_lesser_of

def c_ONE : D := .tup [.int 1, .int 1]
noncomputable def b_ends_1 : SM :=
  (sSeq ((sSet 5 (eF Ks.d_greater_of (aCons (eN 5) (aCons (eF Ks.d_over (aCons (eF Ks.d_minus (aCons (eN 3) (aCons (eN 7) aNil))) (aCons (eF Ks.d_plus (aCons (eC c_ONE) (aCons (eN 8) aNil))) aNil))) aNil))))) ((sSet 6 (eF Ks.d_lesser_of (aCons (eN 6) (aCons (eF Ks.d_over (aCons (eF Ks.d_plus (aCons (eN 3) (aCons (eN 7) aNil))) (aCons (eF Ks.d_minus (aCons (eC c_ONE) (aCons (eN 8) aNil))) aNil))) aNil))))))
noncomputable def b_ends : SM :=
  (sSeq ((sSet 4 (eF Ks.d_limits (aCons (eN 0) (aCons (eN 1) (aCons (eN 2) aNil)))))) (sSeq ((sExpr (eF Ks.d_check_weight (aCons (eN 3) aNil)))) (sSeq ((sSet 5 (eC c_ZERO))) (sSeq ((sSet 6 (eC .non))) (sSeq ((sFor (.tp [(.nm 7), (.nm 8)]) (iS (eN 4)) b_ends_1)) (sSeq ((sIf (tAnd (tB (e2 isntND (eB 6) (eC .non))) (tB (e2 gtD (eF Ks.d_compare (aCons (eN 5) (aCons (eN 6) aNil))) (eC (.int 0))))) ((sRaise "Never")) sNil)) ((sRet (eA tupD (aCons (eN 5) (aCons (eN 6) aNil)))))))))))
noncomputable def d_ends : List D → M D := fnD 4 5 b_ends

noncomputable def b_allows_1 : SM :=
  (sSeq ((sSet 8 (eF Ks.d_plus (aCons (eN 6) (aCons (eF Ks.d_times (aCons (eN 7) (aCons (eN 4) aNil))) aNil))))) ((sIf (tOr (tB (e2 gtD (eF Ks.d_compare (aCons (eF Ks.d_minus (aCons (eN 3) (aCons (eN 4) aNil))) (aCons (eN 8) aNil))) (eC (.int 0)))) (tB (e2 gtD (eF Ks.d_compare (aCons (eF Ks.d_minus (aCons (eN 4) (aCons (eN 3) aNil))) (aCons (eN 8) aNil))) (eC (.int 0))))) ((sRet (eC (.bl false)))) sNil)))
noncomputable def b_allows : SM :=
  (sSeq ((sSet 5 (eF Ks.d_limits (aCons (eN 0) (aCons (eN 1) (aCons (eN 2) aNil)))))) (sSeq ((sExpr (eF Ks.d_check_weight (aCons (eN 3) aNil)))) (sSeq ((sExpr (eF Ks.d_check_weight (aCons (eN 4) aNil)))) (sSeq ((sFor (.tp [(.nm 6), (.nm 7)]) (iS (eN 5)) b_allows_1)) ((sRet (eC (.bl true))))))))
noncomputable def d_allows : List D → M D := fnD 5 4 b_allows

noncomputable def b_readings_1 : SM :=
  (sSeq ((sSet 9 (eF Ks.d_plus (aCons (eN 7) (aCons (eF Ks.d_times (aCons (eN 8) (aCons (eN 3) aNil))) aNil))))) (sSeq ((sSet 5 (eF Ks.d_greater_of (aCons (eN 5) (aCons (eF Ks.d_minus (aCons (eN 3) (aCons (eN 9) aNil))) aNil))))) ((sSet 6 (eF Ks.d_lesser_of (aCons (eN 6) (aCons (eF Ks.d_plus (aCons (eN 3) (aCons (eN 9) aNil))) aNil)))))))
noncomputable def b_readings : SM :=
  (sSeq ((sSet 4 (eF Ks.d_limits (aCons (eN 0) (aCons (eN 1) (aCons (eN 2) aNil)))))) (sSeq ((sExpr (eF Ks.d_check_weight (aCons (eN 3) aNil)))) (sSeq ((sSet 5 (eC Ks.c_ZERO))) (sSeq ((sSet 6 (eC .non))) (sSeq ((sFor (.tp [(.nm 7), (.nm 8)]) (iS (eN 4)) b_readings_1)) ((sRet (eA tupD (aCons (eN 5) (aCons (eN 6) aNil))))))))))
noncomputable def d_readings : List D → M D := fnD 4 6 b_readings

noncomputable def b_earlier : SM :=
  (sSeq ((sIf (tOr (tB (e2 isD (eB 0) (eC .non))) (tB (e2 ltD (eN 1) (eN 0)))) ((sRet (eN 1))) sNil)) ((sRet (eN 0))))
noncomputable def d_earlier : List D → M D := fnD 2 0 b_earlier

noncomputable def b_recalled : SM :=
  (sSeq ((sIf (tOr (tB (e2 ltD (eN 1) (eC (.int 0)))) (tB (e2 geD (eN 1) (eA lenD (aCons (eB 0) aNil))))) ((sRaise "Missing")) sNil)) (sSeq ((sExpr (eF Ks.d_check_day (aCons (eN 2) aNil)))) (sSeq ((sTg (.tp [(.nm 3), (.nm 4), (.nm 5)]) (e2 ixD (eB 0) (eN 1)))) ((sRet (e2 addD (e2 addD (eSl (eB 0) pNo (pSo (eN 1))) (eA tupD (aCons (eA tupD (aCons (eN 3) (aCons (eN 4) (aCons (eF Ks.d_earlier (aCons (eN 5) (aCons (eN 2) aNil))) aNil)))) aNil))) (eSl (eB 0) (pSo (e2 addD (eB 1) (eC (.int 1)))) pNo)))))))
noncomputable def d_recalled : List D → M D := fnD 3 3 b_recalled

noncomputable def b__law_cell : SM :=
  (sSeq ((sIf (tB (e2 ltD (eN 1) (eA lenD (aCons (eB 0) aNil)))) ((sRet (e2 ixD (eB 0) (eN 1)))) sNil)) ((sRet (eC (.int 0)))))
noncomputable def d__law_cell : List D → M D := fnD 2 0 b__law_cell

noncomputable def b__law_numbersC_1 : SM :=
  (sSeq ((sApp 3 (e2 modD (eA intD (aCons (eB 4) aNil)) (eC (.int 1000))))) ((sSet 4 (e2 fdivD (eN 4) (eC (.int 1000))))))
noncomputable def b__law_numbersC_2 : SM :=
  (sSeq ((sSet 6 (e2 modD (eA intD (aCons (e2 addD (e2 addD (e2 mulI (eN 6) (eC (.int 16807))) (e2 mulI (eN 5) (eC (.int 7919)))) (eC (.int 13))) aNil)) (eC (.int 2147483647))))) (sSeq ((sSet 7 (e2 modD (eA intD (aCons (e2 addD (e2 addD (e2 mulI (eN 6) (eN 6)) (e2 mulI (eN 1) (eC (.int 31)))) (eB 5)) aNil)) (eC (.int 1000000007))))) ((sApp 3 (e2 modD (eA intD (aCons (e2 fdivD (eN 7) (eC (.int 101))) aNil)) (eC (.int 1000)))))))
noncomputable def b__law_numbersC : SM :=
  (sSeq ((sOwn 3 (fLst aNil))) (sSeq ((sIf (tB (e2 geD (eN 0) (e2 powD (eC (.int 10)) (eC (.int 18))))) (sSeq ((sSet 4 (eN 0))) (sSeq ((sFor (.nm 5) (iA rng1D (aCons (eN 2) aNil)) b__law_numbersC_1)) ((sFrz 3 (sRet (eN 3)))))) sNil)) (sSeq ((sSet 6 (e2 modD (eA intD (aCons (e2 addD (e2 addD (e2 mulI (eN 0) (eC (.int 48271))) (e2 mulI (eN 1) (eC (.int 69621)))) (eC (.int 11))) aNil)) (eC (.int 2147483647))))) (sSeq ((sFor (.nm 5) (iA rng1D (aCons (eN 2) aNil)) b__law_numbersC_2)) ((sFrz 3 (sRet (eN 3))))))))
noncomputable def d__law_numbersC : List D → M D := fnD 3 5 b__law_numbersC

noncomputable def b__law_ratioC_1 : SM :=
  (sSeq ((sIf (tB (e2 eqD (eB 3) (eC (.int 0)))) ((sBrk)) sNil)) ((sPar 2 3 (aCons (eN 3) (aCons (e2 modD (eA intD (aCons (eB 2) aNil)) (eN 3)) aNil)))))
noncomputable def b__law_ratioC : SM :=
  (sSeq ((sSet 2 (eA absD (aCons (eB 0) aNil)))) (sSeq ((sSet 3 (eA absD (aCons (eB 1) aNil)))) (sSeq ((sFor (.nm 4) (iA rng1D (aCons (eC (.int 4000)) aNil)) b__law_ratioC_1)) (sSeq ((sSet 5 (e2 ixD (eA lstD (aCons (eC (.int 1)) (aCons (e1 negD (eC (.int 1))) aNil))) (eA intD (aCons (e2 ltD (eN 1) (eC (.int 0))) aNil))))) ((sRet (eA tupD (aCons (e2 fdivD (e2 mulI (eN 5) (eN 0)) (eN 2)) (aCons (e2 fdivD (e2 mulI (eN 5) (eN 1)) (eN 2)) aNil)))))))))
noncomputable def d__law_ratioC : List D → M D := fnD 2 4 b__law_ratioC

noncomputable def b__law_plusC : SM :=
  ((sRet (eF Ks.d__law_ratioC (aCons (e2 addD (e2 mulI (e2 ixD (eB 0) (eC (.int 0))) (e2 ixD (eB 1) (eC (.int 1)))) (e2 mulI (e2 ixD (eB 1) (eC (.int 0))) (e2 ixD (eB 0) (eC (.int 1))))) (aCons (e2 mulI (e2 ixD (eB 0) (eC (.int 1))) (e2 ixD (eB 1) (eC (.int 1)))) aNil)))))
noncomputable def d__law_plusC : List D → M D := fnD 2 0 b__law_plusC

noncomputable def b__law_timesC : SM :=
  ((sRet (eF Ks.d__law_ratioC (aCons (e2 mulI (e2 ixD (eB 0) (eC (.int 0))) (e2 ixD (eB 1) (eC (.int 0)))) (aCons (e2 mulI (e2 ixD (eB 0) (eC (.int 1))) (e2 ixD (eB 1) (eC (.int 1)))) aNil)))))
noncomputable def d__law_timesC : List D → M D := fnD 2 0 b__law_timesC

noncomputable def b__law_drawnC : SM :=
  ((sRet (eF Ks.d__law_ratioC (aCons (e2 modD (e2 fdivD (eA intD (aCons (eB 0) aNil)) (eC (.int 6))) (e2 addD (eB 1) (eC (.int 1)))) (aCons (e2 addD (eC (.int 1)) (e2 modD (eA intD (aCons (eB 0) aNil)) (eC (.int 6)))) aNil)))))
noncomputable def d__law_drawnC : List D → M D := fnD 2 0 b__law_drawnC

noncomputable def b__law_minusC : SM :=
  ((sRet (eF Ks.d__law_plusC (aCons (eN 0) (aCons (eA tupD (aCons (e2 subD (eC (.int 0)) (e2 ixD (eB 1) (eC (.int 0)))) (aCons (e2 ixD (eB 1) (eC (.int 1))) aNil))) aNil)))))
noncomputable def d__law_minusC : List D → M D := fnD 2 0 b__law_minusC

noncomputable def b__law_overC : SM :=
  ((sRet (eF Ks.d__law_ratioC (aCons (e2 mulI (e2 ixD (eB 0) (eC (.int 0))) (e2 ixD (eB 1) (eC (.int 1)))) (aCons (e2 mulI (e2 ixD (eB 0) (eC (.int 1))) (e2 ixD (eB 1) (eC (.int 0)))) aNil)))))
noncomputable def d__law_overC : List D → M D := fnD 2 0 b__law_overC

noncomputable def l__law_paperC_1 : EM (List D) :=
  (eLc (iA rng1D (aCons (eC (.int 3)) aNil)) (.nm 5) [5] tYes (e2 modD (eA intD (aCons (e2 ixD (eB 0) (eN 5)) aNil)) (e2 ixD (eA lstD (aCons (eC (.int 1000)) (aCons (eC (.int 20)) aNil))) (e2 modD (eA intD (aCons (e2 ixD (eB 0) (eC (.int 3))) aNil)) (eC (.int 2))))))
noncomputable def b__law_paperC : SM :=
  (sSeq ((sSet 1 (eA sortD (aCons (eLst l__law_paperC_1) aNil)))) (sSeq ((sSet 2 (eF Ks.d__law_drawnC (aCons (e2 ixD (eB 0) (eC (.int 4))) (aCons (eC (.int 12)) aNil))))) (sSeq ((sSet 3 (e2 ixD (eA lstD (aCons (eA tupD (aCons (eC (.int 0)) (aCons (eC (.int 1)) aNil))) (aCons (eF Ks.d__law_ratioC (aCons (e2 modD (eA intD (aCons (e2 ixD (eB 0) (eC (.int 5))) aNil)) (eC (.int 5))) (aCons (e2 addD (eC (.int 5)) (e2 modD (e2 fdivD (eA intD (aCons (e2 ixD (eB 0) (eC (.int 5))) aNil)) (eC (.int 5))) (eC (.int 7)))) aNil))) aNil))) (e2 modD (eA intD (aCons (e2 ixD (eB 0) (eC (.int 6))) aNil)) (eC (.int 2)))))) (sSeq ((sSet 4 (e2 ixD (eA lstD (aCons (eA tupD (aCons (eC (.int 0)) (aCons (eC (.int 1)) aNil))) (aCons (eF Ks.d__law_ratioC (aCons (e2 modD (eA intD (aCons (e2 ixD (eB 0) (eC (.int 7))) aNil)) (eC (.int 4))) (aCons (e2 addD (eC (.int 1)) (e2 modD (e2 fdivD (eA intD (aCons (e2 ixD (eB 0) (eC (.int 7))) aNil)) (eC (.int 4))) (eC (.int 20)))) aNil))) aNil))) (e2 modD (e2 fdivD (eA intD (aCons (e2 ixD (eB 0) (eC (.int 6))) aNil)) (eC (.int 2))) (eC (.int 2)))))) ((sRet (eA tupD (aCons (e2 ixD (eB 1) (eC (.int 1))) (aCons (e2 ixD (eB 1) (eC (.int 2))) (aCons (eN 2) (aCons (eN 3) (aCons (eN 4) (aCons (e2 ixD (eB 1) (eC (.int 0))) aNil)))))))))))))
noncomputable def d__law_paperC : List D → M D := fnD 1 5 b__law_paperC

noncomputable def b__law_drawerC_1 : SM :=
  (sSeq ((sSet 4 (eSl (eB 0) (pSo (e2 addD (eC (.int 1)) (e2 mulI (eC (.int 10)) (eN 3)))) (pSo (e2 addD (eC (.int 11)) (e2 mulI (eC (.int 10)) (eN 3))))))) (sSeq ((sSet 5 (eC .non))) (sSeq ((sIf (tB (e2 eqD (e2 modD (eA intD (aCons (e2 ixD (eB 4) (eC (.int 8))) aNil)) (eC (.int 3))) (eC (.int 0)))) ((sSet 5 (e2 modD (eA intD (aCons (e2 ixD (eB 4) (eC (.int 9))) aNil)) (e2 ixD (eA lstD (aCons (eC (.int 1000)) (aCons (eC (.int 20)) aNil))) (e2 modD (e2 fdivD (eA intD (aCons (e2 ixD (eB 4) (eC (.int 8))) aNil)) (eC (.int 3))) (eC (.int 2))))))) sNil)) ((sApp 2 (eA tupD (aCons (e2 ixD (eA lstD (aCons (eC (.str "a")) (aCons (eC (.str "b")) (aCons (eC (.str "zzzz")) aNil)))) (e2 modD (e2 fdivD (eA intD (aCons (e2 ixD (eB 4) (eC (.int 8))) aNil)) (eC (.int 6))) (eC (.int 3)))) (aCons (eF Ks.d__law_paperC (aCons (eN 4) aNil)) (aCons (eN 5) aNil)))))))))
noncomputable def b__law_drawerC : SM :=
  (sSeq ((sOwn 2 (fLst aNil))) (sSeq ((sFor (.nm 3) (iA rng1D (aCons (e2 modD (eA intD (aCons (e2 ixD (eB 0) (eC (.int 0))) aNil)) (e2 addD (eB 1) (eC (.int 1)))) aNil)) b__law_drawerC_1)) ((sRet (eA tupleD (aCons (eB 2) aNil))))))
noncomputable def d__law_drawerC : List D → M D := fnD 2 4 b__law_drawerC

noncomputable def b__law_countingC_1 : SM :=
  (sSeq ((sTg (.tp [(.nm 5), (.nm 6), (.nm 7)]) (e2 ixD (eB 0) (eN 4)))) ((sIf (tAnd (tB (e2 eqD (eB 5) (eB 1))) (tAnd (tB (e2 leD (e2 ixD (eB 6) (eC (.int 0))) (eN 2))) (tAnd (tB (e2 leD (eN 2) (e2 ixD (eB 6) (eC (.int 1))))) (tOr (tB (e2 isD (eB 7) (eC .non))) (tB (e2 gtD (eN 7) (eN 2))))))) ((sApp 3 (eN 4))) sNil)))
noncomputable def b__law_countingC : SM :=
  (sSeq ((sOwn 3 (fLst aNil))) (sSeq ((sFor (.nm 4) (iA rng1D (aCons (eA lenD (aCons (eB 0) aNil)) aNil)) b__law_countingC_1)) ((sFrz 3 (sRet (eN 3))))))
noncomputable def d__law_countingC : List D → M D := fnD 3 5 b__law_countingC

noncomputable def b__law_slacksC_1 : SM :=
  (sSeq ((sSet 5 (e2 ixD (e2 ixD (eB 0) (eN 4)) (eC (.int 1))))) ((sApp 3 (eA tupD (aCons (eF Ks.d__law_plusC (aCons (e2 ixD (eB 5) (eC (.int 2))) (aCons (eF Ks.d__law_timesC (aCons (e2 ixD (eB 5) (eC (.int 4))) (aCons (eA tupD (aCons (e2 subD (eN 2) (e2 ixD (eB 5) (eC (.int 5)))) (aCons (eC (.int 1)) aNil))) aNil))) aNil))) (aCons (e2 ixD (eB 5) (eC (.int 3))) aNil))))))
noncomputable def b__law_slacksC : SM :=
  (sSeq ((sOwn 3 (fLst aNil))) (sSeq ((sFor (.nm 4) (iS (eF Ks.d__law_countingC (aCons (eN 0) (aCons (eN 1) (aCons (eN 2) aNil))))) b__law_slacksC_1)) ((sFrz 3 (sRet (eN 3))))))
noncomputable def d__law_slacksC : List D → M D := fnD 3 3 b__law_slacksC

noncomputable def b__law_dayC : SM :=
  (sSeq ((sIf (tAnd (tB (e2 gtD (eA lenD (aCons (eB 1) aNil)) (eC (.int 0)))) (tB (e2 gtD (e2 modD (eA intD (aCons (e2 ixD (eB 0) (eC (.int 0))) aNil)) (eC (.int 4))) (eC (.int 0))))) (sSeq ((sTg (.tp [(.nm 2), (.nm 3), (.nm 4)]) (e2 ixD (eB 1) (e2 modD (eA intD (aCons (e2 ixD (eB 0) (eC (.int 1))) aNil)) (eA lenD (aCons (eB 1) aNil)))))) (sSeq ((sSet 5 (eA lstD (aCons (e2 ixD (eB 3) (eC (.int 0))) (aCons (e2 ixD (eB 3) (eC (.int 1))) (aCons (e2 addD (e2 ixD (eB 3) (eC (.int 0))) (e2 modD (eA intD (aCons (e2 ixD (eB 0) (eC (.int 2))) aNil)) (e2 addD (e2 subD (e2 ixD (eB 3) (eC (.int 1))) (e2 ixD (eB 3) (eC (.int 0)))) (eC (.int 1))))) (aCons (eN 4) aNil))))))) (sSeq ((sSet 6 (e2 ixD (eB 5) (e2 modD (eA intD (aCons (e2 ixD (eB 0) (eC (.int 3))) aNil)) (eC (.int 4)))))) ((sIf (tB (e2 isntND (eB 6) (eC .non))) ((sRet (eA tupD (aCons (eN 2) (aCons (eA maxD (aCons (eC (.int 0)) (aCons (eA minD (aCons (eC (.int 999)) (aCons (e2 addD (eB 6) (e2 ixD (eA lstD (aCons (eC (.int 0)) (aCons (eC (.int 0)) (aCons (eC (.int 0)) (aCons (eC (.int 1)) (aCons (e1 negD (eC (.int 1))) aNil)))))) (e2 modD (eA intD (aCons (e2 ixD (eB 0) (eC (.int 4))) aNil)) (eC (.int 5))))) aNil))) aNil))) aNil))))) sNil))))) sNil)) ((sRet (eA tupD (aCons (e2 ixD (eA lstD (aCons (eC (.str "a")) (aCons (eC (.str "b")) (aCons (eC (.str "zzzz")) (aCons (eC (.str "c")) aNil))))) (e2 modD (eA intD (aCons (e2 ixD (eB 0) (eC (.int 1))) aNil)) (eC (.int 4)))) (aCons (e2 modD (eA intD (aCons (e2 ixD (eB 0) (eC (.int 2))) aNil)) (eC (.int 1000))) aNil))))))
noncomputable def d__law_dayC : List D → M D := fnD 2 5 b__law_dayC

noncomputable def b__law_manyC_1 : SM :=
  (sSeq ((sSet 4 (eF Ks.d__law_plusC (aCons (eA tupD (aCons (e2 subD (e2 mulI (eC (.int 2)) (e2 subD (eN 1) (eN 3))) (eC (.int 2))) (aCons (eC (.int 1)) aNil))) (aCons (eF Ks.d__law_drawnC (aCons (e2 ixD (eB 0) (e2 addD (eC (.int 1)) (eB 3))) (aCons (eC (.int 3)) aNil))) aNil))))) (sSeq ((sSet 5 (eF Ks.d__law_ratioC (aCons (e2 modD (e2 fdivD (eA intD (aCons (e2 ixD (eB 0) (e2 addD (eC (.int 1)) (eB 3))) aNil)) (eC (.int 18))) (eC (.int 3))) (aCons (eC (.int 20)) aNil))))) ((sApp 2 (eA tupD (aCons (eC (.str "a")) (aCons (eA tupD (aCons (eC (.int 0)) (aCons (eC (.int 999)) (aCons (eN 4) (aCons (eN 5) (aCons (eA tupD (aCons (eC (.int 0)) (aCons (eC (.int 1)) aNil))) (aCons (eC (.int 0)) aNil))))))) (aCons (eC .non) aNil))))))))
noncomputable def b__law_manyC : SM :=
  (sSeq ((sSet 1 (e2 addD (eC (.int 8)) (e2 modD (eA intD (aCons (e2 ixD (eB 0) (eC (.int 0))) aNil)) (eC (.int 5)))))) (sSeq ((sOwn 2 (fLst aNil))) (sSeq ((sFor (.nm 3) (iA rng1D (aCons (eN 1) aNil)) b__law_manyC_1)) ((sRet (eA tupleD (aCons (eB 2) aNil)))))))
noncomputable def d__law_manyC : List D → M D := fnD 1 5 b__law_manyC

end Ks

set_option linter.all false
set_option maxRecDepth 100000
/-! printed by gen.py: what the text of the law does, as plain functions. -/
namespace Lk24
open Kb PySem
def c_MAX_WEIGHED : D := .int 8
def c_MAX_NUMBER : D := .int 99
noncomputable def b__law_places_1 : SM :=
  (sSeq ((sSet 4 (e2 modD (eA intD (aCons (e2 ixD (eB 0) (e2 addD (eC (.int 1)) (eB 3))) aNil)) (eN 1)))) ((sIf (tB (e2 ninD (eB 4) (eB 2))) ((sApp 2 (eN 4))) sNil)))
noncomputable def b__law_places : SM :=
  (sSeq ((sOwn 2 (fLst aNil))) (sSeq ((sFor (.nm 3) (iA rng1D (aCons (e2 addD (eC (.int 1)) (e2 modD (eA intD (aCons (e2 ixD (eB 0) (eC (.int 0))) aNil)) (eA minD (aCons (eC (.int 6)) (aCons (eB 1) aNil))))) aNil)) b__law_places_1)) ((sFrz 2 (sRet (eN 2))))))
noncomputable def d__law_places : List D → M D := fnD 2 3 b__law_places

noncomputable def l_weighing_conditions_1 : EM (List D) :=
  (eLc (iS (eB 2)) (.nm 16) [16] tYes (eCh leD ltD (eC (.int 0)) (eN 16) (eN 3)))
noncomputable def l_weighing_conditions_2 : EM (List D) :=
  (eLc (iA rng1D (aCons (eN 3) aNil)) (.nm 16) [16] tYes (eIf (tB (e2 inD (eB 16) (eB 2))) (eN 13) (eC Ks.c_ZERO)))
noncomputable def b_weighing_conditions_3 : SM :=
  (sSeq ((sSet 15 (eA tupleD (aCons (eLst l_weighing_conditions_2) aNil)))) ((sApp 8 (eA tupD (aCons (eN 15) (aCons (eC (.str "<=")) (aCons (eN 14) aNil)))))))
noncomputable def b_weighing_conditions_4 : SM :=
  (sSeq ((sSet 11 (eA tupD (aCons (eF Ks.d_minus (aCons (eC Ks.c_ONE) (aCons (eN 10) aNil))) (aCons (eF Ks.d_plus (aCons (eN 7) (aCons (eN 9) aNil))) aNil))))) (sSeq ((sSet 12 (eA tupD (aCons (eF Ks.d_negated (aCons (eF Ks.d_plus (aCons (eC Ks.c_ONE) (aCons (eN 10) aNil))) aNil)) (aCons (eF Ks.d_minus (aCons (eN 9) (aCons (eN 7) aNil))) aNil))))) ((sFor (.tp [(.nm 13), (.nm 14)]) (iS (eA tupD (aCons (eN 11) (aCons (eN 12) aNil)))) b_weighing_conditions_3))))
noncomputable def b_weighing_conditions : SM :=
  (sSeq ((sIf (tOr (tNot (tV (eA allD (aCons (eLst l_weighing_conditions_1) aNil)))) (tB (e2 ltD (e1 lenSetD (eB 2)) (eA lenD (aCons (eB 2) aNil))))) ((sRaise "NotAllowed")) sNil)) (sSeq ((sTg (.tp [(.nm 4), (.nm 5), (.nm 6), (.nm 7)]) (eN 1))) (sSeq ((sOwn 8 (fLst aNil))) (sSeq ((sFor (.tp [(.nm 9), (.nm 10)]) (iS (eF Ks.d_limits (aCons (eN 0) (aCons (eN 4) (aCons (eN 5) aNil))))) b_weighing_conditions_4)) ((sFrz 8 (sRet (eN 8))))))))
noncomputable def d_weighing_conditions : List D → M D := fnD 4 13 b_weighing_conditions

noncomputable def b__law_ends : SM :=
  ((sTry ((sRet (eF Ks.d_ends (aCons (eN 0) (aCons (e2 ixD (eB 1) (eC (.int 0))) (aCons (e2 ixD (eB 1) (eC (.int 1))) (aCons (e2 ixD (eB 1) (eC (.int 3))) aNil))))))) [("KerbError", false), ("NotAllowed", false), ("Missing", false), ("Never", true)] (fun c => if c = "Never" then ((sRet (eC .non))) else fun _ _ => .stuck)))
noncomputable def d__law_ends : List D → M D := fnD 2 0 b__law_ends

noncomputable def b__law_sums : SM :=
  (sSeq ((sOwn 2 (fLst (aCons (eF Ks.d__law_drawnC (aCons (e2 ixD (eB 1) (eC (.int 0))) (aCons (eC (.int 160)) aNil))) (aCons (eA tupD (aCons (eC (.int 0)) (aCons (eC (.int 1)) aNil))) aNil))))) (sSeq ((sIf (tB (e2 isntND (eB 0) (eC .non))) (sSeq ((sOwn 2 (fCat (eB 2) (eA lstD (aCons (e2 ixD (eB 0) (eC (.int 0))) (aCons (eF Ks.d__law_plusC (aCons (e2 ixD (eB 0) (eC (.int 0))) (aCons (eA tupD (aCons (eC (.int 1)) (aCons (eC (.int 777)) aNil))) aNil))) aNil)))))) (sSeq ((sIf (tV (eF Ks.d__law_less (aCons (eA tupD (aCons (eC (.int 1)) (aCons (eC (.int 777)) aNil))) (aCons (e2 ixD (eB 0) (eC (.int 0))) aNil)))) ((sApp 2 (eF Ks.d__law_minusC (aCons (e2 ixD (eB 0) (eC (.int 0))) (aCons (eA tupD (aCons (eC (.int 1)) (aCons (eC (.int 777)) aNil))) aNil))))) sNil)) ((sIf (tB (e2 isntND (e2 ixD (eB 0) (eC (.int 1))) (eC .non))) ((sOwn 2 (fCat (eB 2) (eA lstD (aCons (e2 ixD (eB 0) (eC (.int 1))) (aCons (eF Ks.d__law_plusC (aCons (e2 ixD (eB 0) (eC (.int 1))) (aCons (eA tupD (aCons (eC (.int 1)) (aCons (eC (.int 777)) aNil))) aNil))) aNil)))))) sNil)))) sNil)) ((sFrz 2 (sRet (eN 2))))))
noncomputable def d__law_sums : List D → M D := fnD 2 1 b__law_sums

noncomputable def b_is_weight : SM :=
  ((sRet (eAnd (eF Ks.d_is_ratio (aCons (eN 0) aNil)) (e2 geD (eF Ks.d_sign_of (aCons (eN 0) aNil)) (eC (.int 0))))))
noncomputable def d_is_weight : List D → M D := fnD 1 0 b_is_weight

noncomputable def l_check_weighing_1 : EM (List D) :=
  (eLc (iS (eB 3)) (.nm 5) [5] tYes (eCh leD leD (eC (.int 0)) (eN 5) (eC c_MAX_NUMBER)))
noncomputable def l_check_weighing_2 : EM (List D) :=
  (eLc (iA rng1D (aCons (e2 subD (eA lenD (aCons (eB 3) aNil)) (eC (.int 1))) aNil)) (.nm 6) [6] tYes (e2 ltD (e2 ixD (eB 3) (eN 6)) (e2 ixD (eB 3) (e2 addD (eB 6) (eC (.int 1))))))
noncomputable def b_check_weighing : SM :=
  (sSeq ((sTg (.tp [(.nm 1), (.nm 2), (.nm 3), (.nm 4)]) (eN 0))) (sSeq ((sExpr (eF Ks.d_check_scale (aCons (eN 1) aNil)))) (sSeq ((sExpr (eF Ks.d_check_day (aCons (eN 2) aNil)))) (sSeq ((sIf (tOr (tNot (tB (eCh leD leD (eC (.int 1)) (eA lenD (aCons (eB 3) aNil)) (eC c_MAX_WEIGHED)))) (tNot (tV (eA allD (aCons (eLst l_check_weighing_1) aNil))))) ((sRaise "NotAllowed")) sNil)) ((sIf (tOr (tNot (tV (eA allD (aCons (eLst l_check_weighing_2) aNil)))) (tNot (tV (eF d_is_weight (aCons (eN 4) aNil))))) ((sRaise "NotAllowed")) sNil))))))
noncomputable def d_check_weighing : List D → M D := fnD 1 6 b_check_weighing

noncomputable def b__law_refused : SM :=
  (sSeq ((sTryAs 2 ((sIf (tB (e2 eqD (eB 0) (eC (.int 0)))) ((sExpr (eF d_check_weighing (aCons (eN 1) aNil)))) ((sExpr (eF d_weighing_conditions (aCons (e2 ixD (eB 1) (eC (.int 0))) (aCons (e2 ixD (eB 1) (eC (.int 1))) (aCons (e2 ixD (eB 1) (eC (.int 2))) (aCons (e2 ixD (eB 1) (eC (.int 3))) aNil))))))))) [("KerbError", false), ("NotAllowed", true), ("Missing", false), ("Never", false)] (fun c => if c = "NotAllowed" then ((sRet (eAnd (eIsE 2 "NotAllowed" true) (eNot (eIsE 2 "NotAllowed" false))))) else fun _ _ => .stuck))) ((sRet (eC (.bl false)))))
noncomputable def d__law_refused : List D → M D := fnD 2 1 b__law_refused

noncomputable def b__law_conditions_1 : SM :=
  (sSeq ((sPut 7 (eN 9) (eF Ks.d__law_minusC (aCons (eA tupD (aCons (eC (.int 1)) (aCons (eC (.int 1)) aNil))) (aCons (eN 6) aNil))))) ((sPut 8 (eN 9) (eF Ks.d__law_minusC (aCons (eA tupD (aCons (eC (.int 0)) (aCons (eC (.int 1)) aNil))) (aCons (eF Ks.d__law_plusC (aCons (eA tupD (aCons (eC (.int 1)) (aCons (eC (.int 1)) aNil))) (aCons (eN 6) aNil))) aNil))))))
noncomputable def b__law_conditions_2 : SM :=
  (sSeq ((sOwn 7 (fMul (eA lstD (aCons (eA tupD (aCons (eC (.int 0)) (aCons (eC (.int 1)) aNil))) aNil)) (eN 3)))) (sSeq ((sOwn 8 (fMul (eA lstD (aCons (eA tupD (aCons (eC (.int 0)) (aCons (eC (.int 1)) aNil))) aNil)) (eN 3)))) (sSeq ((sFor (.nm 9) (iS (eN 2)) b__law_conditions_1)) (sSeq ((sApp 4 (eA tupD (aCons (eA tupleD (aCons (eB 7) aNil)) (aCons (eC (.str "<=")) (aCons (eF Ks.d__law_plusC (aCons (e2 ixD (eB 1) (eC (.int 3))) (aCons (eN 5) aNil))) aNil)))))) ((sApp 4 (eA tupD (aCons (eA tupleD (aCons (eB 8) aNil)) (aCons (eC (.str "<=")) (aCons (eF Ks.d__law_minusC (aCons (eN 5) (aCons (e2 ixD (eB 1) (eC (.int 3))) aNil))) aNil))))))))))
noncomputable def b__law_conditions : SM :=
  (sSeq ((sOwn 4 (fLst aNil))) (sSeq ((sFor (.tp [(.nm 5), (.nm 6)]) (iS (eF Ks.d__law_slacksC (aCons (eN 0) (aCons (e2 ixD (eB 1) (eC (.int 0))) (aCons (e2 ixD (eB 1) (eC (.int 1))) aNil))))) b__law_conditions_2)) ((sFrz 4 (sRet (eN 4))))))
noncomputable def d__law_conditions : List D → M D := fnD 4 6 b__law_conditions

noncomputable def b__law_keeps_1 : SM :=
  ((sSet 5 (eF Ks.d__law_plusC (aCons (eN 5) (aCons (eF Ks.d__law_timesC (aCons (e2 ixD (eB 2) (eN 6)) (aCons (e2 ixD (eB 1) (eN 6)) aNil))) aNil)))))
noncomputable def b__law_keeps_2 : SM :=
  (sSeq ((sSet 5 (eA tupD (aCons (eC (.int 0)) (aCons (eC (.int 1)) aNil))))) (sSeq ((sFor (.nm 6) (iA rng1D (aCons (eA lenD (aCons (eB 1) aNil)) aNil)) b__law_keeps_1)) ((sIf (tV (eF Ks.d__law_less (aCons (eN 4) (aCons (eN 5) aNil)))) ((sRet (eC (.bl false)))) sNil))))
noncomputable def b__law_keeps : SM :=
  (sSeq ((sFor (.tp [(.nm 2), (.nm 3), (.nm 4)]) (iS (eN 0)) b__law_keeps_2)) ((sRet (eC (.bl true)))))
noncomputable def d__law_keeps : List D → M D := fnD 2 5 b__law_keeps

noncomputable def b__law_odd : SM :=
  (sSeq ((sTg (.tp [(.nm 2), (.nm 3), (.nm 4), (.nm 5)]) (eN 0))) (sSeq ((sSet 6 (eA lstD (aCons (eA tupD (aCons (eC (.str "")) (aCons (eN 3) (aCons (eN 4) (aCons (eN 5) aNil))))) (aCons (eA tupD (aCons (eC (.str "Aa")) (aCons (eN 3) (aCons (eN 4) (aCons (eN 5) aNil))))) (aCons (eA tupD (aCons (eN 2) (aCons (e1 negD (eC (.int 1))) (aCons (eN 4) (aCons (eN 5) aNil))))) (aCons (eA tupD (aCons (eN 2) (aCons (eC (.int 1000)) (aCons (eN 4) (aCons (eN 5) aNil))))) aNil))))))) (sSeq ((sSet 6 (e2 addD (eB 6) (eA lstD (aCons (eA tupD (aCons (eN 2) (aCons (eN 3) (aCons (eA tupD aNil) (aCons (eN 5) aNil))))) (aCons (eA tupD (aCons (eN 2) (aCons (eN 3) (aCons (eA tupD (aCons (eC (.int 3)) (aCons (eC (.int 3)) aNil))) (aCons (eN 5) aNil))))) (aCons (eA tupD (aCons (eN 2) (aCons (eN 3) (aCons (eA tupD (aCons (eC (.int 4)) (aCons (eC (.int 2)) aNil))) (aCons (eN 5) aNil))))) (aCons (eA tupD (aCons (eN 2) (aCons (eN 3) (aCons (eA tupD (aCons (e1 negD (eC (.int 1))) (aCons (eC (.int 2)) aNil))) (aCons (eN 5) aNil))))) aNil)))))))) (sSeq ((sSet 6 (e2 addD (eB 6) (eA lstD (aCons (eA tupD (aCons (eN 2) (aCons (eN 3) (aCons (eA tupD (aCons (eC (.int 100)) aNil)) (aCons (eN 5) aNil))))) (aCons (eA tupD (aCons (eN 2) (aCons (eN 3) (aCons (eA tupD (aCons (eC (.int 0)) (aCons (eC (.int 1)) (aCons (eC (.int 2)) (aCons (eC (.int 3)) (aCons (eC (.int 4)) (aCons (eC (.int 5)) (aCons (eC (.int 6)) (aCons (eC (.int 7)) (aCons (eC (.int 8)) aNil)))))))))) (aCons (eN 5) aNil))))) (aCons (eA tupD (aCons (eN 2) (aCons (eN 3) (aCons (eN 4) (aCons (eA tupD (aCons (e1 negD (eC (.int 1))) (aCons (eC (.int 3)) aNil))) aNil))))) aNil))))))) ((sRet (e2 ixD (e2 addD (eB 6) (eA lstD (aCons (eA tupD (aCons (eN 2) (aCons (eN 3) (aCons (eN 4) (aCons (eA tupD (aCons (eC (.int 2)) (aCons (eC (.int 4)) aNil))) aNil))))) aNil))) (e2 modD (eA intD (aCons (eB 1) aNil)) (eC (.int 12))))))))))
noncomputable def d__law_odd : List D → M D := fnD 2 5 b__law_odd

noncomputable def l__law_spread_1 : EM (List D) :=
  (eLc (iA rng1D (aCons (eN 2) aNil)) (.nm 4) [4] tYes (eF Ks.d__law_drawnC (aCons (e2 ixD (eB 3) (e2 modD (eA intD (aCons (eB 4) aNil)) (eA lenD (aCons (eB 3) aNil)))) (aCons (eC (.int 9)) aNil))))
noncomputable def b__law_spread_2 : SM :=
  (sSeq ((sSet 7 (eF Ks.d__law_timesC (aCons (eN 6) (aCons (eF Ks.d__law_ratioC (aCons (e2 modD (eA intD (aCons (e2 ixD (eB 3) (e2 modD (eA intD (aCons (eB 4) aNil)) (eA lenD (aCons (eB 3) aNil)))) aNil)) (eC (.int 5))) (aCons (eC (.int 4)) aNil))) aNil))))) (sSeq ((sIf (tOr (tB (e2 eqD (e2 addD (eB 4) (eC (.int 1))) (eA lenD (aCons (eB 1) aNil)))) (tV (eF Ks.d__law_less (aCons (eN 6) (aCons (eN 7) aNil))))) ((sSet 7 (eN 6))) sNil)) (sSeq ((sPut 5 (e2 ixD (eB 1) (eN 4)) (eN 7))) ((sSet 6 (eF Ks.d__law_minusC (aCons (eN 6) (aCons (eN 7) aNil))))))))
noncomputable def b__law_spread : SM :=
  (sSeq ((sOwn 5 l__law_spread_1)) (sSeq ((sSet 6 (eN 0))) (sSeq ((sFor (.nm 4) (iA rng1D (aCons (eA lenD (aCons (eB 1) aNil)) aNil)) b__law_spread_2)) ((sRet (eA tupleD (aCons (eB 5) aNil)))))))
noncomputable def d__law_spread : List D → M D := fnD 4 4 b__law_spread

noncomputable def l_law_1 : EM (List D) :=
  (eLc (iA rng1D (aCons (eC (.int 12)) aNil)) (.nm 16) [16] (tB (e2 eqD (e2 modD (e2 fdivD (eA intD (aCons (e2 ixD (eB 2) (eC (.int 47))) aNil)) (e2 addD (eC (.int 1)) (eB 16))) (eC (.int 3))) (eC (.int 0)))) (eN 16))
noncomputable def b_law_2 : SM :=
  (sSeq ((sSet 14 (eAnd (e2 isntND (eB 12) (eC .non)) (eNot (eF Ks.d__law_less (aCons (eN 13) (aCons (e2 ixD (eB 12) (eC (.int 0))) aNil))))))) (sSeq ((sSet 14 (eAnd (eN 14) (eOr (e2 isD (e2 ixD (eB 12) (eC (.int 1))) (eC .non)) (eNot (eF Ks.d__law_less (aCons (e2 ixD (eB 12) (eC (.int 1))) (aCons (eN 13) aNil)))))))) ((sIf (tB (e2 neD (eF d__law_keeps (aCons (eN 11) (aCons (eF d__law_spread (aCons (eN 13) (aCons (eN 9) (aCons (eN 8) (aCons (eSl (eB 2) (pSo (eC (.int 62))) (pSo (eC (.int 90)))) aNil))))) aNil))) (eB 14))) ((sRet (eC (.bl false)))) sNil))))
noncomputable def b_law_3 : SM :=
  ((sIf (tNot (tV (eF d__law_refused (aCons (eC (.int 1)) (aCons (eA tupD (aCons (eN 3) (aCons (eN 7) (aCons (eN 15) (aCons (eN 8) aNil))))) aNil))))) ((sRet (eC (.bl false)))) sNil))
noncomputable def b_law_4 : SM :=
  (sSeq ((sSet 2 (eF Ks.d__law_numbersC (aCons (eF Ks.d__law_cell (aCons (eN 0) (aCons (eN 1) aNil))) (aCons (eN 1) (aCons (eC (.int 90)) aNil)))))) (sSeq ((sSet 3 (eF Ks.d__law_drawerC (aCons (eN 2) (aCons (eC (.int 4)) aNil))))) (sSeq ((sTg (.tp [(.nm 4), (.nm 5)]) (eF Ks.d__law_dayC (aCons (eSl (eB 2) (pSo (eC (.int 42))) (pSo (eC (.int 47)))) (aCons (eN 3) aNil))))) (sSeq ((sSet 6 (eA tupleD (aCons (eSl (eLst l_law_1) pNo (pSo (eC (.int 8)))) aNil)))) (sSeq ((sSet 7 (eA tupD (aCons (eN 4) (aCons (eN 5) (aCons (e2 addD (eB 6) (e2 mulTD (eA tupD (aCons (eC (.int 99)) aNil)) (eA intD (aCons (e2 eqD (eA lenD (aCons (eB 6) aNil)) (eC (.int 0))) aNil)))) (aCons (eF Ks.d__law_drawnC (aCons (e2 ixD (eB 2) (eC (.int 48))) (aCons (e2 ixD (eA lstD (aCons (eC (.int 160)) (aCons (eC (.int 12)) aNil))) (e2 modD (eA intD (aCons (e2 ixD (eB 2) (eC (.int 49))) aNil)) (eC (.int 2)))) aNil))) aNil))))))) (sSeq ((sIf (tOr (tB (e2 isntND (eF d_check_weighing (aCons (eN 7) aNil)) (eC .non))) (tNot (tV (eF d__law_refused (aCons (eC (.int 0)) (aCons (eF d__law_odd (aCons (eN 7) (aCons (e2 ixD (eB 2) (eC (.int 50))) aNil))) aNil)))))) ((sRet (eC (.bl false)))) sNil)) (sSeq ((sSet 8 (e2 addD (eC (.int 1)) (e2 modD (eA intD (aCons (e2 ixD (eB 2) (eC (.int 51))) aNil)) (eC (.int 24)))))) (sSeq ((sSet 9 (eF d__law_places (aCons (eSl (eB 2) (pSo (eC (.int 52))) (pSo (eC (.int 60)))) (aCons (eN 8) aNil))))) (sSeq ((sSet 10 (eA listD (aCons (eB 9) aNil)))) (sSeq ((sSet 11 (eF d_weighing_conditions (aCons (eN 3) (aCons (eN 7) (aCons (eN 9) (aCons (eN 8) aNil))))))) (sSeq ((sIf (tOr (tNot (tV (e1 (isTyD "list") (eB 11)))) (tOr (tB (e2 neD (eB 11) (eF d__law_conditions (aCons (eN 3) (aCons (eN 7) (aCons (eN 9) (aCons (eN 8) aNil))))))) (tB (e2 neD (eB 9) (eB 10))))) ((sRet (eC (.bl false)))) sNil)) (sSeq ((sSet 12 (eF d__law_ends (aCons (eN 3) (aCons (eN 7) aNil))))) (sSeq ((sFor (.nm 13) (iS (eF d__law_sums (aCons (eN 12) (aCons (eSl (eB 2) (pSo (eC (.int 60))) (pSo (eC (.int 62)))) aNil)))) b_law_2)) ((sFor (.nm 15) (iS (eA tupD (aCons (e2 addD (eB 9) (eA lstD (aCons (eN 8) aNil))) (aCons (e2 addD (eB 9) (eA lstD (aCons (e1 negD (eC (.int 1))) aNil))) (aCons (e2 addD (eB 9) (eSl (eB 9) pNo (pSo (eC (.int 1))))) aNil))))) b_law_3)))))))))))))))
noncomputable def b_law : SM :=
  (sSeq ((sFor (.nm 1) (iA rng1D (aCons (eA maxD (aCons (eC (.int 1)) (aCons (eA minD (aCons (eA lenD (aCons (eB 0) aNil)) (aCons (eC (.int 4)) aNil))) aNil))) aNil)) b_law_4)) ((sRet (e2 eqD (eF d_weighing_conditions (aCons (eA tupD aNil) (aCons (eA tupD (aCons (eC (.str "a")) (aCons (eC (.int 0)) (aCons (eA tupD (aCons (eC (.int 0)) aNil)) (aCons (eA tupD (aCons (eC (.int 1)) (aCons (eC (.int 1)) aNil))) aNil))))) (aCons (eA lstD (aCons (eC (.int 0)) aNil)) (aCons (eC (.int 1)) aNil))))) (eA lstD aNil)))))
noncomputable def d_law : List D → M D := fnD 1 16 b_law

end Lk24

set_option Elab.async false
set_option linter.all false
set_option maxRecDepth 100000
/-! printed by gen.py: the walk. -/
namespace Lk24
open PySem PySem.Spec PyProof.Rows L2 RZ Kb
def top (i : Nat) : Stmt := PySem.Challenge.pw_kerbwise_k24_conditions_of_weighings.main.body.getD i (.Pass ⟨0, 0, 0, 0⟩)

structure Txt (K : PySem.W.Frag) (mg : Str → Option Value) : Prop where
  g_common : mg "common" = some (.ref (He.ga K "common"))
  f_common : FunD K "common" "common" (defArgs (top 6)) (defBody (top 6)) (defScope (top 6)) [] [] (He.ga K "common") (fdOf K ("common", none))
  g_ratio : mg "ratio" = some (.ref (He.ga K "ratio"))
  f_ratio : FunD K "ratio" "ratio" (defArgs (top 7)) (defBody (top 7)) (defScope (top 7)) [] [] (He.ga K "ratio") (fdOf K ("ratio", none))
  g_is_ratio : mg "is_ratio" = some (.ref (He.ga K "is_ratio"))
  f_is_ratio : FunD K "is_ratio" "is_ratio" (defArgs (top 8)) (defBody (top 8)) (defScope (top 8)) [] [] (He.ga K "is_ratio") (fdOf K ("is_ratio", none))
  g_of_int : mg "of_int" = some (.ref (He.ga K "of_int"))
  f_of_int : FunD K "of_int" "of_int" (defArgs (top 9)) (defBody (top 9)) (defScope (top 9)) [] [] (He.ga K "of_int") (fdOf K ("of_int", none))
  g_plus : mg "plus" = some (.ref (He.ga K "plus"))
  f_plus : FunD K "plus" "plus" (defArgs (top 10)) (defBody (top 10)) (defScope (top 10)) [] [] (He.ga K "plus") (fdOf K ("plus", none))
  g_negated : mg "negated" = some (.ref (He.ga K "negated"))
  f_negated : FunD K "negated" "negated" (defArgs (top 11)) (defBody (top 11)) (defScope (top 11)) [] [] (He.ga K "negated") (fdOf K ("negated", none))
  g_minus : mg "minus" = some (.ref (He.ga K "minus"))
  f_minus : FunD K "minus" "minus" (defArgs (top 12)) (defBody (top 12)) (defScope (top 12)) [] [] (He.ga K "minus") (fdOf K ("minus", none))
  g_times : mg "times" = some (.ref (He.ga K "times"))
  f_times : FunD K "times" "times" (defArgs (top 13)) (defBody (top 13)) (defScope (top 13)) [] [] (He.ga K "times") (fdOf K ("times", none))
  g_over : mg "over" = some (.ref (He.ga K "over"))
  f_over : FunD K "over" "over" (defArgs (top 14)) (defBody (top 14)) (defScope (top 14)) [] [] (He.ga K "over") (fdOf K ("over", none))
  g_sign_of : mg "sign_of" = some (.ref (He.ga K "sign_of"))
  f_sign_of : FunD K "sign_of" "sign_of" (defArgs (top 15)) (defBody (top 15)) (defScope (top 15)) [] [] (He.ga K "sign_of") (fdOf K ("sign_of", none))
  g_compare : mg "compare" = some (.ref (He.ga K "compare"))
  f_compare : FunD K "compare" "compare" (defArgs (top 16)) (defBody (top 16)) (defScope (top 16)) [] [] (He.ga K "compare") (fdOf K ("compare", none))
  g_is_scale : mg "is_scale" = some (.ref (He.ga K "is_scale"))
  f_is_scale : FunD K "is_scale" "is_scale" (defArgs (top 22)) (defBody (top 22)) (defScope (top 22)) [] [] (He.ga K "is_scale") (fdOf K ("is_scale", none))
  g_is_day : mg "is_day" = some (.ref (He.ga K "is_day"))
  f_is_day : FunD K "is_day" "is_day" (defArgs (top 23)) (defBody (top 23)) (defScope (top 23)) [] [] (He.ga K "is_day") (fdOf K ("is_day", none))
  g_is_weight : mg "is_weight" = some (.ref (He.ga K "is_weight"))
  f_is_weight : FunD K "is_weight" "is_weight" (defArgs (top 24)) (defBody (top 24)) (defScope (top 24)) [] [] (He.ga K "is_weight") (fdOf K ("is_weight", none))
  g_check_scale : mg "check_scale" = some (.ref (He.ga K "check_scale"))
  f_check_scale : FunD K "check_scale" "check_scale" (defArgs (top 25)) (defBody (top 25)) (defScope (top 25)) [] [] (He.ga K "check_scale") (fdOf K ("check_scale", none))
  g_check_day : mg "check_day" = some (.ref (He.ga K "check_day"))
  f_check_day : FunD K "check_day" "check_day" (defArgs (top 26)) (defBody (top 26)) (defScope (top 26)) [] [] (He.ga K "check_day") (fdOf K ("check_day", none))
  g_is_counting : mg "is_counting" = some (.ref (He.ga K "is_counting"))
  f_is_counting : FunD K "is_counting" "is_counting" (defArgs (top 27)) (defBody (top 27)) (defScope (top 27)) [] [] (He.ga K "is_counting") (fdOf K ("is_counting", none))
  g_counting : mg "counting" = some (.ref (He.ga K "counting"))
  f_counting : FunD K "counting" "counting" (defArgs (top 28)) (defBody (top 28)) (defScope (top 28)) [] [] (He.ga K "counting") (fdOf K ("counting", none))
  g_check_weight : mg "check_weight" = some (.ref (He.ga K "check_weight"))
  f_check_weight : FunD K "check_weight" "check_weight" (defArgs (top 33)) (defBody (top 33)) (defScope (top 33)) [] [] (He.ga K "check_weight") (fdOf K ("check_weight", none))
  g_limits : mg "limits" = some (.ref (He.ga K "limits"))
  f_limits : FunD K "limits" "limits" (defArgs (top 34)) (defBody (top 34)) (defScope (top 34)) [] [] (He.ga K "limits") (fdOf K ("limits", none))
  g_greater_of : mg "greater_of" = some (.ref (He.ga K "greater_of"))
  f_greater_of : FunD K "greater_of" "greater_of" (defArgs (top 35)) (defBody (top 35)) (defScope (top 35)) [] [] (He.ga K "greater_of") (fdOf K ("greater_of", none))
  g_lesser_of : mg "lesser_of" = some (.ref (He.ga K "lesser_of"))
  f_lesser_of : FunD K "lesser_of" "lesser_of" (defArgs (top 36)) (defBody (top 36)) (defScope (top 36)) [] [] (He.ga K "lesser_of") (fdOf K ("lesser_of", none))
  g_ends : mg "ends" = some (.ref (He.ga K "ends"))
  f_ends : FunD K "ends" "ends" (defArgs (top 37)) (defBody (top 37)) (defScope (top 37)) [] [] (He.ga K "ends") (fdOf K ("ends", none))
  g_check_weighing : mg "check_weighing" = some (.ref (He.ga K "check_weighing"))
  f_check_weighing : FunD K "check_weighing" "check_weighing" (defArgs (top 38)) (defBody (top 38)) (defScope (top 38)) [] [] (He.ga K "check_weighing") (fdOf K ("check_weighing", none))
  g_weighing_conditions : mg "weighing_conditions" = some (.ref (He.ga K "weighing_conditions"))
  f_weighing_conditions : FunD K "weighing_conditions" "weighing_conditions" (defArgs (top 39)) (defBody (top 39)) (defScope (top 39)) [] [] (He.ga K "weighing_conditions") (fdOf K ("weighing_conditions", none))
  g__law_cell : mg "_law_cell" = some (.ref (He.ga K "_law_cell"))
  f__law_cell : FunD K "_law_cell" "_law_cell" (defArgs (top 41)) (defBody (top 41)) (defScope (top 41)) [] [] (He.ga K "_law_cell") (fdOf K ("_law_cell", none))
  g__law_numbers : mg "_law_numbers" = some (.ref (He.ga K "_law_numbers"))
  f__law_numbers : FunD K "_law_numbers" "_law_numbers" (defArgs (top 42)) (defBody (top 42)) (defScope (top 42)) [] [] (He.ga K "_law_numbers") (fdOf K ("_law_numbers", none))
  g__law_ratio : mg "_law_ratio" = some (.ref (He.ga K "_law_ratio"))
  f__law_ratio : FunD K "_law_ratio" "_law_ratio" (defArgs (top 43)) (defBody (top 43)) (defScope (top 43)) [] [] (He.ga K "_law_ratio") (fdOf K ("_law_ratio", none))
  g__law_plus : mg "_law_plus" = some (.ref (He.ga K "_law_plus"))
  f__law_plus : FunD K "_law_plus" "_law_plus" (defArgs (top 44)) (defBody (top 44)) (defScope (top 44)) [] [] (He.ga K "_law_plus") (fdOf K ("_law_plus", none))
  g__law_times : mg "_law_times" = some (.ref (He.ga K "_law_times"))
  f__law_times : FunD K "_law_times" "_law_times" (defArgs (top 45)) (defBody (top 45)) (defScope (top 45)) [] [] (He.ga K "_law_times") (fdOf K ("_law_times", none))
  g__law_less : mg "_law_less" = some (.ref (He.ga K "_law_less"))
  f__law_less : FunD K "_law_less" "_law_less" (defArgs (top 46)) (defBody (top 46)) (defScope (top 46)) [] [] (He.ga K "_law_less") (fdOf K ("_law_less", none))
  g__law_drawn : mg "_law_drawn" = some (.ref (He.ga K "_law_drawn"))
  f__law_drawn : FunD K "_law_drawn" "_law_drawn" (defArgs (top 47)) (defBody (top 47)) (defScope (top 47)) [] [] (He.ga K "_law_drawn") (fdOf K ("_law_drawn", none))
  g__law_minus : mg "_law_minus" = some (.ref (He.ga K "_law_minus"))
  f__law_minus : FunD K "_law_minus" "_law_minus" (defArgs (top 48)) (defBody (top 48)) (defScope (top 48)) [] [] (He.ga K "_law_minus") (fdOf K ("_law_minus", none))
  g__law_paper : mg "_law_paper" = some (.ref (He.ga K "_law_paper"))
  f__law_paper : FunD K "_law_paper" "_law_paper" (defArgs (top 49)) (defBody (top 49)) (defScope (top 49)) [] [] (He.ga K "_law_paper") (fdOf K ("_law_paper", none))
  g__law_drawer : mg "_law_drawer" = some (.ref (He.ga K "_law_drawer"))
  f__law_drawer : FunD K "_law_drawer" "_law_drawer" (defArgs (top 50)) (defBody (top 50)) (defScope (top 50)) [] [] (He.ga K "_law_drawer") (fdOf K ("_law_drawer", none))
  g__law_counting : mg "_law_counting" = some (.ref (He.ga K "_law_counting"))
  f__law_counting : FunD K "_law_counting" "_law_counting" (defArgs (top 51)) (defBody (top 51)) (defScope (top 51)) [] [] (He.ga K "_law_counting") (fdOf K ("_law_counting", none))
  g__law_slacks : mg "_law_slacks" = some (.ref (He.ga K "_law_slacks"))
  f__law_slacks : FunD K "_law_slacks" "_law_slacks" (defArgs (top 52)) (defBody (top 52)) (defScope (top 52)) [] [] (He.ga K "_law_slacks") (fdOf K ("_law_slacks", none))
  g__law_day : mg "_law_day" = some (.ref (He.ga K "_law_day"))
  f__law_day : FunD K "_law_day" "_law_day" (defArgs (top 53)) (defBody (top 53)) (defScope (top 53)) [] [] (He.ga K "_law_day") (fdOf K ("_law_day", none))
  g__law_conditions : mg "_law_conditions" = some (.ref (He.ga K "_law_conditions"))
  f__law_conditions : FunD K "_law_conditions" "_law_conditions" (defArgs (top 54)) (defBody (top 54)) (defScope (top 54)) [] [] (He.ga K "_law_conditions") (fdOf K ("_law_conditions", none))
  g__law_keeps : mg "_law_keeps" = some (.ref (He.ga K "_law_keeps"))
  f__law_keeps : FunD K "_law_keeps" "_law_keeps" (defArgs (top 55)) (defBody (top 55)) (defScope (top 55)) [] [] (He.ga K "_law_keeps") (fdOf K ("_law_keeps", none))
  g__law_ends : mg "_law_ends" = some (.ref (He.ga K "_law_ends"))
  f__law_ends : FunD K "_law_ends" "_law_ends" (defArgs (top 56)) (defBody (top 56)) (defScope (top 56)) [] [] (He.ga K "_law_ends") (fdOf K ("_law_ends", none))
  g__law_spread : mg "_law_spread" = some (.ref (He.ga K "_law_spread"))
  f__law_spread : FunD K "_law_spread" "_law_spread" (defArgs (top 57)) (defBody (top 57)) (defScope (top 57)) [] [] (He.ga K "_law_spread") (fdOf K ("_law_spread", none))
  g__law_sums : mg "_law_sums" = some (.ref (He.ga K "_law_sums"))
  f__law_sums : FunD K "_law_sums" "_law_sums" (defArgs (top 58)) (defBody (top 58)) (defScope (top 58)) [] [] (He.ga K "_law_sums") (fdOf K ("_law_sums", none))
  g__law_refused : mg "_law_refused" = some (.ref (He.ga K "_law_refused"))
  f__law_refused : FunD K "_law_refused" "_law_refused" (defArgs (top 59)) (defBody (top 59)) (defScope (top 59)) [] [] (He.ga K "_law_refused") (fdOf K ("_law_refused", none))
  g__law_odd : mg "_law_odd" = some (.ref (He.ga K "_law_odd"))
  f__law_odd : FunD K "_law_odd" "_law_odd" (defArgs (top 60)) (defBody (top 60)) (defScope (top 60)) [] [] (He.ga K "_law_odd") (fdOf K ("_law_odd", none))
  g__law_places : mg "_law_places" = some (.ref (He.ga K "_law_places"))
  f__law_places : FunD K "_law_places" "_law_places" (defArgs (top 61)) (defBody (top 61)) (defScope (top 61)) [] [] (He.ga K "_law_places") (fdOf K ("_law_places", none))
  g_law : mg "law" = some (.ref (He.ga K "law"))
  f_law : FunD K "law" "law" (defArgs (top 62)) (defBody (top 62)) (defScope (top 62)) [] [] (He.ga K "law") (fdOf K ("law", none))
  n_abs : mg "abs" = none
  n_all : mg "all" = none
  n_enumerate : mg "enumerate" = none
  n_int : mg "int" = none
  n_isinstance : mg "isinstance" = none
  n_len : mg "len" = none
  n_list : mg "list" = none
  n_max : mg "max" = none
  n_min : mg "min" = none
  n_range : mg "range" = none
  n_set : mg "set" = none
  n_sorted : mg "sorted" = none
  n_tuple : mg "tuple" = none
  c_MAX_DAY : ConF K mg "MAX_DAY" Ks.c_MAX_DAY
  c_MAX_NAME : ConF K mg "MAX_NAME" Ks.c_MAX_NAME
  c_LETTERS : ConF K mg "LETTERS" Ks.c_LETTERS
  c_ONE : ConF K mg "ONE" Ks.c_ONE
  c_ZERO : ConF K mg "ZERO" Ks.c_ZERO
  c_MAX_WEIGHED : ConF K mg "MAX_WEIGHED" c_MAX_WEIGHED
  c_MAX_NUMBER : ConF K mg "MAX_NUMBER" c_MAX_NUMBER
  e_KerbError : ExcF K mg "KerbError" (He.ga K "KerbError")
  e_Missing : ExcF K mg "Missing" (He.ga K "Missing")
  e_Never : ExcF K mg "Never" (He.ga K "Never")
  e_NotAllowed : ExcF K mg "NotAllowed" (He.ga K "NotAllowed")
  x_Never : ExcC K (He.ga K "Never")
  x_NotAllowed : ExcC K (He.ga K "NotAllowed")
  k_NotAllowed_KerbError : PySem.W.kitOne K (.ref (He.ga K "NotAllowed")) (.ref (He.ga K "KerbError")) = some true
  k_NotAllowed_Missing : PySem.W.kitOne K (.ref (He.ga K "NotAllowed")) (.ref (He.ga K "Missing")) = some false
  m_KerbError_Never : PySem.W.exmOne K (.ref (He.ga K "KerbError")) (.ref (He.ga K "Never")) = some false
  m_KerbError_NotAllowed : PySem.W.exmOne K (.ref (He.ga K "KerbError")) (.ref (He.ga K "NotAllowed")) = some false
  m_Missing_Never : PySem.W.exmOne K (.ref (He.ga K "Missing")) (.ref (He.ga K "Never")) = some false
  m_Missing_NotAllowed : PySem.W.exmOne K (.ref (He.ga K "Missing")) (.ref (He.ga K "NotAllowed")) = some false
  m_Never_Never : PySem.W.exmOne K (.ref (He.ga K "Never")) (.ref (He.ga K "Never")) = some true
  m_Never_NotAllowed : PySem.W.exmOne K (.ref (He.ga K "Never")) (.ref (He.ga K "NotAllowed")) = some false
  m_NotAllowed_Never : PySem.W.exmOne K (.ref (He.ga K "NotAllowed")) (.ref (He.ga K "Never")) = some false
  m_NotAllowed_NotAllowed : PySem.W.exmOne K (.ref (He.ga K "NotAllowed")) (.ref (He.ga K "NotAllowed")) = some true
theorem Txt.exm_ {K : PySem.W.Frag} {mg : Str → Option Value} (T : Txt K mg) (X : String) (cs : List (String × Bool)) (hX : (X, cs) ∈ [("Never", [("KerbError", false), ("NotAllowed", false), ("Missing", false), ("Never", true)]), ("NotAllowed", [("KerbError", false), ("NotAllowed", true), ("Missing", false), ("Never", false)])]) {n : String} {b : Bool} (hl : cs.lookup n = some b) {C : Addr} (hC : mg (Str.ofString n) = some (.ref C)) : PySem.W.exmOne K (.ref C) (.ref (He.ga K (Str.ofString X))) = some b := by
  have key : ∀ p ∈ cs, ∀ C, mg (Str.ofString p.1) = some (.ref C) → PySem.W.exmOne K (.ref C) (.ref (He.ga K (Str.ofString X))) = some p.2 := by
    simp only [List.mem_cons, List.not_mem_nil, or_false, Prod.mk.injEq] at hX
    rcases hX with ⟨rfl, rfl⟩ | ⟨rfl, rfl⟩
    · intro p hp C hC
      simp only [List.mem_cons, List.not_mem_nil, or_false] at hp
      rcases hp with rfl | rfl | rfl | rfl
      · have e := Option.some.inj (hC.symm.trans T.e_KerbError.g); cases e; exact T.m_KerbError_Never
      · have e := Option.some.inj (hC.symm.trans T.e_NotAllowed.g); cases e; exact T.m_NotAllowed_Never
      · have e := Option.some.inj (hC.symm.trans T.e_Missing.g); cases e; exact T.m_Missing_Never
      · have e := Option.some.inj (hC.symm.trans T.e_Never.g); cases e; exact T.m_Never_Never
    · intro p hp C hC
      simp only [List.mem_cons, List.not_mem_nil, or_false] at hp
      rcases hp with rfl | rfl | rfl | rfl
      · have e := Option.some.inj (hC.symm.trans T.e_KerbError.g); cases e; exact T.m_KerbError_NotAllowed
      · have e := Option.some.inj (hC.symm.trans T.e_NotAllowed.g); cases e; exact T.m_NotAllowed_NotAllowed
      · have e := Option.some.inj (hC.symm.trans T.e_Missing.g); cases e; exact T.m_Missing_NotAllowed
      · have e := Option.some.inj (hC.symm.trans T.e_Never.g); cases e; exact T.m_Never_NotAllowed
  have mem : ∀ (l : List (String × Bool)), l.lookup n = some b → (n, b) ∈ l := fun l h => by
    induction l with
    | nil => cases h
    | cons p r ih =>
      obtain ⟨m, b'⟩ := p
      rw [List.lookup_cons] at h
      cases q : (n == m) with
      | true => rw [q] at h; cases h; rw [beq_iff_eq.mp q]; exact List.mem_cons_self
      | false => rw [q] at h; exact List.mem_cons_of_mem _ (ih h)
  exact key (n, b) (mem cs hl) C hC
section
variable {P : Program} {w : World} {base : Heap} {K : PySem.W.Frag} {mg : Str → Option Value}
abbrev s__law_numbers : Stmt := top 42
theorem sc__law_numbers : FnScope ["cell", "k", "many", "numbers", "rest", "j", "mixed", "twice"] ["cell", "k", "many"] (defScope s__law_numbers) := ⟨rfl, rfl, rfl, by decide +kernel, rfl, by decide +kernel, by decide +kernel⟩
theorem bi__law_numbers (T : Txt K mg) : Binds K (fdOf K ("_law_numbers", none)) ["cell", "k", "many"] [] := T.f__law_numbers.bindsN fun _ _ _ _ _ _ us hl => match us, hl with | [_, _, _], _ => rfl
set_option maxHeartbeats 4100000 in
theorem ok__law_numbers (T : Txt K mg) : FnS P w K mg base 1 (He.ga K "_law_numbers") (fdOf K ("_law_numbers", none)) ["cell", "k", "many"] Ks.d__law_numbersC :=
  fns_ok (k := 0) (N := ["cell", "k", "many", "numbers", "rest", "j", "mixed", "twice"]) (ps := ["cell", "k", "many"]) (n := 3) (m := 5) (g := Ks.b__law_numbersC) T.f__law_numbers sc__law_numbers rfl rfl (fun cdv A outer s H E hr => by
    exact (sss_cons (ss_own 3 sc__law_numbers.nd (sf_lst sa_nil)) (sss_cons (ss_if (st_ge (se_name 0) (se_pow se_int se_int)) (sss_cons (ss_set 4 sc__law_numbers.nd (se_name 0)) (sss_cons (ss_for rfl (si_range1 rfl T.n_range (sa_cons (se_name 2) sa_nil)) (stg_name 5 sc__law_numbers.nd) (sss_cons (ss_app 3 (se_mod (se_callT (fun _ _ => call_int1) intS rfl T.n_int (by decide +kernel) (sab_cons (sb_name 4) sab_nil)) se_int)) (sss_one (ss_set 4 sc__law_numbers.nd (se_fdiv (se_name 4) se_int))))) (sss_one (ss_frz 3 (ss_ret (se_name 3)))))) sss_nil) (sss_cons (ss_set 6 sc__law_numbers.nd (se_mod (se_callT (fun _ _ => call_int1) intS rfl T.n_int (by decide +kernel) (sab_cons (sb_of (se_add (sb_of (se_add (sb_of (se_mul (se_name 0) se_int)) (sb_of (se_mul (se_name 1) se_int)))) (sb_of se_int))) sab_nil)) se_int)) (sss_cons (ss_for rfl (si_range1 rfl T.n_range (sa_cons (se_name 2) sa_nil)) (stg_name 5 sc__law_numbers.nd) (sss_cons (ss_set 6 sc__law_numbers.nd (se_mod (se_callT (fun _ _ => call_int1) intS rfl T.n_int (by decide +kernel) (sab_cons (sb_of (se_add (sb_of (se_add (sb_of (se_mul (se_name 6) se_int)) (sb_of (se_mul (se_name 5) se_int)))) (sb_of se_int))) sab_nil)) se_int)) (sss_cons (ss_set 7 sc__law_numbers.nd (se_mod (se_callT (fun _ _ => call_int1) intS rfl T.n_int (by decide +kernel) (sab_cons (sb_of (se_add (sb_of (se_add (sb_of (se_mul (se_name 6) (se_name 6))) (sb_of (se_mul (se_name 1) se_int)))) (sb_name 5))) sab_nil)) se_int)) (sss_one (ss_app 3 (se_mod (se_callT (fun _ _ => call_int1) intS rfl T.n_int (by decide +kernel) (sab_cons (sb_of (se_fdiv (se_name 7) se_int)) sab_nil)) se_int)))))) (sss_one (ss_frz 3 (ss_ret (se_name 3)))))))))

abbrev s__law_ratio : Stmt := top 43
theorem sc__law_ratio : FnScope ["n", "d", "first", "second", "k", "sign"] ["n", "d"] (defScope s__law_ratio) := ⟨rfl, rfl, rfl, by decide +kernel, rfl, by decide +kernel, by decide +kernel⟩
theorem bi__law_ratio (T : Txt K mg) : Binds K (fdOf K ("_law_ratio", none)) ["n", "d"] [] := T.f__law_ratio.bindsN fun _ _ _ _ _ _ us hl => match us, hl with | [_, _], _ => rfl
set_option maxHeartbeats 4100000 in
theorem ok__law_ratio (T : Txt K mg) : FnS P w K mg base 1 (He.ga K "_law_ratio") (fdOf K ("_law_ratio", none)) ["n", "d"] Ks.d__law_ratioC :=
  fns_ok (k := 0) (N := ["n", "d", "first", "second", "k", "sign"]) (ps := ["n", "d"]) (n := 2) (m := 4) (g := Ks.b__law_ratioC) T.f__law_ratio sc__law_ratio rfl rfl (fun cdv A outer s H E hr => by
    exact (sss_cons (ss_set 2 sc__law_ratio.nd (se_callB (fun _ _ => call_abs) absS rfl T.n_abs (by decide +kernel) (sab_cons (sb_name 0) sab_nil))) (sss_cons (ss_set 3 sc__law_ratio.nd (se_callB (fun _ _ => call_abs) absS rfl T.n_abs (by decide +kernel) (sab_cons (sb_name 1) sab_nil))) (sss_cons (ss_for rfl (si_range1 rfl T.n_range (sa_cons se_int sa_nil)) (stg_name 4 sc__law_ratio.nd) (sss_cons (ss_if (st_eq (hu_room hr) (sb_name 3) (sb_of se_int)) (sss_one ss_break) sss_nil) (sss_one (ss_par rfl sc__law_ratio.nd (sa_cons (se_name 3) (sa_cons (se_mod (se_callT (fun _ _ => call_int1) intS rfl T.n_int (by decide +kernel) (sab_cons (sb_name 2) sab_nil)) (se_name 3)) sa_nil)) (hw := fun X' e => by rw [e]; rfl))))) (sss_cons (ss_set 5 sc__law_ratio.nd (se_ix (sb_of (se_lst (sa_cons se_int (sa_cons (se_neg se_int) sa_nil)))) (se_callT (fun _ _ => call_int1) intS rfl T.n_int (by decide +kernel) (sab_cons (sb_of (se_lt (se_name 1) se_int)) sab_nil)))) (sss_one (ss_ret (se_tup (sa_cons (se_fdiv (se_mul (se_name 5) (se_name 0)) (se_name 2)) (sa_cons (se_fdiv (se_mul (se_name 5) (se_name 1)) (se_name 2)) sa_nil))))))))))

abbrev s__law_drawn : Stmt := top 47
theorem sc__law_drawn : FnScope ["number", "most"] ["number", "most"] (defScope s__law_drawn) := ⟨rfl, rfl, rfl, by decide +kernel, rfl, by decide +kernel, by decide +kernel⟩
theorem bi__law_drawn (T : Txt K mg) : Binds K (fdOf K ("_law_drawn", none)) ["number", "most"] [] := T.f__law_drawn.bindsN fun _ _ _ _ _ _ us hl => match us, hl with | [_, _], _ => rfl
set_option maxHeartbeats 4100000 in
theorem ok__law_drawn (T : Txt K mg) : FnS P w K mg base 2 (He.ga K "_law_drawn") (fdOf K ("_law_drawn", none)) ["number", "most"] Ks.d__law_drawnC :=
  fns_ok (k := 1) (N := ["number", "most"]) (ps := ["number", "most"]) (n := 2) (m := 0) (g := Ks.b__law_drawnC) T.f__law_drawn sc__law_drawn rfl rfl (fun cdv A outer s H E hr => by
    exact (sss_one (ss_ret (se_call (ok__law_ratio T) (hr.mono (by decide)) rfl T.g__law_ratio T.f__law_ratio.kp (bi__law_ratio T) (sa_cons (se_mod (se_fdiv (se_callT (fun _ _ => call_int1) intS rfl T.n_int (by decide +kernel) (sab_cons (sb_name 0) sab_nil)) se_int) (se_add (sb_name 1) (sb_of se_int))) (sa_cons (se_add (sb_of se_int) (sb_of (se_mod (se_callT (fun _ _ => call_int1) intS rfl T.n_int (by decide +kernel) (sab_cons (sb_name 0) sab_nil)) se_int))) sa_nil))))))

abbrev s__law_paper : Stmt := top 49
theorem sc__law_paper : FnScope ["numbers", "days", "zero", "share", "drift", "k"] ["numbers"] (defScope s__law_paper) := ⟨rfl, rfl, rfl, by decide +kernel, rfl, by decide +kernel, by decide +kernel⟩
theorem bi__law_paper (T : Txt K mg) : Binds K (fdOf K ("_law_paper", none)) ["numbers"] [] := T.f__law_paper.bindsN fun _ _ _ _ _ _ us hl => match us, hl with | [_], _ => rfl
set_option maxHeartbeats 4100000 in
theorem ok__law_paper (T : Txt K mg) : FnS P w K mg base 3 (He.ga K "_law_paper") (fdOf K ("_law_paper", none)) ["numbers"] Ks.d__law_paperC :=
  fns_ok (k := 2) (N := ["numbers", "days", "zero", "share", "drift", "k"]) (ps := ["numbers"]) (n := 1) (m := 5) (g := Ks.b__law_paperC) T.f__law_paper sc__law_paper rfl rfl (fun cdv A outer s H E hr => by
    exact (sss_cons (ss_set 1 sc__law_paper.nd (se_callB (fun _ _ => cr_sortedI) sortS rfl T.n_sorted (by decide +kernel) (sab_cons (sb_of (se_fr (sf_lc [("k", 5)] rfl sc__law_paper.nd (si_j (si_range1 rfl T.n_range (sa_cons se_int sa_nil))) (blkOk_by (by kernel_rfl)) (fun _ _ _ _ _ => (stg_name 5 sc__law_paper.nd)) (fun _ _ _ _ _ => sts_nil) (fun _ _ _ _ _ => (se_mod (se_callT (fun _ _ => call_int1) intS rfl T.n_int (by decide +kernel) (sab_cons (sb_of (se_ix (sb_name 0) (se_name 5))) sab_nil)) (se_ix (sb_of (se_lst (sa_cons se_int (sa_cons se_int sa_nil)))) (se_mod (se_callT (fun _ _ => call_int1) intS rfl T.n_int (by decide +kernel) (sab_cons (sb_of (se_ix (sb_name 0) se_int)) sab_nil)) se_int))))))) sab_nil))) (sss_cons (ss_set 2 sc__law_paper.nd (se_call (ok__law_drawn T) (hr.mono (by decide)) rfl T.g__law_drawn T.f__law_drawn.kp (bi__law_drawn T) (sa_cons (se_ix (sb_name 0) se_int) (sa_cons se_int sa_nil)))) (sss_cons (ss_set 3 sc__law_paper.nd (se_ix (sb_of (se_lst (sa_cons (se_tup (sa_cons se_int (sa_cons se_int sa_nil))) (sa_cons (se_call (ok__law_ratio T) (hr.mono (by decide)) rfl T.g__law_ratio T.f__law_ratio.kp (bi__law_ratio T) (sa_cons (se_mod (se_callT (fun _ _ => call_int1) intS rfl T.n_int (by decide +kernel) (sab_cons (sb_of (se_ix (sb_name 0) se_int)) sab_nil)) se_int) (sa_cons (se_add (sb_of se_int) (sb_of (se_mod (se_fdiv (se_callT (fun _ _ => call_int1) intS rfl T.n_int (by decide +kernel) (sab_cons (sb_of (se_ix (sb_name 0) se_int)) sab_nil)) se_int) se_int))) sa_nil))) sa_nil)))) (se_mod (se_callT (fun _ _ => call_int1) intS rfl T.n_int (by decide +kernel) (sab_cons (sb_of (se_ix (sb_name 0) se_int)) sab_nil)) se_int))) (sss_cons (ss_set 4 sc__law_paper.nd (se_ix (sb_of (se_lst (sa_cons (se_tup (sa_cons se_int (sa_cons se_int sa_nil))) (sa_cons (se_call (ok__law_ratio T) (hr.mono (by decide)) rfl T.g__law_ratio T.f__law_ratio.kp (bi__law_ratio T) (sa_cons (se_mod (se_callT (fun _ _ => call_int1) intS rfl T.n_int (by decide +kernel) (sab_cons (sb_of (se_ix (sb_name 0) se_int)) sab_nil)) se_int) (sa_cons (se_add (sb_of se_int) (sb_of (se_mod (se_fdiv (se_callT (fun _ _ => call_int1) intS rfl T.n_int (by decide +kernel) (sab_cons (sb_of (se_ix (sb_name 0) se_int)) sab_nil)) se_int) se_int))) sa_nil))) sa_nil)))) (se_mod (se_fdiv (se_callT (fun _ _ => call_int1) intS rfl T.n_int (by decide +kernel) (sab_cons (sb_of (se_ix (sb_name 0) se_int)) sab_nil)) se_int) se_int))) (sss_one (ss_ret (se_tup (sa_cons (se_ix (sb_name 1) se_int) (sa_cons (se_ix (sb_name 1) se_int) (sa_cons (se_name 2) (sa_cons (se_name 3) (sa_cons (se_name 4) (sa_cons (se_ix (sb_name 1) se_int) sa_nil))))))))))))))

abbrev s__law_drawer : Stmt := top 50
theorem sc__law_drawer : FnScope ["numbers", "most", "entries", "k", "row", "until"] ["numbers", "most"] (defScope s__law_drawer) := ⟨rfl, rfl, rfl, by decide +kernel, rfl, by decide +kernel, by decide +kernel⟩
theorem bi__law_drawer (T : Txt K mg) : Binds K (fdOf K ("_law_drawer", none)) ["numbers", "most"] [] := T.f__law_drawer.bindsN fun _ _ _ _ _ _ us hl => match us, hl with | [_, _], _ => rfl
set_option maxHeartbeats 4100000 in
theorem ok__law_drawer (T : Txt K mg) : FnS P w K mg base 4 (He.ga K "_law_drawer") (fdOf K ("_law_drawer", none)) ["numbers", "most"] Ks.d__law_drawerC :=
  fns_ok (k := 3) (N := ["numbers", "most", "entries", "k", "row", "until"]) (ps := ["numbers", "most"]) (n := 2) (m := 4) (g := Ks.b__law_drawerC) T.f__law_drawer sc__law_drawer rfl rfl (fun cdv A outer s H E hr => by
    exact (sss_cons (ss_own 2 sc__law_drawer.nd (sf_lst sa_nil)) (sss_cons (ss_for rfl (si_range1 rfl T.n_range (sa_cons (se_mod (se_callT (fun _ _ => call_int1) intS rfl T.n_int (by decide +kernel) (sab_cons (sb_of (se_ix (sb_name 0) se_int)) sab_nil)) (se_add (sb_name 1) (sb_of se_int))) sa_nil)) (stg_name 3 sc__law_drawer.nd) (sss_cons (ss_set 4 sc__law_drawer.nd (se_sl (sb_name 0) (sp_so (se_add (sb_of se_int) (sb_of (se_mul se_int (se_name 3))))) (sp_so (se_add (sb_of se_int) (sb_of (se_mul se_int (se_name 3))))))) (sss_cons (ss_set 5 sc__law_drawer.nd se_non) (sss_cons (ss_if (st_eq (hu_room hr) (sb_of (se_mod (se_callT (fun _ _ => call_int1) intS rfl T.n_int (by decide +kernel) (sab_cons (sb_of (se_ix (sb_name 4) se_int)) sab_nil)) se_int)) (sb_of se_int)) (sss_one (ss_set 5 sc__law_drawer.nd (se_mod (se_callT (fun _ _ => call_int1) intS rfl T.n_int (by decide +kernel) (sab_cons (sb_of (se_ix (sb_name 4) se_int)) sab_nil)) (se_ix (sb_of (se_lst (sa_cons se_int (sa_cons se_int sa_nil)))) (se_mod (se_fdiv (se_callT (fun _ _ => call_int1) intS rfl T.n_int (by decide +kernel) (sab_cons (sb_of (se_ix (sb_name 4) se_int)) sab_nil)) se_int) se_int))))) sss_nil) (sss_one (ss_app 2 (se_tup (sa_cons (se_ix (sb_of (se_lst (sa_cons se_str (sa_cons se_str (sa_cons se_str sa_nil))))) (se_mod (se_fdiv (se_callT (fun _ _ => call_int1) intS rfl T.n_int (by decide +kernel) (sab_cons (sb_of (se_ix (sb_name 4) se_int)) sab_nil)) se_int) se_int)) (sa_cons (se_call (ok__law_paper T) (hr.mono (by decide)) rfl T.g__law_paper T.f__law_paper.kp (bi__law_paper T) (sa_cons (se_name 4) sa_nil)) (sa_cons (se_name 5) sa_nil)))))))))) (sss_one (ss_ret (se_callT (fun _ _ => call_tuple_of) tupleS rfl T.n_tuple (by decide +kernel) (sab_cons (sb_name 2) sab_nil)))))))

abbrev s__law_day : Stmt := top 53
theorem sc__law_day : FnScope ["numbers", "drawer", "name", "paper", "until", "menu", "day"] ["numbers", "drawer"] (defScope s__law_day) := ⟨rfl, rfl, rfl, by decide +kernel, rfl, by decide +kernel, by decide +kernel⟩
theorem bi__law_day (T : Txt K mg) : Binds K (fdOf K ("_law_day", none)) ["numbers", "drawer"] [] := T.f__law_day.bindsN fun _ _ _ _ _ _ us hl => match us, hl with | [_, _], _ => rfl
set_option maxHeartbeats 4100000 in
theorem ok__law_day (T : Txt K mg) : FnS P w K mg base 1 (He.ga K "_law_day") (fdOf K ("_law_day", none)) ["numbers", "drawer"] Ks.d__law_dayC :=
  fns_ok (k := 0) (N := ["numbers", "drawer", "name", "paper", "until", "menu", "day"]) (ps := ["numbers", "drawer"]) (n := 2) (m := 5) (g := Ks.b__law_dayC) T.f__law_day sc__law_day rfl rfl (fun cdv A outer s H E hr => by
    exact (sss_cons (ss_if (ST_of_SW (sw_and (st_gt (se_callB (fun _ _ => call_len) lenS rfl T.n_len PySem.boot_len (sab_cons (sb_name 1) sab_nil)) se_int) (sw_and1 (st_gt (se_mod (se_callT (fun _ _ => call_int1) intS rfl T.n_int (by decide +kernel) (sab_cons (sb_of (se_ix (sb_name 0) se_int)) sab_nil)) se_int) se_int)))) (sss_cons (ss_tg (se_ix (sb_name 1) (se_mod (se_callT (fun _ _ => call_int1) intS rfl T.n_int (by decide +kernel) (sab_cons (sb_of (se_ix (sb_name 0) se_int)) sab_nil)) (se_callB (fun _ _ => call_len) lenS rfl T.n_len PySem.boot_len (sab_cons (sb_name 1) sab_nil)))) (stg_tup rfl (stgs_cons (stg_name 2 sc__law_day.nd) (stgs_cons (stg_name 3 sc__law_day.nd) (stgs_cons (stg_name 4 sc__law_day.nd) stgs_nil))))) (sss_cons (ss_set 5 sc__law_day.nd (se_lst (sa_cons (se_ix (sb_name 3) se_int) (sa_cons (se_ix (sb_name 3) se_int) (sa_cons (se_add (sb_of (se_ix (sb_name 3) se_int)) (sb_of (se_mod (se_callT (fun _ _ => call_int1) intS rfl T.n_int (by decide +kernel) (sab_cons (sb_of (se_ix (sb_name 0) se_int)) sab_nil)) (se_add (sb_of (se_sub (se_ix (sb_name 3) se_int) (se_ix (sb_name 3) se_int))) (sb_of se_int))))) (sa_cons (se_name 4) sa_nil)))))) (sss_cons (ss_set 6 sc__law_day.nd (se_ix (sb_name 5) (se_mod (se_callT (fun _ _ => call_int1) intS rfl T.n_int (by decide +kernel) (sab_cons (sb_of (se_ix (sb_name 0) se_int)) sab_nil)) se_int))) (sss_one (ss_if (st_isnt (sb_name 6) (sb_of se_non)) (sss_one (ss_ret (se_tup (sa_cons (se_name 2) (sa_cons (se_callB (fun pn xe => call_max2 (X := Cx.tr _ pn xe) rfl) maxS rfl T.n_max (by decide +kernel) (sab_cons (sb_of se_int) (sab_cons (sb_of (se_callB (fun pn xe => call_min2 (X := Cx.tr _ pn xe) rfl) minS rfl T.n_min (by decide +kernel) (sab_cons (sb_of se_int) (sab_cons (sb_of (se_add (sb_name 6) (sb_of (se_ix (sb_of (se_lst (sa_cons se_int (sa_cons se_int (sa_cons se_int (sa_cons se_int (sa_cons (se_neg se_int) sa_nil))))))) (se_mod (se_callT (fun _ _ => call_int1) intS rfl T.n_int (by decide +kernel) (sab_cons (sb_of (se_ix (sb_name 0) se_int)) sab_nil)) se_int))))) sab_nil)))) sab_nil))) sa_nil))))) sss_nil))))) sss_nil) (sss_one (ss_ret (se_tup (sa_cons (se_ix (sb_of (se_lst (sa_cons se_str (sa_cons se_str (sa_cons se_str (sa_cons se_str sa_nil)))))) (se_mod (se_callT (fun _ _ => call_int1) intS rfl T.n_int (by decide +kernel) (sab_cons (sb_of (se_ix (sb_name 0) se_int)) sab_nil)) se_int)) (sa_cons (se_mod (se_callT (fun _ _ => call_int1) intS rfl T.n_int (by decide +kernel) (sab_cons (sb_of (se_ix (sb_name 0) se_int)) sab_nil)) se_int) sa_nil)))))))

abbrev s__law_places : Stmt := top 61
theorem sc__law_places : FnScope ["numbers", "width", "places", "k", "place"] ["numbers", "width"] (defScope s__law_places) := ⟨rfl, rfl, rfl, by decide +kernel, rfl, by decide +kernel, by decide +kernel⟩
theorem bi__law_places (T : Txt K mg) : Binds K (fdOf K ("_law_places", none)) ["numbers", "width"] [] := T.f__law_places.bindsN fun _ _ _ _ _ _ us hl => match us, hl with | [_, _], _ => rfl
set_option maxHeartbeats 4100000 in
theorem ok__law_places (T : Txt K mg) : FnS P w K mg base 1 (He.ga K "_law_places") (fdOf K ("_law_places", none)) ["numbers", "width"] d__law_places :=
  fns_ok (k := 0) (N := ["numbers", "width", "places", "k", "place"]) (ps := ["numbers", "width"]) (n := 2) (m := 3) (g := b__law_places) T.f__law_places sc__law_places rfl rfl (fun cdv A outer s H E hr => by
    exact (sss_cons (ss_own 2 sc__law_places.nd (sf_lst sa_nil)) (sss_cons (ss_for rfl (si_range1 rfl T.n_range (sa_cons (se_add (sb_of se_int) (sb_of (se_mod (se_callT (fun _ _ => call_int1) intS rfl T.n_int (by decide +kernel) (sab_cons (sb_of (se_ix (sb_name 0) se_int)) sab_nil)) (se_callB (fun pn xe => call_min2 (X := Cx.tr _ pn xe) rfl) minS rfl T.n_min (by decide +kernel) (sab_cons (sb_of se_int) (sab_cons (sb_name 1) sab_nil)))))) sa_nil)) (stg_name 3 sc__law_places.nd) (sss_cons (ss_set 4 sc__law_places.nd (se_mod (se_callT (fun _ _ => call_int1) intS rfl T.n_int (by decide +kernel) (sab_cons (sb_of (se_ix (sb_name 0) (se_add (sb_of se_int) (sb_name 3)))) sab_nil)) (se_name 1))) (sss_one (ss_if (st_nin (hu5_room hr) (sb_name 4) (sb_name 2)) (sss_one (ss_app 2 (se_name 4))) sss_nil)))) (sss_one (ss_frz 2 (ss_ret (se_name 2)))))))

abbrev s_is_scale : Stmt := top 22
theorem sc_is_scale : FnScope ["text", "sign"] ["text"] (defScope s_is_scale) := ⟨rfl, rfl, rfl, by decide +kernel, rfl, by decide +kernel, by decide +kernel⟩
theorem bi_is_scale (T : Txt K mg) : Binds K (fdOf K ("is_scale", none)) ["text"] [] := T.f_is_scale.bindsN fun _ _ _ _ _ _ us hl => match us, hl with | [_], _ => rfl
set_option maxHeartbeats 4100000 in
theorem ok_is_scale (T : Txt K mg) : FnS P w K mg base 1 (He.ga K "is_scale") (fdOf K ("is_scale", none)) ["text"] Ks.d_is_scale :=
  fns_ok (k := 0) (N := ["text", "sign"]) (ps := ["text"]) (n := 1) (m := 1) (g := Ks.b_is_scale) T.f_is_scale sc_is_scale rfl rfl (fun cdv A outer s H E hr => by
    exact (sss_one (ss_ret (se_and (se_chain (fun _ _ => op_le) (fun _ _ => op_le) leS leS se_int (se_callB (fun _ _ => call_len) lenS rfl T.n_len PySem.boot_len (sab_cons (sb_name 0) sab_nil)) (T.c_MAX_NAME.se rfl rfl) (by with_unfolding_all rfl)) (se_one (se_callB (fun pn xe => cr_all (X := Cx.tr _ pn xe) rfl) allS rfl T.n_all (by decide +kernel) (sab_cons (sb_of (se_fr (sf_lc [("sign", 1)] rfl sc_is_scale.nd (sj_seq (sb_name 0)) (blkOk_by (by kernel_rfl)) (fun _ _ _ _ _ => (stg_name 1 sc_is_scale.nd)) (fun _ _ _ _ _ => sts_nil) (fun _ _ _ _ _ => (se_in (hu5_room hr) (sb_name 1) (sb_of (T.c_LETTERS.se rfl rfl))))))) sab_nil)))))))

abbrev s_check_scale : Stmt := top 25
theorem sc_check_scale : FnScope ["text"] ["text"] (defScope s_check_scale) := ⟨rfl, rfl, rfl, by decide +kernel, rfl, by decide +kernel, by decide +kernel⟩
theorem bi_check_scale (T : Txt K mg) : Binds K (fdOf K ("check_scale", none)) ["text"] [] := T.f_check_scale.bindsN fun _ _ _ _ _ _ us hl => match us, hl with | [_], _ => rfl
set_option maxHeartbeats 4100000 in
theorem ok_check_scale (T : Txt K mg) : FnS P w K mg base 2 (He.ga K "check_scale") (fdOf K ("check_scale", none)) ["text"] Ks.d_check_scale :=
  fns_ok (k := 1) (N := ["text"]) (ps := ["text"]) (n := 1) (m := 0) (g := Ks.b_check_scale) T.f_check_scale sc_check_scale rfl rfl (fun cdv A outer s H E hr => by
    exact (sss_one (ss_if (st_not (st_tru (sb_of (se_call (ok_is_scale T) (hr.mono (by decide)) rfl T.g_is_scale T.f_is_scale.kp (bi_is_scale T) (sa_cons (se_name 0) sa_nil))))) (sss_one (ss_raise T.e_NotAllowed rfl rfl)) sss_nil)))

abbrev s_is_day : Stmt := top 23
theorem sc_is_day : FnScope ["day"] ["day"] (defScope s_is_day) := ⟨rfl, rfl, rfl, by decide +kernel, rfl, by decide +kernel, by decide +kernel⟩
theorem bi_is_day (T : Txt K mg) : Binds K (fdOf K ("is_day", none)) ["day"] [] := T.f_is_day.bindsN fun _ _ _ _ _ _ us hl => match us, hl with | [_], _ => rfl
set_option maxHeartbeats 4100000 in
theorem ok_is_day (T : Txt K mg) : FnS P w K mg base 1 (He.ga K "is_day") (fdOf K ("is_day", none)) ["day"] Ks.d_is_day :=
  fns_ok (k := 0) (N := ["day"]) (ps := ["day"]) (n := 1) (m := 0) (g := Ks.b_is_day) T.f_is_day sc_is_day rfl rfl (fun cdv A outer s H E hr => by
    exact (sss_one (ss_ret (se_chain (fun _ _ => op_le) (fun _ _ => op_le) leS leS se_int (se_name 0) (T.c_MAX_DAY.se rfl rfl) (by with_unfolding_all rfl)))))

abbrev s_check_day : Stmt := top 26
theorem sc_check_day : FnScope ["day"] ["day"] (defScope s_check_day) := ⟨rfl, rfl, rfl, by decide +kernel, rfl, by decide +kernel, by decide +kernel⟩
theorem bi_check_day (T : Txt K mg) : Binds K (fdOf K ("check_day", none)) ["day"] [] := T.f_check_day.bindsN fun _ _ _ _ _ _ us hl => match us, hl with | [_], _ => rfl
set_option maxHeartbeats 4100000 in
theorem ok_check_day (T : Txt K mg) : FnS P w K mg base 2 (He.ga K "check_day") (fdOf K ("check_day", none)) ["day"] Ks.d_check_day :=
  fns_ok (k := 1) (N := ["day"]) (ps := ["day"]) (n := 1) (m := 0) (g := Ks.b_check_day) T.f_check_day sc_check_day rfl rfl (fun cdv A outer s H E hr => by
    exact (sss_one (ss_if (st_not (st_tru (sb_of (se_call (ok_is_day T) (hr.mono (by decide)) rfl T.g_is_day T.f_is_day.kp (bi_is_day T) (sa_cons (se_name 0) sa_nil))))) (sss_one (ss_raise T.e_NotAllowed rfl rfl)) sss_nil)))

abbrev s_is_counting : Stmt := top 27
theorem sc_is_counting : FnScope ["entry", "scale", "day", "name", "paper", "until"] ["entry", "scale", "day"] (defScope s_is_counting) := ⟨rfl, rfl, rfl, by decide +kernel, rfl, by decide +kernel, by decide +kernel⟩
theorem bi_is_counting (T : Txt K mg) : Binds K (fdOf K ("is_counting", none)) ["entry", "scale", "day"] [] := T.f_is_counting.bindsN fun _ _ _ _ _ _ us hl => match us, hl with | [_, _, _], _ => rfl
set_option maxHeartbeats 4100000 in
theorem ok_is_counting (T : Txt K mg) : FnS P w K mg base 1 (He.ga K "is_counting") (fdOf K ("is_counting", none)) ["entry", "scale", "day"] Ks.d_is_counting :=
  fns_ok (k := 0) (N := ["entry", "scale", "day", "name", "paper", "until"]) (ps := ["entry", "scale", "day"]) (n := 3) (m := 3) (g := Ks.b_is_counting) T.f_is_counting sc_is_counting rfl rfl (fun cdv A outer s H E hr => by
    exact (sss_cons (ss_tg (se_name 0) (stg_tup rfl (stgs_cons (stg_name 3 sc_is_counting.nd) (stgs_cons (stg_name 4 sc_is_counting.nd) (stgs_cons (stg_name 5 sc_is_counting.nd) stgs_nil))))) (sss_one (ss_ret (se_and (se_eq (hu_room hr) (sb_name 3) (sb_name 1)) (se_and (se_chain (fun _ _ => op_le) (fun _ _ => op_le) leS leS (se_ix (sb_name 4) se_int) (se_name 2) (se_ix (sb_name 4) se_int) (by with_unfolding_all rfl)) (se_one (se_or (se_is (sb_name 5) (sb_of se_non)) (se_one (se_lt (se_name 2) (se_name 5)))))))))))

abbrev s_counting : Stmt := top 28
theorem sc_counting : FnScope ["drawer", "scale", "day", "index", "entry"] ["drawer", "scale", "day"] (defScope s_counting) := ⟨rfl, rfl, rfl, by decide +kernel, rfl, by decide +kernel, by decide +kernel⟩
theorem bi_counting (T : Txt K mg) : Binds K (fdOf K ("counting", none)) ["drawer", "scale", "day"] [] := T.f_counting.bindsN fun _ _ _ _ _ _ us hl => match us, hl with | [_, _, _], _ => rfl
set_option maxHeartbeats 4100000 in
theorem ok_counting (T : Txt K mg) : FnS P w K mg base 3 (He.ga K "counting") (fdOf K ("counting", none)) ["drawer", "scale", "day"] Ks.d_counting :=
  fns_ok (k := 2) (N := ["drawer", "scale", "day", "index", "entry"]) (ps := ["drawer", "scale", "day"]) (n := 3) (m := 2) (g := Ks.b_counting) T.f_counting sc_counting rfl rfl (fun cdv A outer s H E hr => by
    exact (sss_cons (ss_expr (se_call (ok_check_scale T) (hr.mono (by decide)) rfl T.g_check_scale T.f_check_scale.kp (bi_check_scale T) (sa_cons (se_name 1) sa_nil))) (sss_cons (ss_expr (se_call (ok_check_day T) (hr.mono (by decide)) rfl T.g_check_day T.f_check_day.kp (bi_check_day T) (sa_cons (se_name 2) sa_nil))) (sss_one (ss_ret (se_fr (sf_lc [("index", 3), ("entry", 4)] rfl sc_counting.nd (sj_enum rfl T.n_enumerate (sab_cons (sb_name 0) sab_nil)) (blkOk_by (by kernel_rfl)) (fun _ _ _ _ _ => (stg_tup rfl (stgs_cons (stg_name 3 sc_counting.nd) (stgs_cons (stg_name 4 sc_counting.nd) stgs_nil)))) (fun _ _ _ _ _ => (sts_one (st_tru (sb_of (se_call (ok_is_counting T) (hr.mono (by decide)) rfl T.g_is_counting T.f_is_counting.kp (bi_is_counting T) (sa_cons (se_name 4) (sa_cons (se_name 1) (sa_cons (se_name 2) sa_nil)))))))) (fun _ _ _ _ _ => (se_name 3)))))))))

abbrev s_common : Stmt := top 6
theorem sc_common : FnScope ["first", "second"] ["first", "second"] (defScope s_common) := ⟨rfl, rfl, rfl, by decide +kernel, rfl, by decide +kernel, by decide +kernel⟩
theorem bi_common (T : Txt K mg) : Binds K (fdOf K ("common", none)) ["first", "second"] [] := T.f_common.bindsN fun _ _ _ _ _ _ us hl => match us, hl with | [_, _], _ => rfl
set_option maxHeartbeats 4100000 in
theorem ok_common (T : Txt K mg) : FnS P w K mg base 1 (He.ga K "common") (fdOf K ("common", none)) ["first", "second"] Ks.d_common :=
  fns_ok (k := 0) (N := ["first", "second"]) (ps := ["first", "second"]) (n := 2) (m := 0) (g := Ks.b_common) T.f_common sc_common rfl rfl (fun cdv A outer s H E hr => by
    exact (sss_cons (ss_set 0 sc_common.nd (se_callB (fun _ _ => call_abs) absS rfl T.n_abs (by decide +kernel) (sab_cons (sb_name 0) sab_nil))) (sss_cons (ss_set 1 sc_common.nd (se_callB (fun _ _ => call_abs) absS rfl T.n_abs (by decide +kernel) (sab_cons (sb_name 1) sab_nil))) (sss_cons (ss_while (st_ne (hu_room hr) (sb_name 1) (sb_of se_int)) (sss_one (ss_par rfl sc_common.nd (sa_cons (se_name 1) (sa_cons (se_mod (se_name 0) (se_name 1)) sa_nil)) (hw := fun X' e => by rw [e]; rfl)))) (sss_one (ss_ret (se_name 0)))))))

abbrev s_ratio : Stmt := top 7
theorem sc_ratio : FnScope ["n", "d", "divisor"] ["n", "d"] (defScope s_ratio) := ⟨rfl, rfl, rfl, by decide +kernel, rfl, by decide +kernel, by decide +kernel⟩
theorem bi_ratio (T : Txt K mg) : Binds K (fdOf K ("ratio", none)) ["n", "d"] [] := T.f_ratio.bindsN fun _ _ _ _ _ _ us hl => match us, hl with | [_, _], _ => rfl
set_option maxHeartbeats 4100000 in
theorem ok_ratio (T : Txt K mg) : FnS P w K mg base 2 (He.ga K "ratio") (fdOf K ("ratio", none)) ["n", "d"] Ks.d_ratio :=
  fns_ok (k := 1) (N := ["n", "d", "divisor"]) (ps := ["n", "d"]) (n := 2) (m := 1) (g := Ks.b_ratio) T.f_ratio sc_ratio rfl rfl (fun cdv A outer s H E hr => by
    exact (sss_cons (ss_if (st_eq (hu_room hr) (sb_name 1) (sb_of se_int)) (sss_one (ss_raise T.e_NotAllowed rfl rfl)) sss_nil) (sss_cons (ss_if (st_lt (se_name 1) se_int) (sss_cons (ss_set 0 sc_ratio.nd (se_neg (se_name 0))) (sss_one (ss_set 1 sc_ratio.nd (se_neg (se_name 1))))) sss_nil) (sss_cons (ss_set 2 sc_ratio.nd (se_call (ok_common T) (hr.mono (by decide)) rfl T.g_common T.f_common.kp (bi_common T) (sa_cons (se_name 0) (sa_cons (se_name 1) sa_nil)))) (sss_one (ss_ret (se_tup (sa_cons (se_fdiv (se_name 0) (se_name 2)) (sa_cons (se_fdiv (se_name 1) (se_name 2)) sa_nil)))))))))

abbrev s_plus : Stmt := top 10
theorem sc_plus : FnScope ["first", "second"] ["first", "second"] (defScope s_plus) := ⟨rfl, rfl, rfl, by decide +kernel, rfl, by decide +kernel, by decide +kernel⟩
theorem bi_plus (T : Txt K mg) : Binds K (fdOf K ("plus", none)) ["first", "second"] [] := T.f_plus.bindsN fun _ _ _ _ _ _ us hl => match us, hl with | [_, _], _ => rfl
set_option maxHeartbeats 4100000 in
theorem ok_plus (T : Txt K mg) : FnS P w K mg base 3 (He.ga K "plus") (fdOf K ("plus", none)) ["first", "second"] Ks.d_plus :=
  fns_ok (k := 2) (N := ["first", "second"]) (ps := ["first", "second"]) (n := 2) (m := 0) (g := Ks.b_plus) T.f_plus sc_plus rfl rfl (fun cdv A outer s H E hr => by
    exact (sss_one (ss_ret (se_call (ok_ratio T) (hr.mono (by decide)) rfl T.g_ratio T.f_ratio.kp (bi_ratio T) (sa_cons (se_add (sb_of (se_mul (se_ix (sb_name 0) se_int) (se_ix (sb_name 1) se_int))) (sb_of (se_mul (se_ix (sb_name 1) se_int) (se_ix (sb_name 0) se_int)))) (sa_cons (se_mul (se_ix (sb_name 0) se_int) (se_ix (sb_name 1) se_int)) sa_nil))))))

abbrev s_times : Stmt := top 13
theorem sc_times : FnScope ["first", "second"] ["first", "second"] (defScope s_times) := ⟨rfl, rfl, rfl, by decide +kernel, rfl, by decide +kernel, by decide +kernel⟩
theorem bi_times (T : Txt K mg) : Binds K (fdOf K ("times", none)) ["first", "second"] [] := T.f_times.bindsN fun _ _ _ _ _ _ us hl => match us, hl with | [_, _], _ => rfl
set_option maxHeartbeats 4100000 in
theorem ok_times (T : Txt K mg) : FnS P w K mg base 3 (He.ga K "times") (fdOf K ("times", none)) ["first", "second"] Ks.d_times :=
  fns_ok (k := 2) (N := ["first", "second"]) (ps := ["first", "second"]) (n := 2) (m := 0) (g := Ks.b_times) T.f_times sc_times rfl rfl (fun cdv A outer s H E hr => by
    exact (sss_one (ss_ret (se_call (ok_ratio T) (hr.mono (by decide)) rfl T.g_ratio T.f_ratio.kp (bi_ratio T) (sa_cons (se_mul (se_ix (sb_name 0) se_int) (se_ix (sb_name 1) se_int)) (sa_cons (se_mul (se_ix (sb_name 0) se_int) (se_ix (sb_name 1) se_int)) sa_nil))))))

abbrev s_of_int : Stmt := top 9
theorem sc_of_int : FnScope ["n"] ["n"] (defScope s_of_int) := ⟨rfl, rfl, rfl, by decide +kernel, rfl, by decide +kernel, by decide +kernel⟩
theorem bi_of_int (T : Txt K mg) : Binds K (fdOf K ("of_int", none)) ["n"] [] := T.f_of_int.bindsN fun _ _ _ _ _ _ us hl => match us, hl with | [_], _ => rfl
set_option maxHeartbeats 4100000 in
theorem ok_of_int (T : Txt K mg) : FnS P w K mg base 1 (He.ga K "of_int") (fdOf K ("of_int", none)) ["n"] Ks.d_of_int :=
  fns_ok (k := 0) (N := ["n"]) (ps := ["n"]) (n := 1) (m := 0) (g := Ks.b_of_int) T.f_of_int sc_of_int rfl rfl (fun cdv A outer s H E hr => by
    exact (sss_one (ss_ret (se_tup (sa_cons (se_name 0) (sa_cons se_int sa_nil))))))

abbrev s_limits : Stmt := top 34
theorem sc_limits : FnScope ["drawer", "scale", "day", "found", "index", "_", "zero", "share", "drift", "checked"] ["drawer", "scale", "day"] (defScope s_limits) := ⟨rfl, rfl, rfl, by decide +kernel, rfl, by decide +kernel, by decide +kernel⟩
theorem bi_limits (T : Txt K mg) : Binds K (fdOf K ("limits", none)) ["drawer", "scale", "day"] [] := T.f_limits.bindsN fun _ _ _ _ _ _ us hl => match us, hl with | [_, _, _], _ => rfl
set_option maxHeartbeats 4100000 in
theorem ok_limits (T : Txt K mg) : FnS P w K mg base 4 (He.ga K "limits") (fdOf K ("limits", none)) ["drawer", "scale", "day"] Ks.d_limits :=
  fns_ok (k := 3) (N := ["drawer", "scale", "day", "found", "index", "_", "zero", "share", "drift", "checked"]) (ps := ["drawer", "scale", "day"]) (n := 3) (m := 7) (g := Ks.b_limits) T.f_limits sc_limits rfl rfl (fun cdv A outer s H E hr => by
    exact (sss_cons (ss_own 3 sc_limits.nd (sf_lst sa_nil)) (sss_cons (ss_for rfl (si_seq (se_call (ok_counting T) (hr.mono (by decide)) rfl T.g_counting T.f_counting.kp (bi_counting T) (sa_cons (se_name 0) (sa_cons (se_name 1) (sa_cons (se_name 2) sa_nil))))) (stg_name 4 sc_limits.nd) (sss_cons (ss_tg (se_ix (sb_of (se_ix (sb_name 0) (se_name 4))) se_int) (stg_tup rfl (stgs_cons (stg_name 5 sc_limits.nd) (stgs_cons (stg_name 5 sc_limits.nd) (stgs_cons (stg_name 6 sc_limits.nd) (stgs_cons (stg_name 7 sc_limits.nd) (stgs_cons (stg_name 8 sc_limits.nd) (stgs_cons (stg_name 9 sc_limits.nd) stgs_nil)))))))) (sss_one (ss_app 3 (se_tup (sa_cons (se_call (ok_plus T) (hr.mono (by decide)) rfl T.g_plus T.f_plus.kp (bi_plus T) (sa_cons (se_name 6) (sa_cons (se_call (ok_times T) (hr.mono (by decide)) rfl T.g_times T.f_times.kp (bi_times T) (sa_cons (se_name 8) (sa_cons (se_call (ok_of_int T) (hr.mono (by decide)) rfl T.g_of_int T.f_of_int.kp (bi_of_int T) (sa_cons (se_sub (se_name 2) (se_name 9)) sa_nil)) sa_nil))) sa_nil))) (sa_cons (se_name 7) sa_nil))))))) (sss_one (ss_frz 3 (ss_ret (se_name 3)))))))

abbrev s_negated : Stmt := top 11
theorem sc_negated : FnScope ["first"] ["first"] (defScope s_negated) := ⟨rfl, rfl, rfl, by decide +kernel, rfl, by decide +kernel, by decide +kernel⟩
theorem bi_negated (T : Txt K mg) : Binds K (fdOf K ("negated", none)) ["first"] [] := T.f_negated.bindsN fun _ _ _ _ _ _ us hl => match us, hl with | [_], _ => rfl
set_option maxHeartbeats 4100000 in
theorem ok_negated (T : Txt K mg) : FnS P w K mg base 1 (He.ga K "negated") (fdOf K ("negated", none)) ["first"] Ks.d_negated :=
  fns_ok (k := 0) (N := ["first"]) (ps := ["first"]) (n := 1) (m := 0) (g := Ks.b_negated) T.f_negated sc_negated rfl rfl (fun cdv A outer s H E hr => by
    exact (sss_one (ss_ret (se_tup (sa_cons (se_neg (se_ix (sb_name 0) se_int)) (sa_cons (se_ix (sb_name 0) se_int) sa_nil))))))

abbrev s_minus : Stmt := top 12
theorem sc_minus : FnScope ["first", "second"] ["first", "second"] (defScope s_minus) := ⟨rfl, rfl, rfl, by decide +kernel, rfl, by decide +kernel, by decide +kernel⟩
theorem bi_minus (T : Txt K mg) : Binds K (fdOf K ("minus", none)) ["first", "second"] [] := T.f_minus.bindsN fun _ _ _ _ _ _ us hl => match us, hl with | [_, _], _ => rfl
set_option maxHeartbeats 4100000 in
theorem ok_minus (T : Txt K mg) : FnS P w K mg base 4 (He.ga K "minus") (fdOf K ("minus", none)) ["first", "second"] Ks.d_minus :=
  fns_ok (k := 3) (N := ["first", "second"]) (ps := ["first", "second"]) (n := 2) (m := 0) (g := Ks.b_minus) T.f_minus sc_minus rfl rfl (fun cdv A outer s H E hr => by
    exact (sss_one (ss_ret (se_call (ok_plus T) (hr.mono (by decide)) rfl T.g_plus T.f_plus.kp (bi_plus T) (sa_cons (se_name 0) (sa_cons (se_call (ok_negated T) (hr.mono (by decide)) rfl T.g_negated T.f_negated.kp (bi_negated T) (sa_cons (se_name 1) sa_nil)) sa_nil))))))

abbrev s_weighing_conditions : Stmt := top 39
theorem sc_weighing_conditions : FnScope ["drawer", "weighing", "places", "width", "scale", "day", "_", "reading", "found", "slack", "share", "upper", "lower", "factor", "bound", "row", "place"] ["drawer", "weighing", "places", "width"] (defScope s_weighing_conditions) := ⟨rfl, rfl, rfl, by decide +kernel, rfl, by decide +kernel, by decide +kernel⟩
theorem bi_weighing_conditions (T : Txt K mg) : Binds K (fdOf K ("weighing_conditions", none)) ["drawer", "weighing", "places", "width"] [] := T.f_weighing_conditions.bindsN fun _ _ _ _ _ _ us hl => match us, hl with | [_, _, _, _], _ => rfl
set_option maxHeartbeats 4100000 in
theorem ok_weighing_conditions (T : Txt K mg) : FnS P w K mg base 5 (He.ga K "weighing_conditions") (fdOf K ("weighing_conditions", none)) ["drawer", "weighing", "places", "width"] d_weighing_conditions :=
  fns_ok (k := 4) (N := ["drawer", "weighing", "places", "width", "scale", "day", "_", "reading", "found", "slack", "share", "upper", "lower", "factor", "bound", "row", "place"]) (ps := ["drawer", "weighing", "places", "width"]) (n := 4) (m := 13) (g := b_weighing_conditions) T.f_weighing_conditions sc_weighing_conditions rfl rfl (fun cdv A outer s H E hr => by
    exact (sss_cons (ss_if (ST_of_SW (sw_or (st_not (st_tru (sb_of (se_callB (fun pn xe => cr_all (X := Cx.tr _ pn xe) rfl) allS rfl T.n_all (by decide +kernel) (sab_cons (sb_of (se_fr (sf_lc [("place", 16)] rfl sc_weighing_conditions.nd (sj_seq (sb_name 2)) (blkOk_by (by kernel_rfl)) (fun _ _ _ _ _ => (stg_name 16 sc_weighing_conditions.nd)) (fun _ _ _ _ _ => sts_nil) (fun _ _ _ _ _ => (se_chain (fun _ _ => op_le) (fun _ _ => op_lt) leS ltS se_int (se_name 16) (se_name 3) (by with_unfolding_all rfl)))))) sab_nil))))) (sw_or1 (st_lt (se_lenSet (sb_name 2) rfl T.n_len rfl T.n_set) (se_callB (fun _ _ => call_len) lenS rfl T.n_len PySem.boot_len (sab_cons (sb_name 2) sab_nil)))))) (sss_one (ss_raise T.e_NotAllowed rfl rfl)) sss_nil) (sss_cons (ss_tg (se_name 1) (stg_tup rfl (stgs_cons (stg_name 4 sc_weighing_conditions.nd) (stgs_cons (stg_name 5 sc_weighing_conditions.nd) (stgs_cons (stg_name 6 sc_weighing_conditions.nd) (stgs_cons (stg_name 7 sc_weighing_conditions.nd) stgs_nil)))))) (sss_cons (ss_own 8 sc_weighing_conditions.nd (sf_lst sa_nil)) (sss_cons (ss_for rfl (si_seq (se_call (ok_limits T) (hr.mono (by decide)) rfl T.g_limits T.f_limits.kp (bi_limits T) (sa_cons (se_name 0) (sa_cons (se_name 4) (sa_cons (se_name 5) sa_nil))))) (stg_tup rfl (stgs_cons (stg_name 9 sc_weighing_conditions.nd) (stgs_cons (stg_name 10 sc_weighing_conditions.nd) stgs_nil))) (sss_cons (ss_set 11 sc_weighing_conditions.nd (se_tup (sa_cons (se_call (ok_minus T) (hr.mono (by decide)) rfl T.g_minus T.f_minus.kp (bi_minus T) (sa_cons (T.c_ONE.se rfl rfl) (sa_cons (se_name 10) sa_nil))) (sa_cons (se_call (ok_plus T) (hr.mono (by decide)) rfl T.g_plus T.f_plus.kp (bi_plus T) (sa_cons (se_name 7) (sa_cons (se_name 9) sa_nil))) sa_nil)))) (sss_cons (ss_set 12 sc_weighing_conditions.nd (se_tup (sa_cons (se_call (ok_negated T) (hr.mono (by decide)) rfl T.g_negated T.f_negated.kp (bi_negated T) (sa_cons (se_call (ok_plus T) (hr.mono (by decide)) rfl T.g_plus T.f_plus.kp (bi_plus T) (sa_cons (T.c_ONE.se rfl rfl) (sa_cons (se_name 10) sa_nil))) sa_nil)) (sa_cons (se_call (ok_minus T) (hr.mono (by decide)) rfl T.g_minus T.f_minus.kp (bi_minus T) (sa_cons (se_name 9) (sa_cons (se_name 7) sa_nil))) sa_nil)))) (sss_one (ss_for rfl (si_seq (se_tup (sa_cons (se_name 11) (sa_cons (se_name 12) sa_nil)))) (stg_tup rfl (stgs_cons (stg_name 13 sc_weighing_conditions.nd) (stgs_cons (stg_name 14 sc_weighing_conditions.nd) stgs_nil))) (sss_cons (ss_set 15 sc_weighing_conditions.nd (se_callT (fun _ _ => call_tuple_of) tupleS rfl T.n_tuple (by decide +kernel) (sab_cons (sb_of (se_fr (sf_lc [("place", 16)] rfl sc_weighing_conditions.nd (si_j (si_range1 rfl T.n_range (sa_cons (se_name 3) sa_nil))) (blkOk_by (by kernel_rfl)) (fun _ _ _ _ _ => (stg_name 16 sc_weighing_conditions.nd)) (fun _ _ _ _ _ => sts_nil) (fun _ _ _ _ _ => (se_if (st_in (hu5_room hr) (sb_name 16) (sb_name 2)) (se_name 13) (T.c_ZERO.se rfl rfl)))))) sab_nil))) (sss_one (ss_app 8 (se_tup (sa_cons (se_name 15) (sa_cons se_str (sa_cons (se_name 14) sa_nil)))))))))))) (sss_one (ss_frz 8 (ss_ret (se_name 8)))))))))

abbrev s_sign_of : Stmt := top 15
theorem sc_sign_of : FnScope ["first"] ["first"] (defScope s_sign_of) := ⟨rfl, rfl, rfl, by decide +kernel, rfl, by decide +kernel, by decide +kernel⟩
theorem bi_sign_of (T : Txt K mg) : Binds K (fdOf K ("sign_of", none)) ["first"] [] := T.f_sign_of.bindsN fun _ _ _ _ _ _ us hl => match us, hl with | [_], _ => rfl
set_option maxHeartbeats 4100000 in
theorem ok_sign_of (T : Txt K mg) : FnS P w K mg base 1 (He.ga K "sign_of") (fdOf K ("sign_of", none)) ["first"] Ks.d_sign_of :=
  fns_ok (k := 0) (N := ["first"]) (ps := ["first"]) (n := 1) (m := 0) (g := Ks.b_sign_of) T.f_sign_of sc_sign_of rfl rfl (fun cdv A outer s H E hr => by
    exact (sss_cons (ss_if (st_eq (hu_room hr) (sb_of (se_ix (sb_name 0) se_int)) (sb_of se_int)) (sss_one (ss_ret se_int)) sss_nil) (sss_one (ss_ret (se_if (st_gt (se_ix (sb_name 0) se_int) se_int) se_int (se_neg se_int))))))

abbrev s_check_weight : Stmt := top 33
theorem sc_check_weight : FnScope ["weight"] ["weight"] (defScope s_check_weight) := ⟨rfl, rfl, rfl, by decide +kernel, rfl, by decide +kernel, by decide +kernel⟩
theorem bi_check_weight (T : Txt K mg) : Binds K (fdOf K ("check_weight", none)) ["weight"] [] := T.f_check_weight.bindsN fun _ _ _ _ _ _ us hl => match us, hl with | [_], _ => rfl
set_option maxHeartbeats 4100000 in
theorem ok_check_weight (T : Txt K mg) : FnS P w K mg base 2 (He.ga K "check_weight") (fdOf K ("check_weight", none)) ["weight"] Ks.d_check_weight :=
  fns_ok (k := 1) (N := ["weight"]) (ps := ["weight"]) (n := 1) (m := 0) (g := Ks.b_check_weight) T.f_check_weight sc_check_weight rfl rfl (fun cdv A outer s H E hr => by
    exact (sss_one (ss_if (st_lt (se_call (ok_sign_of T) (hr.mono (by decide)) rfl T.g_sign_of T.f_sign_of.kp (bi_sign_of T) (sa_cons (se_name 0) sa_nil)) se_int) (sss_one (ss_raise T.e_NotAllowed rfl rfl)) sss_nil)))

abbrev s_compare : Stmt := top 16
theorem sc_compare : FnScope ["first", "second"] ["first", "second"] (defScope s_compare) := ⟨rfl, rfl, rfl, by decide +kernel, rfl, by decide +kernel, by decide +kernel⟩
theorem bi_compare (T : Txt K mg) : Binds K (fdOf K ("compare", none)) ["first", "second"] [] := T.f_compare.bindsN fun _ _ _ _ _ _ us hl => match us, hl with | [_, _], _ => rfl
set_option maxHeartbeats 4100000 in
theorem ok_compare (T : Txt K mg) : FnS P w K mg base 2 (He.ga K "compare") (fdOf K ("compare", none)) ["first", "second"] Ks.d_compare :=
  fns_ok (k := 1) (N := ["first", "second"]) (ps := ["first", "second"]) (n := 2) (m := 0) (g := Ks.b_compare) T.f_compare sc_compare rfl rfl (fun cdv A outer s H E hr => by
    exact (sss_one (ss_ret (se_call (ok_sign_of T) (hr.mono (by decide)) rfl T.g_sign_of T.f_sign_of.kp (bi_sign_of T) (sa_cons (se_tup (sa_cons (se_sub (se_mul (se_ix (sb_name 0) se_int) (se_ix (sb_name 1) se_int)) (se_mul (se_ix (sb_name 1) se_int) (se_ix (sb_name 0) se_int))) (sa_cons se_int sa_nil))) sa_nil)))))

abbrev s_greater_of : Stmt := top 35
theorem sc_greater_of : FnScope ["first", "second"] ["first", "second"] (defScope s_greater_of) := ⟨rfl, rfl, rfl, by decide +kernel, rfl, by decide +kernel, by decide +kernel⟩
theorem bi_greater_of (T : Txt K mg) : Binds K (fdOf K ("greater_of", none)) ["first", "second"] [] := T.f_greater_of.bindsN fun _ _ _ _ _ _ us hl => match us, hl with | [_, _], _ => rfl
set_option maxHeartbeats 4100000 in
theorem ok_greater_of (T : Txt K mg) : FnS P w K mg base 3 (He.ga K "greater_of") (fdOf K ("greater_of", none)) ["first", "second"] Ks.d_greater_of :=
  fns_ok (k := 2) (N := ["first", "second"]) (ps := ["first", "second"]) (n := 2) (m := 0) (g := Ks.b_greater_of) T.f_greater_of sc_greater_of rfl rfl (fun cdv A outer s H E hr => by
    exact (sss_one (ss_ret (se_if (st_ge (se_call (ok_compare T) (hr.mono (by decide)) rfl T.g_compare T.f_compare.kp (bi_compare T) (sa_cons (se_name 0) (sa_cons (se_name 1) sa_nil))) se_int) (se_name 0) (se_name 1)))))

abbrev s_lesser_of : Stmt := top 36
theorem sc_lesser_of : FnScope ["first", "second"] ["first", "second"] (defScope s_lesser_of) := ⟨rfl, rfl, rfl, by decide +kernel, rfl, by decide +kernel, by decide +kernel⟩
theorem bi_lesser_of (T : Txt K mg) : Binds K (fdOf K ("lesser_of", none)) ["first", "second"] [] := T.f_lesser_of.bindsN fun _ _ _ _ _ _ us hl => match us, hl with | [_, _], _ => rfl
set_option maxHeartbeats 4100000 in
theorem ok_lesser_of (T : Txt K mg) : FnS P w K mg base 3 (He.ga K "lesser_of") (fdOf K ("lesser_of", none)) ["first", "second"] Ks.d_lesser_of :=
  fns_ok (k := 2) (N := ["first", "second"]) (ps := ["first", "second"]) (n := 2) (m := 0) (g := Ks.b_lesser_of) T.f_lesser_of sc_lesser_of rfl rfl (fun cdv A outer s H E hr => by
    exact (sss_one (ss_ret (se_if (ST_of_SW (sw_or (st_is (sb_name 0) (sb_of se_non)) (sw_or1 (st_gt (se_call (ok_compare T) (hr.mono (by decide)) rfl T.g_compare T.f_compare.kp (bi_compare T) (sa_cons (se_name 0) (sa_cons (se_name 1) sa_nil))) se_int)))) (se_name 1) (se_name 0)))))

abbrev s_over : Stmt := top 14
theorem sc_over : FnScope ["first", "second"] ["first", "second"] (defScope s_over) := ⟨rfl, rfl, rfl, by decide +kernel, rfl, by decide +kernel, by decide +kernel⟩
theorem bi_over (T : Txt K mg) : Binds K (fdOf K ("over", none)) ["first", "second"] [] := T.f_over.bindsN fun _ _ _ _ _ _ us hl => match us, hl with | [_, _], _ => rfl
set_option maxHeartbeats 4100000 in
theorem ok_over (T : Txt K mg) : FnS P w K mg base 3 (He.ga K "over") (fdOf K ("over", none)) ["first", "second"] Ks.d_over :=
  fns_ok (k := 2) (N := ["first", "second"]) (ps := ["first", "second"]) (n := 2) (m := 0) (g := Ks.b_over) T.f_over sc_over rfl rfl (fun cdv A outer s H E hr => by
    exact (sss_one (ss_ret (se_call (ok_ratio T) (hr.mono (by decide)) rfl T.g_ratio T.f_ratio.kp (bi_ratio T) (sa_cons (se_mul (se_ix (sb_name 0) se_int) (se_ix (sb_name 1) se_int)) (sa_cons (se_mul (se_ix (sb_name 0) se_int) (se_ix (sb_name 1) se_int)) sa_nil))))))

abbrev s_ends : Stmt := top 37
theorem sc_ends : FnScope ["drawer", "scale", "day", "reading", "found", "lower", "upper", "slack", "share"] ["drawer", "scale", "day", "reading"] (defScope s_ends) := ⟨rfl, rfl, rfl, by decide +kernel, rfl, by decide +kernel, by decide +kernel⟩
theorem bi_ends (T : Txt K mg) : Binds K (fdOf K ("ends", none)) ["drawer", "scale", "day", "reading"] [] := T.f_ends.bindsN fun _ _ _ _ _ _ us hl => match us, hl with | [_, _, _, _], _ => rfl
set_option maxHeartbeats 4100000 in
theorem ok_ends (T : Txt K mg) : FnS P w K mg base 5 (He.ga K "ends") (fdOf K ("ends", none)) ["drawer", "scale", "day", "reading"] Ks.d_ends :=
  fns_ok (k := 4) (N := ["drawer", "scale", "day", "reading", "found", "lower", "upper", "slack", "share"]) (ps := ["drawer", "scale", "day", "reading"]) (n := 4) (m := 5) (g := Ks.b_ends) T.f_ends sc_ends rfl rfl (fun cdv A outer s H E hr => by
    exact (sss_cons (ss_set 4 sc_ends.nd (se_call (ok_limits T) (hr.mono (by decide)) rfl T.g_limits T.f_limits.kp (bi_limits T) (sa_cons (se_name 0) (sa_cons (se_name 1) (sa_cons (se_name 2) sa_nil))))) (sss_cons (ss_expr (se_call (ok_check_weight T) (hr.mono (by decide)) rfl T.g_check_weight T.f_check_weight.kp (bi_check_weight T) (sa_cons (se_name 3) sa_nil))) (sss_cons (ss_set 5 sc_ends.nd (T.c_ZERO.se rfl rfl)) (sss_cons (ss_set 6 sc_ends.nd se_non) (sss_cons (ss_for rfl (si_seq (se_name 4)) (stg_tup rfl (stgs_cons (stg_name 7 sc_ends.nd) (stgs_cons (stg_name 8 sc_ends.nd) stgs_nil))) (sss_cons (ss_set 5 sc_ends.nd (se_call (ok_greater_of T) (hr.mono (by decide)) rfl T.g_greater_of T.f_greater_of.kp (bi_greater_of T) (sa_cons (se_name 5) (sa_cons (se_call (ok_over T) (hr.mono (by decide)) rfl T.g_over T.f_over.kp (bi_over T) (sa_cons (se_call (ok_minus T) (hr.mono (by decide)) rfl T.g_minus T.f_minus.kp (bi_minus T) (sa_cons (se_name 3) (sa_cons (se_name 7) sa_nil))) (sa_cons (se_call (ok_plus T) (hr.mono (by decide)) rfl T.g_plus T.f_plus.kp (bi_plus T) (sa_cons (T.c_ONE.se rfl rfl) (sa_cons (se_name 8) sa_nil))) sa_nil))) sa_nil)))) (sss_one (ss_set 6 sc_ends.nd (se_call (ok_lesser_of T) (hr.mono (by decide)) rfl T.g_lesser_of T.f_lesser_of.kp (bi_lesser_of T) (sa_cons (se_name 6) (sa_cons (se_call (ok_over T) (hr.mono (by decide)) rfl T.g_over T.f_over.kp (bi_over T) (sa_cons (se_call (ok_plus T) (hr.mono (by decide)) rfl T.g_plus T.f_plus.kp (bi_plus T) (sa_cons (se_name 3) (sa_cons (se_name 7) sa_nil))) (sa_cons (se_call (ok_minus T) (hr.mono (by decide)) rfl T.g_minus T.f_minus.kp (bi_minus T) (sa_cons (T.c_ONE.se rfl rfl) (sa_cons (se_name 8) sa_nil))) sa_nil))) sa_nil))))))) (sss_cons (ss_if (ST_of_SW (sw_and (st_isnt (sb_name 6) (sb_of se_non)) (sw_and1 (st_gt (se_call (ok_compare T) (hr.mono (by decide)) rfl T.g_compare T.f_compare.kp (bi_compare T) (sa_cons (se_name 5) (sa_cons (se_name 6) sa_nil))) se_int)))) (sss_one (ss_raise T.e_Never rfl rfl)) sss_nil) (sss_one (ss_ret (se_tup (sa_cons (se_name 5) (sa_cons (se_name 6) sa_nil))))))))))))

abbrev s__law_ends : Stmt := top 56
theorem sc__law_ends : FnScope ["drawer", "weighing"] ["drawer", "weighing"] (defScope s__law_ends) := ⟨rfl, rfl, rfl, by decide +kernel, rfl, by decide +kernel, by decide +kernel⟩
theorem bi__law_ends (T : Txt K mg) : Binds K (fdOf K ("_law_ends", none)) ["drawer", "weighing"] [] := T.f__law_ends.bindsN fun _ _ _ _ _ _ us hl => match us, hl with | [_, _], _ => rfl
set_option maxHeartbeats 4100000 in
theorem ok__law_ends (T : Txt K mg) : FnS P w K mg base 6 (He.ga K "_law_ends") (fdOf K ("_law_ends", none)) ["drawer", "weighing"] d__law_ends :=
  fns_ok (k := 5) (N := ["drawer", "weighing"]) (ps := ["drawer", "weighing"]) (n := 2) (m := 0) (g := b__law_ends) T.f__law_ends sc__law_ends rfl rfl (fun cdv A outer s H E hr => by
    exact (sss_one (ss_try rfl rfl rfl ⟨rfl, by decide, .inl T.e_Never.g⟩ hr.hd (fun n b hl C hC => T.exm_ "Never" [("KerbError", false), ("NotAllowed", false), ("Missing", false), ("Never", true)] (by decide) hl hC) (sss_one (ss_ret (se_call (ok_ends T) (hr.mono (by decide)) rfl T.g_ends T.f_ends.kp (bi_ends T) (sa_cons (se_name 0) (sa_cons (se_ix (sb_name 1) se_int) (sa_cons (se_ix (sb_name 1) se_int) (sa_cons (se_ix (sb_name 1) se_int) sa_nil))))))) (fun n C hl hC a oe pn hz hf => by
          have hn : n = "Never" := by have z := lk_ [("KerbError", false), ("NotAllowed", false), ("Missing", false), ("Never", true)] hl; simpa using z
          rcases hn with rfl
          · have eC := Option.some.inj (hC.symm.trans T.e_Never.g); cases eC; exact ((sss_one (ss_ret se_non)))
          ))))

abbrev s__law_less : Stmt := top 46
theorem sc__law_less : FnScope ["first", "second"] ["first", "second"] (defScope s__law_less) := ⟨rfl, rfl, rfl, by decide +kernel, rfl, by decide +kernel, by decide +kernel⟩
theorem bi__law_less (T : Txt K mg) : Binds K (fdOf K ("_law_less", none)) ["first", "second"] [] := T.f__law_less.bindsN fun _ _ _ _ _ _ us hl => match us, hl with | [_, _], _ => rfl
set_option maxHeartbeats 4100000 in
theorem ok__law_less (T : Txt K mg) : FnS P w K mg base 1 (He.ga K "_law_less") (fdOf K ("_law_less", none)) ["first", "second"] Ks.d__law_less :=
  fns_ok (k := 0) (N := ["first", "second"]) (ps := ["first", "second"]) (n := 2) (m := 0) (g := Ks.b__law_less) T.f__law_less sc__law_less rfl rfl (fun cdv A outer s H E hr => by
    exact (sss_one (ss_ret (se_lt (se_mul (se_ix (sb_name 0) se_int) (se_ix (sb_name 1) se_int)) (se_mul (se_ix (sb_name 1) se_int) (se_ix (sb_name 0) se_int))))))

abbrev s__law_plus : Stmt := top 44
theorem sc__law_plus : FnScope ["first", "second"] ["first", "second"] (defScope s__law_plus) := ⟨rfl, rfl, rfl, by decide +kernel, rfl, by decide +kernel, by decide +kernel⟩
theorem bi__law_plus (T : Txt K mg) : Binds K (fdOf K ("_law_plus", none)) ["first", "second"] [] := T.f__law_plus.bindsN fun _ _ _ _ _ _ us hl => match us, hl with | [_, _], _ => rfl
set_option maxHeartbeats 4100000 in
theorem ok__law_plus (T : Txt K mg) : FnS P w K mg base 2 (He.ga K "_law_plus") (fdOf K ("_law_plus", none)) ["first", "second"] Ks.d__law_plusC :=
  fns_ok (k := 1) (N := ["first", "second"]) (ps := ["first", "second"]) (n := 2) (m := 0) (g := Ks.b__law_plusC) T.f__law_plus sc__law_plus rfl rfl (fun cdv A outer s H E hr => by
    exact (sss_one (ss_ret (se_call (ok__law_ratio T) (hr.mono (by decide)) rfl T.g__law_ratio T.f__law_ratio.kp (bi__law_ratio T) (sa_cons (se_add (sb_of (se_mul (se_ix (sb_name 0) se_int) (se_ix (sb_name 1) se_int))) (sb_of (se_mul (se_ix (sb_name 1) se_int) (se_ix (sb_name 0) se_int)))) (sa_cons (se_mul (se_ix (sb_name 0) se_int) (se_ix (sb_name 1) se_int)) sa_nil))))))

abbrev s__law_minus : Stmt := top 48
theorem sc__law_minus : FnScope ["first", "second"] ["first", "second"] (defScope s__law_minus) := ⟨rfl, rfl, rfl, by decide +kernel, rfl, by decide +kernel, by decide +kernel⟩
theorem bi__law_minus (T : Txt K mg) : Binds K (fdOf K ("_law_minus", none)) ["first", "second"] [] := T.f__law_minus.bindsN fun _ _ _ _ _ _ us hl => match us, hl with | [_, _], _ => rfl
set_option maxHeartbeats 4100000 in
theorem ok__law_minus (T : Txt K mg) : FnS P w K mg base 3 (He.ga K "_law_minus") (fdOf K ("_law_minus", none)) ["first", "second"] Ks.d__law_minusC :=
  fns_ok (k := 2) (N := ["first", "second"]) (ps := ["first", "second"]) (n := 2) (m := 0) (g := Ks.b__law_minusC) T.f__law_minus sc__law_minus rfl rfl (fun cdv A outer s H E hr => by
    exact (sss_one (ss_ret (se_call (ok__law_plus T) (hr.mono (by decide)) rfl T.g__law_plus T.f__law_plus.kp (bi__law_plus T) (sa_cons (se_name 0) (sa_cons (se_tup (sa_cons (se_sub se_int (se_ix (sb_name 1) se_int)) (sa_cons (se_ix (sb_name 1) se_int) sa_nil))) sa_nil))))))

abbrev s__law_sums : Stmt := top 58
theorem sc__law_sums : FnScope ["told", "numbers", "sums"] ["told", "numbers"] (defScope s__law_sums) := ⟨rfl, rfl, rfl, by decide +kernel, rfl, by decide +kernel, by decide +kernel⟩
theorem bi__law_sums (T : Txt K mg) : Binds K (fdOf K ("_law_sums", none)) ["told", "numbers"] [] := T.f__law_sums.bindsN fun _ _ _ _ _ _ us hl => match us, hl with | [_, _], _ => rfl
set_option maxHeartbeats 4100000 in
theorem ok__law_sums (T : Txt K mg) : FnS P w K mg base 4 (He.ga K "_law_sums") (fdOf K ("_law_sums", none)) ["told", "numbers"] d__law_sums :=
  fns_ok (k := 3) (N := ["told", "numbers", "sums"]) (ps := ["told", "numbers"]) (n := 2) (m := 1) (g := b__law_sums) T.f__law_sums sc__law_sums rfl rfl (fun cdv A outer s H E hr => by
    exact (sss_cons (ss_own 2 sc__law_sums.nd (sf_lst (sa_cons (se_call (ok__law_drawn T) (hr.mono (by decide)) rfl T.g__law_drawn T.f__law_drawn.kp (bi__law_drawn T) (sa_cons (se_ix (sb_name 1) se_int) (sa_cons se_int sa_nil))) (sa_cons (se_tup (sa_cons se_int (sa_cons se_int sa_nil))) sa_nil)))) (sss_cons (ss_if (st_isnt (sb_name 0) (sb_of se_non)) (sss_cons (ss_own 2 sc__law_sums.nd (sf_cat (sb_name 2) (sb_of (se_lst (sa_cons (se_ix (sb_name 0) se_int) (sa_cons (se_call (ok__law_plus T) (hr.mono (by decide)) rfl T.g__law_plus T.f__law_plus.kp (bi__law_plus T) (sa_cons (se_ix (sb_name 0) se_int) (sa_cons (se_tup (sa_cons se_int (sa_cons se_int sa_nil))) sa_nil))) sa_nil)))))) (sss_cons (ss_if (st_tru (sb_of (se_call (ok__law_less T) (hr.mono (by decide)) rfl T.g__law_less T.f__law_less.kp (bi__law_less T) (sa_cons (se_tup (sa_cons se_int (sa_cons se_int sa_nil))) (sa_cons (se_ix (sb_name 0) se_int) sa_nil))))) (sss_one (ss_app 2 (se_call (ok__law_minus T) (hr.mono (by decide)) rfl T.g__law_minus T.f__law_minus.kp (bi__law_minus T) (sa_cons (se_ix (sb_name 0) se_int) (sa_cons (se_tup (sa_cons se_int (sa_cons se_int sa_nil))) sa_nil))))) sss_nil) (sss_one (ss_if (st_isnt (sb_of (se_ix (sb_name 0) se_int)) (sb_of se_non)) (sss_one (ss_own 2 sc__law_sums.nd (sf_cat (sb_name 2) (sb_of (se_lst (sa_cons (se_ix (sb_name 0) se_int) (sa_cons (se_call (ok__law_plus T) (hr.mono (by decide)) rfl T.g__law_plus T.f__law_plus.kp (bi__law_plus T) (sa_cons (se_ix (sb_name 0) se_int) (sa_cons (se_tup (sa_cons se_int (sa_cons se_int sa_nil))) sa_nil))) sa_nil))))))) sss_nil)))) sss_nil) (sss_one (ss_frz 2 (ss_ret (se_name 2)))))))

abbrev s__law_cell : Stmt := top 41
theorem sc__law_cell : FnScope ["script", "k"] ["script", "k"] (defScope s__law_cell) := ⟨rfl, rfl, rfl, by decide +kernel, rfl, by decide +kernel, by decide +kernel⟩
theorem bi__law_cell (T : Txt K mg) : Binds K (fdOf K ("_law_cell", none)) ["script", "k"] [] := T.f__law_cell.bindsN fun _ _ _ _ _ _ us hl => match us, hl with | [_, _], _ => rfl
set_option maxHeartbeats 4100000 in
theorem ok__law_cell (T : Txt K mg) : FnS P w K mg base 1 (He.ga K "_law_cell") (fdOf K ("_law_cell", none)) ["script", "k"] Ks.d__law_cell :=
  fns_ok (k := 0) (N := ["script", "k"]) (ps := ["script", "k"]) (n := 2) (m := 0) (g := Ks.b__law_cell) T.f__law_cell sc__law_cell rfl rfl (fun cdv A outer s H E hr => by
    exact (sss_cons (ss_if (st_lt (se_name 1) (se_callB (fun _ _ => call_len) lenS rfl T.n_len PySem.boot_len (sab_cons (sb_name 0) sab_nil))) (sss_one (ss_ret (se_ix (sb_name 0) (se_name 1)))) sss_nil) (sss_one (ss_ret se_int))))

abbrev s_is_ratio : Stmt := top 8
theorem sc_is_ratio : FnScope ["pair"] ["pair"] (defScope s_is_ratio) := ⟨rfl, rfl, rfl, by decide +kernel, rfl, by decide +kernel, by decide +kernel⟩
theorem bi_is_ratio (T : Txt K mg) : Binds K (fdOf K ("is_ratio", none)) ["pair"] [] := T.f_is_ratio.bindsN fun _ _ _ _ _ _ us hl => match us, hl with | [_], _ => rfl
set_option maxHeartbeats 4100000 in
theorem ok_is_ratio (T : Txt K mg) : FnS P w K mg base 2 (He.ga K "is_ratio") (fdOf K ("is_ratio", none)) ["pair"] Ks.d_is_ratio :=
  fns_ok (k := 1) (N := ["pair"]) (ps := ["pair"]) (n := 1) (m := 0) (g := Ks.b_is_ratio) T.f_is_ratio sc_is_ratio rfl rfl (fun cdv A outer s H E hr => by
    exact (sss_one (ss_ret (se_and (se_eq (hu_room hr) (sb_of (se_callB (fun _ _ => call_len) lenS rfl T.n_len PySem.boot_len (sab_cons (sb_name 0) sab_nil))) (sb_of se_int)) (se_and (se_ge (se_ix (sb_name 0) se_int) se_int) (se_one (se_eq (hu_room hr) (sb_of (se_call (ok_common T) (hr.mono (by decide)) rfl T.g_common T.f_common.kp (bi_common T) (sa_cons (se_ix (sb_name 0) se_int) (sa_cons (se_ix (sb_name 0) se_int) sa_nil)))) (sb_of se_int))))))))

abbrev s_is_weight : Stmt := top 24
theorem sc_is_weight : FnScope ["weight"] ["weight"] (defScope s_is_weight) := ⟨rfl, rfl, rfl, by decide +kernel, rfl, by decide +kernel, by decide +kernel⟩
theorem bi_is_weight (T : Txt K mg) : Binds K (fdOf K ("is_weight", none)) ["weight"] [] := T.f_is_weight.bindsN fun _ _ _ _ _ _ us hl => match us, hl with | [_], _ => rfl
set_option maxHeartbeats 4100000 in
theorem ok_is_weight (T : Txt K mg) : FnS P w K mg base 3 (He.ga K "is_weight") (fdOf K ("is_weight", none)) ["weight"] d_is_weight :=
  fns_ok (k := 2) (N := ["weight"]) (ps := ["weight"]) (n := 1) (m := 0) (g := b_is_weight) T.f_is_weight sc_is_weight rfl rfl (fun cdv A outer s H E hr => by
    exact (sss_one (ss_ret (se_and (se_call (ok_is_ratio T) (hr.mono (by decide)) rfl T.g_is_ratio T.f_is_ratio.kp (bi_is_ratio T) (sa_cons (se_name 0) sa_nil)) (se_one (se_ge (se_call (ok_sign_of T) (hr.mono (by decide)) rfl T.g_sign_of T.f_sign_of.kp (bi_sign_of T) (sa_cons (se_name 0) sa_nil)) se_int))))))

abbrev s_check_weighing : Stmt := top 38
theorem sc_check_weighing : FnScope ["weighing", "scale", "day", "lots", "reading", "lot", "at"] ["weighing"] (defScope s_check_weighing) := ⟨rfl, rfl, rfl, by decide +kernel, rfl, by decide +kernel, by decide +kernel⟩
theorem bi_check_weighing (T : Txt K mg) : Binds K (fdOf K ("check_weighing", none)) ["weighing"] [] := T.f_check_weighing.bindsN fun _ _ _ _ _ _ us hl => match us, hl with | [_], _ => rfl
set_option maxHeartbeats 4100000 in
theorem ok_check_weighing (T : Txt K mg) : FnS P w K mg base 4 (He.ga K "check_weighing") (fdOf K ("check_weighing", none)) ["weighing"] d_check_weighing :=
  fns_ok (k := 3) (N := ["weighing", "scale", "day", "lots", "reading", "lot", "at"]) (ps := ["weighing"]) (n := 1) (m := 6) (g := b_check_weighing) T.f_check_weighing sc_check_weighing rfl rfl (fun cdv A outer s H E hr => by
    exact (sss_cons (ss_tg (se_name 0) (stg_tup rfl (stgs_cons (stg_name 1 sc_check_weighing.nd) (stgs_cons (stg_name 2 sc_check_weighing.nd) (stgs_cons (stg_name 3 sc_check_weighing.nd) (stgs_cons (stg_name 4 sc_check_weighing.nd) stgs_nil)))))) (sss_cons (ss_expr (se_call (ok_check_scale T) (hr.mono (by decide)) rfl T.g_check_scale T.f_check_scale.kp (bi_check_scale T) (sa_cons (se_name 1) sa_nil))) (sss_cons (ss_expr (se_call (ok_check_day T) (hr.mono (by decide)) rfl T.g_check_day T.f_check_day.kp (bi_check_day T) (sa_cons (se_name 2) sa_nil))) (sss_cons (ss_if (ST_of_SW (sw_or (st_not (st_chain (fun _ _ => op_le) (fun _ _ => op_le) leS leS se_int (se_callB (fun _ _ => call_len) lenS rfl T.n_len PySem.boot_len (sab_cons (sb_name 3) sab_nil)) (T.c_MAX_WEIGHED.se rfl rfl) (by with_unfolding_all rfl))) (sw_or1 (st_not (st_tru (sb_of (se_callB (fun pn xe => cr_all (X := Cx.tr _ pn xe) rfl) allS rfl T.n_all (by decide +kernel) (sab_cons (sb_of (se_fr (sf_lc [("lot", 5)] rfl sc_check_weighing.nd (sj_seq (sb_name 3)) (blkOk_by (by kernel_rfl)) (fun _ _ _ _ _ => (stg_name 5 sc_check_weighing.nd)) (fun _ _ _ _ _ => sts_nil) (fun _ _ _ _ _ => (se_chain (fun _ _ => op_le) (fun _ _ => op_le) leS leS se_int (se_name 5) (T.c_MAX_NUMBER.se rfl rfl) (by with_unfolding_all rfl)))))) sab_nil)))))))) (sss_one (ss_raise T.e_NotAllowed rfl rfl)) sss_nil) (sss_one (ss_if (ST_of_SW (sw_or (st_not (st_tru (sb_of (se_callB (fun pn xe => cr_all (X := Cx.tr _ pn xe) rfl) allS rfl T.n_all (by decide +kernel) (sab_cons (sb_of (se_fr (sf_lc [("at", 6)] rfl sc_check_weighing.nd (si_j (si_range1 rfl T.n_range (sa_cons (se_sub (se_callB (fun _ _ => call_len) lenS rfl T.n_len PySem.boot_len (sab_cons (sb_name 3) sab_nil)) se_int) sa_nil))) (blkOk_by (by kernel_rfl)) (fun _ _ _ _ _ => (stg_name 6 sc_check_weighing.nd)) (fun _ _ _ _ _ => sts_nil) (fun _ _ _ _ _ => (se_lt (se_ix (sb_name 3) (se_name 6)) (se_ix (sb_name 3) (se_add (sb_name 6) (sb_of se_int)))))))) sab_nil))))) (sw_or1 (st_not (st_tru (sb_of (se_call (ok_is_weight T) (hr.mono (by decide)) rfl T.g_is_weight T.f_is_weight.kp (bi_is_weight T) (sa_cons (se_name 4) sa_nil)))))))) (sss_one (ss_raise T.e_NotAllowed rfl rfl)) sss_nil)))))))

abbrev s__law_refused : Stmt := top 59
theorem sc__law_refused : FnScope ["check", "arguments", "e"] ["check", "arguments"] (defScope s__law_refused) := ⟨rfl, rfl, rfl, by decide +kernel, rfl, by decide +kernel, by decide +kernel⟩
theorem bi__law_refused (T : Txt K mg) : Binds K (fdOf K ("_law_refused", none)) ["check", "arguments"] [] := T.f__law_refused.bindsN fun _ _ _ _ _ _ us hl => match us, hl with | [_, _], _ => rfl
set_option maxHeartbeats 4100000 in
theorem ok__law_refused (T : Txt K mg) : FnS P w K mg base 6 (He.ga K "_law_refused") (fdOf K ("_law_refused", none)) ["check", "arguments"] d__law_refused :=
  fns_ok (k := 5) (N := ["check", "arguments", "e"]) (ps := ["check", "arguments"]) (n := 2) (m := 1) (g := b__law_refused) T.f__law_refused sc__law_refused rfl rfl (fun cdv A outer s H E hr => by
    exact (sss_cons (ss_tryAs 2 rfl rfl rfl sc__law_refused.nd ⟨rfl, by decide, .inl T.e_NotAllowed.g⟩ hr.hd (fun n b hl C hC => T.exm_ "NotAllowed" [("KerbError", false), ("NotAllowed", true), ("Missing", false), ("Never", false)] (by decide) hl hC) (sss_one (ss_if (st_eq (hu_room hr) (sb_name 0) (sb_of se_int)) (sss_one (ss_expr (se_call (ok_check_weighing T) (hr.mono (by decide)) rfl T.g_check_weighing T.f_check_weighing.kp (bi_check_weighing T) (sa_cons (se_name 1) sa_nil)))) (sss_one (ss_expr (se_call (ok_weighing_conditions T) (hr.mono (by decide)) rfl T.g_weighing_conditions T.f_weighing_conditions.kp (bi_weighing_conditions T) (sa_cons (se_ix (sb_name 1) se_int) (sa_cons (se_ix (sb_name 1) se_int) (sa_cons (se_ix (sb_name 1) se_int) (sa_cons (se_ix (sb_name 1) se_int) sa_nil))))))))) (fun n C hl hC a oe pn hz hf => by
          have hn : n = "NotAllowed" := by have z := lk_ [("KerbError", false), ("NotAllowed", true), ("Missing", false), ("Never", false)] hl; simpa using z
          rcases hn with rfl
          · have eC := Option.some.inj (hC.symm.trans T.e_NotAllowed.g); cases eC; exact ((sss_one (ss_ret (se_and (se_isE 2 (cv := .ref (He.ga K "KerbError")) (cu := .ref (He.ga K "KerbError")) rfl List.mem_cons_self T.x_NotAllowed hz hf (fun X' e1 e2 => pe_glob (v := .ref (He.ga K "KerbError")) (gl_ e1 rfl) (by rw [e2]; exact T.e_KerbError.g) rfl) (fun _ h => h) (T.k_NotAllowed_KerbError) rfl T.n_isinstance) (se_one (se_not (se_isE 2 (cv := .ref (He.ga K "Missing")) (cu := .ref (He.ga K "Missing")) rfl List.mem_cons_self T.x_NotAllowed hz hf (fun X' e1 e2 => pe_glob (v := .ref (He.ga K "Missing")) (gl_ e1 rfl) (by rw [e2]; exact T.e_Missing.g) rfl) (fun _ h => h) (T.k_NotAllowed_Missing) rfl T.n_isinstance)))))))
          )) (sss_one (ss_ret se_bl))))

abbrev s__law_counting : Stmt := top 51
theorem sc__law_counting : FnScope ["drawer", "scale", "day", "found", "k", "name", "paper", "until"] ["drawer", "scale", "day"] (defScope s__law_counting) := ⟨rfl, rfl, rfl, by decide +kernel, rfl, by decide +kernel, by decide +kernel⟩
theorem bi__law_counting (T : Txt K mg) : Binds K (fdOf K ("_law_counting", none)) ["drawer", "scale", "day"] [] := T.f__law_counting.bindsN fun _ _ _ _ _ _ us hl => match us, hl with | [_, _, _], _ => rfl
set_option maxHeartbeats 4100000 in
theorem ok__law_counting (T : Txt K mg) : FnS P w K mg base 1 (He.ga K "_law_counting") (fdOf K ("_law_counting", none)) ["drawer", "scale", "day"] Ks.d__law_countingC :=
  fns_ok (k := 0) (N := ["drawer", "scale", "day", "found", "k", "name", "paper", "until"]) (ps := ["drawer", "scale", "day"]) (n := 3) (m := 5) (g := Ks.b__law_countingC) T.f__law_counting sc__law_counting rfl rfl (fun cdv A outer s H E hr => by
    exact (sss_cons (ss_own 3 sc__law_counting.nd (sf_lst sa_nil)) (sss_cons (ss_for rfl (si_range1 rfl T.n_range (sa_cons (se_callB (fun _ _ => call_len) lenS rfl T.n_len PySem.boot_len (sab_cons (sb_name 0) sab_nil)) sa_nil)) (stg_name 4 sc__law_counting.nd) (sss_cons (ss_tg (se_ix (sb_name 0) (se_name 4)) (stg_tup rfl (stgs_cons (stg_name 5 sc__law_counting.nd) (stgs_cons (stg_name 6 sc__law_counting.nd) (stgs_cons (stg_name 7 sc__law_counting.nd) stgs_nil))))) (sss_one (ss_if (ST_of_SW (sw_and (st_eq (hu_room hr) (sb_name 5) (sb_name 1)) (sw_and (st_le (se_ix (sb_name 6) se_int) (se_name 2)) (sw_and (st_le (se_name 2) (se_ix (sb_name 6) se_int)) (sw_and1 (ST_of_SW (sw_or (st_is (sb_name 7) (sb_of se_non)) (sw_or1 (st_gt (se_name 7) (se_name 2)))))))))) (sss_one (ss_app 3 (se_name 4))) sss_nil)))) (sss_one (ss_frz 3 (ss_ret (se_name 3)))))))

abbrev s__law_times : Stmt := top 45
theorem sc__law_times : FnScope ["first", "second"] ["first", "second"] (defScope s__law_times) := ⟨rfl, rfl, rfl, by decide +kernel, rfl, by decide +kernel, by decide +kernel⟩
theorem bi__law_times (T : Txt K mg) : Binds K (fdOf K ("_law_times", none)) ["first", "second"] [] := T.f__law_times.bindsN fun _ _ _ _ _ _ us hl => match us, hl with | [_, _], _ => rfl
set_option maxHeartbeats 4100000 in
theorem ok__law_times (T : Txt K mg) : FnS P w K mg base 2 (He.ga K "_law_times") (fdOf K ("_law_times", none)) ["first", "second"] Ks.d__law_timesC :=
  fns_ok (k := 1) (N := ["first", "second"]) (ps := ["first", "second"]) (n := 2) (m := 0) (g := Ks.b__law_timesC) T.f__law_times sc__law_times rfl rfl (fun cdv A outer s H E hr => by
    exact (sss_one (ss_ret (se_call (ok__law_ratio T) (hr.mono (by decide)) rfl T.g__law_ratio T.f__law_ratio.kp (bi__law_ratio T) (sa_cons (se_mul (se_ix (sb_name 0) se_int) (se_ix (sb_name 1) se_int)) (sa_cons (se_mul (se_ix (sb_name 0) se_int) (se_ix (sb_name 1) se_int)) sa_nil))))))

abbrev s__law_slacks : Stmt := top 52
theorem sc__law_slacks : FnScope ["drawer", "scale", "day", "found", "k", "paper"] ["drawer", "scale", "day"] (defScope s__law_slacks) := ⟨rfl, rfl, rfl, by decide +kernel, rfl, by decide +kernel, by decide +kernel⟩
theorem bi__law_slacks (T : Txt K mg) : Binds K (fdOf K ("_law_slacks", none)) ["drawer", "scale", "day"] [] := T.f__law_slacks.bindsN fun _ _ _ _ _ _ us hl => match us, hl with | [_, _, _], _ => rfl
set_option maxHeartbeats 4100000 in
theorem ok__law_slacks (T : Txt K mg) : FnS P w K mg base 3 (He.ga K "_law_slacks") (fdOf K ("_law_slacks", none)) ["drawer", "scale", "day"] Ks.d__law_slacksC :=
  fns_ok (k := 2) (N := ["drawer", "scale", "day", "found", "k", "paper"]) (ps := ["drawer", "scale", "day"]) (n := 3) (m := 3) (g := Ks.b__law_slacksC) T.f__law_slacks sc__law_slacks rfl rfl (fun cdv A outer s H E hr => by
    exact (sss_cons (ss_own 3 sc__law_slacks.nd (sf_lst sa_nil)) (sss_cons (ss_for rfl (si_seq (se_call (ok__law_counting T) (hr.mono (by decide)) rfl T.g__law_counting T.f__law_counting.kp (bi__law_counting T) (sa_cons (se_name 0) (sa_cons (se_name 1) (sa_cons (se_name 2) sa_nil))))) (stg_name 4 sc__law_slacks.nd) (sss_cons (ss_set 5 sc__law_slacks.nd (se_ix (sb_of (se_ix (sb_name 0) (se_name 4))) se_int)) (sss_one (ss_app 3 (se_tup (sa_cons (se_call (ok__law_plus T) (hr.mono (by decide)) rfl T.g__law_plus T.f__law_plus.kp (bi__law_plus T) (sa_cons (se_ix (sb_name 5) se_int) (sa_cons (se_call (ok__law_times T) (hr.mono (by decide)) rfl T.g__law_times T.f__law_times.kp (bi__law_times T) (sa_cons (se_ix (sb_name 5) se_int) (sa_cons (se_tup (sa_cons (se_sub (se_name 2) (se_ix (sb_name 5) se_int)) (sa_cons se_int sa_nil))) sa_nil))) sa_nil))) (sa_cons (se_ix (sb_name 5) se_int) sa_nil))))))) (sss_one (ss_frz 3 (ss_ret (se_name 3)))))))

abbrev s__law_conditions : Stmt := top 54
theorem sc__law_conditions : FnScope ["drawer", "weighing", "places", "width", "rows", "slack", "share", "upper", "lower", "place"] ["drawer", "weighing", "places", "width"] (defScope s__law_conditions) := ⟨rfl, rfl, rfl, by decide +kernel, rfl, by decide +kernel, by decide +kernel⟩
theorem bi__law_conditions (T : Txt K mg) : Binds K (fdOf K ("_law_conditions", none)) ["drawer", "weighing", "places", "width"] [] := T.f__law_conditions.bindsN fun _ _ _ _ _ _ us hl => match us, hl with | [_, _, _, _], _ => rfl
set_option maxHeartbeats 4100000 in
theorem ok__law_conditions (T : Txt K mg) : FnS P w K mg base 4 (He.ga K "_law_conditions") (fdOf K ("_law_conditions", none)) ["drawer", "weighing", "places", "width"] d__law_conditions :=
  fns_ok (k := 3) (N := ["drawer", "weighing", "places", "width", "rows", "slack", "share", "upper", "lower", "place"]) (ps := ["drawer", "weighing", "places", "width"]) (n := 4) (m := 6) (g := b__law_conditions) T.f__law_conditions sc__law_conditions rfl rfl (fun cdv A outer s H E hr => by
    exact (sss_cons (ss_own 4 sc__law_conditions.nd (sf_lst sa_nil)) (sss_cons (ss_for rfl (si_seq (se_call (ok__law_slacks T) (hr.mono (by decide)) rfl T.g__law_slacks T.f__law_slacks.kp (bi__law_slacks T) (sa_cons (se_name 0) (sa_cons (se_ix (sb_name 1) se_int) (sa_cons (se_ix (sb_name 1) se_int) sa_nil))))) (stg_tup rfl (stgs_cons (stg_name 5 sc__law_conditions.nd) (stgs_cons (stg_name 6 sc__law_conditions.nd) stgs_nil))) (sss_cons (ss_own 7 sc__law_conditions.nd (sf_mul (sb_of (se_lst (sa_cons (se_tup (sa_cons se_int (sa_cons se_int sa_nil))) sa_nil))) (se_name 3))) (sss_cons (ss_own 8 sc__law_conditions.nd (sf_mul (sb_of (se_lst (sa_cons (se_tup (sa_cons se_int (sa_cons se_int sa_nil))) sa_nil))) (se_name 3))) (sss_cons (ss_for rfl (si_seq (se_name 2)) (stg_name 9 sc__law_conditions.nd) (sss_cons (ss_put 7 (se_call (ok__law_minus T) (hr.mono (by decide)) rfl T.g__law_minus T.f__law_minus.kp (bi__law_minus T) (sa_cons (se_tup (sa_cons se_int (sa_cons se_int sa_nil))) (sa_cons (se_name 6) sa_nil))) (se_name 9)) (sss_one (ss_put 8 (se_call (ok__law_minus T) (hr.mono (by decide)) rfl T.g__law_minus T.f__law_minus.kp (bi__law_minus T) (sa_cons (se_tup (sa_cons se_int (sa_cons se_int sa_nil))) (sa_cons (se_call (ok__law_plus T) (hr.mono (by decide)) rfl T.g__law_plus T.f__law_plus.kp (bi__law_plus T) (sa_cons (se_tup (sa_cons se_int (sa_cons se_int sa_nil))) (sa_cons (se_name 6) sa_nil))) sa_nil))) (se_name 9))))) (sss_cons (ss_app 4 (se_tup (sa_cons (se_callT (fun _ _ => call_tuple_of) tupleS rfl T.n_tuple (by decide +kernel) (sab_cons (sb_name 7) sab_nil)) (sa_cons se_str (sa_cons (se_call (ok__law_plus T) (hr.mono (by decide)) rfl T.g__law_plus T.f__law_plus.kp (bi__law_plus T) (sa_cons (se_ix (sb_name 1) se_int) (sa_cons (se_name 5) sa_nil))) sa_nil))))) (sss_one (ss_app 4 (se_tup (sa_cons (se_callT (fun _ _ => call_tuple_of) tupleS rfl T.n_tuple (by decide +kernel) (sab_cons (sb_name 8) sab_nil)) (sa_cons se_str (sa_cons (se_call (ok__law_minus T) (hr.mono (by decide)) rfl T.g__law_minus T.f__law_minus.kp (bi__law_minus T) (sa_cons (se_name 5) (sa_cons (se_ix (sb_name 1) se_int) sa_nil))) sa_nil))))))))))) (sss_one (ss_frz 4 (ss_ret (se_name 4)))))))

abbrev s__law_keeps : Stmt := top 55
theorem sc__law_keeps : FnScope ["rows", "row", "coefficients", "relation", "bound", "total", "k"] ["rows", "row"] (defScope s__law_keeps) := ⟨rfl, rfl, rfl, by decide +kernel, rfl, by decide +kernel, by decide +kernel⟩
theorem bi__law_keeps (T : Txt K mg) : Binds K (fdOf K ("_law_keeps", none)) ["rows", "row"] [] := T.f__law_keeps.bindsN fun _ _ _ _ _ _ us hl => match us, hl with | [_, _], _ => rfl
set_option maxHeartbeats 4100000 in
theorem ok__law_keeps (T : Txt K mg) : FnS P w K mg base 3 (He.ga K "_law_keeps") (fdOf K ("_law_keeps", none)) ["rows", "row"] d__law_keeps :=
  fns_ok (k := 2) (N := ["rows", "row", "coefficients", "relation", "bound", "total", "k"]) (ps := ["rows", "row"]) (n := 2) (m := 5) (g := b__law_keeps) T.f__law_keeps sc__law_keeps rfl rfl (fun cdv A outer s H E hr => by
    exact (sss_cons (ss_for rfl (si_seq (se_name 0)) (stg_tup rfl (stgs_cons (stg_name 2 sc__law_keeps.nd) (stgs_cons (stg_name 3 sc__law_keeps.nd) (stgs_cons (stg_name 4 sc__law_keeps.nd) stgs_nil)))) (sss_cons (ss_set 5 sc__law_keeps.nd (se_tup (sa_cons se_int (sa_cons se_int sa_nil)))) (sss_cons (ss_for rfl (si_range1 rfl T.n_range (sa_cons (se_callB (fun _ _ => call_len) lenS rfl T.n_len PySem.boot_len (sab_cons (sb_name 1) sab_nil)) sa_nil)) (stg_name 6 sc__law_keeps.nd) (sss_one (ss_set 5 sc__law_keeps.nd (se_call (ok__law_plus T) (hr.mono (by decide)) rfl T.g__law_plus T.f__law_plus.kp (bi__law_plus T) (sa_cons (se_name 5) (sa_cons (se_call (ok__law_times T) (hr.mono (by decide)) rfl T.g__law_times T.f__law_times.kp (bi__law_times T) (sa_cons (se_ix (sb_name 2) (se_name 6)) (sa_cons (se_ix (sb_name 1) (se_name 6)) sa_nil))) sa_nil)))))) (sss_one (ss_if (st_tru (sb_of (se_call (ok__law_less T) (hr.mono (by decide)) rfl T.g__law_less T.f__law_less.kp (bi__law_less T) (sa_cons (se_name 4) (sa_cons (se_name 5) sa_nil))))) (sss_one (ss_ret se_bl)) sss_nil))))) (sss_one (ss_ret se_bl))))

abbrev s__law_odd : Stmt := top 60
theorem sc__law_odd : FnScope ["weighing", "number", "scale", "day", "lots", "reading", "menu"] ["weighing", "number"] (defScope s__law_odd) := ⟨rfl, rfl, rfl, by decide +kernel, rfl, by decide +kernel, by decide +kernel⟩
theorem bi__law_odd (T : Txt K mg) : Binds K (fdOf K ("_law_odd", none)) ["weighing", "number"] [] := T.f__law_odd.bindsN fun _ _ _ _ _ _ us hl => match us, hl with | [_, _], _ => rfl
set_option maxHeartbeats 4100000 in
theorem ok__law_odd (T : Txt K mg) : FnS P w K mg base 1 (He.ga K "_law_odd") (fdOf K ("_law_odd", none)) ["weighing", "number"] d__law_odd :=
  fns_ok (k := 0) (N := ["weighing", "number", "scale", "day", "lots", "reading", "menu"]) (ps := ["weighing", "number"]) (n := 2) (m := 5) (g := b__law_odd) T.f__law_odd sc__law_odd rfl rfl (fun cdv A outer s H E hr => by
    exact (sss_cons (ss_tg (se_name 0) (stg_tup rfl (stgs_cons (stg_name 2 sc__law_odd.nd) (stgs_cons (stg_name 3 sc__law_odd.nd) (stgs_cons (stg_name 4 sc__law_odd.nd) (stgs_cons (stg_name 5 sc__law_odd.nd) stgs_nil)))))) (sss_cons (ss_set 6 sc__law_odd.nd (se_lst (sa_cons (se_tup (sa_cons se_str (sa_cons (se_name 3) (sa_cons (se_name 4) (sa_cons (se_name 5) sa_nil))))) (sa_cons (se_tup (sa_cons se_str (sa_cons (se_name 3) (sa_cons (se_name 4) (sa_cons (se_name 5) sa_nil))))) (sa_cons (se_tup (sa_cons (se_name 2) (sa_cons (se_neg se_int) (sa_cons (se_name 4) (sa_cons (se_name 5) sa_nil))))) (sa_cons (se_tup (sa_cons (se_name 2) (sa_cons se_int (sa_cons (se_name 4) (sa_cons (se_name 5) sa_nil))))) sa_nil)))))) (sss_cons (ss_set 6 sc__law_odd.nd (se_add (sb_name 6) (sb_of (se_lst (sa_cons (se_tup (sa_cons (se_name 2) (sa_cons (se_name 3) (sa_cons (se_tup sa_nil) (sa_cons (se_name 5) sa_nil))))) (sa_cons (se_tup (sa_cons (se_name 2) (sa_cons (se_name 3) (sa_cons (se_tup (sa_cons se_int (sa_cons se_int sa_nil))) (sa_cons (se_name 5) sa_nil))))) (sa_cons (se_tup (sa_cons (se_name 2) (sa_cons (se_name 3) (sa_cons (se_tup (sa_cons se_int (sa_cons se_int sa_nil))) (sa_cons (se_name 5) sa_nil))))) (sa_cons (se_tup (sa_cons (se_name 2) (sa_cons (se_name 3) (sa_cons (se_tup (sa_cons (se_neg se_int) (sa_cons se_int sa_nil))) (sa_cons (se_name 5) sa_nil))))) sa_nil)))))))) (sss_cons (ss_set 6 sc__law_odd.nd (se_add (sb_name 6) (sb_of (se_lst (sa_cons (se_tup (sa_cons (se_name 2) (sa_cons (se_name 3) (sa_cons (se_tup (sa_cons se_int sa_nil)) (sa_cons (se_name 5) sa_nil))))) (sa_cons (se_tup (sa_cons (se_name 2) (sa_cons (se_name 3) (sa_cons (se_tup (sa_cons se_int (sa_cons se_int (sa_cons se_int (sa_cons se_int (sa_cons se_int (sa_cons se_int (sa_cons se_int (sa_cons se_int (sa_cons se_int sa_nil)))))))))) (sa_cons (se_name 5) sa_nil))))) (sa_cons (se_tup (sa_cons (se_name 2) (sa_cons (se_name 3) (sa_cons (se_name 4) (sa_cons (se_tup (sa_cons (se_neg se_int) (sa_cons se_int sa_nil))) sa_nil))))) sa_nil))))))) (sss_one (ss_ret (se_ix (sb_of (se_add (sb_name 6) (sb_of (se_lst (sa_cons (se_tup (sa_cons (se_name 2) (sa_cons (se_name 3) (sa_cons (se_name 4) (sa_cons (se_tup (sa_cons se_int (sa_cons se_int sa_nil))) sa_nil))))) sa_nil))))) (se_mod (se_callT (fun _ _ => call_int1) intS rfl T.n_int (by decide +kernel) (sab_cons (sb_name 1) sab_nil)) se_int)))))))))

abbrev s__law_spread : Stmt := top 57
theorem sc__law_spread : FnScope ["total", "places", "width", "numbers", "k", "row", "left", "part"] ["total", "places", "width", "numbers"] (defScope s__law_spread) := ⟨rfl, rfl, rfl, by decide +kernel, rfl, by decide +kernel, by decide +kernel⟩
theorem bi__law_spread (T : Txt K mg) : Binds K (fdOf K ("_law_spread", none)) ["total", "places", "width", "numbers"] [] := T.f__law_spread.bindsN fun _ _ _ _ _ _ us hl => match us, hl with | [_, _, _, _], _ => rfl
set_option maxHeartbeats 4100000 in
theorem ok__law_spread (T : Txt K mg) : FnS P w K mg base 4 (He.ga K "_law_spread") (fdOf K ("_law_spread", none)) ["total", "places", "width", "numbers"] d__law_spread :=
  fns_ok (k := 3) (N := ["total", "places", "width", "numbers", "k", "row", "left", "part"]) (ps := ["total", "places", "width", "numbers"]) (n := 4) (m := 4) (g := b__law_spread) T.f__law_spread sc__law_spread rfl rfl (fun cdv A outer s H E hr => by
    exact (sss_cons (ss_lc 5 [("k", 4)] own_of rfl sc__law_spread.nd (si_j (si_range1 rfl T.n_range (sa_cons (se_name 2) sa_nil))) (blkOk_by (by kernel_rfl)) (fun _ _ _ _ _ => (stg_name 4 sc__law_spread.nd)) (fun _ _ _ _ _ => sts_nil) (fun _ _ _ _ _ => (se_call (ok__law_drawn T) (hr.mono (by decide)) rfl T.g__law_drawn T.f__law_drawn.kp (bi__law_drawn T) (sa_cons (se_ix (sb_name 3) (se_mod (se_callT (fun _ _ => call_int1) intS rfl T.n_int (by decide +kernel) (sab_cons (sb_name 4) sab_nil)) (se_callB (fun _ _ => call_len) lenS rfl T.n_len PySem.boot_len (sab_cons (sb_name 3) sab_nil)))) (sa_cons se_int sa_nil)))) (hsw := fun X' e => by rw [e]; exact sw_true rfl rfl rfl (by decide +kernel))) (sss_cons (ss_set 6 sc__law_spread.nd (se_name 0)) (sss_cons (ss_for rfl (si_range1 rfl T.n_range (sa_cons (se_callB (fun _ _ => call_len) lenS rfl T.n_len PySem.boot_len (sab_cons (sb_name 1) sab_nil)) sa_nil)) (stg_name 4 sc__law_spread.nd) (sss_cons (ss_set 7 sc__law_spread.nd (se_call (ok__law_times T) (hr.mono (by decide)) rfl T.g__law_times T.f__law_times.kp (bi__law_times T) (sa_cons (se_name 6) (sa_cons (se_call (ok__law_ratio T) (hr.mono (by decide)) rfl T.g__law_ratio T.f__law_ratio.kp (bi__law_ratio T) (sa_cons (se_mod (se_callT (fun _ _ => call_int1) intS rfl T.n_int (by decide +kernel) (sab_cons (sb_of (se_ix (sb_name 3) (se_mod (se_callT (fun _ _ => call_int1) intS rfl T.n_int (by decide +kernel) (sab_cons (sb_name 4) sab_nil)) (se_callB (fun _ _ => call_len) lenS rfl T.n_len PySem.boot_len (sab_cons (sb_name 3) sab_nil))))) sab_nil)) se_int) (sa_cons se_int sa_nil))) sa_nil)))) (sss_cons (ss_if (ST_of_SW (sw_or (st_eq (hu_room hr) (sb_of (se_add (sb_name 4) (sb_of se_int))) (sb_of (se_callB (fun _ _ => call_len) lenS rfl T.n_len PySem.boot_len (sab_cons (sb_name 1) sab_nil)))) (sw_or1 (st_tru (sb_of (se_call (ok__law_less T) (hr.mono (by decide)) rfl T.g__law_less T.f__law_less.kp (bi__law_less T) (sa_cons (se_name 6) (sa_cons (se_name 7) sa_nil)))))))) (sss_one (ss_set 7 sc__law_spread.nd (se_name 6))) sss_nil) (sss_cons (ss_put 5 (se_name 7) (se_ix (sb_name 1) (se_name 4))) (sss_one (ss_set 6 sc__law_spread.nd (se_call (ok__law_minus T) (hr.mono (by decide)) rfl T.g__law_minus T.f__law_minus.kp (bi__law_minus T) (sa_cons (se_name 6) (sa_cons (se_name 7) sa_nil))))))))) (sss_one (ss_ret (se_callT (fun _ _ => call_tuple_of) tupleS rfl T.n_tuple (by decide +kernel) (sab_cons (sb_name 5) sab_nil))))))))

abbrev s_law : Stmt := top 62
theorem sc_law : FnScope ["script", "k", "numbers", "drawer", "scale", "day", "lots", "weighing", "width", "places", "kept", "told", "between", "total", "inside", "bad", "lot"] ["script"] (defScope s_law) := ⟨rfl, rfl, rfl, by decide +kernel, rfl, by decide +kernel, by decide +kernel⟩
theorem bi_law (T : Txt K mg) : Binds K (fdOf K ("law", none)) ["script"] [] := T.f_law.bindsN fun _ _ _ _ _ _ us hl => match us, hl with | [_], _ => rfl
set_option maxHeartbeats 4100000 in
theorem ok_law (T : Txt K mg) : FnS P w K mg base 7 (He.ga K "law") (fdOf K ("law", none)) ["script"] d_law :=
  fns_ok (k := 6) (N := ["script", "k", "numbers", "drawer", "scale", "day", "lots", "weighing", "width", "places", "kept", "told", "between", "total", "inside", "bad", "lot"]) (ps := ["script"]) (n := 1) (m := 16) (g := b_law) T.f_law sc_law rfl rfl (fun cdv A outer s H E hr => by
    exact (sss_cons (ss_for rfl (si_range1 rfl T.n_range (sa_cons (se_callB (fun pn xe => call_max2 (X := Cx.tr _ pn xe) rfl) maxS rfl T.n_max (by decide +kernel) (sab_cons (sb_of se_int) (sab_cons (sb_of (se_callB (fun pn xe => call_min2 (X := Cx.tr _ pn xe) rfl) minS rfl T.n_min (by decide +kernel) (sab_cons (sb_of (se_callB (fun _ _ => call_len) lenS rfl T.n_len PySem.boot_len (sab_cons (sb_name 0) sab_nil))) (sab_cons (sb_of se_int) sab_nil)))) sab_nil))) sa_nil)) (stg_name 1 sc_law.nd) (sss_cons (ss_set 2 sc_law.nd (se_call (ok__law_numbers T) (hr.mono (by decide)) rfl T.g__law_numbers T.f__law_numbers.kp (bi__law_numbers T) (sa_cons (se_call (ok__law_cell T) (hr.mono (by decide)) rfl T.g__law_cell T.f__law_cell.kp (bi__law_cell T) (sa_cons (se_name 0) (sa_cons (se_name 1) sa_nil))) (sa_cons (se_name 1) (sa_cons se_int sa_nil))))) (sss_cons (ss_set 3 sc_law.nd (se_call (ok__law_drawer T) (hr.mono (by decide)) rfl T.g__law_drawer T.f__law_drawer.kp (bi__law_drawer T) (sa_cons (se_name 2) (sa_cons se_int sa_nil)))) (sss_cons (ss_tg (se_call (ok__law_day T) (hr.mono (by decide)) rfl T.g__law_day T.f__law_day.kp (bi__law_day T) (sa_cons (se_sl (sb_name 2) (sp_so se_int) (sp_so se_int)) (sa_cons (se_name 3) sa_nil))) (stg_tup rfl (stgs_cons (stg_name 4 sc_law.nd) (stgs_cons (stg_name 5 sc_law.nd) stgs_nil)))) (sss_cons (ss_set 6 sc_law.nd (se_callT (fun _ _ => call_tuple_of) tupleS rfl T.n_tuple (by decide +kernel) (sab_cons (sb_of (se_sl (sb_of (se_fr (sf_lc [("lot", 16)] rfl sc_law.nd (si_j (si_range1 rfl T.n_range (sa_cons se_int sa_nil))) (blkOk_by (by kernel_rfl)) (fun _ _ _ _ _ => (stg_name 16 sc_law.nd)) (fun _ _ _ _ _ => (sts_one (st_eq (hu_room hr) (sb_of (se_mod (se_fdiv (se_callT (fun _ _ => call_int1) intS rfl T.n_int (by decide +kernel) (sab_cons (sb_of (se_ix (sb_name 2) se_int)) sab_nil)) (se_add (sb_of se_int) (sb_name 16))) se_int)) (sb_of se_int)))) (fun _ _ _ _ _ => (se_name 16))))) sp_no (sp_so se_int))) sab_nil))) (sss_cons (ss_set 7 sc_law.nd (se_tup (sa_cons (se_name 4) (sa_cons (se_name 5) (sa_cons (se_add (sb_name 6) (sb_of (se_mulT (sb_of (se_tup (sa_cons se_int sa_nil))) (se_callT (fun _ _ => call_int1) intS rfl T.n_int (by decide +kernel) (sab_cons (sb_of (se_eq (hu_room hr) (sb_of (se_callB (fun _ _ => call_len) lenS rfl T.n_len PySem.boot_len (sab_cons (sb_name 6) sab_nil))) (sb_of se_int))) sab_nil))))) (sa_cons (se_call (ok__law_drawn T) (hr.mono (by decide)) rfl T.g__law_drawn T.f__law_drawn.kp (bi__law_drawn T) (sa_cons (se_ix (sb_name 2) se_int) (sa_cons (se_ix (sb_of (se_lst (sa_cons se_int (sa_cons se_int sa_nil)))) (se_mod (se_callT (fun _ _ => call_int1) intS rfl T.n_int (by decide +kernel) (sab_cons (sb_of (se_ix (sb_name 2) se_int)) sab_nil)) se_int)) sa_nil))) sa_nil)))))) (sss_cons (ss_if (ST_of_SW (sw_or (st_isnt (sb_of (se_call (ok_check_weighing T) (hr.mono (by decide)) rfl T.g_check_weighing T.f_check_weighing.kp (bi_check_weighing T) (sa_cons (se_name 7) sa_nil))) (sb_of se_non)) (sw_or1 (st_not (st_tru (sb_of (se_call (ok__law_refused T) (hr.mono (by decide)) rfl T.g__law_refused T.f__law_refused.kp (bi__law_refused T) (sa_cons se_int (sa_cons (se_call (ok__law_odd T) (hr.mono (by decide)) rfl T.g__law_odd T.f__law_odd.kp (bi__law_odd T) (sa_cons (se_name 7) (sa_cons (se_ix (sb_name 2) se_int) sa_nil))) sa_nil))))))))) (sss_one (ss_ret se_bl)) sss_nil) (sss_cons (ss_set 8 sc_law.nd (se_add (sb_of se_int) (sb_of (se_mod (se_callT (fun _ _ => call_int1) intS rfl T.n_int (by decide +kernel) (sab_cons (sb_of (se_ix (sb_name 2) se_int)) sab_nil)) se_int)))) (sss_cons (ss_set 9 sc_law.nd (se_call (ok__law_places T) (hr.mono (by decide)) rfl T.g__law_places T.f__law_places.kp (bi__law_places T) (sa_cons (se_sl (sb_name 2) (sp_so se_int) (sp_so se_int)) (sa_cons (se_name 8) sa_nil)))) (sss_cons (ss_set 10 sc_law.nd (se_callT (fun _ _ => call_list_of) listS rfl T.n_list (by decide +kernel) (sab_cons (sb_name 9) sab_nil))) (sss_cons (ss_set 11 sc_law.nd (se_call (ok_weighing_conditions T) (hr.mono (by decide)) rfl T.g_weighing_conditions T.f_weighing_conditions.kp (bi_weighing_conditions T) (sa_cons (se_name 3) (sa_cons (se_name 7) (sa_cons (se_name 9) (sa_cons (se_name 8) sa_nil)))))) (sss_cons (ss_if (ST_of_SW (sw_or (st_not (st_tru (sb_of (se_isTy (sb_name 11) (by decide +kernel) rfl T.n_isinstance rfl T.n_list (by decide +kernel))))) (sw_or (st_ne (hu_room hr) (sb_name 11) (sb_of (se_call (ok__law_conditions T) (hr.mono (by decide)) rfl T.g__law_conditions T.f__law_conditions.kp (bi__law_conditions T) (sa_cons (se_name 3) (sa_cons (se_name 7) (sa_cons (se_name 9) (sa_cons (se_name 8) sa_nil))))))) (sw_or1 (st_ne (hu_room hr) (sb_name 9) (sb_name 10)))))) (sss_one (ss_ret se_bl)) sss_nil) (sss_cons (ss_set 12 sc_law.nd (se_call (ok__law_ends T) (hr.mono (by decide)) rfl T.g__law_ends T.f__law_ends.kp (bi__law_ends T) (sa_cons (se_name 3) (sa_cons (se_name 7) sa_nil)))) (sss_cons (ss_for rfl (si_seq (se_call (ok__law_sums T) (hr.mono (by decide)) rfl T.g__law_sums T.f__law_sums.kp (bi__law_sums T) (sa_cons (se_name 12) (sa_cons (se_sl (sb_name 2) (sp_so se_int) (sp_so se_int)) sa_nil)))) (stg_name 13 sc_law.nd) (sss_cons (ss_set 14 sc_law.nd (se_and (se_isnt (sb_name 12) (sb_of se_non)) (se_one (se_not (se_call (ok__law_less T) (hr.mono (by decide)) rfl T.g__law_less T.f__law_less.kp (bi__law_less T) (sa_cons (se_name 13) (sa_cons (se_ix (sb_name 12) se_int) sa_nil))))))) (sss_cons (ss_set 14 sc_law.nd (se_and (se_name 14) (se_one (se_or (se_is (sb_of (se_ix (sb_name 12) se_int)) (sb_of se_non)) (se_one (se_not (se_call (ok__law_less T) (hr.mono (by decide)) rfl T.g__law_less T.f__law_less.kp (bi__law_less T) (sa_cons (se_ix (sb_name 12) se_int) (sa_cons (se_name 13) sa_nil))))))))) (sss_one (ss_if (st_ne (hu_room hr) (sb_of (se_call (ok__law_keeps T) (hr.mono (by decide)) rfl T.g__law_keeps T.f__law_keeps.kp (bi__law_keeps T) (sa_cons (se_name 11) (sa_cons (se_call (ok__law_spread T) (hr.mono (by decide)) rfl T.g__law_spread T.f__law_spread.kp (bi__law_spread T) (sa_cons (se_name 13) (sa_cons (se_name 9) (sa_cons (se_name 8) (sa_cons (se_sl (sb_name 2) (sp_so se_int) (sp_so se_int)) sa_nil))))) sa_nil)))) (sb_name 14)) (sss_one (ss_ret se_bl)) sss_nil))))) (sss_one (ss_for rfl (si_seq (se_tup (sa_cons (se_add (sb_name 9) (sb_of (se_lst (sa_cons (se_name 8) sa_nil)))) (sa_cons (se_add (sb_name 9) (sb_of (se_lst (sa_cons (se_neg se_int) sa_nil)))) (sa_cons (se_add (sb_name 9) (sb_of (se_sl (sb_name 9) sp_no (sp_so se_int)))) sa_nil))))) (stg_name 15 sc_law.nd) (sss_one (ss_if (st_not (st_tru (sb_of (se_call (ok__law_refused T) (hr.mono (by decide)) rfl T.g__law_refused T.f__law_refused.kp (bi__law_refused T) (sa_cons se_int (sa_cons (se_tup (sa_cons (se_name 3) (sa_cons (se_name 7) (sa_cons (se_name 15) (sa_cons (se_name 8) sa_nil))))) sa_nil)))))) (sss_one (ss_ret se_bl)) sss_nil)))))))))))))))))) (sss_one (ss_ret (se_eq (hu_room hr) (sb_of (se_call (ok_weighing_conditions T) (hr.mono (by decide)) rfl T.g_weighing_conditions T.f_weighing_conditions.kp (bi_weighing_conditions T) (sa_cons (se_tup sa_nil) (sa_cons (se_tup (sa_cons se_str (sa_cons se_int (sa_cons (se_tup (sa_cons se_int sa_nil)) (sa_cons (se_tup (sa_cons se_int (sa_cons se_int sa_nil))) sa_nil))))) (sa_cons (se_lst (sa_cons se_int sa_nil)) (sa_cons se_int sa_nil)))))) (sb_of (se_lst sa_nil)))))))

end
def df (x : String) (i : Nat) : He.DefD := ⟨(Str.ofString x, none), Str.ofString x, Str.ofString x, defArgs (top i), defBody (top i), defScope (top i), [], []⟩
def fn : List He.DefD := [df "common" 6, df "ratio" 7, df "is_ratio" 8, df "of_int" 9, df "plus" 10, df "negated" 11, df "minus" 12, df "times" 13, df "over" 14, df "sign_of" 15, df "compare" 16, df "is_scale" 22, df "is_day" 23, df "is_weight" 24, df "check_scale" 25, df "check_day" 26, df "is_counting" 27, df "counting" 28, df "check_weight" 33, df "limits" 34, df "greater_of" 35, df "lesser_of" 36, df "ends" 37, df "check_weighing" 38, df "weighing_conditions" 39, df "_law_cell" 41, df "_law_numbers" 42, df "_law_ratio" 43, df "_law_plus" 44, df "_law_times" 45, df "_law_less" 46, df "_law_drawn" 47, df "_law_minus" 48, df "_law_paper" 49, df "_law_drawer" 50, df "_law_counting" 51, df "_law_slacks" 52, df "_law_day" 53, df "_law_conditions" 54, df "_law_keeps" 55, df "_law_ends" 56, df "_law_spread" 57, df "_law_sums" 58, df "_law_refused" 59, df "_law_odd" 60, df "_law_places" 61, df "law" 62]
def fa : List He.Fa := [.glo "common", .glo "ratio", .glo "is_ratio", .glo "of_int", .glo "plus", .glo "negated", .glo "minus", .glo "times", .glo "over", .glo "sign_of", .glo "compare", .glo "is_scale", .glo "is_day", .glo "is_weight", .glo "check_scale", .glo "check_day", .glo "is_counting", .glo "counting", .glo "check_weight", .glo "limits", .glo "greater_of", .glo "lesser_of", .glo "ends", .glo "check_weighing", .glo "weighing_conditions", .glo "_law_cell", .glo "_law_numbers", .glo "_law_ratio", .glo "_law_plus", .glo "_law_times", .glo "_law_less", .glo "_law_drawn", .glo "_law_minus", .glo "_law_paper", .glo "_law_drawer", .glo "_law_counting", .glo "_law_slacks", .glo "_law_day", .glo "_law_conditions", .glo "_law_keeps", .glo "_law_ends", .glo "_law_spread", .glo "_law_sums", .glo "_law_refused", .glo "_law_odd", .glo "_law_places", .glo "law", .free "abs", .free "all", .free "enumerate", .free "int", .free "isinstance", .free "len", .free "list", .free "max", .free "min", .free "range", .free "set", .free "sorted", .free "tuple", .glo "KerbError", .exc "KerbError", .glo "Missing", .exc "Missing", .glo "Never", .exc "Never", .glo "NotAllowed", .exc "NotAllowed", .exm "KerbError" "Never" false, .exm "KerbError" "NotAllowed" false, .exm "Missing" "Never" false, .exm "Missing" "NotAllowed" false, .exm "Never" "Never" true, .exm "Never" "NotAllowed" false, .exm "NotAllowed" "Never" false, .exm "NotAllowed" "NotAllowed" true, .int "MAX_DAY" (999), .int "MAX_NAME" (4), .str "LETTERS" "abcdefghijklmnopqrstuvwxyz", .int "MAX_WEIGHED" (8), .int "MAX_NUMBER" (99)]
def ex : List (PySem.W.Frag → Bool) := [conB "ONE" (.tup [.int 1, .int 1]), conB "ZERO" (.tup [.int 0, .int 1]), (fun K => excCB K "Never"), (fun K => excCB K "NotAllowed"), (fun K => kitF K "NotAllowed" "KerbError" true), (fun K => kitF K "NotAllowed" "Missing" false)]
def loose : List Str := (["KerbError", "NotAllowed", "Missing", "Never", "common", "ratio", "is_ratio", "of_int", "plus", "negated", "minus", "times", "over", "sign_of", "compare", "is_scale", "is_day", "is_weight", "check_scale", "check_day", "is_counting", "counting", "check_weight", "limits", "greater_of", "lesser_of", "ends", "check_weighing", "weighing_conditions", "_law_cell"] : List Str) ++ (["_law_numbers", "_law_ratio", "_law_plus", "_law_times", "_law_less", "_law_drawn", "_law_minus", "_law_paper", "_law_drawer", "_law_counting", "_law_slacks", "_law_day", "_law_conditions", "_law_keeps", "_law_ends", "_law_spread", "_law_sums", "_law_refused", "_law_odd", "_law_places", "MAX_DAY", "MAX_NAME", "LETTERS", "ONE", "ZERO", "MAX_WEIGHED", "MAX_NUMBER"] : List Str)
abbrev R : PySem.W.OpenRow := PySem.W.OpenLaw.row PySem.Challenge.rw_kerbwise_k24_conditions_of_weighings
abbrev hk : PySem.W.Hook := hookY 4 fa fn (exB ex)
def ob (s : PySem.W.SharedT) : AlY := obsY 4 fa fn (exB ex) (HandSHeadRun.getT s)
theorem ob_eq (s : PySem.W.SharedT) : ob s = hk.obs s.abs := obsY_eq (HandSHeadRun.getT_eq s)
theorem run (w : World) : HandSHeadRun.RunEq R (PySem.W.view R.prog [62]) hk ob 7780 loose w := by
  intro os
  kernel_rfl
theorem txt {K : PySem.W.Frag} {h : Heap} {mg : Str → Option Value} (X : K.In h) (G : h.Ns mainGlobals mg) (c : He.SaysD fa fn K) (e : exB ex K = true) : Txt K mg where
  g_common := He.glo_ok X G (c.fact 0 (f := .glo "common") rfl)
  f_common := fd_of (c.def_ 0 (d := df "common" 6) rfl)
  g_ratio := He.glo_ok X G (c.fact 1 (f := .glo "ratio") rfl)
  f_ratio := fd_of (c.def_ 1 (d := df "ratio" 7) rfl)
  g_is_ratio := He.glo_ok X G (c.fact 2 (f := .glo "is_ratio") rfl)
  f_is_ratio := fd_of (c.def_ 2 (d := df "is_ratio" 8) rfl)
  g_of_int := He.glo_ok X G (c.fact 3 (f := .glo "of_int") rfl)
  f_of_int := fd_of (c.def_ 3 (d := df "of_int" 9) rfl)
  g_plus := He.glo_ok X G (c.fact 4 (f := .glo "plus") rfl)
  f_plus := fd_of (c.def_ 4 (d := df "plus" 10) rfl)
  g_negated := He.glo_ok X G (c.fact 5 (f := .glo "negated") rfl)
  f_negated := fd_of (c.def_ 5 (d := df "negated" 11) rfl)
  g_minus := He.glo_ok X G (c.fact 6 (f := .glo "minus") rfl)
  f_minus := fd_of (c.def_ 6 (d := df "minus" 12) rfl)
  g_times := He.glo_ok X G (c.fact 7 (f := .glo "times") rfl)
  f_times := fd_of (c.def_ 7 (d := df "times" 13) rfl)
  g_over := He.glo_ok X G (c.fact 8 (f := .glo "over") rfl)
  f_over := fd_of (c.def_ 8 (d := df "over" 14) rfl)
  g_sign_of := He.glo_ok X G (c.fact 9 (f := .glo "sign_of") rfl)
  f_sign_of := fd_of (c.def_ 9 (d := df "sign_of" 15) rfl)
  g_compare := He.glo_ok X G (c.fact 10 (f := .glo "compare") rfl)
  f_compare := fd_of (c.def_ 10 (d := df "compare" 16) rfl)
  g_is_scale := He.glo_ok X G (c.fact 11 (f := .glo "is_scale") rfl)
  f_is_scale := fd_of (c.def_ 11 (d := df "is_scale" 22) rfl)
  g_is_day := He.glo_ok X G (c.fact 12 (f := .glo "is_day") rfl)
  f_is_day := fd_of (c.def_ 12 (d := df "is_day" 23) rfl)
  g_is_weight := He.glo_ok X G (c.fact 13 (f := .glo "is_weight") rfl)
  f_is_weight := fd_of (c.def_ 13 (d := df "is_weight" 24) rfl)
  g_check_scale := He.glo_ok X G (c.fact 14 (f := .glo "check_scale") rfl)
  f_check_scale := fd_of (c.def_ 14 (d := df "check_scale" 25) rfl)
  g_check_day := He.glo_ok X G (c.fact 15 (f := .glo "check_day") rfl)
  f_check_day := fd_of (c.def_ 15 (d := df "check_day" 26) rfl)
  g_is_counting := He.glo_ok X G (c.fact 16 (f := .glo "is_counting") rfl)
  f_is_counting := fd_of (c.def_ 16 (d := df "is_counting" 27) rfl)
  g_counting := He.glo_ok X G (c.fact 17 (f := .glo "counting") rfl)
  f_counting := fd_of (c.def_ 17 (d := df "counting" 28) rfl)
  g_check_weight := He.glo_ok X G (c.fact 18 (f := .glo "check_weight") rfl)
  f_check_weight := fd_of (c.def_ 18 (d := df "check_weight" 33) rfl)
  g_limits := He.glo_ok X G (c.fact 19 (f := .glo "limits") rfl)
  f_limits := fd_of (c.def_ 19 (d := df "limits" 34) rfl)
  g_greater_of := He.glo_ok X G (c.fact 20 (f := .glo "greater_of") rfl)
  f_greater_of := fd_of (c.def_ 20 (d := df "greater_of" 35) rfl)
  g_lesser_of := He.glo_ok X G (c.fact 21 (f := .glo "lesser_of") rfl)
  f_lesser_of := fd_of (c.def_ 21 (d := df "lesser_of" 36) rfl)
  g_ends := He.glo_ok X G (c.fact 22 (f := .glo "ends") rfl)
  f_ends := fd_of (c.def_ 22 (d := df "ends" 37) rfl)
  g_check_weighing := He.glo_ok X G (c.fact 23 (f := .glo "check_weighing") rfl)
  f_check_weighing := fd_of (c.def_ 23 (d := df "check_weighing" 38) rfl)
  g_weighing_conditions := He.glo_ok X G (c.fact 24 (f := .glo "weighing_conditions") rfl)
  f_weighing_conditions := fd_of (c.def_ 24 (d := df "weighing_conditions" 39) rfl)
  g__law_cell := He.glo_ok X G (c.fact 25 (f := .glo "_law_cell") rfl)
  f__law_cell := fd_of (c.def_ 25 (d := df "_law_cell" 41) rfl)
  g__law_numbers := He.glo_ok X G (c.fact 26 (f := .glo "_law_numbers") rfl)
  f__law_numbers := fd_of (c.def_ 26 (d := df "_law_numbers" 42) rfl)
  g__law_ratio := He.glo_ok X G (c.fact 27 (f := .glo "_law_ratio") rfl)
  f__law_ratio := fd_of (c.def_ 27 (d := df "_law_ratio" 43) rfl)
  g__law_plus := He.glo_ok X G (c.fact 28 (f := .glo "_law_plus") rfl)
  f__law_plus := fd_of (c.def_ 28 (d := df "_law_plus" 44) rfl)
  g__law_times := He.glo_ok X G (c.fact 29 (f := .glo "_law_times") rfl)
  f__law_times := fd_of (c.def_ 29 (d := df "_law_times" 45) rfl)
  g__law_less := He.glo_ok X G (c.fact 30 (f := .glo "_law_less") rfl)
  f__law_less := fd_of (c.def_ 30 (d := df "_law_less" 46) rfl)
  g__law_drawn := He.glo_ok X G (c.fact 31 (f := .glo "_law_drawn") rfl)
  f__law_drawn := fd_of (c.def_ 31 (d := df "_law_drawn" 47) rfl)
  g__law_minus := He.glo_ok X G (c.fact 32 (f := .glo "_law_minus") rfl)
  f__law_minus := fd_of (c.def_ 32 (d := df "_law_minus" 48) rfl)
  g__law_paper := He.glo_ok X G (c.fact 33 (f := .glo "_law_paper") rfl)
  f__law_paper := fd_of (c.def_ 33 (d := df "_law_paper" 49) rfl)
  g__law_drawer := He.glo_ok X G (c.fact 34 (f := .glo "_law_drawer") rfl)
  f__law_drawer := fd_of (c.def_ 34 (d := df "_law_drawer" 50) rfl)
  g__law_counting := He.glo_ok X G (c.fact 35 (f := .glo "_law_counting") rfl)
  f__law_counting := fd_of (c.def_ 35 (d := df "_law_counting" 51) rfl)
  g__law_slacks := He.glo_ok X G (c.fact 36 (f := .glo "_law_slacks") rfl)
  f__law_slacks := fd_of (c.def_ 36 (d := df "_law_slacks" 52) rfl)
  g__law_day := He.glo_ok X G (c.fact 37 (f := .glo "_law_day") rfl)
  f__law_day := fd_of (c.def_ 37 (d := df "_law_day" 53) rfl)
  g__law_conditions := He.glo_ok X G (c.fact 38 (f := .glo "_law_conditions") rfl)
  f__law_conditions := fd_of (c.def_ 38 (d := df "_law_conditions" 54) rfl)
  g__law_keeps := He.glo_ok X G (c.fact 39 (f := .glo "_law_keeps") rfl)
  f__law_keeps := fd_of (c.def_ 39 (d := df "_law_keeps" 55) rfl)
  g__law_ends := He.glo_ok X G (c.fact 40 (f := .glo "_law_ends") rfl)
  f__law_ends := fd_of (c.def_ 40 (d := df "_law_ends" 56) rfl)
  g__law_spread := He.glo_ok X G (c.fact 41 (f := .glo "_law_spread") rfl)
  f__law_spread := fd_of (c.def_ 41 (d := df "_law_spread" 57) rfl)
  g__law_sums := He.glo_ok X G (c.fact 42 (f := .glo "_law_sums") rfl)
  f__law_sums := fd_of (c.def_ 42 (d := df "_law_sums" 58) rfl)
  g__law_refused := He.glo_ok X G (c.fact 43 (f := .glo "_law_refused") rfl)
  f__law_refused := fd_of (c.def_ 43 (d := df "_law_refused" 59) rfl)
  g__law_odd := He.glo_ok X G (c.fact 44 (f := .glo "_law_odd") rfl)
  f__law_odd := fd_of (c.def_ 44 (d := df "_law_odd" 60) rfl)
  g__law_places := He.glo_ok X G (c.fact 45 (f := .glo "_law_places") rfl)
  f__law_places := fd_of (c.def_ 45 (d := df "_law_places" 61) rfl)
  g_law := He.glo_ok X G (c.fact 46 (f := .glo "law") rfl)
  f_law := fd_of (c.def_ 46 (d := df "law" 62) rfl)
  n_abs := He.free_ok X G (c.fact 47 (f := .free "abs") rfl)
  n_all := He.free_ok X G (c.fact 48 (f := .free "all") rfl)
  n_enumerate := He.free_ok X G (c.fact 49 (f := .free "enumerate") rfl)
  n_int := He.free_ok X G (c.fact 50 (f := .free "int") rfl)
  n_isinstance := He.free_ok X G (c.fact 51 (f := .free "isinstance") rfl)
  n_len := He.free_ok X G (c.fact 52 (f := .free "len") rfl)
  n_list := He.free_ok X G (c.fact 53 (f := .free "list") rfl)
  n_max := He.free_ok X G (c.fact 54 (f := .free "max") rfl)
  n_min := He.free_ok X G (c.fact 55 (f := .free "min") rfl)
  n_range := He.free_ok X G (c.fact 56 (f := .free "range") rfl)
  n_set := He.free_ok X G (c.fact 57 (f := .free "set") rfl)
  n_sorted := He.free_ok X G (c.fact 58 (f := .free "sorted") rfl)
  n_tuple := He.free_ok X G (c.fact 59 (f := .free "tuple") rfl)
  c_MAX_DAY := let ⟨t, z⟩ := He.int_ok X G (c.fact 76 (f := .int "MAX_DAY" (999)) rfl); ⟨_, (.int 999), z, ⟨t, rfl⟩, fun _ _ _ => rfl⟩
  c_MAX_NAME := let ⟨t, z⟩ := He.int_ok X G (c.fact 77 (f := .int "MAX_NAME" (4)) rfl); ⟨_, (.int 4), z, ⟨t, rfl⟩, fun _ _ _ => rfl⟩
  c_LETTERS := let ⟨t, z⟩ := He.str_ok X G (c.fact 78 (f := .str "LETTERS" "abcdefghijklmnopqrstuvwxyz") rfl); ⟨_, (.str "abcdefghijklmnopqrstuvwxyz"), z, ⟨t, rfl⟩, fun _ _ _ => rfl⟩
  c_ONE := con_ok X G (exB_at e 0 (f := conB "ONE" (.tup [.int 1, .int 1])) rfl)
  c_ZERO := con_ok X G (exB_at e 1 (f := conB "ZERO" (.tup [.int 0, .int 1])) rfl)
  c_MAX_WEIGHED := let ⟨t, z⟩ := He.int_ok X G (c.fact 79 (f := .int "MAX_WEIGHED" (8)) rfl); ⟨_, (.int 8), z, ⟨t, rfl⟩, fun _ _ _ => rfl⟩
  c_MAX_NUMBER := let ⟨t, z⟩ := He.int_ok X G (c.fact 80 (f := .int "MAX_NUMBER" (99)) rfl); ⟨_, (.int 99), z, ⟨t, rfl⟩, fun _ _ _ => rfl⟩
  e_KerbError := exc_of X G (c.fact 60 (f := .glo "KerbError") rfl) (c.fact 61 (f := .exc "KerbError") rfl)
  e_Missing := exc_of X G (c.fact 62 (f := .glo "Missing") rfl) (c.fact 63 (f := .exc "Missing") rfl)
  e_Never := exc_of X G (c.fact 64 (f := .glo "Never") rfl) (c.fact 65 (f := .exc "Never") rfl)
  e_NotAllowed := exc_of X G (c.fact 66 (f := .glo "NotAllowed") rfl) (c.fact 67 (f := .exc "NotAllowed") rfl)
  x_Never := excCB_ok (exB_at e 2 (f := fun K => excCB K "Never") rfl)
  x_NotAllowed := excCB_ok (exB_at e 3 (f := fun K => excCB K "NotAllowed") rfl)
  k_NotAllowed_KerbError := kitF_ok (exB_at e 4 (f := fun K => kitF K "NotAllowed" "KerbError" true) rfl)
  k_NotAllowed_Missing := kitF_ok (exB_at e 5 (f := fun K => kitF K "NotAllowed" "Missing" false) rfl)
  m_KerbError_Never := He.exm_ok (c.fact 68 (f := .exm "KerbError" "Never" false) rfl)
  m_KerbError_NotAllowed := He.exm_ok (c.fact 69 (f := .exm "KerbError" "NotAllowed" false) rfl)
  m_Missing_Never := He.exm_ok (c.fact 70 (f := .exm "Missing" "Never" false) rfl)
  m_Missing_NotAllowed := He.exm_ok (c.fact 71 (f := .exm "Missing" "NotAllowed" false) rfl)
  m_Never_Never := He.exm_ok (c.fact 72 (f := .exm "Never" "Never" true) rfl)
  m_Never_NotAllowed := He.exm_ok (c.fact 73 (f := .exm "Never" "NotAllowed" false) rfl)
  m_NotAllowed_Never := He.exm_ok (c.fact 74 (f := .exm "NotAllowed" "Never" false) rfl)
  m_NotAllowed_NotAllowed := He.exm_ok (c.fact 75 (f := .exm "NotAllowed" "NotAllowed" true) rfl)
set_option maxHeartbeats 4100000 in
/-- the law holds, if its plain function answers True -/
theorem holds (pure : ∀ ns : List Int, ns.length ≤ 63 → (∀ z ∈ ns, bit z ≤ 1048576) → ∃ S', d_law [.scr (ns.map D.int)] [] = .ok (.bl true) S') : PySem.Challenge.rw_kerbwise_k24_conditions_of_weighings.Holds := by
  open PySem.W PySem.Calls in
  w_on; o_law
  refine HandSHeadRun.head_any (r := R) (q := PySem.W.view R.prog [62]) (H := hk) (ob := ob) (M := 7780) (loose := loose) (d := HandSHeadRun.topDef R.prog 62) (kwd := []) ob_eq
    (by kernel_rfl) (fun s => by kernel_rfl) run (by kernel_rfl) (by kernel_rfl) (by kernel_rfl) (by rfl) (by first | assumption | decide +kernel) (by decide +kernel) ⟨rfl, rfl, rfl, rfl, rfl, by decide +kernel⟩ ?hw ?hc
  case hw => w_witness2
  case hc =>
    refine walk_ofY (l := PySem.Challenge.rw_kerbwise_k24_conditions_of_weighings) (n := 63) (k := 7) (x := "script") (CX := fun w => L2.CX (PySem.Challenge.rw_kerbwise_k24_conditions_of_weighings).prog w) rfl (by decide) (by kernel_rfl) ⟨rfl, by decide, by decide⟩ ?F ?C
    case C => exact fun w H s e s' h => law_cx H s e s' h
    case F =>
      intro w mg fa h Y G hmg0
      obtain ⟨K, KX, c, e⟩ := Y
      have T := txt KX G c e
      have hmg : mg ("law" : PySem.Str) = some (.ref fa) := by
        have e : (HandSHeadRun.topDef R.prog 62).name = ("law" : PySem.Str) := by kernel_rfl
        rw [← e]
        exact hmg0
      have ea : fa = He.ga K "law" := by
        have z := hmg.symm.trans T.g_law
        cases z
        rfl
      subst ea
      exact ⟨K, fdOf K ("law", none), spF K mg d_law, KX, fun s u => FunD.bindsA (ps := ["script"]) T.f_law (fun _ _ _ _ _ _ us hl => match us, hl with | [_], _ => rfl) s [u] rfl, fun H a ns hl hb hO hS => law_hsp hO hS (pure ns hl hb), fun base _ _ => ok_law T⟩
end Lk24

set_option linter.all false
set_option maxRecDepth 100000
/-! Kbm: how the plain functions are reckoned. -/
namespace Kb
open PySem
/-! ### while -/
theorem whGo_mono {t : EM Bool} {b : SM} : ∀ (n m : Nat) (env : Env) (S : Store) (o : SO), whGo t b n env S = o → o ≠ .stuck → n ≤ m → whGo t b m env S = o
  | 0, _, _, _, _, h, ho, _ => absurd h.symm ho
  | n + 1, 0, _, _, _, _, _, hm => absurd hm (by omega)
  | n + 1, m + 1, env, S, o, h, ho, hm => by
    rw [whGo] at h ⊢
    cases ht : t env S with
    | stuck => rw [ht] at h; exact h
    | exc c S1 => rw [ht] at h; exact h
    | ok k S1 =>
      rw [ht] at h
      cases k with
      | false => exact h
      | true =>
        simp only [eS, if_true] at h ⊢
        cases hb : b env S1 with
        | stuck => rw [hb] at h; exact h
        | exc c e1 S2 => rw [hb] at h; exact h
        | ok f e1 S2 =>
          rw [hb] at h
          cases f with
          | nx => exact whGo_mono n m e1 S2 o h ho (by omega)
          | ct => exact whGo_mono n m e1 S2 o h ho (by omega)
          | bk => exact h
          | rt d => exact h
theorem sWhile_of {t : EM Bool} {b : SM} {n : Nat} {env : Env} {S : Store} {o : SO} (h : whGo t b n env S = o) (ho : o ≠ .stuck) : sWhile t b env S = o := by
  unfold sWhile
  have ex : ∃ n, whGo t b n env S ≠ .stuck := ⟨n, by rw [h]; exact ho⟩
  rw [dif_pos ex]
  have hc := ex.choose_spec
  rcases Nat.le_total n ex.choose with hle | hle
  · exact whGo_mono n _ env S o h ho hle
  · have := whGo_mono ex.choose n env S _ rfl hc hle
    rw [← this, h]
/-- one turn more -/
theorem sWhile_next {t : EM Bool} {b : SM} {env e1 : Env} {S S1 S2 : Store} {o : SO} (ht : t env S = .ok true S1) (hb : b env S1 = .ok .nx e1 S2) (h : sWhile t b e1 S2 = o) (ho : o ≠ .stuck) : sWhile t b env S = o := by
  have : ∃ n, whGo t b n e1 S2 = o := by
    unfold sWhile at h
    split at h
    · exact ⟨_, h⟩
    · exact absurd h.symm ho
  obtain ⟨n, hn⟩ := this
  refine sWhile_of (n := n + 1) ?_ ho
  rw [whGo, ht]
  simp only [eS, if_true]
  rw [hb]
  exact hn
theorem sWhile_end {t : EM Bool} {b : SM} {env : Env} {S S1 : Store} (ht : t env S = .ok false S1) : sWhile t b env S = .ok .nx env S1 := by
  refine sWhile_of (n := 1) ?_ (by intro h; cases h)
  rw [whGo, ht]
  rfl
/-! ### for -/
/-- by what holds between the turns -/
theorem forGo_inv {tg : Tg} {b : SM} (I : Nat → Env → Store → Prop) {ds : List D} (step : ∀ i d env S, ds[i]? = some d → I i env S → ∃ e1, tg.put d env = some e1 ∧ ∃ e2 S2, (b e1 S = .ok .nx e2 S2 ∨ b e1 S = .ok .ct e2 S2) ∧ I (i + 1) e2 S2) :
    ∀ (n i : Nat) (env : Env) (S : Store), n + i = ds.length → I i env S → ∃ e2 S2, forGo tg b (ds.drop i) env S = .ok .nx e2 S2 ∧ I ds.length e2 S2
  | 0, i, env, S, hn, h => by
    have e : i = ds.length := by omega
    subst e
    rw [List.drop_length]
    exact ⟨env, S, rfl, h⟩
  | n + 1, i, env, S, hn, h => by
    have hi : i < ds.length := by omega
    obtain ⟨e1, hp, e2, S2, hb, h2⟩ := step i _ env S (List.getElem?_eq_getElem hi) h
    obtain ⟨e3, S3, h3, h4⟩ := forGo_inv I step n (i + 1) e2 S2 (by omega) h2
    refine ⟨e3, S3, ?_, h4⟩
    rw [List.drop_eq_getElem_cons hi, forGo, hp]
    dsimp only
    rcases hb with hb | hb
    · rw [hb]; exact h3
    · rw [hb]; exact h3
theorem forGo_all {tg : Tg} {b : SM} (I : Nat → Env → Store → Prop) {ds : List D} {env : Env} {S : Store} (h0 : I 0 env S) (step : ∀ i d env S, ds[i]? = some d → I i env S → ∃ e1, tg.put d env = some e1 ∧ ∃ e2 S2, (b e1 S = .ok .nx e2 S2 ∨ b e1 S = .ok .ct e2 S2) ∧ I (i + 1) e2 S2) :
    ∃ e2 S2, forGo tg b ds env S = .ok .nx e2 S2 ∧ I ds.length e2 S2 := forGo_inv I step ds.length 0 env S (by omega) h0
/-- a loop that may leave early: what holds at its end, however it came -/
theorem forGo_brk {tg : Tg} {b : SM} (I : Nat → Env → Store → Prop) (J : Env → Store → Prop) {ds : List D} (step : ∀ i d env S, ds[i]? = some d → I i env S → ∃ e1, tg.put d env = some e1 ∧ ∃ e2 S2, ((b e1 S = .ok .nx e2 S2 ∨ b e1 S = .ok .ct e2 S2) ∧ I (i + 1) e2 S2) ∨ (b e1 S = .ok .bk e2 S2 ∧ J e2 S2)) (hJ : ∀ env S, I ds.length env S → J env S) :
    ∀ (n i : Nat) (env : Env) (S : Store), n + i = ds.length → I i env S → ∃ e2 S2, forGo tg b (ds.drop i) env S = .ok .nx e2 S2 ∧ J e2 S2
  | 0, i, env, S, hn, h => by
    have e : i = ds.length := by omega
    subst e
    rw [List.drop_length]
    exact ⟨env, S, rfl, hJ env S h⟩
  | n + 1, i, env, S, hn, h => by
    have hi : i < ds.length := by omega
    obtain ⟨e1, hp, e2, S2, hb⟩ := step i _ env S (List.getElem?_eq_getElem hi) h
    rcases hb with ⟨hb, h2⟩ | ⟨hb, h2⟩
    · obtain ⟨e3, S3, h3, h4⟩ := forGo_brk I J step hJ n (i + 1) e2 S2 (by omega) h2
      refine ⟨e3, S3, ?_, h4⟩
      rw [List.drop_eq_getElem_cons hi, forGo, hp]
      dsimp only
      rcases hb with hb | hb
      · rw [hb]; exact h3
      · rw [hb]; exact h3
    · refine ⟨e2, S2, ?_, h2⟩
      rw [List.drop_eq_getElem_cons hi, forGo, hp]
      dsimp only
      rw [hb]
/-- every turn leaves all as it was (but slots that the loop sets) -/
theorem forGo_nil {tg : Tg} {b : SM} {env : Env} {S : Store} : forGo tg b [] env S = .ok .nx env S := rfl
theorem forGo_cons {tg : Tg} {b : SM} {d : D} {ds : List D} {env e1 e2 : Env} {S S2 : Store} (hp : tg.put d env = some e1) (hb : b e1 S = .ok .nx e2 S2) : forGo tg b (d :: ds) env S = forGo tg b ds e2 S2 := by
  rw [forGo, hp]
  dsimp only
  rw [hb]
/-- after a turn -/
def after (o : SO) (k : Env → Store → SO) : SO := match o with
  | .ok .nx e S => k e S
  | .ok .ct e S => k e S
  | .ok .bk e S => .ok .nx e S
  | .ok (.rt d) e S => .ok (.rt d) e S
  | .exc c e S => .exc c e S
  | .stuck => .stuck
@[simp] theorem after_nx {e : Env} {S : Store} {k : Env → Store → SO} : after (.ok .nx e S) k = k e S := (rfl)
@[simp] theorem after_ct {e : Env} {S : Store} {k : Env → Store → SO} : after (.ok .ct e S) k = k e S := (rfl)
@[simp] theorem after_bk {e : Env} {S : Store} {k : Env → Store → SO} : after (.ok .bk e S) k = .ok .nx e S := (rfl)
@[simp] theorem after_rt {e : Env} {S : Store} {d : D} {k : Env → Store → SO} : after (.ok (.rt d) e S) k = .ok (.rt d) e S := (rfl)
/-- a turn of a loop over a row that is known -/
theorem for_turn {i : Nat} {b : SM} {d : D} {ds : List D} {env : Env} {S : Store} : forGo (.nm i) b (d :: ds) env S = after (b (env.set i (.val d)) S) (forGo (.nm i) b ds) := rfl
theorem for_done {tg : Tg} {b : SM} {env : Env} {S : Store} : forGo tg b [] env S = .ok .nx env S := rfl
theorem rngI_length {lo : Int} {n : Nat} : (rngI lo n).length = n := by
  unfold rngI
  rw [List.length_map, List.length_range]
theorem rngI_at {lo : Int} {n i : Nat} {d : D} (h : (rngI lo n)[i]? = some d) : i < n ∧ d = .int (lo + (i : Nat)) := by
  have hi : i < n := by
    have := (List.getElem?_eq_some_iff.mp h).1
    rwa [rngI_length] at this
  refine ⟨hi, ?_⟩
  unfold rngI at h
  rw [List.getElem?_map, List.getElem?_range hi] at h
  exact (Option.some.inj h).symm
/-! ### comprehensions -/
theorem lcGo_map {tg : Tg} {t : EM Bool} {f : EM D} {env : Env} {g : D → D} {S : Store} : ∀ {ds : List D} (acc : List D), (∀ d ∈ ds, ∃ e1, tg.put d env = some e1 ∧ t e1 S = .ok true S ∧ f e1 S = .ok (g d) S) → acc.length + ds.length ≤ LN → lcGo tg t f env ds acc S = .ok (acc ++ ds.map g) S
  | [], acc, _, _ => by rw [List.map_nil, List.append_nil]; rfl
  | d :: ds, acc, h, hl => by
    obtain ⟨e1, h1, h2, h3⟩ := h d List.mem_cons_self
    rw [lcGo, h1]
    dsimp only
    rw [h2]
    dsimp only
    rw [h3]
    dsimp only
    rw [List.length_cons] at hl
    rw [if_pos (by omega : acc.length < LN), lcGo_map (acc ++ [g d]) (fun x hx => h x (List.mem_cons_of_mem _ hx)) (by rw [List.length_append, List.length_singleton]; omega)]
    rw [List.map_cons, List.append_assoc]
    rfl
theorem lcGo_idx {tg : Tg} {t : EM Bool} {f : EM D} {env : Env} {S : Store} : ∀ {ds es : List D} (acc : List D), es.length = ds.length → (∀ (i : Nat) d, ds[i]? = some d → ∃ e1 y, tg.put d env = some e1 ∧ t e1 S = .ok true S ∧ f e1 S = .ok y S ∧ es[i]? = some y) → acc.length + ds.length ≤ LN → lcGo tg t f env ds acc S = .ok (acc ++ es) S
  | [], [], acc, _, _, _ => by rw [List.append_nil]; rfl
  | [], e :: es, acc, hl, _, _ => nomatch hl
  | d :: ds, [], acc, hl, _, _ => nomatch hl
  | d :: ds, e :: es, acc, he, h, hl => by
    obtain ⟨e1, y, h1, h2, h3, h4⟩ := h 0 d rfl
    cases h4
    rw [lcGo, h1]
    dsimp only
    rw [h2]
    dsimp only
    rw [h3]
    dsimp only
    rw [List.length_cons] at hl
    rw [if_pos (by omega : acc.length < LN), lcGo_idx (acc ++ [e]) (by simpa using he) (fun i x hx => by have := h (i + 1) x (by simpa using hx); simpa using this) (by rw [List.length_append, List.length_singleton]; omega)]
    rw [List.append_assoc]
    rfl
theorem lcGo_filter {tg : Tg} {t : EM Bool} {f : EM D} {env : Env} {p : D → Bool} {g : D → D} {S : Store} : ∀ {ds : List D} (acc : List D), (∀ d ∈ ds, ∃ e1, tg.put d env = some e1 ∧ t e1 S = .ok (p d) S ∧ (p d = true → f e1 S = .ok (g d) S)) → acc.length + ds.length ≤ LN → lcGo tg t f env ds acc S = .ok (acc ++ (ds.filter p).map g) S
  | [], acc, _, _ => by rw [List.filter_nil, List.map_nil, List.append_nil]; rfl
  | d :: ds, acc, h, hl => by
    obtain ⟨e1, h1, h2, h3⟩ := h d List.mem_cons_self
    rw [List.length_cons] at hl
    rw [lcGo, h1]
    dsimp only
    rw [h2]
    cases hp : p d with
    | false =>
      dsimp only
      rw [lcGo_filter acc (fun x hx => h x (List.mem_cons_of_mem _ hx)) (by omega), List.filter_cons_of_neg (by rw [hp]; exact Bool.false_ne_true)]
    | true =>
      dsimp only
      rw [h3 hp]
      dsimp only
      rw [if_pos (by omega : acc.length < LN), lcGo_filter (acc ++ [g d]) (fun x hx => h x (List.mem_cons_of_mem _ hx)) (by rw [List.length_append, List.length_singleton]; omega)]
      rw [List.filter_cons_of_pos hp, List.map_cons, List.append_assoc]
      rfl
theorem eLc_of {F : EM (List D)} {tg : Tg} {vs : List Nat} {t : EM Bool} {f : EM D} {env : Env} {S S1 S2 : Store} {ds es : List D} (h1 : F env S = .ok ds S1) (h2 : lcGo tg t f (wipe env vs) ds [] S1 = .ok es S2) : eLc F tg vs t f env S = .ok es S2 := by
  unfold eLc
  rw [h1]
  exact h2
/-! ### reckoning by simp -/
section
variable {α β : Type} {a : α} {env en1 : Env} {S S1 : Store} {c : String} {d : D} {i k : Nat} {f g h : EM D} {t u : EM Bool} {A B : SM} {F : EM (List D)}
@[simp] theorem bind_ok {k : α → Store → Out β} : (Out.ok a S).bind k = k a S := (rfl)
@[simp] theorem bind_exc {k : α → Store → Out β} : (Out.exc c S : Out α).bind k = .exc c S := (rfl)
@[simp] theorem lift_some : lift (some a) S = .ok a S := (rfl)
@[simp] theorem eC_ev : eC d env S = .ok d S := (rfl)
@[simp] theorem eN_ev : eN i env S = lift ((env[i]?).bind slotV) S := (rfl)
@[simp] theorem eB_ev : eB i env S = lift ((env[i]?).bind slotB) S := (rfl)
@[simp] theorem slotV_val : slotV (.val d) = some d := (rfl)
@[simp] theorem slotB_val : slotB (.val d) = some d := (rfl)
@[simp] theorem slotB_own {xs : List D} : slotB (.own xs) = some (.lst xs) := (rfl)
@[simp] theorem e1_ev {op : D → Option D} : e1 op f env S = (f env S).bind fun x S1 => lift (op x) S1 := (rfl)
@[simp] theorem e2_ev {op : D → D → Option D} : e2 op f g env S = (f env S).bind fun x S1 => (g env S1).bind fun y S2 => lift (op x y) S2 := (rfl)
@[simp] theorem aNil_ev : aNil env S = .ok [] S := (rfl)
@[simp] theorem aCons_ev : aCons f F env S = (f env S).bind fun x S1 => (F env S1).bind fun xs S2 => .ok (x :: xs) S2 := (rfl)
@[simp] theorem eA_ev {op : List D → Option D} : eA op F env S = (F env S).bind fun xs S1 => lift (op xs) S1 := (rfl)
@[simp] theorem eF_ev {R : List D → M D} : eF R F env S = (F env S).bind fun xs S1 => R xs S1 := (rfl)
@[simp] theorem tV_ev : tV f env S = (f env S).bind fun x S1 => lift (truD x) S1 := (rfl)
@[simp] theorem tB_ev : tB f env S = (f env S).bind fun x S1 => lift (boolD x) S1 := (rfl)
@[simp] theorem boolD_bl {b : Bool} : boolD (.bl b) = some b := (rfl)
@[simp] theorem truD_bl {b : Bool} : truD (.bl b) = some b := (rfl)
@[simp] theorem tAnd_ev : tAnd t u env S = (t env S).bind fun b S1 => if b = true then u env S1 else .ok false S1 := (rfl)
@[simp] theorem tOr_ev : tOr t u env S = (t env S).bind fun b S1 => if b = true then .ok true S1 else u env S1 := (rfl)
@[simp] theorem tNot_ev : tNot t env S = (t env S).bind fun b S1 => .ok (!b) S1 := (rfl)
@[simp] theorem eIf_ev : eIf t f g env S = (t env S).bind fun b S1 => if b = true then f env S1 else g env S1 := (rfl)
@[simp] theorem eAnd_ev : eAnd f g env S = (f env S).bind fun x S1 => (lift (boolD x) S1).bind fun b S2 => if b = true then g env S2 else .ok (.bl false) S2 := (rfl)
@[simp] theorem eOr_ev : eOr f g env S = (f env S).bind fun x S1 => (lift (boolD x) S1).bind fun b S2 => if b = true then .ok (.bl true) S2 else g env S2 := (rfl)
@[simp] theorem eNot_ev : eNot f env S = (f env S).bind fun x S1 => (lift (boolD x) S1).bind fun b S2 => .ok (.bl (!b)) S2 := (rfl)
@[simp] theorem eCh_ev {op op' : D → D → Option D} : eCh op op' f g h env S = (f env S).bind fun x S1 => (g env S1).bind fun y S2 => (lift (op x y) S2).bind fun z S3 => (lift (boolD z) S3).bind fun b S4 => if b = true then (h env S4).bind fun w S5 => lift (op' y w) S5 else .ok (.bl false) S4 := (rfl)
@[simp] theorem eSl_ev {lo hi : EM (Option Int)} : eSl f lo hi env S = (f env S).bind fun x S1 => (lo env S1).bind fun l S2 => (hi env S2).bind fun u S3 => lift (slD x l u) S3 := (rfl)
@[simp] theorem pNo_ev : pNo env S = .ok none S := (rfl)
theorem pSo_ev {n : Int} (e : f env S = .ok (.int n) S1) : pSo f env S = .ok (some n) S1 := by unfold pSo; rw [e]; rfl
@[simp] theorem eLst_ev : eLst F env S = (F env S).bind fun ds S1 => .ok (.lst ds) S1 := (rfl)
@[simp] theorem fLst_ev : fLst F env S = (F env S).bind fun ds S1 => if ds.length ≤ LN then .ok ds S1 else .stuck := (rfl)
@[simp] theorem fCat_ev : fCat f g env S = (f env S).bind fun x S1 => (g env S1).bind fun y S2 => match x, y with | .lst xs, .lst ys => if xs.length + ys.length ≤ LN then .ok (xs ++ ys) S2 else .stuck | _, _ => .stuck := (rfl)
@[simp] theorem fMul_ev : fMul f g env S = (f env S).bind fun x S1 => (g env S1).bind fun y S2 => match x, y with | .lst xs, .int k => if -100000 ≤ k ∧ k ≤ 100000 ∧ xs.length * k.toNat ≤ LN then .ok (List.replicate k.toNat xs).flatten S2 else .stuck | _, _ => .stuck := (rfl)
@[simp] theorem iS_ev : iS f env S = (f env S).bind fun x S1 => lift (seqD x) S1 := (rfl)
@[simp] theorem iA_ev {op : List D → Option (List D)} : iA op F env S = (F env S).bind fun xs S1 => lift (op xs) S1 := (rfl)
theorem eLc_ev {tg : Tg} {vs : List Nat} : eLc F tg vs t f env S = (F env S).bind fun ds S1 => lcGo tg t f (wipe env vs) ds [] S1 := rfl
@[simp] theorem tYes_ev : tYes env S = .ok true S := (rfl)
@[simp] theorem rng_lit' (n : Nat) (h : n < 4611686018427387904) : rng1D [.int (no_index (OfNat.ofNat n))] = some (rngI 0 n) := rng_nat h
@[simp] theorem wipe_nil : wipe env [] = env := (rfl)
@[simp] theorem wipe_cons {v : Nat} {vs : List Nat} : wipe env (v :: vs) = (wipe env vs).set v .no := (rfl)
@[simp] theorem addD_int {i j : Int} : addD (.int i) (.int j) = some (.int (i + j)) := (rfl)
@[simp] theorem subD_int {i j : Int} : subD (.int i) (.int j) = some (.int (i - j)) := (rfl)
@[simp] theorem negD_int {i : Int} : negD (.int i) = some (.int (-i)) := (rfl)
@[simp] theorem ltD_int {i j : Int} : ltD (.int i) (.int j) = some (.bl (decide (i < j))) := (rfl)
@[simp] theorem leD_int {i j : Int} : leD (.int i) (.int j) = some (.bl (decide (i ≤ j))) := (rfl)
@[simp] theorem gtD_int {i j : Int} : gtD (.int i) (.int j) = some (.bl (decide (j < i))) := (rfl)
@[simp] theorem geD_int {i j : Int} : geD (.int i) (.int j) = some (.bl (decide (j ≤ i))) := (rfl)
@[simp] theorem addI_int {i j : Int} : addI (.int i) (.int j) = some (.int (i + j)) := (rfl)
@[simp] theorem lenD_lst {xs : List D} : lenD [.lst xs] = some (.int xs.length) := (rfl)
@[simp] theorem lenD_tup {xs : List D} : lenD [.tup xs] = some (.int xs.length) := (rfl)
@[simp] theorem lenD_scr {xs : List D} : lenD [.scr xs] = some (.int xs.length) := (rfl)
@[simp] theorem absD_int {i : Int} : absD [.int i] = some (.int (if i < 0 then -i else i)) := (rfl)
@[simp] theorem intD_int {i : Int} : intD [.int i] = some (.int i) := (rfl)
@[simp] theorem intD_bl {b : Bool} : intD [.bl b] = some (.int (if b then 1 else 0)) := (rfl)
@[simp] theorem tupleD_lst {xs : List D} : tupleD [.lst xs] = some (.tup xs) := (rfl)
@[simp] theorem seqD_lst {xs : List D} : seqD (.lst xs) = some xs := (rfl)
@[simp] theorem seqD_tup {xs : List D} : seqD (.tup xs) = some xs := (rfl)
@[simp] theorem isTyD_ev {s : String} : isTyD s d = (tyD d).map fun u => .bl (u == s || (u == "bool" && s == "int")) := (rfl)
@[simp] theorem tyD_int {i : Int} : tyD (.int i) = some "int" := (rfl)
@[simp] theorem tyD_bl {i : Bool} : tyD (.bl i) = some "bool" := (rfl)
@[simp] theorem tyD_tup {i : List D} : tyD (.tup i) = some "tuple" := (rfl)
@[simp] theorem tyD_lst {i : List D} : tyD (.lst i) = some "list" := (rfl)
@[simp] theorem tyD_non : tyD .non = some "NoneType" := (rfl)
@[simp] theorem ixD_t0 {x : D} {xs : List D} : ixD (.tup (x :: xs)) (.int 0) = some x := by
  show (ixN (xs.length + 1) 0).bind (fun j => (x :: xs)[j]?) = some x
  have e : ixN (xs.length + 1) 0 = some 0 := by
    unfold ixN
    rw [if_pos (by omega), if_pos (by omega)]
    rfl
  rw [e]
  rfl
@[simp] theorem ixD_t1 {x y : D} {xs : List D} : ixD (.tup (x :: y :: xs)) (.int 1) = some y := by
  show (ixN (xs.length + 1 + 1) 1).bind (fun j => (x :: y :: xs)[j]?) = some y
  have e : ixN (xs.length + 1 + 1) 1 = some 1 := by
    unfold ixN
    rw [if_pos (by omega), if_pos (by omega)]
    rfl
  rw [e]
  rfl
theorem ixN_nat {n k : Nat} (h : k < n) : ixN n (k : Int) = some k := by
  unfold ixN
  rw [if_pos (by omega), if_pos (by omega), Int.toNat_natCast]
theorem ixD_lst {xs : List D} {k : Nat} {x : D} (h : xs[k]? = some x) : ixD (.lst xs) (.int (k : Int)) = some x := by
  show (ixN xs.length (k : Int)).bind (fun j => xs[j]?) = some x
  rw [ixN_nat (List.getElem?_eq_some_iff.mp h).1]
  exact h
theorem ixD_tup {xs : List D} {k : Nat} {x : D} (h : xs[k]? = some x) : ixD (.tup xs) (.int (k : Int)) = some x := by
  show (ixN xs.length (k : Int)).bind (fun j => xs[j]?) = some x
  rw [ixN_nat (List.getElem?_eq_some_iff.mp h).1]
  exact h
theorem tupD_ok {xs : List D} (h : xs.length ≤ LN) : tupD xs = some (.tup xs) := if_pos h
theorem lstD_ok {xs : List D} (h : xs.length ≤ LN) : lstD xs = some (.lst xs) := if_pos h
@[simp] theorem tupD_0 : tupD [] = some (.tup []) := (rfl)
@[simp] theorem tupD_1 {a : D} : tupD [a] = some (.tup [a]) := (rfl)
@[simp] theorem tupD_2 {a b : D} : tupD [a, b] = some (.tup [a, b]) := (rfl)
@[simp] theorem tupD_3 {a b c : D} : tupD [a, b, c] = some (.tup [a, b, c]) := (rfl)
@[simp] theorem lstD_0 : lstD [] = some (.lst []) := (rfl)
@[simp] theorem lstD_1 {a : D} : lstD [a] = some (.lst [a]) := (rfl)
@[simp] theorem lstD_2 {a b : D} : lstD [a, b] = some (.lst [a, b]) := (rfl)
@[simp] theorem lstD_3 {a b c : D} : lstD [a, b, c] = some (.lst [a, b, c]) := (rfl)
@[simp] theorem lstD_4 {a b c d : D} : lstD [a, b, c, d] = some (.lst [a, b, c, d]) := (rfl)
/-! statements -/
@[simp] theorem sbind_nx {k : Env → Store → SO} : (SO.ok .nx env S).bind k = k env S := (rfl)
@[simp] theorem sbind_rt {k : Env → Store → SO} : (SO.ok (.rt d) env S).bind k = .ok (.rt d) env S := (rfl)
@[simp] theorem sbind_bk {k : Env → Store → SO} : (SO.ok .bk env S).bind k = .ok .bk env S := (rfl)
@[simp] theorem sbind_ct {k : Env → Store → SO} : (SO.ok .ct env S).bind k = .ok .ct env S := (rfl)
@[simp] theorem sbind_exc {k : Env → Store → SO} : (SO.exc c env S).bind k = .exc c env S := (rfl)
@[simp] theorem eS_ok {k : α → Store → SO} : eS (.ok a S) env k = k a S := (rfl)
@[simp] theorem eS_exc {k : α → Store → SO} : eS (.exc c S : Out α) env k = .exc c env S := (rfl)
@[simp] theorem sNil_ev : sNil env S = .ok .nx env S := (rfl)
@[simp] theorem sSeq_ev : sSeq A B env S = (A env S).bind B := (rfl)
@[simp] theorem sExpr_ev : sExpr f env S = eS (f env S) env fun _ S1 => .ok .nx env S1 := (rfl)
@[simp] theorem sSet_ev : sSet i f env S = eS (f env S) env fun d S1 => .ok .nx (env.set i (.val d)) S1 := (rfl)
@[simp] theorem sOwn_ev : sOwn i F env S = eS (F env S) env fun ds S1 => .ok .nx (env.set i (.own ds)) S1 := (rfl)
@[simp] theorem sIf_ev : sIf t A B env S = eS (t env S) env fun c S1 => if c = true then A env S1 else B env S1 := (rfl)
@[simp] theorem sRet_ev : sRet f env S = eS (f env S) env fun d S1 => .ok (.rt d) env S1 := (rfl)
@[simp] theorem sRetN_ev : sRetN env S = .ok (.rt .non) env S := (rfl)
@[simp] theorem sBrk_ev : sBrk env S = .ok .bk env S := (rfl)
@[simp] theorem sCont_ev : sCont env S = .ok .ct env S := (rfl)
@[simp] theorem sRaise_ev : sRaise c env S = .exc c env S := (rfl)
@[simp] theorem sFrz_ev : sFrz i A env S = A (frz i env) S := (rfl)
@[simp] theorem sFor_ev {tg : Tg} : sFor tg F A env S = eS (F env S) env fun ds S1 => forGo tg A ds env S1 := (rfl)
theorem sPar_ev {x y : D} (e : F env S = .ok [x, y] S1) : sPar i k F env S = .ok .nx ((env.set i (.val x)).set k (.val y)) S1 := by unfold sPar; rw [e]; rfl
theorem sTg_ev {tg : Tg} (e : f env S = .ok d S1) (h : tg.put d env = some en1) : sTg tg f env S = .ok .nx en1 S1 := by
  show eS (f env S) env (fun d S1 => match tg.put d env with | some env' => .ok .nx env' S1 | none => .stuck) = _
  rw [e]
  show (match tg.put d env with | some env' => SO.ok .nx env' S1 | none => .stuck) = _
  rw [h]
theorem sApp_ev {xs : List D} (e : env[i]? = some (.own xs)) (h : f env S = .ok d S1) (hl : xs.length < LN) : sApp i f env S = .ok .nx (env.set i (.own (xs ++ [d]))) S1 := by
  unfold sApp
  rw [e]
  dsimp only
  rw [h]
  dsimp only [eS]
  rw [if_pos hl]
theorem sAug_ev {x y z : D} {od : D → D → Option D} (e : (env[i]?).bind slotV = some x) (h : f env S = .ok y S1) (hz : od x y = some z) : sAug i od f env S = .ok .nx (env.set i (.val z)) S1 := by
  unfold sAug
  rw [e]
  dsimp only
  rw [h]
  dsimp only [eS]
  rw [hz]
theorem fnD_rt {n k : Nat} {b : SM} {ds : List D} (hn : ds.length = n) (h : b (ds.map .val ++ List.replicate k .no) S = .ok (.rt d) en1 S1) : fnD n k b ds S = .ok d S1 := by
  unfold fnD
  rw [if_pos hn, h]
theorem fnD_nx {n k : Nat} {b : SM} {ds : List D} (hn : ds.length = n) (h : b (ds.map .val ++ List.replicate k .no) S = .ok .nx en1 S1) : fnD n k b ds S = .ok .non S1 := by
  unfold fnD
  rw [if_pos hn, h]
theorem fnD_exc {n k : Nat} {b : SM} {ds : List D} (hn : ds.length = n) (h : b (ds.map .val ++ List.replicate k .no) S = .exc c en1 S1) : fnD n k b ds S = .exc c S1 := by
  unfold fnD
  rw [if_pos hn, h]
@[simp] theorem put_nm : (Tg.nm i).put d env = some (env.set i (.val d)) := (rfl)
end
/-! ### values -/
@[simp] theorem eqD_int (i j : Int) : eqD (.int i) (.int j) = some (.bl (i == j)) := (rfl)
@[simp] theorem neD_int (i j : Int) : neD (.int i) (.int j) = some (.bl (!(i == j))) := (rfl)
@[simp] theorem eqD_bl (i j : Bool) : eqD (.bl i) (.bl j) = some (.bl (i == j)) := (rfl)
@[simp] theorem neD_bl (i j : Bool) : neD (.bl i) (.bl j) = some (.bl (!(i == j))) := (rfl)
theorem mulI_ok {i j : Int} (h : bit i + bit j < 100000000) : mulI (.int i) (.int j) = some (.int (i * j)) := by
  show (if bit i + bit j < 100000000 then _ else _) = _
  rw [if_pos h]
theorem fdivD_ok {i j : Int} (h : 0 < j) (h2 : bit j < 9000) : fdivD (.int i) (.int j) = some (.int (i / j)) := by
  show (if 0 < j ∧ bit j < 9000 then _ else _) = _
  rw [if_pos ⟨h, h2⟩]
theorem modD_ok {i j : Int} (h : 0 < j) : modD (.int i) (.int j) = some (.int (i % j)) := by
  show (if 0 < j then _ else _) = _
  rw [if_pos h]
/-- bits -/
theorem bit_lt {i : Int} {n : Nat} (h : i.natAbs < 2 ^ n) : bit i ≤ n := by
  unfold bit
  by_cases h0 : i.natAbs = 0
  · rw [h0]
    have z : Nat.log2 0 = 0 := by decide
    rw [z]
    exact Nat.zero_le _
  · have := (Nat.log2_lt h0).mpr h
    omega
theorem lt_bit {i : Int} : i.natAbs < 2 ^ (bit i + 1) := Nat.lt_log2_self
/-! ### what holds after -/
def Wp (o : SO) (Q : Fl → Env → Store → Prop) : Prop := match o with
  | .ok f e S => Q f e S
  | _ => False
@[simp] theorem wp_ok {f : Fl} {e : Env} {S : Store} {Q : Fl → Env → Store → Prop} : Wp (.ok f e S) Q ↔ Q f e S := Iff.rfl
theorem wp_out {o : SO} {Q : Fl → Env → Store → Prop} (h : Wp o Q) : ∃ f e S, o = .ok f e S ∧ Q f e S := by
  cases o with
  | ok f e S => exact ⟨f, e, S, rfl, h⟩
  | exc c e S => exact absurd h id
  | stuck => exact absurd h id
theorem wp_mono {o : SO} {Q R : Fl → Env → Store → Prop} (h : Wp o Q) (hr : ∀ f e S, Q f e S → R f e S) : Wp o R := by
  obtain ⟨f, e, S, rfl, h⟩ := wp_out h
  exact hr f e S h
theorem wp_bind {o : SO} {B : Env → Store → SO} {Q : Fl → Env → Store → Prop} (h : Wp o fun f e S => match f with | .nx => Wp (B e S) Q | f => Q f e S) : Wp (o.bind B) Q := by
  obtain ⟨f, e, S, rfl, h⟩ := wp_out h
  cases f with
  | nx => exact h
  | rt d => exact h
  | bk => exact h
  | ct => exact h
theorem wp_seq {A B : SM} {env : Env} {S : Store} {Q : Fl → Env → Store → Prop} (h : Wp (A env S) fun f e S => match f with | .nx => Wp (B e S) Q | f => Q f e S) : Wp (sSeq A B env S) Q := wp_bind h
/-- a loop by what holds between its turns -/
theorem wp_forGo {tg : Tg} {b : SM} (I : Nat → Env → Store → Prop) {ds : List D} {Q : Fl → Env → Store → Prop}
    (step : ∀ i d env S, ds[i]? = some d → I i env S → ∃ e1, tg.put d env = some e1 ∧ Wp (b e1 S) fun f e S => match f with | .nx => I (i + 1) e S | .ct => I (i + 1) e S | .bk => Q .nx e S | .rt d => Q (.rt d) e S)
    (fin : ∀ env S, I ds.length env S → Q .nx env S) :
    ∀ (n i : Nat) (env : Env) (S : Store), n + i = ds.length → I i env S → Wp (forGo tg b (ds.drop i) env S) Q
  | 0, i, env, S, hn, h => by
    have e : i = ds.length := by omega
    subst e
    rw [List.drop_length]
    exact fin env S h
  | n + 1, i, env, S, hn, h => by
    have hi : i < ds.length := by omega
    obtain ⟨e1, hp, hb⟩ := step i _ env S (List.getElem?_eq_getElem hi) h
    obtain ⟨f, e2, S2, hb, h2⟩ := wp_out hb
    rw [List.drop_eq_getElem_cons hi, forGo, hp]
    dsimp only
    rw [hb]
    cases f with
    | nx => exact wp_forGo I step fin n (i + 1) e2 S2 (by omega) h2
    | ct => exact wp_forGo I step fin n (i + 1) e2 S2 (by omega) h2
    | bk => exact h2
    | rt d => exact h2
theorem wp_for {tg : Tg} {b : SM} (I : Nat → Env → Store → Prop) {ds : List D} {Q : Fl → Env → Store → Prop} {env : Env} {S : Store} (h0 : I 0 env S)
    (step : ∀ i d env S, ds[i]? = some d → I i env S → ∃ e1, tg.put d env = some e1 ∧ Wp (b e1 S) fun f e S => match f with | .nx => I (i + 1) e S | .ct => I (i + 1) e S | .bk => Q .nx e S | .rt d => Q (.rt d) e S)
    (fin : ∀ env S, I ds.length env S → Q .nx env S) : Wp (forGo tg b ds env S) Q := wp_forGo I step fin ds.length 0 env S (by omega) h0
/-- over a range -/
theorem wp_rng {x : Nat} {b : SM} (I : Nat → Env → Store → Prop) {lo : Int} {n : Nat} {Q : Fl → Env → Store → Prop} {env : Env} {S : Store} (h0 : I 0 env S)
    (step : ∀ (i : Nat) env S, i < n → I i env S → Wp (b (env.set x (.val (.int (lo + (i : Nat))))) S) fun f e S => match f with | .nx => I (i + 1) e S | .ct => I (i + 1) e S | .bk => Q .nx e S | .rt d => Q (.rt d) e S)
    (fin : ∀ env S, I n env S → Q .nx env S) : Wp (forGo (.nm x) b (rngI lo n) env S) Q := by
  refine wp_for I h0 (fun i d env S hd h => ?_) (fun env S h => fin env S (by rwa [rngI_length] at h))
  obtain ⟨hi, rfl⟩ := rngI_at hd
  exact ⟨_, rfl, step i env S hi h⟩
theorem wp_rng0 {x : Nat} {b : SM} (I : Nat → Env → Store → Prop) {n : Nat} {Q : Fl → Env → Store → Prop} {env : Env} {S : Store} (h0 : I 0 env S)
    (step : ∀ (i : Nat) env S, i < n → I i env S → Wp (b (env.set x (.val (.int (i : Nat)))) S) fun f e S => match f with | .nx => I (i + 1) e S | .ct => I (i + 1) e S | .bk => Q .nx e S | .rt d => Q (.rt d) e S)
    (fin : ∀ env S, I n env S → Q .nx env S) : Wp (forGo (.nm x) b (rngI 0 n) env S) Q := wp_rng I h0 (fun i env S hi h => by rw [Int.zero_add]; exact step i env S hi h) fin
/-- a while loop, by a measure -/
theorem wp_while {t : EM Bool} {b : SM} (I : Nat → Env → Store → Prop) {Q : Fl → Env → Store → Prop}
    (step : ∀ m env S, I m env S → (∃ S1, t env S = .ok false S1 ∧ Q .nx env S1) ∨ ∃ S1, t env S = .ok true S1 ∧ Wp (b env S1) fun f e S => match f with | .nx => ∃ k, k < m ∧ I k e S | .ct => ∃ k, k < m ∧ I k e S | .bk => Q .nx e S | .rt d => Q (.rt d) e S) :
    ∀ (m : Nat) (env : Env) (S : Store), I m env S → Wp (sWhile t b env S) Q := by
  intro m
  induction m using Nat.strongRecOn with
  | ind m ih =>
    intro env S h
    have some_n : ∀ {env : Env} {S : Store} {o : SO}, sWhile t b env S = o → o ≠ .stuck → ∃ n, whGo t b n env S = o := by
      intro env S o h ho
      unfold sWhile at h
      split at h
      · exact ⟨_, h⟩
      · exact absurd h.symm ho
    rcases step m env S h with ⟨S1, h1, h2⟩ | ⟨S1, h1, h2⟩
    · rw [sWhile_end h1]; exact h2
    · obtain ⟨f, e2, S2, hb, h3⟩ := wp_out h2
      have go : ∀ {o : SO}, (match f with | .nx => ∃ n, whGo t b n e2 S2 = o | .ct => ∃ n, whGo t b n e2 S2 = o | .bk => o = .ok .nx e2 S2 | .rt d => o = .ok (.rt d) e2 S2) → o ≠ .stuck → sWhile t b env S = o := by
        intro o ho hs
        cases f with
        | nx => obtain ⟨n, hn⟩ := ho; exact sWhile_of (n := n + 1) (by rw [whGo, h1]; simp only [eS, if_true]; rw [hb]; exact hn) hs
        | ct => obtain ⟨n, hn⟩ := ho; exact sWhile_of (n := n + 1) (by rw [whGo, h1]; simp only [eS, if_true]; rw [hb]; exact hn) hs
        | bk => exact sWhile_of (n := 1) (by rw [whGo, h1]; simp only [eS, if_true]; rw [hb]; exact ho.symm) hs
        | rt d => exact sWhile_of (n := 1) (by rw [whGo, h1]; simp only [eS, if_true]; rw [hb]; exact ho.symm) hs
      cases f with
      | nx =>
        obtain ⟨k, hk, h4⟩ := h3
        obtain ⟨f', e3, S3, h5, h6⟩ := wp_out (ih k hk e2 S2 h4)
        rw [go (some_n h5 (by intro z; cases z)) (by intro z; cases z)]
        exact h6
      | ct =>
        obtain ⟨k, hk, h4⟩ := h3
        obtain ⟨f', e3, S3, h5, h6⟩ := wp_out (ih k hk e2 S2 h4)
        rw [go (some_n h5 (by intro z; cases z)) (by intro z; cases z)]
        exact h6
      | bk => rw [go rfl (by intro z; cases z)]; exact h3
      | rt d => rw [go rfl (by intro z; cases z)]; exact h3
/-- a def by what holds after its body -/
theorem fnD_wp {n k : Nat} {b : SM} {ds : List D} {S : Store} {Q : D → Store → Prop} (hn : ds.length = n) (h : Wp (b (ds.map .val ++ List.replicate k .no) S) fun f e S1 => match f with | .rt d => Q d S1 | .nx => Q .non S1 | _ => False) : ∃ d S1, fnD n k b ds S = .ok d S1 ∧ Q d S1 := by
  obtain ⟨f, e, S1, h1, h2⟩ := wp_out h
  cases f with
  | nx => exact ⟨_, _, fnD_nx hn h1, h2⟩
  | rt d => exact ⟨_, _, fnD_rt hn h1, h2⟩
  | bk => exact absurd h2 id
  | ct => exact absurd h2 id
theorem sIf_ok {t : EM Bool} {A B : SM} {env : Env} {S : Store} {c : Bool} (h : t env S = .ok c S) : sIf t A B env S = if c = true then A env S else B env S := by
  rw [sIf_ev, h]; rfl
end Kb

set_option linter.all false
set_option maxRecDepth 100000
namespace Ks
open Kb PySem
theorem of_int_ev (n : Int) (S : Store) : d_of_int [.int n] S = .ok (.tup [.int n, .int 1]) S := by
  refine fnD_rt rfl (en1 := [.val (.int n)]) ?_
  simp [b_of_int]
theorem common_ev (a b : Int) (S : Store) : d_common [.int a, .int b] S = .ok (.int (Int.gcd a b)) S := by
  have loop : ∀ (m : Nat) (x y : Nat), y ≤ m → sWhile (tB (e2 neD (eB 1) (eC (.int 0)))) b_common_1 [.val (.int x), .val (.int y)] S = .ok .nx [.val (.int (Nat.gcd x y : Nat)), .val (.int 0)] S := by
    intro m
    induction m with
    | zero =>
      intro x y hy
      have : y = 0 := by omega
      subst this
      rw [Nat.gcd_zero_right]
      exact sWhile_end (by simp)
    | succ m ih =>
      intro x y hy
      by_cases h0 : y = 0
      · subst h0
        rw [Nat.gcd_zero_right]
        exact sWhile_end (by simp)
      · refine sWhile_next (S1 := S) (S2 := S) (e1 := [.val (.int y), .val (.int ((x % y : Nat) : Int))]) (by simp [h0]) ?_ ?_ (by intro h; cases h)
        · unfold b_common_1
          refine sPar_ev (x := .int y) (y := .int ((x % y : Nat) : Int)) ?_
          simp [modD_ok (show (0 : Int) < (y : Int) by omega)]
        · rw [ih y (x % y) (by have := Nat.mod_lt x (show 0 < y by omega); omega)]
          rw [show Nat.gcd y (x % y) = Nat.gcd x y by rw [Nat.gcd_comm x y, Nat.gcd_rec y x]; exact Nat.gcd_comm _ _]
  refine fnD_rt rfl (en1 := [.val (.int (Int.gcd a b)), .val (.int 0)]) ?_
  have ha : ∀ z : Int, (if z < 0 then -z else z) = (z.natAbs : Int) := fun z => by split <;> omega
  simp [b_common, ha, loop b.natAbs a.natAbs b.natAbs (Nat.le_refl _), Int.gcd]
end Ks

set_option linter.all false
set_option maxRecDepth 100000
namespace Ks
open Kb PySem
/-- a row of numbers below 1009 -/
def Num (ns : List Int) : Prop := ∀ x ∈ ns, 0 ≤ x ∧ x < 1009
theorem Num.snoc {ns : List Int} {x : Int} (h : Num ns) (h0 : 0 ≤ x) (h1 : x < 1009) : Num (ns ++ [x]) := by
  intro y hy
  rcases List.mem_append.mp hy with h2 | h2
  · exact h y h2
  · rw [List.mem_singleton.mp h2]; exact ⟨h0, h1⟩
theorem bit_small {i : Int} {n : Nat} (h0 : 0 ≤ i) (h : i < 2 ^ n) : bit i ≤ n := by
  refine bit_lt ?_
  have : ((2 ^ n : Nat) : Int) = (2 : Int) ^ n := by norm_cast
  omega
abbrev nums (ns : List Int) : List D := ns.map .int
theorem nums_snoc (ns : List Int) (x : Int) : nums ns ++ [.int x] = nums (ns ++ [x]) := by simp [nums]
theorem stream_ev (cs : List Int) (hc : cs.length ≤ 63) (S : Store) : ∃ ns, Num ns ∧ ns ≠ [] ∧ d__law_stream [.scr (cs.map .int)] S = .ok (.lst (nums ns)) S := by
  have inner : ∀ (b2 b4 b5 : Slot) (sc : D) (r : Int) (ns : List Int), Num ns → ns.length + 60 < LN → (∃ e S1, forGo (.nm 4) b__law_stream_1 (rngI 0 60) [.val sc, .own (nums ns), b2, .val (.int r), b4, b5] S = .ok .nx e S1 ∧ S1 = S ∧ ∃ ns' r' c4, e = [.val sc, .own (nums ns'), b2, .val (.int r'), c4, b5] ∧ Num ns' ∧ ns'.length ≤ ns.length + 60 ∧ ns' ≠ []) := by
    intro b2 b4 b5 sc r ns hn hl
    have := forGo_brk (tg := .nm 4) (b := b__law_stream_1) (ds := rngI 0 60)
      (fun i e S1 => S1 = S ∧ ∃ ns' r' c4, e = [.val sc, .own (nums ns'), b2, .val (.int r'), c4, b5] ∧ Num ns' ∧ ns'.length ≤ ns.length + i ∧ (0 < i → ns' ≠ []))
      (fun e S1 => S1 = S ∧ ∃ ns' r' c4, e = [.val sc, .own (nums ns'), b2, .val (.int r'), c4, b5] ∧ Num ns' ∧ ns'.length ≤ ns.length + 60 ∧ ns' ≠ [])
      ?_ ?_ 60 0 [.val sc, .own (nums ns), b2, .val (.int r), b4, b5] S (by rw [rngI_length]) ⟨rfl, ns, r, b4, rfl, hn, Nat.le_refl _, fun h => absurd h (by omega)⟩
    · exact this
    · rintro i d env S1 hd ⟨rfl, ns', r', c4, rfl, hn', hl', -⟩
      obtain ⟨hi, rfl⟩ := rngI_at hd
      have hl2 : ns'.length < LN := by unfold LN at *; omega
      have h1 : Num (ns' ++ [r' % 1009]) := hn'.snoc (by omega) (by omega)
      have hf : fdivD (.int r') (.int 1009) = some (.int (r' / 1009)) := fdivD_ok (by omega) (by have := bit_small (i := 1009) (n := 10) (by omega) (by omega); omega)
      have hm : modD (.int r') (.int 1009) = some (.int (r' % 1009)) := modD_ok (by omega)
      refine ⟨_, put_nm, ?_⟩
      by_cases h0 : r' / 1009 = 0
      · refine ⟨[.val sc, .own (nums (ns' ++ [r' % 1009])), b2, .val (.int (r' / 1009)), .val (.int (0 + (i : Nat))), b5], S1, .inr ⟨?_, rfl, _, _, _, rfl, h1, ?_, ?_⟩⟩
        · simp [b__law_stream_1, b__law_stream_2, sApp, hf, hm, hl2, h0]
        · simp; omega
        · simp
      · refine ⟨[.val sc, .own (nums (ns' ++ [r' % 1009])), b2, .val (.int (r' / 1009)), .val (.int (0 + (i : Nat))), b5], S1, .inl ⟨.inl ?_, rfl, _, _, _, rfl, h1, ?_, ?_⟩⟩
        · simp [b__law_stream_1, b__law_stream_2, sApp, hf, hm, hl2, h0]
        · simp; omega
        · simp
    · rintro e S1 ⟨h1, ns', r', c4, h2, h3, h4, h5⟩
      rw [rngI_length] at h4 h5
      exact ⟨h1, ns', r', c4, h2, h3, h4, h5 (by omega)⟩
  have inner2 : ∀ (b2 b3 b4 : Slot) (sc : D) (r : Int) (ns : List Int), Num ns → ns.length + 60 < LN → 0 ≤ r → r < 2147483647 → (∃ e S1, forGo (.nm 4) b__law_stream_2 (rngI 0 10) [.val sc, .own (nums ns), b2, b3, b4, .val (.int r)] S = .ok .nx e S1 ∧ S1 = S ∧ ∃ ns' r' c4, e = [.val sc, .own (nums ns'), b2, b3, c4, .val (.int r')] ∧ Num ns' ∧ ns'.length ≤ ns.length + 10 ∧ ns' ≠ []) := by
    intro b2 b3 b4 sc r ns hn hl hr0 hr1
    have H := forGo_all (tg := .nm 4) (b := b__law_stream_2) (ds := rngI 0 10)
      (fun i e S1 => S1 = S ∧ ∃ ns' r' c4, e = [.val sc, .own (nums ns'), b2, b3, c4, .val (.int r')] ∧ Num ns' ∧ ns'.length ≤ ns.length + i ∧ (0 < i → ns' ≠ []) ∧ 0 ≤ r' ∧ r' < 2147483647)
      (env := [.val sc, .own (nums ns), b2, b3, b4, .val (.int r)]) (S := S) ⟨rfl, ns, r, b4, rfl, hn, Nat.le_refl _, fun h => absurd h (by omega), hr0, hr1⟩ ?_
    · obtain ⟨e, S1, he, h1, ns', r', c4, h2, h3, h4, h5, -⟩ := H
      rw [rngI_length] at h4 h5
      exact ⟨e, S1, he, h1, ns', r', c4, h2, h3, h4, h5 (by omega)⟩
    · rintro i d env S1 hd ⟨rfl, ns', r', c4, rfl, hn', hl', -, h0, h1⟩
      obtain ⟨hi, rfl⟩ := rngI_at hd
      have hl2 : ns'.length < LN := by unfold LN at *; omega
      have b1 : bit r' ≤ 31 := bit_small h0 (by omega)
      have b2' : bit (0 + (i : Nat)) ≤ 31 := bit_small (by omega) (by omega)
      have b3' : bit 48271 ≤ 31 := bit_small (by omega) (by omega)
      have b4' : bit 69621 ≤ 31 := bit_small (by omega) (by omega)
      have b5' : bit 7 ≤ 31 := bit_small (by omega) (by omega)
      have m1 : mulI (.int r') (.int 48271) = some (.int (r' * 48271)) := mulI_ok (by omega)
      have m2 : mulI (.int 7) (.int (0 + (i : Nat))) = some (.int (7 * (0 + (i : Nat)))) := mulI_ok (by omega)
      generalize hx : (r' * 48271 + 7 * (0 + (i : Nat)) + 11) % 2147483647 = x
      have hm : modD (.int (r' * 48271 + 7 * (0 + (i : Nat)) + 11)) (.int 2147483647) = some (.int x) := by rw [← hx]; exact modD_ok (by omega)
      have hx0 : 0 ≤ x := by omega
      have hx1 : x < 2147483647 := by omega
      have b6' : bit x ≤ 31 := bit_small hx0 (by omega)
      have m3 : mulI (.int x) (.int 69621) = some (.int (x * 69621)) := mulI_ok (by omega)
      have m4 : ∀ y, modD (.int y) (.int 2147483629) = some (.int (y % 2147483629)) := fun y => modD_ok (by omega)
      have m5 : ∀ y, modD (.int y) (.int 1009) = some (.int (y % 1009)) := fun y => modD_ok (by omega)
      rw [Int.zero_add] at hm m2
      refine ⟨_, put_nm, [.val sc, .own (nums (ns' ++ [(x * 69621 + (0 + (i : Nat))) % 2147483629 % 1009])), b2, b3, .val (.int (0 + (i : Nat))), .val (.int x)], S1, .inl ?_, rfl, _, _, _, rfl, hn'.snoc (by omega) (by omega), ?_, ?_, hx0, hx1⟩
      · simp [b__law_stream_1, b__law_stream_2, sApp, hl2, m1, m2, m3, m4, m5, hm]
      · simp; omega
      · simp
  have H := forGo_all (tg := .nm 2) (b := b__law_stream_3) (ds := nums cs)
      (fun i e S1 => S1 = S ∧ ∃ ns c2 c3 c4 c5, e = [.val (.scr (nums cs)), .own (nums ns), c2, c3, c4, c5] ∧ Num ns ∧ ns.length ≤ 60 * i)
      (env := [.val (.scr (nums cs)), .own [], .no, .no, .no, .no]) (S := S) ⟨rfl, [], .no, .no, .no, .no, rfl, fun x h => absurd h List.not_mem_nil, Nat.le_refl _⟩ ?_
  · obtain ⟨e, S1, he, rfl, ns, c2, c3, c4, c5, rfl, hn, hl⟩ := H
    have hT : List.take cs.length (List.map D.int cs) = List.map D.int cs := List.take_of_length_le (by simp)
    simp only [nums] at he
    by_cases h0 : ns = []
    · subst h0
      refine ⟨[0], fun x hx => ?_, by simp, fnD_rt rfl (en1 := [.val (.scr (nums cs)), .val (.lst (nums [0])), c2, c3, c4, c5]) ?_⟩
      · rw [List.mem_singleton.mp hx]; omega
      · simp at he
        simp [b__law_stream, slD, cut, sIx, pSo, hc, hT, he, sApp, frz]
    · refine ⟨ns, hn, h0, fnD_rt rfl (en1 := [.val (.scr (nums cs)), .val (.lst (nums ns)), c2, c3, c4, c5]) ?_⟩
      simp [b__law_stream, slD, cut, sIx, pSo, hc, hT, he, sApp, frz, h0]
  · rintro i d env S1 hd ⟨rfl, ns, c2, c3, c4, c5, rfl, hn, hl⟩
    have hi : i < cs.length := by
      have := (List.getElem?_eq_some_iff.mp hd).1
      rwa [List.length_map] at this
    obtain ⟨r, rfl⟩ : ∃ r, d = .int r := by
      rw [List.getElem?_map] at hd
      cases h : cs[i]? with
      | none => rw [h] at hd; cases hd
      | some r => rw [h] at hd; exact ⟨r, (Option.some.inj hd).symm⟩
    have hl2 : ns.length + 60 < LN := by unfold LN; omega
    refine ⟨_, put_nm, ?_⟩
    by_cases hr : 10 ^ 18 ≤ r
    · obtain ⟨e, S2, h1, rfl, ns', r', c4', rfl, h3, h4, -⟩ := inner (.val (.int r)) c4 c5 (.scr (nums cs)) r ns hn hl2
      refine ⟨_, S2, .inl ?_, rfl, ns', .val (.int r), .val (.int r'), c4', c5, rfl, h3, by rw [Nat.mul_succ]; omega⟩
      have hr' : (1000000000000000000 : Int) ≤ r := by omega
      simp [b__law_stream_3, powD, hr', h1]
    · obtain ⟨e, S2, h1, rfl, ns', r', c4', rfl, h3, h4, -⟩ := inner2 (.val (.int r)) (.val (.int r)) c4 (.scr (nums cs)) (r % 2147483647) ns hn hl2 (by omega) (by omega)
      refine ⟨_, S2, .inl ?_, rfl, ns', .val (.int r), .val (.int r), c4', .val (.int r'), rfl, h3, by rw [Nat.mul_succ]; omega⟩
      have hr' : ¬ (1000000000000000000 : Int) ≤ r := by omega
      have hm : modD (.int r) (.int 2147483647) = some (.int (r % 2147483647)) := modD_ok (by omega)
      simp [b__law_stream_3, powD, hr', h1, hm]
end Ks

set_option linter.all false
set_option maxRecDepth 100000
namespace Ks
open Kb PySem
/-- what the law picks -/
def pk (ns : List Int) (a m : Int) : Int := ns.getD (a % ns.length).toNat 0 % m
theorem pk_0 {ns : List Int} {a m : Int} (hm : 0 < m) : 0 ≤ pk ns a m := Int.emod_nonneg _ (by omega)
theorem pk_1 {ns : List Int} {a m : Int} (hm : 0 < m) : pk ns a m < m := Int.emod_lt_of_pos _ hm
theorem pick_ev {ns : List Int} {a m : Int} (h : ns ≠ []) (hm : 0 < m) (S : Store) : d__law_pick [.lst (nums ns), .int a, .int m] S = .ok (.int (pk ns a m)) S := by
  have hl : 0 < ns.length := List.length_pos_iff.mpr h
  have h1 : modD (.int a) (.int ns.length) = some (.int (a % ns.length)) := modD_ok (by omega)
  have h0 : 0 ≤ a % ns.length := Int.emod_nonneg _ (by omega)
  have h2 : a % ns.length < ns.length := Int.emod_lt_of_pos _ (by omega)
  have hk : (a % ns.length).toNat < ns.length := by omega
  have h3 : ixD (.lst (nums ns)) (.int (a % ns.length)) = some (.int (ns.getD (a % ns.length).toNat 0)) := by
    have := ixD_lst (xs := nums ns) (k := (a % ns.length).toNat) (x := .int (ns.getD (a % ns.length).toNat 0)) (by
      rw [List.getElem?_map, List.getElem?_eq_getElem hk, List.getD_eq_getElem?_getD, List.getElem?_eq_getElem hk]; rfl)
    rwa [Int.toNat_of_nonneg h0] at this
  have h4 : ∀ y, modD (.int y) (.int m) = some (.int (y % m)) := fun y => modD_ok hm
  refine fnD_rt rfl (en1 := [.val (.lst (nums ns)), .val (.int a), .val (.int m)]) ?_
  simp at h3
  simp [b__law_pick, h1, h3, h4, pk]
theorem pow_le {b i j : Nat} (h : i ≤ j) (hb : 0 < b) : ((b : Nat) : Int) ^ i ≤ ((b : Nat) : Int) ^ j := by
  have := Nat.pow_le_pow_right hb h
  exact_mod_cast this
/-- an int of the law is small -/
theorem int_ev {ns : List Int} (hN : Num ns) (h : ns ≠ []) (a : Int) (S : Store) : ∃ v : Int, v.natAbs < 2 ^ 120 ∧ d__law_int [.lst (nums ns), .int a] S = .ok (.int v) S := by
  have H := fnD_wp (n := 2) (k := 4) (b := b__law_int) (ds := [.lst (nums ns), .int a]) (S := S) (Q := fun d S1 => S1 = S ∧ ∃ v : Int, v.natAbs < 2 ^ 120 ∧ d = .int v) rfl ?_
  · obtain ⟨d, S1, h1, rfl, v, h2, rfl⟩ := H
    exact ⟨v, h2, h1⟩
  have hp : ∀ (b m : Int), 0 < m → d__law_pick [.lst (nums ns), .int b, .int m] S = .ok (.int (pk ns b m)) S := fun b m hm => pick_ev h hm S
  simp only [nums] at hp
  obtain ⟨w, hw, w0, w1⟩ : ∃ w, pk ns a 6 = w ∧ 0 ≤ w ∧ w < 6 := ⟨_, rfl, pk_0 (by omega), pk_1 (by omega)⟩
  obtain ⟨g, hg, g0⟩ : ∃ g, ixD (.lst [.int 1, .int (-1)]) (.int (pk ns (a + 1) 2)) = some (.int g) ∧ (g = 1 ∨ g = -1) := by
    have h0 := pk_0 (ns := ns) (a := a + 1) (m := 2) (by omega)
    have h1 := pk_1 (ns := ns) (a := a + 1) (m := 2) (by omega)
    generalize pk ns (a + 1) 2 = z at h0 h1
    rcases (by omega : z = 0 ∨ z = 1) with rfl | rfl
    · exact ⟨1, rfl, .inl rfl⟩
    · exact ⟨-1, rfl, .inr rfl⟩
  have bg : bit g ≤ 1 := by rcases g0 with rfl | rfl <;> exact bit_lt (by decide)
  have hp6 := hp a 6 (by omega)
  have hp2 := hp (a + 1) 2 (by omega)
  have hp4 := hp (a + 2) 4 (by omega)
  have hp12 := hp (a + 2) 12 (by omega)
  rw [hw] at hp6
  obtain ⟨q, hq, q0⟩ : ∃ q, ixD (.lst [.int 0, .int 1, .int (-1), .int 2]) (.int (pk ns (a + 2) 4)) = some (.int q) ∧ q.natAbs < 2 ^ 120 := by
    have h0 := pk_0 (ns := ns) (a := a + 2) (m := 4) (by omega)
    have h1 := pk_1 (ns := ns) (a := a + 2) (m := 4) (by omega)
    generalize pk ns (a + 2) 4 = z at h0 h1
    rcases (by omega : z = 0 ∨ z = 1 ∨ z = 2 ∨ z = 3) with rfl | rfl | rfl | rfl
    · exact ⟨0, rfl, by omega⟩
    · exact ⟨1, rfl, by omega⟩
    · exact ⟨-1, rfl, by omega⟩
    · exact ⟨2, rfl, by omega⟩
  by_cases hw0 : w = 0
  · subst hw0
    simp [b__law_int, hp6, hp2, hg, hp4, hq]
    omega
  by_cases hw4 : w < 4
  · obtain ⟨m, hm, m0, m1⟩ : ∃ m, ixD (.lst [.int 12, .int 60, .int 1009]) (.int (w - 1)) = some (.int m) ∧ 0 < m ∧ m ≤ 1009 := by
      rcases (by omega : w = 1 ∨ w = 2 ∨ w = 3) with rfl | rfl | rfl
      · exact ⟨12, rfl, by omega, by omega⟩
      · exact ⟨60, rfl, by omega, by omega⟩
      · exact ⟨1009, rfl, by omega, by omega⟩
    have h0 := pk_0 (ns := ns) (a := a + 2) m0
    have h1 := pk_1 (ns := ns) (a := a + 2) m0
    have hpm := hp (a + 2) m m0
    generalize pk ns (a + 2) m = z at h0 h1 hpm
    have bz : bit z ≤ 10 := bit_small h0 (by omega)
    have hmul : mulI (.int g) (.int z) = some (.int (g * z)) := mulI_ok (by omega)
    simp [b__law_int, hp6, hp2, hg, hw0, hw4, hm, hpm, hmul]
    rcases g0 with rfl | rfl <;> omega
  · have h0 := pk_0 (ns := ns) (a := a + 2) (m := 12) (by omega)
    have h1 := pk_1 (ns := ns) (a := a + 2) (m := 12) (by omega)
    generalize pk ns (a + 2) 12 = c at h0 h1 hp12
    have hr : rng1D [.int (1 + c)] = some (rngI 0 (1 + c).toNat) := rng1_ok (by omega) (by omega)
    simp [b__law_int, hp6, hp2, hg, hw0, hw4, hp12, hr]
    refine wp_bind (wp_rng (fun i e S1 => S1 = S ∧ ∃ (v : Int) (s5 : Slot), e = [.val (.lst (nums ns)), .val (.int a), .val (.int w), .val (.int g), .val (.int v), s5] ∧ 0 ≤ v ∧ v < 1009 ^ i) ⟨rfl, 0, .no, rfl, by omega, by omega⟩ ?_ ?_)
    · rintro i e S1 hi ⟨rfl, v, s5, rfl, v0, v1⟩
      have hv : (1009 : Int) ^ i ≤ 1009 ^ 12 := pow_le (b := 1009) (by omega) (by omega)
      have hb : bit v ≤ 120 := bit_small v0 (by omega)
      have b9 : bit 1009 ≤ 10 := bit_small (by omega) (by omega)
      have hmul : mulI (.int v) (.int 1009) = some (.int (v * 1009)) := mulI_ok (by omega)
      have z0 := pk_0 (ns := ns) (a := a + 3 + (i : Nat)) (m := 1009) (by omega)
      have z1 := pk_1 (ns := ns) (a := a + 3 + (i : Nat)) (m := 1009) (by omega)
      have hpz := hp (a + 3 + (i : Nat)) 1009 (by omega)
      generalize pk ns (a + 3 + (i : Nat)) 1009 = z at z0 z1 hpz
      simp [b__law_int_1, hmul, hpz]
      rw [Int.pow_succ]
      omega
    · rintro e S1 ⟨rfl, v, s5, rfl, v0, v1⟩
      have hv : (1009 : Int) ^ (1 + c).toNat ≤ 1009 ^ 12 := pow_le (b := 1009) (by omega) (by omega)
      have hb : bit v ≤ 120 := bit_small v0 (by omega)
      have hmul : mulI (.int g) (.int v) = some (.int (g * v)) := mulI_ok (by omega)
      simp [hmul]
      rcases g0 with rfl | rfl <;> omega
theorem gcd_ev (a b : Int) (hb : b.natAbs < 2 ^ 19000) (S : Store) : d__law_gcd [.int a, .int b] S = .ok (.int (Int.gcd a b)) S := by
  have loop : ∀ (k : Nat) (ds : List D) (x y : Nat) (s2 : Slot), y < 2 ^ k → 2 * k + 1 ≤ ds.length → ∃ s2', forGo (.nm 2) b__law_gcd_1 ds [.val (.int x), .val (.int y), s2] S = .ok .nx [.val (.int (Nat.gcd x y : Nat)), .val (.int 0), s2'] S := by
    have stop : ∀ (ds : List D) (x : Nat) (s2 : Slot), 1 ≤ ds.length → ∃ s2', forGo (.nm 2) b__law_gcd_1 ds [.val (.int x), .val (.int 0), s2] S = .ok .nx [.val (.int (x : Nat)), .val (.int 0), s2'] S := by
      intro ds x s2 hl
      obtain ⟨d, ds, rfl⟩ := List.exists_cons_of_length_pos (by omega : 0 < ds.length)
      refine ⟨.val d, ?_⟩
      simp [forGo, b__law_gcd_1]
    have one : ∀ (d : D) (ds : List D) (x y : Nat) (s2 : Slot), y ≠ 0 → forGo (.nm 2) b__law_gcd_1 (d :: ds) [.val (.int x), .val (.int y), s2] S = forGo (.nm 2) b__law_gcd_1 ds [.val (.int y), .val (.int ((x % y : Nat) : Int)), .val d] S := by
      intro d ds x y s2 hy
      have hm : modD (.int x) (.int y) = some (.int ((x % y : Nat) : Int)) := modD_ok (by omega)
      refine forGo_cons put_nm ?_
      simp [b__law_gcd_1, hy]
      rw [sPar_ev (x := .int y) (y := .int ((x % y : Nat) : Int)) (S1 := S) (by simp [hm])]
      simp
    intro k
    induction k with
    | zero =>
      intro ds x y s2 hy hl
      have : y = 0 := by omega
      subst this
      rw [Nat.gcd_zero_right]
      exact stop ds x s2 hl
    | succ k ih =>
      intro ds x y s2 hy hl
      by_cases h0 : y = 0
      · subst h0
        rw [Nat.gcd_zero_right]
        exact stop ds x s2 (by omega)
      · obtain ⟨d, ds, rfl⟩ := List.exists_cons_of_length_pos (by omega : 0 < ds.length)
        rw [List.length_cons] at hl
        rw [one d ds x y s2 h0]
        have hg : Nat.gcd x y = Nat.gcd y (x % y) := by rw [Nat.gcd_comm x y, Nat.gcd_rec y x]; exact Nat.gcd_comm _ _
        rw [hg]
        generalize hr : x % y = r
        have hr1 : r < y := by rw [← hr]; exact Nat.mod_lt x (by omega)
        by_cases h1 : r = 0
        · subst h1
          rw [Nat.gcd_zero_right]
          exact stop ds y _ (by omega)
        · obtain ⟨d', ds, rfl⟩ := List.exists_cons_of_length_pos (by omega : 0 < ds.length)
          rw [List.length_cons] at hl
          rw [one d' ds y r _ h1]
          have hg : Nat.gcd y r = Nat.gcd r (y % r) := by rw [Nat.gcd_comm y r, Nat.gcd_rec r y]; exact Nat.gcd_comm _ _
          rw [hg]
          refine ih ds r (y % r) _ ?_ (by omega)
          have h2 : y % r < r := Nat.mod_lt y (by omega)
          have h3 : y % r + r ≤ y := by
            have := Nat.div_add_mod y r
            have h4 : 1 ≤ y / r := (Nat.one_le_div_iff (by omega)).mpr (by omega)
            have h5 : r * 1 ≤ r * (y / r) := Nat.mul_le_mul_left r h4
            omega
          rw [Nat.pow_succ] at hy
          omega
  obtain ⟨s2', hl⟩ := loop 19000 (rngI 0 40000) a.natAbs b.natAbs .no hb (by rw [rngI_length]; omega)
  refine fnD_rt rfl (en1 := [.val (.int (Int.gcd a b)), .val (.int 0), s2']) ?_
  have ha : ∀ z : Int, (if z < 0 then -z else z) = (z.natAbs : Int) := fun z => by split <;> omega
  simp [b__law_gcd, ha, hl, Int.gcd]
end Ks

set_option linter.all false
set_option maxRecDepth 100000
namespace Ks
open Kb PySem
/-- a ratio as the text keeps it -/
def tR (q : Rat) : D := .tup [.int q.num, .int q.den]
/-- no more than k bits -/
structure Bd (k : Nat) (q : Rat) : Prop where
  n : q.num.natAbs < 2 ^ k
  d : q.den < 2 ^ k
theorem pow2_le {i j : Nat} (h : i ≤ j) : 2 ^ i ≤ 2 ^ j := Nat.pow_le_pow_right (by omega) h
theorem Bd.mono {k l : Nat} {q : Rat} (h : Bd k q) (hl : k ≤ l) : Bd l q := ⟨Nat.lt_of_lt_of_le h.n (pow2_le hl), Nat.lt_of_lt_of_le h.d (pow2_le hl)⟩
theorem mul_lt {a b k l : Nat} (ha : a < 2 ^ k) (hb : b < 2 ^ l) : a * b < 2 ^ (k + l) := by
  rw [Nat.pow_add]
  exact Nat.mul_lt_mul'' ha hb
theorem add_lt {a b k : Nat} (ha : a < 2 ^ k) (hb : b < 2 ^ k) : a + b < 2 ^ (k + 1) := by
  rw [Nat.pow_succ]; omega
theorem bd_div {n d : Int} {k : Nat} (hd : d ≠ 0) (h : n.natAbs < 2 ^ k) (h2 : d.natAbs < 2 ^ k) : Bd k (Rat.divInt n d) := by
  constructor
  · rw [Rat.num_divInt]
    refine Nat.lt_of_le_of_lt ?_ h
    refine Nat.le_trans (Int.natAbs_ediv_le_natAbs _ _) ?_
    rw [Int.natAbs_mul, Int.natAbs_sign_of_ne_zero hd, Nat.one_mul]
    exact Nat.le_refl _
  · rw [Rat.den_divInt, if_neg hd]
    exact Nat.lt_of_le_of_lt (Nat.div_le_self _ _) h2
theorem divInt_pos {n d : Int} (h : 0 < d) : (Rat.divInt n d).num = n / Int.gcd n d ∧ ((Rat.divInt n d).den : Int) = d / Int.gcd n d := by
  constructor
  · rw [Rat.num_divInt, Int.sign_eq_one_of_pos h, Int.one_mul, Int.gcd_comm]
  · rw [Rat.den_divInt, if_neg (by omega), Int.gcd_comm]
    rw [Int.natCast_ediv, Int.natAbs_of_nonneg (by omega)]
theorem gcd_pos {n d : Int} (h : 0 < d) : 0 < Int.gcd n d := Int.gcd_pos_of_ne_zero_right n (by omega)
theorem gcd_le {n d : Int} (h : 0 < d) : Int.gcd n d ≤ d.natAbs := Int.gcd_le_natAbs_right n (by omega)
theorem gcd_bit {n d : Int} (h : 0 < d) {k : Nat} (hk : d.natAbs < 2 ^ k) : bit (Int.gcd n d) ≤ k := bit_lt (Nat.lt_of_le_of_lt (gcd_le h) hk)
theorem ratio_pos {n d : Int} (h : 0 < d) (hk : d.natAbs < 2 ^ 8000) (S : Store) : d_ratio [.int n, .int d] S = .ok (tR (Rat.divInt n d)) S := by
  have g0 := gcd_pos (n := n) h
  have f : ∀ x, fdivD (.int x) (.int (Int.gcd n d)) = some (.int (x / Int.gcd n d)) := fun x => fdivD_ok (by omega) (by have := gcd_bit (n := n) h hk; omega)
  refine fnD_rt rfl (en1 := [.val (.int n), .val (.int d), .val (.int (Int.gcd n d))]) ?_
  have h1 : ¬ d < 0 := by omega
  have h2 : d ≠ 0 := by omega
  obtain ⟨e1, e2⟩ := divInt_pos (n := n) h
  simp [b_ratio, h1, h2, common_ev, f, tR, e1, e2]
theorem ratio_ev {n d : Int} (h : d ≠ 0) (hk : d.natAbs < 2 ^ 8000) (S : Store) : d_ratio [.int n, .int d] S = .ok (tR (Rat.divInt n d)) S := by
  by_cases h0 : 0 < d
  · exact ratio_pos h0 hk S
  · have hd : 0 < -d := by omega
    have g0 := gcd_pos (n := -n) hd
    have f : ∀ x, fdivD (.int x) (.int (Int.gcd (-n) (-d))) = some (.int (x / Int.gcd (-n) (-d))) := fun x => fdivD_ok (by omega) (by have := gcd_bit (n := -n) (k := 8000) hd (by omega); omega)
    refine fnD_rt rfl (en1 := [.val (.int (-n)), .val (.int (-d)), .val (.int (Int.gcd (-n) (-d)))]) ?_
    have h1 : d < 0 := by omega
    obtain ⟨e1, e2⟩ := divInt_pos (n := -n) hd
    rw [Rat.neg_divInt_neg] at e1 e2
    simp only [b_ratio]
    simp [h1, h, common_ev, f, tR, e1, e2] at *
    simp [h1, h, common_ev, f, tR, e1, e2] at *
theorem ratio_0 (n : Int) (S : Store) : d_ratio [.int n, .int 0] S = .exc "NotAllowed" S := by
  refine fnD_exc rfl (en1 := [.val (.int n), .val (.int 0), .no]) ?_
  simp [b_ratio]
theorem lratio_pos {n d : Int} (h : 0 < d) (hk : d.natAbs < 2 ^ 8000) (S : Store) : d__law_ratio [.int n, .int d] S = .ok (tR (Rat.divInt n d)) S := by
  have g0 := gcd_pos (n := n) h
  have f : ∀ x, fdivD (.int x) (.int (Int.gcd n d)) = some (.int (x / Int.gcd n d)) := fun x => fdivD_ok (by omega) (by have := gcd_bit (n := n) h hk; omega)
  refine fnD_rt rfl (en1 := [.val (.int n), .val (.int d), .val (.int (Int.gcd n d))]) ?_
  have h1 : ¬ d < 0 := by omega
  have h2 : d ≠ 0 := by omega
  obtain ⟨e1, e2⟩ := divInt_pos (n := n) h
  simp [b__law_ratio, h1, h2, gcd_ev n d (Nat.lt_of_lt_of_le hk (pow2_le (by omega))), f, tR, e1, e2]
theorem lratio_ev {n d : Int} (h : d ≠ 0) (hk : d.natAbs < 2 ^ 8000) (S : Store) : d__law_ratio [.int n, .int d] S = .ok (tR (Rat.divInt n d)) S := by
  by_cases h0 : 0 < d
  · exact lratio_pos h0 hk S
  · have hd : 0 < 0 - d := by omega
    have g0 := gcd_pos (n := 0 - n) hd
    have hk' : (0 - d).natAbs < 2 ^ 8000 := by rw [Int.zero_sub, Int.natAbs_neg]; exact hk
    have f : ∀ x, fdivD (.int x) (.int (Int.gcd (0 - n) (0 - d))) = some (.int (x / Int.gcd (0 - n) (0 - d))) := fun x => fdivD_ok (by omega) (by have := gcd_bit (n := 0 - n) (k := 8000) hd hk'; omega)
    have h1 : d < 0 := by omega
    obtain ⟨e1, e2⟩ := divInt_pos (n := 0 - n) hd
    have e0 : Rat.divInt (0 - n) (0 - d) = Rat.divInt n d := by rw [Int.zero_sub, Int.zero_sub, Rat.neg_divInt_neg]
    rw [e0] at e1 e2
    have gg := gcd_ev (0 - n) (0 - d) (Nat.lt_of_lt_of_le hk' (pow2_le (by omega))) S
    refine fnD_rt rfl (en1 := [.val (.int (0 - n)), .val (.int (0 - d)), .val (.int (Int.gcd (0 - n) (0 - d)))]) ?_
    simp only [tR, e1, e2]
    simp only [Int.zero_sub, Int.neg_gcd, Int.gcd_neg] at f gg ⊢
    simp [b__law_ratio, h1, gg, f]
end Ks

set_option linter.all false
set_option maxRecDepth 100000
namespace Ks
open Kb PySem
theorem den_pos (q : Rat) : 0 < q.den := Nat.pos_of_ne_zero q.den_nz
theorem den_ne (q : Rat) : (q.den : Int) ≠ 0 := by have := den_pos q; omega
theorem add_divInt (a b : Rat) : Rat.divInt (a.num * b.den + b.num * a.den) (a.den * b.den) = a + b := by
  rw [← Rat.divInt_add_divInt _ _ (den_ne a) (den_ne b), Rat.num_divInt_den, Rat.num_divInt_den]
theorem mul_divInt (a b : Rat) : Rat.divInt (a.num * b.num) (a.den * b.den) = a * b := by
  rw [← Rat.divInt_mul_divInt, Rat.num_divInt_den, Rat.num_divInt_den]
theorem div_divInt (a b : Rat) : Rat.divInt (a.num * b.den) (a.den * b.num) = a / b := by
  rw [← Rat.divInt_mul_divInt, Rat.num_divInt_den, Rat.div_def, Rat.inv_def]
@[simp] theorem ix0 (q : Rat) : ixD (tR q) (.int 0) = some (.int q.num) := ixD_t0
@[simp] theorem ix1 (q : Rat) : ixD (tR q) (.int 1) = some (.int q.den) := ixD_t1
theorem Bd.bn {k : Nat} {q : Rat} (h : Bd k q) : bit q.num ≤ k := bit_lt h.n
theorem Bd.bd {k : Nat} {q : Rat} (h : Bd k q) : bit q.den ≤ k := bit_lt (by have := h.d; simpa using this)
theorem Bd.add {k l : Nat} {a b : Rat} (ha : Bd k a) (hb : Bd l b) : Bd (k + l + 1) (a + b) := by
  rw [← add_divInt]
  refine bd_div ?_ ?_ ?_
  · exact Int.mul_ne_zero (den_ne a) (den_ne b)
  · have h1 : (a.num * b.den).natAbs < 2 ^ (k + l) := by rw [Int.natAbs_mul]; exact mul_lt ha.n (by have := hb.d; simpa using this)
    have h2 : (b.num * a.den).natAbs < 2 ^ (k + l) := by rw [Int.natAbs_mul, Nat.add_comm k l]; exact mul_lt hb.n (by have := ha.d; simpa using this)
    have := add_lt h1 h2
    exact Nat.lt_of_le_of_lt (Int.natAbs_add_le _ _) this
  · have h1 : ((a.den : Int) * b.den).natAbs < 2 ^ (k + l) := by rw [Int.natAbs_mul]; exact mul_lt (by have := ha.d; simpa using this) (by have := hb.d; simpa using this)
    exact Nat.lt_of_lt_of_le h1 (pow2_le (by omega))
theorem Bd.mul {k l : Nat} {a b : Rat} (ha : Bd k a) (hb : Bd l b) : Bd (k + l) (a * b) := by
  rw [← mul_divInt]
  refine bd_div ?_ ?_ ?_
  · exact Int.mul_ne_zero (den_ne a) (den_ne b)
  · rw [Int.natAbs_mul]; exact mul_lt ha.n hb.n
  · rw [Int.natAbs_mul]; exact mul_lt (by have := ha.d; simpa using this) (by have := hb.d; simpa using this)
theorem num_ne {b : Rat} (h : b ≠ 0) : b.num ≠ 0 := fun e => h (Rat.num_eq_zero.mp e)
theorem Bd.div {k l : Nat} {a b : Rat} (ha : Bd k a) (hb : Bd l b) (h0 : b ≠ 0) : Bd (k + l) (a / b) := by
  rw [← div_divInt]
  refine bd_div ?_ ?_ ?_
  · exact Int.mul_ne_zero (den_ne a) (num_ne h0)
  · rw [Int.natAbs_mul]; exact mul_lt ha.n (by have := hb.d; simpa using this)
  · rw [Int.natAbs_mul]; exact mul_lt (by have := ha.d; simpa using this) hb.n
theorem Bd.neg {k : Nat} {a : Rat} (ha : Bd k a) : Bd k (-a) := ⟨by rw [Rat.neg_num, Int.natAbs_neg]; exact ha.n, by rw [Rat.neg_den]; exact ha.d⟩
theorem Bd.sub {k l : Nat} {a b : Rat} (ha : Bd k a) (hb : Bd l b) : Bd (k + l + 1) (a - b) := by
  rw [Rat.sub_eq_add_neg]
  exact ha.add hb.neg
theorem Bd.int {k : Nat} {n : Int} (h : n.natAbs < 2 ^ k) (hk : 1 ≤ k) : Bd k (n : Rat) := ⟨by rw [Rat.num_intCast]; exact h, by rw [Rat.den_intCast]; exact Nat.lt_of_lt_of_le (by omega : 1 < 2 ^ 1) (pow2_le hk)⟩
theorem tR_int (n : Int) : (.tup [.int n, .int 1] : D) = tR n := by
  unfold tR
  rw [Rat.num_intCast, Rat.den_intCast]
  rfl
theorem ofint_ev (n : Int) (S : Store) : d_of_int [.int n] S = .ok (tR n) S := by rw [of_int_ev, tR_int]
theorem dd_lt {k l : Nat} {a b : Rat} (ha : Bd k a) (hb : Bd l b) (h : k + l ≤ 8000) : ((a.den : Int) * b.den).natAbs < 2 ^ 8000 := by
  have h1 : ((a.den : Int) * b.den).natAbs < 2 ^ (k + l) := by rw [Int.natAbs_mul]; exact mul_lt (by have := ha.d; simpa using this) (by have := hb.d; simpa using this)
  exact Nat.lt_of_lt_of_le h1 (pow2_le h)
theorem dn_lt {k l : Nat} {a b : Rat} (ha : Bd k a) (hb : Bd l b) (h : k + l ≤ 8000) : ((a.den : Int) * b.num).natAbs < 2 ^ 8000 := by
  have h1 : ((a.den : Int) * b.num).natAbs < 2 ^ (k + l) := by rw [Int.natAbs_mul]; exact mul_lt (by have := ha.d; simpa using this) hb.n
  exact Nat.lt_of_lt_of_le h1 (pow2_le h)
theorem plus_ev {k l : Nat} {a b : Rat} (ha : Bd k a) (hb : Bd l b) (h : k + l ≤ 8000) (S : Store) : d_plus [tR a, tR b] S = .ok (tR (a + b)) S := by
  have m1 : mulI (.int a.num) (.int b.den) = some (.int (a.num * b.den)) := mulI_ok (by have := ha.bn; have := hb.bd; omega)
  have m2 : mulI (.int b.num) (.int a.den) = some (.int (b.num * a.den)) := mulI_ok (by have := hb.bn; have := ha.bd; omega)
  have m3 : mulI (.int a.den) (.int b.den) = some (.int (a.den * b.den)) := mulI_ok (by have := ha.bd; have := hb.bd; omega)
  refine fnD_rt rfl (en1 := [.val (tR a), .val (tR b)]) ?_
  simp [b_plus, m1, m2, m3, ratio_ev (Int.mul_ne_zero (den_ne a) (den_ne b)) (dd_lt ha hb h), add_divInt]
theorem lplus_ev {k l : Nat} {a b : Rat} (ha : Bd k a) (hb : Bd l b) (h : k + l ≤ 8000) (S : Store) : d__law_plus [tR a, tR b] S = .ok (tR (a + b)) S := by
  have m1 : mulI (.int a.num) (.int b.den) = some (.int (a.num * b.den)) := mulI_ok (by have := ha.bn; have := hb.bd; omega)
  have m2 : mulI (.int b.num) (.int a.den) = some (.int (b.num * a.den)) := mulI_ok (by have := hb.bn; have := ha.bd; omega)
  have m3 : mulI (.int a.den) (.int b.den) = some (.int (a.den * b.den)) := mulI_ok (by have := ha.bd; have := hb.bd; omega)
  refine fnD_rt rfl (en1 := [.val (tR a), .val (tR b)]) ?_
  simp [b__law_plus, m1, m2, m3, lratio_pos (n := a.num * b.den + b.num * a.den) (Int.mul_pos (by have := den_pos a; omega : (0 : Int) < a.den) (by have := den_pos b; omega : (0 : Int) < b.den)) (dd_lt ha hb h), add_divInt]
theorem times_ev {k l : Nat} {a b : Rat} (ha : Bd k a) (hb : Bd l b) (h : k + l ≤ 8000) (S : Store) : d_times [tR a, tR b] S = .ok (tR (a * b)) S := by
  have m1 : mulI (.int a.num) (.int b.num) = some (.int (a.num * b.num)) := mulI_ok (by have := ha.bn; have := hb.bn; omega)
  have m3 : mulI (.int a.den) (.int b.den) = some (.int (a.den * b.den)) := mulI_ok (by have := ha.bd; have := hb.bd; omega)
  refine fnD_rt rfl (en1 := [.val (tR a), .val (tR b)]) ?_
  simp [b_times, m1, m3, ratio_ev (Int.mul_ne_zero (den_ne a) (den_ne b)) (dd_lt ha hb h), mul_divInt]
theorem ltimes_ev {k l : Nat} {a b : Rat} (ha : Bd k a) (hb : Bd l b) (h : k + l ≤ 8000) (S : Store) : d__law_times [tR a, tR b] S = .ok (tR (a * b)) S := by
  have m1 : mulI (.int a.num) (.int b.num) = some (.int (a.num * b.num)) := mulI_ok (by have := ha.bn; have := hb.bn; omega)
  have m3 : mulI (.int a.den) (.int b.den) = some (.int (a.den * b.den)) := mulI_ok (by have := ha.bd; have := hb.bd; omega)
  refine fnD_rt rfl (en1 := [.val (tR a), .val (tR b)]) ?_
  simp [b__law_times, m1, m3, lratio_pos (n := a.num * b.num) (Int.mul_pos (by have := den_pos a; omega : (0 : Int) < a.den) (by have := den_pos b; omega : (0 : Int) < b.den)) (dd_lt ha hb h), mul_divInt]
theorem over_ev {k l : Nat} {a b : Rat} (ha : Bd k a) (hb : Bd l b) (h : k + l ≤ 8000) (h0 : b ≠ 0) (S : Store) : d_over [tR a, tR b] S = .ok (tR (a / b)) S := by
  have m1 : mulI (.int a.num) (.int b.den) = some (.int (a.num * b.den)) := mulI_ok (by have := ha.bn; have := hb.bd; omega)
  have m3 : mulI (.int a.den) (.int b.num) = some (.int (a.den * b.num)) := mulI_ok (by have := ha.bd; have := hb.bn; omega)
  refine fnD_rt rfl (en1 := [.val (tR a), .val (tR b)]) ?_
  simp [b_over, m1, m3, ratio_ev (Int.mul_ne_zero (den_ne a) (num_ne h0)) (dn_lt ha hb h), div_divInt]
theorem over_0 {k : Nat} {a : Rat} (ha : Bd k a) (h : k ≤ 8000) (S : Store) : d_over [tR a, tR 0] S = .exc "NotAllowed" S := by
  have m1 : mulI (.int a.num) (.int 1) = some (.int (a.num * 1)) := mulI_ok (by have := ha.bn; have : bit 1 ≤ 1 := bit_lt (by decide); omega)
  have m3 : mulI (.int a.den) (.int 0) = some (.int (a.den * 0)) := mulI_ok (by have := ha.bd; have : bit 0 ≤ 1 := bit_lt (by decide); omega)
  refine fnD_exc rfl (en1 := [.val (tR a), .val (tR 0)]) ?_
  have e0 : (0 : Rat).num = 0 := rfl
  have e1 : (0 : Rat).den = 1 := rfl
  simp at m1 m3
  simp [b_over, e0, e1, m1, m3, ratio_0]
theorem negated_ev (a : Rat) (S : Store) : d_negated [tR a] S = .ok (tR (-a)) S := by
  refine fnD_rt rfl (en1 := [.val (tR a)]) ?_
  simp [b_negated]
  simp [tR]
theorem minus_ev {k l : Nat} {a b : Rat} (ha : Bd k a) (hb : Bd l b) (h : k + l ≤ 8000) (S : Store) : d_minus [tR a, tR b] S = .ok (tR (a - b)) S := by
  refine fnD_rt rfl (en1 := [.val (tR a), .val (tR b)]) ?_
  simp [b_minus, negated_ev, plus_ev ha hb.neg h, Rat.sub_eq_add_neg]
/-- 1, 0, -1 -/
def sgn (i : Int) : Int := if i = 0 then 0 else if 0 < i then 1 else -1
theorem sign_ev (i j : Int) (S : Store) : d_sign_of [.tup [.int i, .int j]] S = .ok (.int (sgn i)) S := by
  refine fnD_rt rfl (en1 := [.val (.tup [.int i, .int j])]) ?_
  by_cases h0 : i = 0
  · subst h0; simp [b_sign_of, sgn]
  · by_cases h1 : 0 < i
    · simp [b_sign_of, sgn, h0, h1]
    · simp [b_sign_of, sgn, h0, h1]
theorem signR_ev (a : Rat) (S : Store) : d_sign_of [tR a] S = .ok (.int (sgn a.num)) S := sign_ev _ _ S
theorem compare_ev {k l : Nat} {a b : Rat} (ha : Bd k a) (hb : Bd l b) (h : k + l ≤ 8000) (S : Store) : d_compare [tR a, tR b] S = .ok (.int (sgn (a.num * b.den - b.num * a.den))) S := by
  have m1 : mulI (.int a.num) (.int b.den) = some (.int (a.num * b.den)) := mulI_ok (by have := ha.bn; have := hb.bd; omega)
  have m2 : mulI (.int b.num) (.int a.den) = some (.int (b.num * a.den)) := mulI_ok (by have := hb.bn; have := ha.bd; omega)
  refine fnD_rt rfl (en1 := [.val (tR a), .val (tR b)]) ?_
  simp [b_compare, m1, m2, sign_ev]
theorem floor_ev {k : Nat} {a : Rat} (ha : Bd k a) (h : k ≤ 8000) (S : Store) : d_floor_of [tR a] S = .ok (.int (a.num / a.den)) S := by
  have m1 : fdivD (.int a.num) (.int a.den) = some (.int (a.num / a.den)) := fdivD_ok (by have := den_pos a; omega) (by have := ha.bd; omega)
  refine fnD_rt rfl (en1 := [.val (tR a)]) ?_
  simp [b_floor_of, m1]
theorem isratio_ev (i j : Int) (S : Store) : d_is_ratio [.tup [.int i, .int j]] S = .ok (.bl (decide (1 ≤ j) && (Int.gcd i j : Int) == 1)) S := by
  refine fnD_rt rfl (en1 := [.val (.tup [.int i, .int j])]) ?_
  by_cases h0 : 1 ≤ j
  · simp [b_is_ratio, common_ev, h0]
  · simp [b_is_ratio, common_ev, h0]
theorem cmp_lt (a b : Rat) : sgn (a.num * b.den - b.num * a.den) = if a < b then -1 else if b < a then 1 else 0 := by
  simp only [Rat.lt_iff]
  unfold sgn
  repeat' split
  all_goals omega
theorem gcd_red (q : Rat) : Int.gcd q.num q.den = 1 := q.reduced
theorem cross {n d : Int} (h : d ≠ 0) : (Rat.divInt n d).num * d = n * (Rat.divInt n d).den := by
  have h1 := Rat.num_divInt_den (Rat.divInt n d)
  exact (Rat.divInt_eq_divInt_iff (den_ne _) h).mp h1
theorem den_lt {k : Nat} {q : Rat} (h : Bd k q) (hk : k ≤ 19000) : ((q.den : Int)).natAbs < 2 ^ 19000 := by
  have := h.d
  rw [Int.natAbs_natCast]
  exact Nat.lt_of_lt_of_le this (pow2_le hk)
theorem floor_divInt {n d : Int} (h : 0 < d) : (Rat.divInt n d).num / (Rat.divInt n d).den = n / d := by
  have hc := cross (n := n) (d := d) (by omega)
  have hp : (0 : Int) < (Rat.divInt n d).den := by have := den_pos (Rat.divInt n d); omega
  generalize Rat.divInt n d = q at hc hp
  rw [← Int.mul_ediv_mul_of_pos_left q.num q.den h, hc, Int.mul_comm (q.den : Int) d]
  exact Int.mul_ediv_mul_of_pos_left n d hp
end Ks

set_option linter.all false
set_option maxRecDepth 100000
namespace Ks
open Kb PySem
/-- a row of ratios -/
def tL (xs : List Rat) : D := .tup (xs.map tR)
/-- all within k bits -/
def BdL (k : Nat) (xs : List Rat) : Prop := ∀ x ∈ xs, Bd k x
theorem BdL.at {k : Nat} {xs : List Rat} {i : Nat} {x : Rat} (h : BdL k xs) (e : xs[i]? = some x) : Bd k x := h x (List.mem_of_getElem? e)
theorem BdL.mono {k l : Nat} {xs : List Rat} (h : BdL k xs) (hl : k ≤ l) : BdL l xs := fun x hx => (h x hx).mono hl
theorem tL_at {xs : List Rat} {i : Nat} {d : D} (h : (xs.map tR)[i]? = some d) : ∃ x, xs[i]? = some x ∧ d = tR x := by
  rw [List.getElem?_map] at h
  cases e : xs[i]? with
  | none => rw [e] at h; cases h
  | some x => rw [e] at h; exact ⟨x, rfl, (Option.some.inj h).symm⟩
@[simp] theorem len_tL {xs : List Rat} : lenD [tL xs] = some (.int xs.length) := by
  show lenD [.tup (xs.map tR)] = _
  rw [lenD_tup, List.length_map]
theorem widths_ok {xs ys : List Rat} (h : xs.length = ys.length) (S : Store) : d_check_widths [tL xs, tL ys] S = .ok .non S := by
  refine fnD_nx rfl (en1 := [.val (tL xs), .val (tL ys)]) ?_
  simp [b_check_widths, h]
theorem widths_no {xs ys : List Rat} (h : xs.length ≠ ys.length) (S : Store) : d_check_widths [tL xs, tL ys] S = .exc "NotAllowed" S := by
  refine fnD_exc rfl (en1 := [.val (tL xs), .val (tL ys)]) ?_
  have : ¬ ((xs.length : Int) = ys.length) := by omega
  simp [b_check_widths, this]
@[simp] theorem zip_tL {xs ys : List Rat} : zipD [tL xs, tL ys] = some (zipL (xs.map tR) (ys.map tR)) := (rfl)
theorem zip_at {xs ys : List Rat} {i : Nat} {d : D} (h : (zipL (xs.map tR) (ys.map tR))[i]? = some d) : ∃ x y, xs[i]? = some x ∧ ys[i]? = some y ∧ d = .tup [tR x, tR y] := by
  unfold zipL at h
  rw [List.getElem?_zipWith] at h
  cases e1 : (xs.map tR)[i]? with
  | none => rw [e1] at h; cases h
  | some x =>
    cases e2 : (ys.map tR)[i]? with
    | none => rw [e1, e2] at h; cases h
    | some y =>
      rw [e1, e2] at h
      obtain ⟨x', h1, rfl⟩ := tL_at e1
      obtain ⟨y', h2, rfl⟩ := tL_at e2
      exact ⟨x', y', h1, h2, (Option.some.inj h).symm⟩
theorem zip_len {xs ys : List Rat} : (zipL (xs.map tR) (ys.map tR)).length = min xs.length ys.length := by
  unfold zipL
  rw [List.length_zipWith, List.length_map, List.length_map]
@[simp] theorem put_2 {i j : Nat} {x y : D} {env : Kb.Env} : (Tg.tp [.nm i, .nm j]).put (.tup [x, y]) env = some ((env.set i (.val x)).set j (.val y)) := (rfl)
@[simp] theorem tupleD_lt {xs : List Rat} : tupleD [.lst (xs.map tR)] = some (tL xs) := (rfl)
theorem addrows_ev {k l : Nat} {xs ys : List Rat} (hx : BdL k xs) (hy : BdL l ys) (h : xs.length = ys.length) (hk : k + l ≤ 8000) (hn : xs.length ≤ LN) (S : Store) : d_add_rows [tL xs, tL ys] S = .ok (tL (List.zipWith (· + ·) xs ys)) S := by
  refine fnD_rt rfl (en1 := [.val (tL xs), .val (tL ys), .no, .no]) ?_
  have hl : l_add_rows_1 [.val (tL xs), .val (tL ys), .no, .no] S = .ok ((List.zipWith (· + ·) xs ys).map tR) S := by
    refine eLc_of (ds := zipL (xs.map tR) (ys.map tR)) (S1 := S) (by simp) (lcGo_idx (es := (List.zipWith (· + ·) xs ys).map tR) [] ?_ ?_ ?_)
    · rw [zip_len, List.length_map, List.length_zipWith]
    · intro i d hd
      obtain ⟨x, y, h1, h2, rfl⟩ := zip_at hd
      refine ⟨_, tR (x + y), put_2, rfl, ?_, ?_⟩
      · simp [plus_ev (hx.at h1) (hy.at h2) hk]
      · rw [List.getElem?_map, List.getElem?_zipWith, h1, h2]; rfl
    · rw [zip_len]; simp; omega
  simp [b_add_rows, widths_ok h, hl]
  simp [tL]
theorem addrows_no {xs ys : List Rat} (h : xs.length ≠ ys.length) (S : Store) : d_add_rows [tL xs, tL ys] S = .exc "NotAllowed" S := by
  refine fnD_exc rfl (en1 := [.val (tL xs), .val (tL ys), .no, .no]) ?_
  simp [b_add_rows, widths_no h]
theorem BdL.add {k l : Nat} {xs ys : List Rat} (hx : BdL k xs) (hy : BdL l ys) : BdL (k + l + 1) (List.zipWith (· + ·) xs ys) := by
  intro z hz
  obtain ⟨i, hi⟩ := List.getElem?_of_mem hz
  rw [List.getElem?_zipWith] at hi
  cases e1 : xs[i]? with
  | none => rw [e1] at hi; cases hi
  | some x =>
    cases e2 : ys[i]? with
    | none => rw [e1, e2] at hi; cases hi
    | some y =>
      rw [e1, e2] at hi
      cases hi
      exact (hx.at e1).add (hy.at e2)
theorem BdL.scale {k l : Nat} {f : Rat} {xs : List Rat} (hf : Bd k f) (hx : BdL l xs) : BdL (k + l) (xs.map (f * ·)) := by
  intro z hz
  obtain ⟨x, h1, rfl⟩ := List.mem_map.mp hz
  exact hf.mul (hx x h1)
@[simp] theorem seq_tL {xs : List Rat} : seqD (tL xs) = some (xs.map tR) := (rfl)
theorem scale_ev {k l : Nat} {f : Rat} {xs : List Rat} (hf : Bd k f) (hx : BdL l xs) (hk : k + l ≤ 8000) (hn : xs.length ≤ LN) (S : Store) : d_scale_row [tR f, tL xs] S = .ok (tL (xs.map (f * ·))) S := by
  refine fnD_rt rfl (en1 := [.val (tR f), .val (tL xs), .no]) ?_
  have hl : l_scale_row_1 [.val (tR f), .val (tL xs), .no] S = .ok ((xs.map (f * ·)).map tR) S := by
    refine eLc_of (ds := xs.map tR) (S1 := S) (by simp) (lcGo_idx (es := (xs.map (f * ·)).map tR) [] ?_ ?_ ?_)
    · simp
    · intro i d hd
      obtain ⟨x, h1, rfl⟩ := tL_at hd
      refine ⟨_, tR (f * x), put_nm, rfl, ?_, ?_⟩
      · simp [times_ev hf (hx.at h1) hk]
      · rw [List.getElem?_map, List.getElem?_map, h1]; rfl
    · simp; omega
  simp [b_scale_row, hl]
  simp [tL]
/-- the sum of the products -/
def dot : List Rat → List Rat → Rat
  | x :: xs, y :: ys => x * y + dot xs ys
  | _, _ => 0
/-- .. from the front -/
def dotF (t : Rat) : List Rat → List Rat → Rat
  | x :: xs, y :: ys => dotF (t + x * y) xs ys
  | _, _ => t
theorem dotF_eq : ∀ (t : Rat) (xs ys : List Rat), dotF t xs ys = t + dot xs ys
  | t, x :: xs, y :: ys => by rw [dotF, dot, dotF_eq]; grind
  | t, [], ys => by rw [dotF.eq_def, dot.eq_def]; simp [Rat.add_zero]
  | t, x :: xs, [] => by rw [dotF.eq_def, dot.eq_def]; simp [Rat.add_zero]
theorem BdD {k l n : Nat} : ∀ {xs ys : List Rat} {t : Rat}, Bd n t → BdL k xs → BdL l ys → Bd (n + xs.length * (k + l + 1)) (dotF t xs ys)
  | x :: xs, y :: ys, t, ht, hx, hy => by
    have h1 := ht.add ((hx x List.mem_cons_self).mul (hy y List.mem_cons_self))
    have h2 := BdD (xs := xs) (ys := ys) h1 (fun z hz => hx z (List.mem_cons_of_mem _ hz)) (fun z hz => hy z (List.mem_cons_of_mem _ hz))
    rw [dotF]
    refine h2.mono ?_
    rw [List.length_cons, Nat.succ_mul]; omega
  | [], ys, t, ht, hx, hy => by rw [dotF.eq_def]; exact ht.mono (by omega)
  | x :: xs, [], t, ht, hx, hy => by rw [dotF.eq_def]; exact ht.mono (by omega)
theorem Bd0 {k : Nat} (h : 1 ≤ k) : Bd k 0 := (⟨by decide, by decide⟩ : Bd 1 0).mono h
theorem bd_dot {k l : Nat} {xs ys : List Rat} (hx : BdL k xs) (hy : BdL l ys) : Bd (1 + xs.length * (k + l + 1)) (dot xs ys) := by
  have := BdD (t := 0) (Bd0 (Nat.le_refl 1)) hx hy
  rw [dotF_eq, Rat.zero_add] at this
  exact this
theorem product_ev {k l : Nat} {xs ys : List Rat} (hx : BdL k xs) (hy : BdL l ys) (h : xs.length = ys.length) (hk : 1 + xs.length * (k + l + 1) + k + l ≤ 8000) (S : Store) : d_product [tL xs, tL ys] S = .ok (tR (dot xs ys)) S := by
  have loop : ∀ (us vs : List Rat) (t : Rat) (n : Nat) (s3 s4 : Slot), us.length = vs.length → BdL k us → BdL l vs → Bd n t → n + us.length * (k + l + 1) + k + l ≤ 8000 → ∃ s3' s4', forGo (.tp [(.nm 3), (.nm 4)]) b_product_1 (zipL (us.map tR) (vs.map tR)) [.val (tL xs), .val (tL ys), .val (tR t), s3, s4] S = .ok .nx [.val (tL xs), .val (tL ys), .val (tR (dotF t us vs)), s3', s4'] S := by
    intro us
    induction us with
    | nil =>
      intro vs t n s3 s4 hl _ _ _ _
      have : vs = [] := List.eq_nil_of_length_eq_zero hl.symm
      subst this
      exact ⟨s3, s4, rfl⟩
    | cons u us ih =>
      intro vs t n s3 s4 hl hu hv ht hb
      obtain ⟨v, vs, rfl⟩ : ∃ v vs', vs = v :: vs' := by
        cases vs with
        | nil => cases hl
        | cons v vs => exact ⟨v, vs, rfl⟩
      rw [List.length_cons, Nat.succ_mul] at hb
      have bu := hu u List.mem_cons_self
      have bv := hv v List.mem_cons_self
      obtain ⟨s3', s4', hg⟩ := ih vs (t + u * v) (n + (k + l) + 1) (.val (tR u)) (.val (tR v)) (by simpa using hl) (fun z hz => hu z (List.mem_cons_of_mem _ hz)) (fun z hz => hv z (List.mem_cons_of_mem _ hz)) (ht.add (bu.mul bv)) (by omega)
      refine ⟨s3', s4', (forGo_cons (e2 := [.val (tL xs), .val (tL ys), .val (tR (t + u * v)), .val (tR u), .val (tR v)]) (S2 := S) put_2 ?_).trans hg⟩
      simp [b_product_1, times_ev bu bv (by omega), plus_ev ht (bu.mul bv) (by omega)]
  obtain ⟨s3, s4, hg⟩ := loop xs ys 0 1 .no .no h hx hy (Bd0 (Nat.le_refl 1)) hk
  rw [dotF_eq, Rat.zero_add] at hg
  refine fnD_rt rfl (en1 := [.val (tL xs), .val (tL ys), .val (tR (dot xs ys)), s3, s4]) ?_
  have t0 : (.tup [.int 0, .int 1] : D) = tR 0 := rfl
  simp [b_product, widths_ok h, of_int_ev, t0, hg]
theorem product_no {xs ys : List Rat} (h : xs.length ≠ ys.length) (S : Store) : d_product [tL xs, tL ys] S = .exc "NotAllowed" S := by
  refine fnD_exc rfl (en1 := [.val (tL xs), .val (tL ys), .no, .no, .no]) ?_
  simp [b_product, widths_no h]
/-- a form -/
def tF (xs : List Rat) (c : Rat) : D := .tup [tL xs, tR c]
@[simp] theorem tF0 {xs : List Rat} {c : Rat} : ixD (tF xs c) (.int 0) = some (tL xs) := ixD_t0
@[simp] theorem tF1 {xs : List Rat} {c : Rat} : ixD (tF xs c) (.int 1) = some (tR c) := ixD_t1
theorem value_ev {k l n : Nat} {xs ys : List Rat} {c : Rat} (hx : BdL k xs) (hy : BdL l ys) (hc : Bd n c) (h : xs.length = ys.length) (hk : 1 + xs.length * (k + l + 1) + k + l + n ≤ 8000) (S : Store) : d_value_at [tF xs c, tL ys] S = .ok (tR (dot xs ys + c)) S := by
  refine fnD_rt rfl (en1 := [.val (tF xs c), .val (tL ys)]) ?_
  simp [b_value_at, product_ev hx hy h (by omega), plus_ev (bd_dot hx hy) hc (by omega)]
theorem value_no {xs ys : List Rat} {c : Rat} (h : xs.length ≠ ys.length) (S : Store) : d_value_at [tF xs c, tL ys] S = .exc "NotAllowed" S := by
  refine fnD_exc rfl (en1 := [.val (tF xs c), .val (tL ys)]) ?_
  simp [b_value_at, product_no h]
theorem addforms_ev {k l m n : Nat} {xs ys : List Rat} {c d : Rat} (hx : BdL k xs) (hy : BdL l ys) (hc : Bd m c) (hd : Bd n d) (h : xs.length = ys.length) (hk : k + l ≤ 8000) (hm : m + n ≤ 8000) (hn : xs.length ≤ LN) (S : Store) : d_add_forms [tF xs c, tF ys d] S = .ok (tF (List.zipWith (· + ·) xs ys) (c + d)) S := by
  refine fnD_rt rfl (en1 := [.val (tF xs c), .val (tF ys d)]) ?_
  simp [b_add_forms, addrows_ev hx hy h hk hn, plus_ev hc hd hm]
  rfl
theorem addforms_no {xs ys : List Rat} {c d : Rat} (h : xs.length ≠ ys.length) (S : Store) : d_add_forms [tF xs c, tF ys d] S = .exc "NotAllowed" S := by
  refine fnD_exc rfl (en1 := [.val (tF xs c), .val (tF ys d)]) ?_
  simp [b_add_forms, addrows_no h]
theorem scaleform_ev {k l m : Nat} {f : Rat} {xs : List Rat} {c : Rat} (hf : Bd k f) (hx : BdL l xs) (hc : Bd m c) (hk : k + l ≤ 8000) (hm : k + m ≤ 8000) (hn : xs.length ≤ LN) (S : Store) : d_scale_form [tR f, tF xs c] S = .ok (tF (xs.map (f * ·)) (f * c)) S := by
  refine fnD_rt rfl (en1 := [.val (tR f), .val (tF xs c)]) ?_
  simp [b_scale_form, scale_ev hf hx hk hn, times_ev hf hc hm]
  rfl
end Ks

set_option linter.all false
set_option maxRecDepth 100000
namespace Ks
open Kb PySem
mutual
theorem eqv_self : ∀ (n : Nat) (d : D), okd n d = true → eqv d d = true
  | _, .non, _ => by simp [eqv]
  | _, .bl _, _ => by simp [eqv]
  | _, .int _, _ => by simp [eqv]
  | _, .str _, _ => by simp [eqv]
  | n + 1, .tup xs, h => by
    rw [okd] at h
    rw [eqv]
    exact eqvs_self n xs h
  | n + 1, .lst xs, h => by
    rw [okd] at h
    rw [eqv]
    exact eqvs_self n xs h
  | 0, .tup xs, h => by simp [okd] at h
  | 0, .lst xs, h => by simp [okd] at h
  | _, .cell _, h => by simp [okd] at h
  | _, .glo _, h => by simp [okd] at h
  | _, .scr _, h => by simp [okd] at h
theorem eqvs_self : ∀ (n : Nat) (ds : List D), okds n ds = true → eqvs ds ds = true
  | _, [], _ => by simp [eqvs]
  | n, d :: ds, h => by
    rw [okds, Bool.and_eq_true] at h
    rw [eqvs, eqv_self n d h.1, eqvs_self n ds h.2]
    rfl
end
theorem neD_self {d : D} (h : okd 60 d = true) : neD d d = some (.bl false) := by
  unfold neD
  rw [h, eqv_self 60 d h]
  rfl
theorem eqD_self {d : D} (h : okd 60 d = true) : eqD d d = some (.bl true) := by
  unfold eqD
  rw [h, eqv_self 60 d h]
  rfl
theorem okd_tR (n : Nat) (q : Rat) : okd (n + 1) (tR q) = true := by simp [tR, okd, okds]
theorem okds_all {n : Nat} : ∀ {ds : List D}, (∀ d ∈ ds, okd n d = true) → okds n ds = true
  | [], _ => by simp [okds]
  | d :: ds, h => by
    rw [okds, h d List.mem_cons_self, okds_all fun x hx => h x (List.mem_cons_of_mem _ hx)]
    rfl
theorem okd_tL (n : Nat) (xs : List Rat) : okd (n + 2) (tL xs) = true := by
  unfold tL
  rw [okd]
  exact okds_all fun d hd => by
    obtain ⟨q, _, rfl⟩ := List.mem_map.mp hd
    exact okd_tR n q
theorem okd_tF (n : Nat) (xs : List Rat) (c : Rat) : okd (n + 3) (tF xs c) = true := by
  unfold tF
  rw [okd]
  exact okds_all fun d hd => by
    rcases List.mem_cons.mp hd with rfl | hd
    · exact okd_tL n xs
    · rw [List.mem_singleton.mp hd]; exact okd_tR (n + 1) c
@[simp] theorem ne_tR (q : Rat) : neD (tR q) (tR q) = some (.bl false) := neD_self (okd_tR 59 q)
@[simp] theorem ne_tL (xs : List Rat) : neD (tL xs) (tL xs) = some (.bl false) := neD_self (okd_tL 58 xs)
@[simp] theorem ne_tF (xs : List Rat) (c : Rat) : neD (tF xs c) (tF xs c) = some (.bl false) := neD_self (okd_tF 57 xs c)
@[simp] theorem eq_tR (q : Rat) : eqD (tR q) (tR q) = some (.bl true) := eqD_self (okd_tR 59 q)
@[simp] theorem eq_tL (xs : List Rat) : eqD (tL xs) (tL xs) = some (.bl true) := eqD_self (okd_tL 58 xs)
/-- the value of a sum of products, part by part -/
theorem dot_snoc : ∀ {xs ys : List Rat} {i : Nat} {x y : Rat}, xs[i]? = some x → ys[i]? = some y → dot (xs.take (i + 1)) (ys.take (i + 1)) = dot (xs.take i) (ys.take i) + x * y
  | a :: xs, b :: ys, 0, x, y, h1, h2 => by
    cases h1; cases h2
    simp [dot, Rat.add_zero, Rat.zero_add]
  | a :: xs, b :: ys, i + 1, x, y, h1, h2 => by
    simp only [List.take_succ_cons, dot]
    rw [dot_snoc (xs := xs) (ys := ys) (by simpa using h1) (by simpa using h2)]
    grind
  | [], _, _, _, _, h1, _ => by cases h1
  | _ :: _, [], _, _, _, _, h2 => by cases h2
theorem BdL.take {k i : Nat} {xs : List Rat} (h : BdL k xs) : BdL k (xs.take i) := fun x hx => h x (List.mem_of_mem_take hx)
theorem bd_take {k l n i : Nat} {xs ys : List Rat} {c : Rat} (hc : Bd n c) (hx : BdL k xs) (hy : BdL l ys) (hi : i ≤ xs.length) : Bd (n + i * (k + l + 1)) (c + dot (xs.take i) (ys.take i)) := by
  have := BdD hc (hx.take (i := i)) (hy.take (i := i))
  rw [dotF_eq, List.length_take, Nat.min_eq_left hi] at this
  exact this
end Ks
namespace Ks
open Kb PySem
theorem dot_nil_l (ys : List Rat) : dot [] ys = 0 := by rw [dot.eq_def]
theorem dot_nil_r (xs : List Rat) : dot xs [] = 0 := by cases xs <;> rw [dot.eq_def]
theorem dot_comm : ∀ (xs ys : List Rat), dot xs ys = dot ys xs
  | x :: xs, y :: ys => by rw [dot, dot, dot_comm xs ys]; grind
  | [], ys => by rw [dot_nil_l, dot_nil_r]
  | x :: xs, [] => by rw [dot_nil_l, dot_nil_r]
theorem dot_addL : ∀ {xs ys : List Rat} (zs : List Rat), xs.length = ys.length → dot (List.zipWith (· + ·) xs ys) zs = dot xs zs + dot ys zs
  | [], [], zs, _ => by rw [List.zipWith_nil_left, dot_nil_l]; grind
  | x :: xs, y :: ys, [], h => by rw [dot_nil_r, dot_nil_r, dot_nil_r]; grind
  | x :: xs, y :: ys, z :: zs, h => by
    rw [List.zipWith_cons_cons, dot, dot, dot, dot_addL zs (by simpa using h)]
    grind
theorem dot_scaleL (f : Rat) : ∀ (xs zs : List Rat), dot (xs.map (f * ·)) zs = f * dot xs zs
  | [], zs => by rw [List.map_nil, dot_nil_l]; grind
  | x :: xs, [] => by rw [dot_nil_r, dot_nil_r]; grind
  | x :: xs, z :: zs => by
    rw [List.map_cons, dot, dot, dot_scaleL f xs zs]
    grind
theorem dot_addR {ys zs : List Rat} (xs : List Rat) (h : ys.length = zs.length) : dot xs (List.zipWith (· + ·) ys zs) = dot xs ys + dot xs zs := by
  rw [dot_comm, dot_addL xs h, dot_comm ys, dot_comm zs]
theorem dot_scaleR (f : Rat) (xs zs : List Rat) : dot xs (zs.map (f * ·)) = f * dot xs zs := by
  rw [dot_comm, dot_scaleL, dot_comm]
@[simp] theorem ty_tR (q : Rat) : tyD (tR q) = some "tuple" := (rfl)
@[simp] theorem ty_tL (q : List Rat) : tyD (tL q) = some "tuple" := (rfl)
@[simp] theorem ty_tF (q : List Rat) (c : Rat) : tyD (tF q c) = some "tuple" := (rfl)
@[simp] theorem len_tF (q : List Rat) (c : Rat) : lenD [tF q c] = some (.int 2) := (rfl)
theorem ix_tL {xs : List Rat} {i : Nat} {x : Rat} (h : xs[i]? = some x) : ixD (tL xs) (.int i) = some (tR x) := ixD_tup (by rw [List.getElem?_map, h]; rfl)
theorem get_of {α : Type} {xs : List α} {i : Nat} (h : i < xs.length) : ∃ x, xs[i]? = some x := ⟨_, List.getElem?_eq_getElem h⟩
theorem tL_def (xs : List Rat) : (.tup (xs.map tR) : D) = tL xs := rfl
end Ks

set_option linter.all false
set_option maxRecDepth 100000
namespace Ks
open Kb PySem
/-! the other family of the laws' helpers: 4000 turns, numbers of 31 bits -/
theorem euclidN {S : Store} (n d : D) : ∀ (k : Nat) (ds : List D) (x y : Nat) (s4 s5 : Slot), y < 2 ^ k → 2 * k + 1 ≤ ds.length → ∃ s4' s5', forGo (.nm 4) b__law_ratioN_1 ds [.val n, .val d, .val (.int x), .val (.int y), s4, s5] S = .ok .nx [.val n, .val d, .val (.int (Nat.gcd x y : Nat)), .val (.int 0), s4', s5'] S := by
  have stop : ∀ (ds : List D) (x : Nat) (s4 s5 : Slot), 1 ≤ ds.length → ∃ s4' s5', forGo (.nm 4) b__law_ratioN_1 ds [.val n, .val d, .val (.int x), .val (.int 0), s4, s5] S = .ok .nx [.val n, .val d, .val (.int (x : Nat)), .val (.int 0), s4', s5'] S := by
    intro ds x s4 s5 hl
    obtain ⟨a, ds, rfl⟩ := List.exists_cons_of_length_pos (by omega : 0 < ds.length)
    refine ⟨.val a, s5, ?_⟩
    simp [for_turn, b__law_ratioN_1]
  have one : ∀ (a : D) (ds : List D) (x y : Nat) (s4 s5 : Slot), y ≠ 0 → forGo (.nm 4) b__law_ratioN_1 (a :: ds) [.val n, .val d, .val (.int x), .val (.int y), s4, s5] S = forGo (.nm 4) b__law_ratioN_1 ds [.val n, .val d, .val (.int y), .val (.int ((x % y : Nat) : Int)), .val a, .val (.int ((x % y : Nat) : Int))] S := by
    intro a ds x y s4 s5 hy
    have hm : modD (.int x) (.int y) = some (.int ((x % y : Nat) : Int)) := modD_ok (by omega)
    refine forGo_cons put_nm ?_
    simp [b__law_ratioN_1, hy, hm]
  intro k
  induction k with
  | zero =>
    intro ds x y s4 s5 hy hl
    have : y = 0 := by omega
    subst this
    rw [Nat.gcd_zero_right]
    exact stop ds x s4 s5 hl
  | succ k ih =>
    intro ds x y s4 s5 hy hl
    by_cases h0 : y = 0
    · subst h0
      rw [Nat.gcd_zero_right]
      exact stop ds x s4 s5 (by omega)
    · obtain ⟨a, ds, rfl⟩ := List.exists_cons_of_length_pos (by omega : 0 < ds.length)
      rw [List.length_cons] at hl
      rw [one a ds x y s4 s5 h0]
      have hg : Nat.gcd x y = Nat.gcd y (x % y) := by rw [Nat.gcd_comm x y, Nat.gcd_rec y x]; exact Nat.gcd_comm _ _
      rw [hg]
      generalize hr : x % y = r
      have hr1 : r < y := by rw [← hr]; exact Nat.mod_lt x (by omega)
      by_cases h1 : r = 0
      · subst h1
        rw [Nat.gcd_zero_right]
        exact stop ds y _ _ (by omega)
      · obtain ⟨b, ds, rfl⟩ := List.exists_cons_of_length_pos (by omega : 0 < ds.length)
        rw [List.length_cons] at hl
        rw [one b ds y r _ _ h1]
        have hg : Nat.gcd y r = Nat.gcd r (y % r) := by rw [Nat.gcd_comm y r, Nat.gcd_rec r y]; exact Nat.gcd_comm _ _
        rw [hg]
        refine ih ds r (y % r) _ _ ?_ (by omega)
        have h2 : y % r < r := Nat.mod_lt y (by omega)
        have h3 : y % r + r ≤ y := by
          have := Nat.div_add_mod y r
          have h4 : 1 ≤ y / r := (Nat.one_le_div_iff (by omega)).mpr (by omega)
          have h5 : r * 1 ≤ r * (y / r) := Nat.mul_le_mul_left r h4
          omega
        rw [Nat.pow_succ] at hy
        omega
theorem ratioN_ev {n d : Int} (h : 0 < d) (hk : d.natAbs < 2 ^ 1990) (S : Store) : d__law_ratioN [.int n, .int d] S = .ok (tR (Rat.divInt n d)) S := by
  have g0 := gcd_pos (n := n) h
  have hk' : d.natAbs < 2 ^ 8000 := Nat.lt_of_lt_of_le hk (pow2_le (by omega))
  have f : ∀ x, fdivD (.int x) (.int (Int.gcd n d)) = some (.int (x / Int.gcd n d)) := fun x => fdivD_ok (by omega) (by have := gcd_bit (n := n) h hk'; omega)
  obtain ⟨s4, s5, hl⟩ := euclidN (S := S) (.int n) (.int d) 1990 (rngI 0 4000) n.natAbs d.natAbs .no .no hk (by rw [rngI_length]; omega)
  have hg : (Nat.gcd n.natAbs d.natAbs) = Int.gcd n d := rfl
  rw [hg] at hl
  refine fnD_rt rfl (en1 := [.val (.int n), .val (.int d), .val (.int (Int.gcd n d)), .val (.int 0), s4, s5]) ?_
  have h1 : ¬ d < 0 := by omega
  obtain ⟨e1, e2⟩ := divInt_pos (n := n) h
  have ha : ∀ z : Int, (if z < 0 then -z else z) = (z.natAbs : Int) := fun z => by split <;> omega
  have hb : ((d.natAbs : Nat) : Int) = d := by omega
  simp only [tR, e1, e2]
  rw [hb] at hl
  simp [b__law_ratioN, ha, hl, h1, f]
theorem dd_ltN {k l : Nat} {a b : Rat} (ha : Bd k a) (hb : Bd l b) (h : k + l ≤ 1990) : ((a.den : Int) * b.den).natAbs < 2 ^ 1990 := by
  have h1 : ((a.den : Int) * b.den).natAbs < 2 ^ (k + l) := by rw [Int.natAbs_mul]; exact mul_lt (by have := ha.d; simpa using this) (by have := hb.d; simpa using this)
  exact Nat.lt_of_lt_of_le h1 (pow2_le h)
theorem den2_pos (a b : Rat) : (0 : Int) < a.den * b.den := Int.mul_pos (by have := den_pos a; omega) (by have := den_pos b; omega)
theorem plusN_ev {k l : Nat} {a b : Rat} (ha : Bd k a) (hb : Bd l b) (h : k + l ≤ 1990) (S : Store) : d__law_plusN [tR a, tR b] S = .ok (tR (a + b)) S := by
  have m1 : mulI (.int a.num) (.int b.den) = some (.int (a.num * b.den)) := mulI_ok (by have := ha.bn; have := hb.bd; omega)
  have m2 : mulI (.int b.num) (.int a.den) = some (.int (b.num * a.den)) := mulI_ok (by have := hb.bn; have := ha.bd; omega)
  have m3 : mulI (.int a.den) (.int b.den) = some (.int (a.den * b.den)) := mulI_ok (by have := ha.bd; have := hb.bd; omega)
  refine fnD_rt rfl (en1 := [.val (tR a), .val (tR b)]) ?_
  simp [b__law_plusN, m1, m2, m3, ratioN_ev (n := a.num * b.den + b.num * a.den) (den2_pos a b) (dd_ltN ha hb h), add_divInt]
theorem timesN_ev {k l : Nat} {a b : Rat} (ha : Bd k a) (hb : Bd l b) (h : k + l ≤ 1990) (S : Store) : d__law_timesN [tR a, tR b] S = .ok (tR (a * b)) S := by
  have m1 : mulI (.int a.num) (.int b.num) = some (.int (a.num * b.num)) := mulI_ok (by have := ha.bn; have := hb.bn; omega)
  have m3 : mulI (.int a.den) (.int b.den) = some (.int (a.den * b.den)) := mulI_ok (by have := ha.bd; have := hb.bd; omega)
  refine fnD_rt rfl (en1 := [.val (tR a), .val (tR b)]) ?_
  simp [b__law_timesN, m1, m3, ratioN_ev (n := a.num * b.num) (den2_pos a b) (dd_ltN ha hb h), mul_divInt]
theorem less_ev {k l : Nat} {a b : Rat} (ha : Bd k a) (hb : Bd l b) (h : k + l ≤ 100000) (S : Store) : d__law_less [tR a, tR b] S = .ok (.bl (decide (a < b))) S := by
  have m1 : mulI (.int a.num) (.int b.den) = some (.int (a.num * b.den)) := mulI_ok (by have := ha.bn; have := hb.bd; omega)
  have m2 : mulI (.int b.num) (.int a.den) = some (.int (b.num * a.den)) := mulI_ok (by have := hb.bn; have := ha.bd; omega)
  refine fnD_rt rfl (en1 := [.val (tR a), .val (tR b)]) ?_
  simp [b__law_less, m1, m2, Rat.lt_iff]
theorem lproduct_ev {k l : Nat} {xs ys : List Rat} (hx : BdL k xs) (hy : BdL l ys) (h : xs.length ≤ ys.length) (hk : 1 + xs.length * (k + l + 1) + k + l ≤ 1990) (S : Store) : d__law_product [tL xs, tL ys] S = .ok (tR (dot xs ys)) S := by
  have H := fnD_wp (n := 2) (k := 2) (b := b__law_product) (ds := [tL xs, tL ys]) (S := S) (Q := fun d S1 => S1 = S ∧ d = tR (dot xs ys)) rfl ?_
  · obtain ⟨d, S1, h1, rfl, rfl⟩ := H
    exact h1
  have hw : xs.length ≤ 1990 := Nat.le_trans (Nat.le_mul_of_pos_right _ (by omega : 0 < k + l + 1)) (by omega)
  have hr := rng_nat (n := xs.length) (by omega)
  have t0 : (.tup [.int 0, .int 1] : D) = tR 0 := rfl
  simp [b__law_product, hr, t0]
  refine wp_bind (wp_rng0 (fun i e S1 => S1 = S ∧ i ≤ xs.length ∧ ∃ s3 : Slot, e = [.val (tL xs), .val (tL ys), .val (tR (0 + dot (xs.take i) (ys.take i))), s3]) ⟨rfl, by omega, .no, by simp [dot_nil_l, Rat.add_zero]⟩ ?_ ?_)
  · rintro i e S1 hi ⟨rfl, _, s3, rfl⟩
    obtain ⟨x, h1⟩ := get_of (xs := xs) (i := i) (by omega)
    obtain ⟨y, h2⟩ := get_of (xs := ys) (i := i) (by omega)
    have ht := bd_take (Bd0 (Nat.le_refl 1)) hx hy (i := i) (by omega)
    have hi2 : i * (k + l + 1) ≤ xs.length * (k + l + 1) := Nat.mul_le_mul_right _ (by omega)
    have e1 := timesN_ev (hx.at h1) (hy.at h2) (by omega) S1
    have e2 := plusN_ev ht ((hx.at h1).mul (hy.at h2)) (by omega) S1
    have e3 : (0 : Rat) + dot (xs.take i) (ys.take i) + x * y = 0 + dot (xs.take (i + 1)) (ys.take (i + 1)) := by rw [dot_snoc h1 h2]; grind
    by_cases hx0 : x = 0
    · have e4 : (0 : Rat) + dot (xs.take i) (ys.take i) = 0 + dot (xs.take (i + 1)) (ys.take (i + 1)) := by rw [← e3, hx0]; grind
      rw [e4]
      have hn : x.num = 0 := by rw [hx0]; rfl
      simp only [b__law_product_1, sIf_ev]
      simp [ix_tL h1, hn]
      omega
    · by_cases hy0 : y = 0
      · have e4 : (0 : Rat) + dot (xs.take i) (ys.take i) = 0 + dot (xs.take (i + 1)) (ys.take (i + 1)) := by rw [← e3, hy0]; grind
        rw [e4]
        have hn : y.num = 0 := by rw [hy0]; rfl
        simp only [b__law_product_1, sIf_ev]
        simp [ix_tL h1, ix_tL h2, hn, hx0]
        omega
      · rw [e3] at e2
        simp only [b__law_product_1, sIf_ev]
        simp only [Rat.zero_add] at *
        simp [ix_tL h1, ix_tL h2, e1, e2, hx0, hy0]
        omega
  · rintro e S1 ⟨rfl, _, s3, rfl⟩
    have e4 : (0 : Rat) + dot xs (ys.take xs.length) = dot xs ys := by
      rw [Rat.zero_add]
      have : ∀ (xs ys : List Rat), dot xs (ys.take xs.length) = dot xs ys := by
        intro xs
        induction xs with
        | nil => intro ys; rw [dot_nil_l, dot_nil_l]
        | cons x xs ih =>
          intro ys
          cases ys with
          | nil => rfl
          | cons y ys => rw [List.length_cons, List.take_succ_cons, dot, dot, ih]
      exact this xs ys
    rw [Rat.zero_add] at e4
    simp [e4, Rat.zero_add]
end Ks

set_option linter.all false
set_option maxRecDepth 100000
namespace Ks
open Kb PySem
/-- numbers of 31 bits -/
def N31 (ns : List Int) : Prop := ∀ x ∈ ns, 0 ≤ x ∧ x < 2147483648
theorem N31.snoc {ns : List Int} {x : Int} (h : N31 ns) (h0 : 0 ≤ x) (h1 : x < 2147483648) : N31 (ns ++ [x]) := by
  intro y hy
  rcases List.mem_append.mp hy with h2 | h2
  · exact h y h2
  · rw [List.mem_singleton.mp h2]; exact ⟨h0, h1⟩
theorem ixD_scr {xs : List D} {k : Nat} {x : D} (h : xs[k]? = some x) : ixD (.scr xs) (.int (k : Int)) = some x := by
  show (ixN xs.length (k : Int)).bind (fun j => xs[j]?) = some x
  rw [ixN_nat (List.getElem?_eq_some_iff.mp h).1]
  exact h
theorem absI (z : Int) : (if z < 0 then -z else z) = (z.natAbs : Int) := by split <;> omega
theorem numN_1 (sc : D) (many : Nat) (hm : many ≤ 100000) (k : D) (s6 s7 s8 : Slot) (S : Store) (cell : Int) (xs : List Int) (s5 : Slot) (hl : xs.length ≤ many) (hx : N31 xs) :
    Wp (forGo (.nm 5) b__law_numbersN_1 (rngI 0 60) [.val sc, .val (.int many), .own (nums xs), .val k, .val (.int cell), s5, s6, s7, s8] S) fun f e S1 => f = .nx ∧ S1 = S ∧ ∃ ys c t5, ys.length ≤ many ∧ N31 ys ∧ e = [.val sc, .val (.int many), .own (nums ys), .val k, .val (.int c), t5, s6, s7, s8] := by
  refine wp_rng0 (fun i e S1 => S1 = S ∧ ∃ ys c t5, ys.length ≤ many ∧ N31 ys ∧ e = [.val sc, .val (.int many), .own (nums ys), .val k, .val (.int c), t5, s6, s7, s8]) ⟨rfl, xs, cell, s5, hl, hx, rfl⟩ ?_ ?_
  · rintro i e S1 hi ⟨rfl, ys, c, t5, h1, h2, rfl⟩
    have hm1 : modD (.int c) (.int 10007) = some (.int (c % 10007)) := modD_ok (by omega)
    have hf : fdivD (.int c) (.int 10007) = some (.int (c / 10007)) := fdivD_ok (by omega) (by have : bit 10007 ≤ 20 := bit_small (by omega) (by omega); omega)
    by_cases h3 : 0 < c
    · by_cases h4 : ys.length < many
      · have h5 : ys.length < LN := by unfold LN; omega
        simp [b__law_numbersN_1, h3, h4, sApp, h5, hm1, hf]
        exact ⟨ys ++ [c % 10007], by simp; omega, h2.snoc (by omega) (by omega), by simp⟩
      · simp [b__law_numbersN_1, h3, h4]
        exact ⟨ys, h1, h2, rfl⟩
    · simp [b__law_numbersN_1, h3]
      exact ⟨ys, h1, h2, rfl⟩
  · rintro e S1 ⟨rfl, ys, c, t5, h1, h2, rfl⟩
    exact ⟨rfl, rfl, ys, c, t5, h1, h2, rfl⟩
theorem numN_2 (cs : List Int) (hc : cs.length ≤ 63) (many : Nat) (hm : many ≤ 100000) (s7 s8 : Slot) (S : Store) :
    Wp (forGo (.nm 3) b__law_numbersN_2 (rngI 0 cs.length) [.val (.scr (cs.map .int)), .val (.int many), .own [], .no, .no, .no, .no, s7, s8] S) fun f e S1 => f = .nx ∧ S1 = S ∧ ∃ ys t3 t4 t5 t6, ys.length ≤ many ∧ N31 ys ∧ e = [.val (.scr (cs.map .int)), .val (.int many), .own (nums ys), t3, t4, t5, t6, s7, s8] := by
  refine wp_rng0 (fun i e S1 => S1 = S ∧ ∃ ys t3 t4 t5 t6, ys.length ≤ many ∧ N31 ys ∧ e = [.val (.scr (cs.map .int)), .val (.int many), .own (nums ys), t3, t4, t5, t6, s7, s8]) ⟨rfl, [], _, _, _, _, by simp, fun x h => absurd h List.not_mem_nil, rfl⟩ ?_ ?_
  · rintro i e S1 hi ⟨rfl, ys, t3, t4, t5, t6, h1, h2, rfl⟩
    obtain ⟨c, hcell⟩ : ∃ c, cs[i]? = some c := ⟨_, List.getElem?_eq_getElem hi⟩
    have hix : ixD (.scr (cs.map .int)) (.int (i : Int)) = some (.int c) := ixD_scr (by rw [List.getElem?_map, hcell]; rfl)
    by_cases hr : (1000000000000000000 : Int) ≤ c.natAbs
    · obtain ⟨f, e, S2, h3, rfl, rfl, zs, c', t5', h4, h5, rfl⟩ := wp_out (numN_1 (.scr (cs.map .int)) many hm (.int i) t6 s7 s8 S1 c.natAbs ys t5 h1 h2)
      simp only [nums] at h3
      simp [b__law_numbersN_2, hix, absI, powD, hr, h3]
      exact ⟨zs, h4, h5, rfl⟩
    · have b1 : bit (c.natAbs : Int) ≤ 60 := bit_small (by omega) (by omega)
      have b2 : bit 48271 ≤ 20 := bit_small (by omega) (by omega)
      have b3 : bit 69621 ≤ 20 := bit_small (by omega) (by omega)
      have b4 : bit 16807 ≤ 20 := bit_small (by omega) (by omega)
      have b5 : bit 7 ≤ 20 := bit_small (by omega) (by omega)
      have b6 : bit (i : Int) ≤ 20 := bit_small (by omega) (by omega)
      by_cases h4 : ys.length < many
      · have m1 : mulI (.int c.natAbs) (.int 48271) = some (.int (c.natAbs * 48271)) := mulI_ok (by omega)
        have m2 : mulI (.int i) (.int 69621) = some (.int (i * 69621)) := mulI_ok (by omega)
        have m4 : mulI (.int 7) (.int i) = some (.int (7 * i)) := mulI_ok (by omega)
        generalize hx : ((c.natAbs : Int) * 48271 + i * 69621 + 11) % 2147483647 = x
        have hmx : modD (.int ((c.natAbs : Int) * 48271 + i * 69621 + 11)) (.int 2147483647) = some (.int x) := by rw [← hx]; exact modD_ok (by omega)
        have x0 : 0 ≤ x := by omega
        have x1 : x < 2147483647 := by omega
        have b7 : bit x ≤ 31 := bit_small x0 (by omega)
        have m3 : mulI (.int x) (.int 16807) = some (.int (x * 16807)) := mulI_ok (by omega)
        generalize hy : (x * 16807 + 7 * (i : Int) + 3) % 2147483647 = y
        have hmy : modD (.int (x * 16807 + 7 * (i : Int) + 3)) (.int 2147483647) = some (.int y) := by rw [← hy]; exact modD_ok (by omega)
        have hf : fdivD (.int y) (.int 3) = some (.int (y / 3)) := fdivD_ok (by omega) (by have : bit 3 ≤ 20 := bit_small (by omega) (by omega); omega)
        have h5 : ys.length < LN := by unfold LN; omega
        simp [b__law_numbersN_2, hix, absI, powD, hr, h4, m1, m2, m3, m4, hmx, hmy, hf, sApp, h5]
        exact ⟨ys ++ [y / 3], by simp; omega, h2.snoc (by omega) (by omega), by simp⟩
      · simp [b__law_numbersN_2, hix, absI, powD, hr, h4]
        exact ⟨ys, h1, h2, rfl⟩
  · rintro e S1 ⟨rfl, ys, t3, t4, t5, t6, h1, h2, rfl⟩
    exact ⟨rfl, rfl, ys, t3, t4, t5, t6, h1, h2, rfl⟩
theorem numN_3 (sc : D) (many base : Nat) (hm : many ≤ 100000) (t4 t5 t6 : Slot) (S : Store) (last : Int) (l0 : 0 ≤ last) (l1 : last < 2147483648) (xs : List Int) (s3 : Slot) (hl : xs.length = base) (hb : base ≤ many) (hx : N31 xs) :
    Wp (forGo (.nm 3) b__law_numbersN_3 (rngI 0 (many - base)) [.val sc, .val (.int many), .own (nums xs), s3, t4, t5, t6, .val (.int base), .val (.int last)] S) fun f e S1 => f = .nx ∧ S1 = S ∧ ∃ ys c t3, ys.length = many ∧ N31 ys ∧ e = [.val sc, .val (.int many), .own (nums ys), t3, t4, t5, t6, .val (.int base), .val (.int c)] := by
  refine wp_rng0 (fun i e S1 => S1 = S ∧ ∃ ys c t3, ys.length = base + i ∧ N31 ys ∧ 0 ≤ c ∧ c < 2147483648 ∧ e = [.val sc, .val (.int many), .own (nums ys), t3, t4, t5, t6, .val (.int base), .val (.int c)]) ⟨rfl, xs, last, s3, hl, hx, l0, l1, rfl⟩ ?_ ?_
  · rintro i e S1 hi ⟨rfl, ys, c, t3, h1, h2, c0, c1, rfl⟩
    have h5 : ys.length < LN := by unfold LN; omega
    have fin : ∀ c' : Int, 0 ≤ c' → c' < 2 ^ 34 → mulI (.int c') (.int 48271) = some (.int (c' * 48271)) := fun c' z0 z1 => mulI_ok (by have : bit 48271 ≤ 20 := bit_small (by omega) (by omega); have : bit c' ≤ 34 := bit_small z0 z1; omega)
    have hm2 : ∀ y, modD (.int y) (.int 2147483647) = some (.int (y % 2147483647)) := fun y => modD_ok (by omega)
    have hf : ∀ y, fdivD (.int y) (.int 7) = some (.int (y / 7)) := fun y => fdivD_ok (by omega) (by have : bit 7 ≤ 20 := bit_small (by omega) (by omega); omega)
    by_cases hb0 : 0 < base
    · have hmb : modD (.int i) (.int base) = some (.int ((i % base : Nat) : Int)) := modD_ok (by omega)
      have hlt : i % base < ys.length := by have := Nat.mod_lt i hb0; omega
      obtain ⟨v, hv⟩ : ∃ v, ys[i % base]? = some v := ⟨_, List.getElem?_eq_getElem hlt⟩
      obtain ⟨v0, v1⟩ := h2 v (List.mem_of_getElem? hv)
      have hix : ixD (.lst (nums ys)) (.int ((i % base : Nat) : Int)) = some (.int v) := ixD_lst (by rw [List.getElem?_map, hv]; rfl)
      simp only [nums] at hix
      have hfin := fin (c + v) (by omega) (by omega)
      have y0 := hm2 ((c + v) * 48271 + i)
      generalize hy : ((c + v) * 48271 + (i : Int)) % 2147483647 = y at y0
      have ybig : 0 ≤ y ∧ y < 2147483647 := by omega
      simp at hmb hix
      simp [b__law_numbersN_3, hb0, hmb, hix, hfin, y0, hf, sApp, h5]
      exact ⟨ys ++ [y / 7], by simp; omega, h2.snoc (by omega) (by omega), y, by omega, by omega, by simp⟩
    · have hfin := fin c (by omega) (by omega)
      have y0 := hm2 (c * 48271 + i)
      generalize hy : (c * 48271 + (i : Int)) % 2147483647 = y at y0
      have ybig : 0 ≤ y ∧ y < 2147483647 := by omega
      simp [b__law_numbersN_3, hb0, hfin, y0, hf, sApp, h5]
      exact ⟨ys ++ [y / 7], by simp; omega, h2.snoc (by omega) (by omega), y, by omega, by omega, by simp⟩
  · rintro e S1 ⟨rfl, ys, c, t3, h1, h2, c0, c1, rfl⟩
    exact ⟨rfl, rfl, ys, c, t3, by omega, h2, rfl⟩
theorem numN_ev (cs : List Int) (hc : cs.length ≤ 63) (many : Nat) (hm : many ≤ 100000) (S : Store) : ∃ ns, ns.length = many ∧ N31 ns ∧ d__law_numbersN [.scr (cs.map .int), .int many] S = .ok (.lst (nums ns)) S := by
  have H := fnD_wp (n := 2) (k := 7) (b := b__law_numbersN) (ds := [.scr (cs.map .int), .int many]) (S := S) (Q := fun d S1 => S1 = S ∧ ∃ ns, ns.length = many ∧ N31 ns ∧ d = .lst (nums ns)) rfl ?_
  · obtain ⟨d, S1, h1, rfl, ns, h2, h3, rfl⟩ := H
    exact ⟨ns, h2, h3, h1⟩
  have hr := rng_nat (n := cs.length) (by omega)
  simp [b__law_numbersN, hr]
  refine wp_bind (wp_mono (numN_2 cs hc many hm .no .no S) ?_)
  rintro f e S1 ⟨rfl, rfl, ys, t3, t4, t5, t6, h1, h2, rfl⟩
  have hmx : maxD [.int 0, .int ((many : Int) - ys.length)] = some (.int ((many - ys.length : Nat) : Int)) := by
    show some (D.int (if _ > _ then _ else _)) = _
    by_cases h : ((many : Int) - ys.length) > 0
    · rw [if_pos h]; congr 2; omega
    · rw [if_neg h]; congr 2; omega
  have hr2 := rng_nat (n := many - ys.length) (by omega)
  simp [hmx, hr2]
  refine wp_bind (wp_mono (numN_3 (.scr (cs.map .int)) many ys.length hm t4 t5 t6 S1 (5381 + cs.length) (by omega) (by omega) ys t3 rfl h1 h2) ?_)
  rintro f e S1 ⟨rfl, rfl, zs, c, t3', h3, h4, rfl⟩
  simp [pSo, slD, cut, sIx]
  have hz : ¬ ((zs.length : Int) < 0) := by omega
  exact ⟨zs, h3, h4, by rw [← h3]; simp [hz]; exact List.take_of_length_le (by simp)⟩
end Ks

set_option linter.all false
set_option maxRecDepth 100000
namespace Ks
open Kb PySem
theorem zero_ev {w : Nat} (h1 : 1 ≤ w) (h2 : w ≤ 24) (S : Store) : d_zero_row [.int w] S = .ok (tL (List.replicate w 0)) S := by
  have hr := rng_nat (n := w) (by omega)
  have t0 : (.tup [.int 0, .int 1] : D) = tR 0 := rfl
  have hl : l_zero_row_1 [.val (.int w), .no] S = .ok ((List.replicate w 0).map tR) S := by
    refine eLc_of (ds := rngI 0 w) (S1 := S) (by simp [hr]) (lcGo_idx (es := (List.replicate w 0).map tR) [] ?_ ?_ ?_)
    · rw [rngI_length, List.length_map, List.length_replicate]
    · intro i d hd
      obtain ⟨hi, rfl⟩ := rngI_at hd
      refine ⟨_, tR 0, put_nm, rfl, by simp [of_int_ev, t0], ?_⟩
      rw [List.getElem?_map, List.getElem?_replicate, if_pos hi]; rfl
    · rw [rngI_length, List.length_nil]; unfold LN; omega
  refine fnD_rt rfl (en1 := [.val (.int w), .no]) ?_
  have h3 : ¬ ((w : Int) < 1) := by omega
  have h4 : ¬ (24 < (w : Int)) := by omega
  simp [-List.map_replicate, b_zero_row, c_MAX_WIDTH, h3, h4, hl, tL_def]
theorem zero_no {w : Int} (h : w < 1 ∨ 24 < w) (S : Store) : d_zero_row [.int w] S = .exc "NotAllowed" S := by
  refine fnD_exc rfl (en1 := [.val (.int w), .no]) ?_
  by_cases h1 : w < 1
  · simp [b_zero_row, c_MAX_WIDTH, h1]
  · have h2 : 24 < w := by omega
    simp [b_zero_row, c_MAX_WIDTH, h1, h2]
/-- one 1 among 0s -/
def unit (w i : Nat) : List Rat := List.replicate i 0 ++ [1] ++ List.replicate (w - (i + 1)) 0
theorem unit_ev {w i : Nat} (h1 : 1 ≤ w) (h2 : w ≤ 24) (hi : i < w) (S : Store) : d_unit_row [.int w, .int i] S = .ok (tL (unit w i)) S := by
  have z := zero_ev h1 h2 S
  have t1 : (.tup [.int 1, .int 1] : D) = tR 1 := rfl
  refine fnD_rt rfl (en1 := [.val (.int w), .val (.int i), .val (tL (List.replicate w 0))]) ?_
  have h3 : ¬ ((i : Int) < 0) := by omega
  have h4 : ¬ ((w : Int) ≤ i) := by omega
  have s1 : slD (tL (List.replicate w 0)) none (some (i : Int)) = some (tL (List.replicate i 0)) := by
    show some (D.tup (cut _ _ _)) = _
    unfold cut sIx tL
    simp [h3]
    omega
  have s2 : slD (tL (List.replicate w 0)) (some ((i : Int) + 1)) none = some (tL (List.replicate (w - (i + 1)) 0)) := by
    show some (D.tup (cut _ _ _)) = _
    unfold cut sIx tL
    have h5 : ¬ ((i : Int) + 1 < 0) := by omega
    have h6 : ((i : Int) + 1).toNat = i + 1 := by omega
    simp [h5, h6]
    omega
  have a1 : addD (tL (List.replicate i 0)) (.tup [tR 1]) = some (tL (List.replicate i 0 ++ [1])) := by
    show (if _ then _ else _) = _
    rw [if_pos (by rw [List.length_map, List.length_replicate, List.length_singleton]; unfold LN; omega)]
    simp [tL]
  have a2 : addD (tL (List.replicate i 0 ++ [1])) (tL (List.replicate (w - (i + 1)) 0)) = some (tL (unit w i)) := by
    show (if _ then _ else _) = _
    rw [if_pos (by rw [List.length_map, List.length_map, List.length_append, List.length_replicate, List.length_replicate, List.length_singleton]; unfold LN; omega)]
    simp [tL, unit]
  simp [b_unit_row, z, h3, h4, pSo, s1, s2, of_int_ev, t1, a1, a2]
theorem unit_no {w i : Int} (h : w < 1 ∨ 24 < w ∨ i < 0 ∨ w ≤ i) (S : Store) : d_unit_row [.int w, .int i] S = .exc "NotAllowed" S := by
  by_cases h0 : w < 1 ∨ 24 < w
  · refine fnD_exc rfl (en1 := [.val (.int w), .val (.int i), .no]) ?_
    simp [b_unit_row, zero_no h0]
  · obtain ⟨n, rfl⟩ : ∃ n : Nat, w = n := ⟨w.toNat, by omega⟩
    have z := zero_ev (w := n) (by omega) (by omega) S
    refine fnD_exc rfl (en1 := [.val (.int n), .val (.int i), .val (tL (List.replicate n 0))]) ?_
    by_cases h1 : i < 0
    · simp [b_unit_row, z, h1]
    · have h2 : (n : Int) ≤ i := by omega
      simp [b_unit_row, z, h1, h2]
theorem ints_ev {ns : List Int} (h1 : 1 ≤ ns.length) (h2 : ns.length ≤ 24) (S : Store) : d_row_of_ints [.lst (ns.map .int)] S = .ok (tL (ns.map fun n : Int => (n : Rat))) S := by
  have hl : l_row_of_ints_1 [.val (.lst (ns.map .int)), .no] S = .ok ((ns.map fun n : Int => (n : Rat)).map tR) S := by
    refine eLc_of (ds := ns.map .int) (S1 := S) (by simp) (lcGo_idx (es := (ns.map fun n : Int => (n : Rat)).map tR) [] ?_ ?_ ?_)
    · simp
    · intro i d hd
      rw [List.getElem?_map] at hd
      cases e : ns[i]? with
      | none => rw [e] at hd; cases hd
      | some n =>
        rw [e] at hd
        cases hd
        refine ⟨_, tR n, put_nm, rfl, by simp [ofint_ev], ?_⟩
        rw [List.getElem?_map, List.getElem?_map, e]; rfl
    · rw [List.length_map, List.length_nil]; unfold LN; omega
  refine fnD_rt rfl (en1 := [.val (.lst (ns.map .int)), .no]) ?_
  have h3 : ¬ ((ns.length : Int) < 1) := by omega
  have h4 : ¬ (24 < (ns.length : Int)) := by omega
  simp [-List.map_map, b_row_of_ints, c_MAX_WIDTH, h3, h4, hl]
  rfl
theorem ints_no {ds : List D} (h : ds.length < 1 ∨ 24 < ds.length) (S : Store) : d_row_of_ints [.lst ds] S = .exc "NotAllowed" S := by
  refine fnD_exc rfl (en1 := [.val (.lst ds), .no]) ?_
  by_cases h1 : (ds.length : Int) < 1
  · simp [b_row_of_ints, c_MAX_WIDTH, h1]
  · have h2 : 24 < (ds.length : Int) := by omega
    simp [b_row_of_ints, c_MAX_WIDTH, h1, h2]
/-- a pair -/
def tP (p : Int × Int) : D := .tup [.int p.1, .int p.2]
def okP (p : Int × Int) : Bool := decide (1 ≤ p.2) && (Int.gcd p.1 p.2 : Int) == 1
theorem bools_map {α : Type} (f : α → Bool) : ∀ xs : List α, boolsOf (xs.map fun x => .bl (f x)) = some (xs.map f)
  | [] => rfl
  | x :: xs => by
    rw [List.map_cons, boolsOf, bools_map f xs]
    rfl
theorem check_l (ps : List (Int × Int)) (h : ps.length ≤ 24) (S : Store) : l_check_row_1 [.val (.tup (ps.map tP)), .no] S = .ok (ps.map fun p => .bl (okP p)) S := by
  refine eLc_of (ds := ps.map tP) (S1 := S) (by simp) (lcGo_idx (es := ps.map fun p => .bl (okP p)) [] ?_ ?_ ?_)
  · simp
  · intro i d hd
    rw [List.getElem?_map] at hd
    cases e : ps[i]? with
    | none => rw [e] at hd; cases hd
    | some p =>
      rw [e] at hd
      cases hd
      refine ⟨_, .bl (okP p), put_nm, rfl, ?_, ?_⟩
      · have := isratio_ev p.1 p.2 S
        simp [tP, this, okP]
      · rw [List.getElem?_map, e]; rfl
  · rw [List.length_map, List.length_nil]; unfold LN; omega
theorem check_ok {ps : List (Int × Int)} (h1 : 1 ≤ ps.length) (h2 : ps.length ≤ 24) (h : ∀ p ∈ ps, okP p = true) (S : Store) : d_check_row [.tup (ps.map tP)] S = .ok .non S := by
  have h3 : ¬ ((ps.length : Int) < 1) := by omega
  have h4 : ¬ (24 < (ps.length : Int)) := by omega
  have ha : allD [.lst (ps.map fun p => .bl (okP p))] = some (.bl true) := by
    show (boolsOf _).map _ = _
    rw [bools_map]
    have : (ps.map okP).all id = true := by
      rw [List.all_map, List.all_eq_true]
      exact h
    rw [Option.map_some, this]
  refine fnD_nx rfl (en1 := [.val (.tup (ps.map tP)), .no]) ?_
  simp [b_check_row, c_MAX_WIDTH, h3, h4, check_l ps h2, ha]
theorem check_no {ps : List (Int × Int)} (h : ps.length < 1 ∨ 24 < ps.length ∨ ∃ p ∈ ps, okP p = false) (S : Store) : d_check_row [.tup (ps.map tP)] S = .exc "NotAllowed" S := by
  refine fnD_exc rfl (en1 := [.val (.tup (ps.map tP)), .no]) ?_
  by_cases h1 : (ps.length : Int) < 1
  · simp [b_check_row, c_MAX_WIDTH, h1]
  · by_cases h2 : 24 < (ps.length : Int)
    · simp [b_check_row, c_MAX_WIDTH, h1, h2]
    · have h3 : ∃ p ∈ ps, okP p = false := by
        rcases h with h | h | h
        · omega
        · omega
        · exact h
      have ha : allD [.lst (ps.map fun p => .bl (okP p))] = some (.bl false) := by
        show (boolsOf _).map _ = _
        rw [bools_map]
        have : (ps.map okP).all id = false := by
          rw [List.all_map, List.all_eq_false]
          obtain ⟨p, hp, e⟩ := h3
          exact ⟨p, hp, by simp [e]⟩
        rw [Option.map_some, this]
      simp [b_check_row, c_MAX_WIDTH, h1, h2, check_l ps (by omega), ha]
/-- a row of ratios as pairs -/
def prs (xs : List Rat) : List (Int × Int) := xs.map fun q => (q.num, (q.den : Int))
theorem tL_prs (xs : List Rat) : tL xs = .tup ((prs xs).map tP) := by
  unfold tL prs
  rw [List.map_map]
  rfl
theorem okP_rat (q : Rat) : okP (q.num, (q.den : Int)) = true := by
  have := den_pos q
  unfold okP
  rw [gcd_red]
  simp
  omega
theorem mapIx {F : EM (List D)} {tg : Nat} {g : EM D} {env : Kb.Env} {S : Store} {zs : List Rat} {n : Nat} {vs : List Nat} (hF : F env S = .ok (rngI 0 n) S) (hn : zs.length = n) (h2 : n ≤ 1000) (h : ∀ (i : Nat) z, zs[i]? = some z → g ((wipe env vs).set tg (.val (.int i))) S = .ok (tR z) S) : eLc F (.nm tg) vs tYes g env S = .ok (zs.map tR) S := by
  refine eLc_of hF (lcGo_idx (es := zs.map tR) [] ?_ ?_ ?_)
  · rw [rngI_length, List.length_map, hn]
  · intro i d hd
    obtain ⟨hi, rfl⟩ := rngI_at hd
    obtain ⟨z, hz⟩ := get_of (xs := zs) (i := i) (by omega)
    refine ⟨_, tR z, put_nm, rfl, ?_, ?_⟩
    · rw [Int.zero_add]; exact h i z hz
    · rw [List.getElem?_map, hz]; rfl
  · rw [rngI_length, List.length_nil]; unfold LN; omega
theorem zip_get {xs ys : List Rat} {i : Nat} {z : Rat} (h : (List.zipWith (· + ·) xs ys)[i]? = some z) : ∃ x y, xs[i]? = some x ∧ ys[i]? = some y ∧ z = x + y := by
  rw [List.getElem?_zipWith] at h
  cases e1 : xs[i]? with
  | none => rw [e1] at h; cases h
  | some x =>
    cases e2 : ys[i]? with
    | none => rw [e1, e2] at h; cases h
    | some y => rw [e1, e2] at h; cases h; exact ⟨x, y, rfl, rfl, rfl⟩
theorem map_get {f : Rat} {xs : List Rat} {i : Nat} {z : Rat} (h : (xs.map (f * ·))[i]? = some z) : ∃ x, xs[i]? = some x ∧ z = f * x := by
  rw [List.getElem?_map] at h
  cases e1 : xs[i]? with
  | none => rw [e1] at h; cases h
  | some x => rw [e1] at h; cases h; exact ⟨x, rfl, rfl⟩
theorem unit_get {w i j : Nat} {z : Rat} (hi : i < w) (h : (unit w i)[j]? = some z) : j < w ∧ z = if j = i then 1 else 0 := by
  unfold unit at h
  by_cases h1 : j < i
  · rw [List.append_assoc, List.getElem?_append_left (by rw [List.length_replicate]; exact h1), List.getElem?_replicate, if_pos h1] at h
    cases h
    exact ⟨by omega, by rw [if_neg (by omega)]⟩
  · by_cases h2 : j = i
    · subst h2
      rw [List.append_assoc, List.getElem?_append_right (by rw [List.length_replicate]; omega), List.length_replicate, Nat.sub_self] at h
      cases h
      exact ⟨hi, by rw [if_pos rfl]⟩
    · rw [List.getElem?_append_right (by rw [List.length_append, List.length_replicate, List.length_singleton]; omega), List.length_append, List.length_replicate, List.length_singleton, List.getElem?_replicate] at h
      split at h
      · cases h
        rename_i h3
        exact ⟨by omega, by rw [if_neg h2]⟩
      · cases h
theorem unit_len {w i : Nat} (hi : i < w) : (unit w i).length = w := by
  unfold unit
  simp
  omega
end Ks

set_option linter.all false
set_option maxRecDepth 100000
namespace Ks
open Kb PySem
/-- a condition: a row, <= or =, a bound -/
structure Con where
  row : List Rat
  le : Bool
  bound : Rat
def rel (b : Bool) : D := .str (if b then "<=" else "=")
def tC (c : Con) : D := .tup [tL c.row, rel c.le, tR c.bound]
def tS (w : Nat) (cs : List Con) : D := .tup [.int w, .tup (cs.map tC)]
theorem eq_str {x y : Str} (hx : (x.cps.all fun c => decide (c < 1114112)) = true) (hy : (y.cps.all fun c => decide (c < 1114112)) = true) : eqD (.str x) (.str y) = some (.bl (x == y)) := by
  unfold eqD
  rw [okd, okd, hx, hy, eqv]
  rfl
theorem rel_le (b : Bool) : eqD (rel b) (.str "<=") = some (.bl b) := by
  cases b
  · exact (eq_str (by decide +kernel) (by decide +kernel)).trans (congrArg (fun b => some (D.bl b)) (by decide +kernel))
  · exact (eq_str (by decide +kernel) (by decide +kernel)).trans (congrArg (fun b => some (D.bl b)) (by decide +kernel))
theorem rel_eq (b : Bool) : eqD (rel b) (.str "=") = some (.bl (!b)) := by
  cases b
  · exact (eq_str (by decide +kernel) (by decide +kernel)).trans (congrArg (fun b => some (D.bl b)) (by decide +kernel))
  · exact (eq_str (by decide +kernel) (by decide +kernel)).trans (congrArg (fun b => some (D.bl b)) (by decide +kernel))
theorem rel_t : rel true = .str "<=" := rfl
theorem rel_f : rel false = .str "=" := rfl
@[simp] theorem tC0 (c : Con) : ixD (tC c) (.int 0) = some (tL c.row) := (rfl)
@[simp] theorem tC1 (c : Con) : ixD (tC c) (.int 1) = some (rel c.le) := (rfl)
@[simp] theorem tC2 (c : Con) : ixD (tC c) (.int 2) = some (tR c.bound) := (rfl)
@[simp] theorem tS0 (w : Nat) (cs : List Con) : ixD (tS w cs) (.int 0) = some (.int w) := (rfl)
@[simp] theorem tS1 (w : Nat) (cs : List Con) : ixD (tS w cs) (.int 1) = some (.tup (cs.map tC)) := (rfl)
/-- what a row must do -/
def Con.ok (c : Con) (x : List Rat) : Bool := decide (dot c.row x = c.bound) || (c.le && decide (dot c.row x < c.bound))
theorem sgn_0 (a b : Rat) : sgn (a.num * b.den - b.num * a.den) = 0 ↔ a = b := by
  rw [cmp_lt]
  by_cases h1 : a < b
  · rw [if_pos h1]
    constructor
    · intro h; cases h
    · intro h; subst h; exact absurd h1 (Rat.lt_irrefl)
  · rw [if_neg h1]
    by_cases h2 : b < a
    · rw [if_pos h2]
      constructor
      · intro h; cases h
      · intro h; subst h; exact absurd h2 (Rat.lt_irrefl)
    · rw [if_neg h2]
      constructor
      · intro _; exact Rat.le_antisymm (Rat.not_lt.mp h2) (Rat.not_lt.mp h1)
      · intro _; rfl
theorem sgn_n (a b : Rat) : sgn (a.num * b.den - b.num * a.den) < 0 ↔ a < b := by
  rw [cmp_lt]
  by_cases h1 : a < b
  · simp [h1]
  · rw [if_neg h1]
    by_cases h2 : b < a
    · simp [h1, h2]
    · simp [h1, h2]
theorem kept_ev {k l : Nat} {a b : Rat} {le : Bool} (ha : Bd k a) (hb : Bd l b) (h : k + l ≤ 8000) (S : Store) : d_is_kept [tR a, rel le, tR b] S = .ok (.bl (decide (a = b) || (le && decide (a < b)))) S := by
  have c := compare_ev ha hb h S
  have e0 := sgn_0 a b
  have e1 := sgn_n a b
  have r := rel_le le
  refine fnD_rt rfl (en1 := [.val (tR a), .val (rel le), .val (tR b), .val (.int (sgn (a.num * b.den - b.num * a.den)))]) ?_
  by_cases h0 : a = b
  · have h1 := e0.mpr h0
    simp only [b_is_kept, sSeq_ev, sSet_ev]
    simp [c, h1]
    simp [h0]
  · have h1 : ¬ sgn (a.num * b.den - b.num * a.den) = 0 := fun z => h0 (e0.mp z)
    by_cases h2 : a < b
    · have h3 := e1.mpr h2
      simp [b_is_kept, c, h1, h3, r, h0, h2]
    · have h3 : ¬ sgn (a.num * b.den - b.num * a.den) < 0 := fun z => h2 (e1.mp z)
      simp [b_is_kept, c, h1, h3, r, h0, h2]
end Ks

set_option linter.all false
set_option maxRecDepth 100000
namespace Ks
open Kb PySem
theorem eqR (a b : Rat) : eqD (tR a) (tR b) = some (.bl (decide (a = b))) := by
  unfold eqD
  rw [okd_tR 59 a, okd_tR 59 b]
  have e : eqv (tR a) (tR b) = decide (a = b) := by
    simp only [tR, eqv, eqvs]
    by_cases h : a = b
    · subst h; simp
    · have : ¬ (a.num = b.num ∧ a.den = b.den) := fun z => h (Rat.ext z.1 z.2)
      rw [decide_eq_false h]
      by_cases h1 : a.num = b.num
      · have h2 : ¬ a.den = b.den := fun z => this ⟨h1, z⟩
        have h3 : ¬ ((a.den : Int)) = b.den := by omega
        simp [h1, h3]
      · simp [h1]
  rw [e]
  rfl
theorem allP {α : Type} (p : α → Bool) (zs : List α) : allD [.lst (zs.map fun z => .bl (p z))] = some (.bl (zs.all p)) := by
  show (boolsOf _).map _ = _
  have : ∀ zs : List α, boolsOf (zs.map fun z => .bl (p z)) = some (zs.map p) := by
    intro zs
    induction zs with
    | nil => rfl
    | cons z zs ih => rw [List.map_cons, boolsOf, ih]; rfl
  rw [this, Option.map_some, List.all_map]
  rfl
theorem anyP {α : Type} (p : α → Bool) (zs : List α) : anyD [.lst (zs.map fun z => .bl (p z))] = some (.bl (zs.any p)) := by
  show (boolsOf _).map _ = _
  have : ∀ zs : List α, boolsOf (zs.map fun z => .bl (p z)) = some (zs.map p) := by
    intro zs
    induction zs with
    | nil => rfl
    | cons z zs ih => rw [List.map_cons, boolsOf, ih]; rfl
  rw [this, Option.map_some, List.any_map]
  rfl
/-- a comprehension over a row of one kind of thing -/
theorem mapU {α : Type} {F : EM (List D)} {tg : Nat} {g : EM D} {env : Kb.Env} {S : Store} {zs : List α} {vs : List Nat} {u v : α → D} (hF : F env S = .ok (zs.map u) S) (h2 : zs.length ≤ 1000) (h : ∀ z ∈ zs, g ((wipe env vs).set tg (.val (u z))) S = .ok (v z) S) : eLc F (.nm tg) vs tYes g env S = .ok (zs.map v) S := by
  refine eLc_of hF (lcGo_idx (es := zs.map v) [] ?_ ?_ ?_)
  · rw [List.length_map, List.length_map]
  · intro i d hd
    rw [List.getElem?_map] at hd
    cases e : zs[i]? with
    | none => rw [e] at hd; cases hd
    | some z =>
      rw [e] at hd
      cases hd
      exact ⟨_, v z, put_nm, rfl, h z (List.mem_of_getElem? e), by rw [List.getElem?_map, e]; rfl⟩
  · rw [List.length_map, List.length_nil]; unfold LN; omega
theorem sgn_ge (n : Int) : (0 ≤ sgn n) ↔ 0 ≤ n := by
  unfold sgn
  by_cases h : n = 0
  · simp [h]
  · by_cases h1 : 0 < n
    · simp [h, h1]; omega
    · simp [h, h1]; omega
/-- not below 0 -/
def pos (xs : List Rat) : Bool := xs.all fun q => decide (0 ≤ q)
def hist (w : Nat) (cs : List Con) (x : List Rat) : Bool := (decide (x.length = w) && pos x) && cs.all (·.ok x)
theorem keeps_ev {k l m : Nat} {c : Con} {x : List Rat} (hr : BdL k c.row) (hb : Bd m c.bound) (hx : BdL l x) (hl : c.row.length = x.length) (hk : 1 + c.row.length * (k + l + 1) + k + l + m ≤ 1990) (S : Store) : d_keeps [tC c, tL x] S = .ok (.bl (c.ok x)) S := by
  have e1 := product_ev hr hx hl (by omega) S
  have e2 := kept_ev (le := c.le) (bd_dot hr hx) hb (by omega) S
  refine fnD_rt rfl (en1 := [.val (tC c), .val (tL x)]) ?_
  simp [b_keeps, e1, e2, Con.ok]
theorem lkeeps_ev {k l m : Nat} {c : Con} {x : List Rat} (hr : BdL k c.row) (hb : Bd m c.bound) (hx : BdL l x) (hl : c.row.length = x.length) (hk : 1 + c.row.length * (k + l + 1) + k + l + m ≤ 1990) (S : Store) : d__law_keeps [tC c, tL x] S = .ok (.bl (c.ok x)) S := by
  have e1 := lproduct_ev hr hx (by omega) (by omega) S
  have e2 := less_ev (bd_dot hr hx) hb (by omega) S
  have e3 := eqR (dot c.row x) c.bound
  have e4 := rel_le c.le
  refine fnD_rt rfl (en1 := [.val (tC c), .val (tL x), .val (tR (dot c.row x))]) ?_
  unfold Con.ok
  by_cases h : dot c.row x = c.bound
  · rw [decide_eq_true h] at e3
    simp [b__law_keeps, e1, e3, h]
  · rw [decide_eq_false h] at e3
    cases hc : c.le
    · rw [hc] at e4
      simp [b__law_keeps, e1, e3, e4, h, hc]
    · rw [hc] at e4
      simp [b__law_keeps, e1, e2, e3, e4, h, hc]
theorem positive_ev {x : List Rat} (w : Nat) (hn : x.length ≤ 1000) (S : Store) : d_is_positive [tL x, .int w] S = .ok (.bl (decide (x.length = w) && pos x)) S := by
  refine fnD_rt rfl (en1 := [.val (tL x), .val (.int w), .no]) ?_
  by_cases h : x.length = w
  · have hl : l_is_positive_1 [.val (tL x), .val (.int w), .no] S = .ok (x.map fun q => .bl (decide (0 ≤ q))) S := by
      refine mapU (zs := x) (u := tR) (by simp) hn ?_
      intro z hz
      have := signR_ev z S
      simp [this, sgn_ge]
    have ha := allP (fun q : Rat => decide (0 ≤ q)) x
    simp [b_is_positive, h, hl, ha, pos]
  · have h2 : ¬ ((x.length : Int)) = w := by omega
    simp [b_is_positive, h, h2]
theorem history_ev {k l m w : Nat} {cs : List Con} {x : List Rat} (hc : ∀ c ∈ cs, c.row.length = w ∧ BdL k c.row ∧ Bd m c.bound) (hx : BdL l x) (hk : 1 + w * (k + l + 1) + k + l + m ≤ 1990) (hn : cs.length ≤ 1000) (hm : x.length ≤ 1000) (S : Store) : d_is_history [tS w cs, tL x] S = .ok (.bl (hist w cs x)) S := by
  have e1 := positive_ev (x := x) w hm S
  refine fnD_rt rfl (en1 := [.val (tS w cs), .val (tL x), .no]) ?_
  unfold hist
  cases hp : (decide (x.length = w) && pos x)
  · rw [hp] at e1
    simp [b_is_history, e1]
  · rw [hp] at e1
    have hw : x.length = w := by
      rw [Bool.and_eq_true] at hp
      exact of_decide_eq_true hp.1
    have hl : l_is_history_1 [.val (tS w cs), .val (tL x), .no] S = .ok (cs.map fun c => .bl (c.ok x)) S := by
      refine mapU (zs := cs) (u := tC) (by simp) hn ?_
      intro c hcm
      obtain ⟨h1, h2, h3⟩ := hc c hcm
      have := keeps_ev h2 h3 hx (by omega) (by rw [h1]; omega) S
      simp [this]
    have ha := allP (fun c : Con => c.ok x) cs
    simp [b_is_history, e1, hl, ha]
theorem lhistory_ev {k l m w : Nat} {cs : List Con} {x : List Rat} (hc : ∀ c ∈ cs, c.row.length = w ∧ BdL k c.row ∧ Bd m c.bound) (hx : BdL l x) (hk : 1 + w * (k + l + 1) + k + l + m ≤ 1990) (hn : cs.length ≤ 1000) (hm : x.length ≤ 1000) (S : Store) : d__law_is_history [tS w cs, tL x] S = .ok (.bl (hist w cs x)) S := by
  refine fnD_rt rfl (en1 := [.val (tS w cs), .val (tL x), .no, .no]) ?_
  unfold hist
  by_cases hw : x.length = w
  · have hl1 : l__law_is_history_1 [.val (tS w cs), .val (tL x), .no, .no] S = .ok (x.map fun q => .bl (decide (0 ≤ q))) S := by
      refine mapU (zs := x) (u := tR) (by simp) hm ?_
      intro z hz
      simp
    have ha1 := allP (fun q : Rat => decide (0 ≤ q)) x
    cases hp : pos x
    · have hp' := hp
      unfold pos at hp'
      rw [hp'] at ha1
      simp [b__law_is_history, hl1, ha1, hw]
    · have hp' := hp
      unfold pos at hp'
      rw [hp'] at ha1
      have hl : l__law_is_history_2 [.val (tS w cs), .val (tL x), .no, .no] S = .ok (cs.map fun c => .bl (c.ok x)) S := by
        refine mapU (zs := cs) (u := tC) (by simp) hn ?_
        intro c hcm
        obtain ⟨h1, h2, h3⟩ := hc c hcm
        have := lkeeps_ev h2 h3 hx (by omega) (by rw [h1]; omega) S
        simp [this]
      have ha := allP (fun c : Con => c.ok x) cs
      simp [b__law_is_history, hl1, ha1, hl, ha, hw]
  · have h2 : ¬ ((x.length : Int)) = w := by omega
    simp [b__law_is_history, h2, hw]
end Ks

set_option linter.all false
set_option maxRecDepth 100000
namespace Ks
open Kb PySem
theorem fdiv_s {i j : Int} (h : 0 < j) (h2 : j < 2 ^ 100) : fdivD (.int i) (.int j) = some (.int (i / j)) := fdivD_ok h (by have := bit_small (i := j) (n := 100) (by omega) h2; omega)
theorem bound_ev {n low : Int} (h0 : 0 ≤ low) (h1 : low ≤ 30) (S : Store) : ∃ q, Bd 6 q ∧ d__law_bound [.int n, .int low] S = .ok (tR q) S := by
  have m1 : modD (.int n) (.int 25) = some (.int (n % 25)) := modD_ok (by omega)
  have f1 : fdivD (.int n) (.int 25) = some (.int (n / 25)) := fdiv_s (by omega) (by omega)
  have m2 : modD (.int (n / 25)) (.int 3) = some (.int (n / 25 % 3)) := modD_ok (by omega)
  have hr := ratioN_ev (n := n % 25 - low) (d := 1 + n / 25 % 3) (by omega) (Nat.lt_of_lt_of_le (show (1 + n / 25 % 3).natAbs < 2 ^ 10 by omega) (pow2_le (by omega))) S
  refine ⟨_, bd_div (n := n % 25 - low) (d := 1 + n / 25 % 3) (by omega) (by omega) (by omega), fnD_rt rfl (en1 := [.val (.int n), .val (.int low)]) ?_⟩
  simp [b__law_bound, m1, f1, m2, hr]
theorem part_ev (n : Int) (S : Store) : ∃ q, Bd 4 q ∧ d__law_part [.int n] S = .ok (tR q) S := by
  have m1 : modD (.int n) (.int 7) = some (.int (n % 7)) := modD_ok (by omega)
  by_cases h1 : n % 7 < 2
  · refine ⟨0, Bd0 (by omega), fnD_rt rfl (en1 := [.val (.int n), .val (.int (n % 7))]) ?_⟩
    have t0 : (.tup [.int 0, .int 1] : D) = tR 0 := rfl
    simp [b__law_part, m1, h1, t0]
  · have f1 : fdivD (.int n) (.int 7) = some (.int (n / 7)) := fdiv_s (by omega) (by omega)
    by_cases h2 : n % 7 < 5
    · have m2 : modD (.int (n / 7)) (.int 7) = some (.int (n / 7 % 7)) := modD_ok (by omega)
      obtain ⟨v, hv⟩ : ∃ v, v = n / 7 % 7 - 3 := ⟨_, rfl⟩
      refine ⟨(v : Rat), Bd.int (by omega) (by omega), fnD_rt rfl (en1 := [.val (.int n), .val (.int (n % 7))]) ?_⟩
      simp [b__law_part, m1, h1, h2, f1, m2, ← hv, tR_int]
    · have m2 : modD (.int (n / 7)) (.int 11) = some (.int (n / 7 % 11)) := modD_ok (by omega)
      have f2 : fdivD (.int n) (.int 77) = some (.int (n / 77)) := fdiv_s (by omega) (by omega)
      have m3 : modD (.int (n / 77)) (.int 4) = some (.int (n / 77 % 4)) := modD_ok (by omega)
      have hr := ratioN_ev (n := n / 7 % 11 - 5) (d := 1 + n / 77 % 4) (by omega) (Nat.lt_of_lt_of_le (show (1 + n / 77 % 4).natAbs < 2 ^ 10 by omega) (pow2_le (by omega))) S
      refine ⟨_, bd_div (n := n / 7 % 11 - 5) (d := 1 + n / 77 % 4) (by omega) (by omega) (by omega), fnD_rt rfl (en1 := [.val (.int n), .val (.int (n % 7))]) ?_⟩
      simp [b__law_part, m1, h1, h2, f1, m2, f2, m3, hr]
/-- the number at a place, around -/
def pa (ns : List Int) (x : Int) : Int := ns.getD (x % ns.length).toNat 0
theorem pa_ix {ns : List Int} (h : ns ≠ []) (x : Int) : modD (.int x) (.int ns.length) = some (.int (x % ns.length)) ∧ ixD (.lst (nums ns)) (.int (x % ns.length)) = some (.int (pa ns x)) := by
  have hl : 0 < ns.length := List.length_pos_iff.mpr h
  have h0 : 0 ≤ x % ns.length := Int.emod_nonneg _ (by omega)
  have h2 : x % ns.length < ns.length := Int.emod_lt_of_pos _ (by omega)
  have hk : (x % ns.length).toNat < ns.length := by omega
  refine ⟨modD_ok (by omega), ?_⟩
  have := ixD_lst (xs := nums ns) (k := (x % ns.length).toNat) (x := .int (pa ns x)) (by
    unfold pa
    rw [List.getElem?_map, List.getElem?_eq_getElem hk, List.getD_eq_getElem?_getD, List.getElem?_eq_getElem hk]; rfl)
  rwa [Int.toNat_of_nonneg h0] at this
theorem pa_b {ns : List Int} (hN : N31 ns) (h : ns ≠ []) (x : Int) : 0 ≤ pa ns x ∧ pa ns x < 2147483648 := by
  have hl : 0 < ns.length := List.length_pos_iff.mpr h
  have h0 : 0 ≤ x % ns.length := Int.emod_nonneg _ (by omega)
  have h2 : x % ns.length < ns.length := Int.emod_lt_of_pos _ (by omega)
  have hk : (x % ns.length).toNat < ns.length := by omega
  unfold pa
  rw [List.getD_eq_getElem?_getD, List.getElem?_eq_getElem hk]
  exact hN _ (List.getElem_mem hk)
theorem row_ev {ns : List Int} (h : ns ≠ []) (a : Int) (w : Nat) (hw : w ≤ 30) (S : Store) : ∃ xs, xs.length = w ∧ BdL 4 xs ∧ d__law_rowN [.lst (nums ns), .int a, .int w] S = .ok (tL xs) S := by
  have go : ∀ n, n ≤ 30 → ∃ xs : List Rat, xs.length = n ∧ BdL 4 xs ∧ ∀ (i : Nat) x, xs[i]? = some x → d__law_part [.int (pa ns (a + 3 * i))] S = .ok (tR x) S := by
    intro n
    induction n with
    | zero => exact fun _ => ⟨[], rfl, fun x h => absurd h List.not_mem_nil, fun i x h => by cases h⟩
    | succ n ih =>
      intro hn
      obtain ⟨xs, h1, h2, h3⟩ := ih (by omega)
      obtain ⟨x, h4, h5⟩ := part_ev (pa ns (a + 3 * n)) S
      refine ⟨xs ++ [x], by simp [h1], ?_, ?_⟩
      · intro y hy
        rcases List.mem_append.mp hy with hz | hz
        · exact h2 y hz
        · rw [List.mem_singleton.mp hz]; exact h4
      · intro i y hy
        by_cases hi : i < xs.length
        · rw [List.getElem?_append_left hi] at hy
          exact h3 i y hy
        · have hlt := (List.getElem?_eq_some_iff.mp hy).1
          rw [List.length_append, List.length_singleton] at hlt
          have e0 : i = xs.length := by omega
          subst e0
          rw [List.getElem?_append_right (by omega), Nat.sub_self] at hy
          cases hy
          rw [h1]
          exact h5
  obtain ⟨xs, h1, h2, h3⟩ := go w hw
  refine ⟨xs, h1, h2, fnD_rt rfl (en1 := [.val (.lst (nums ns)), .val (.int a), .val (.int w), .no]) ?_⟩
  have hr := rng_nat (n := w) (by omega)
  have hl : l__law_rowN_1 [.val (.lst (nums ns)), .val (.int a), .val (.int w), .no] S = .ok (xs.map tR) S := by
    refine mapIx (n := w) (by simp [hr]) h1 (by omega) ?_
    intro i z hz
    have hlt := (List.getElem?_eq_some_iff.mp hz).1
    have m : mulI (.int 3) (.int i) = some (.int (3 * i)) := mulI_ok (by have : bit 3 ≤ 3 := bit_small (by omega) (by omega); have : bit i ≤ 6 := bit_small (by omega) (by omega); omega)
    obtain ⟨p1, p2⟩ := pa_ix h (a + 3 * i)
    have p3 := h3 i z hz
    simp only [nums] at p2
    simp [m, p1, p2, p3]
  simp only [nums] at hl
  simp [b__law_rowN, hl, tL_def]
/-- the conditions of the law's system -/
def Cs (w : Nat) (cs : List Con) (m : Nat) : Prop := ∀ c ∈ cs, c.row.length = w ∧ BdL 4 c.row ∧ Bd m c.bound
theorem system_ev {ns : List Int} (h : ns ≠ []) (w n : Nat) (low : Int) (hw : w ≤ 30) (hn : n ≤ 60) (g0 : 0 ≤ low) (g1 : low ≤ 30) (S : Store) : ∃ cs, cs.length = n ∧ Cs w cs 6 ∧ d__law_system [.lst (nums ns), .int w, .int n, .int low] S = .ok (tS w cs) S := by
  have H := fnD_wp (n := 4) (k := 4) (b := b__law_system) (ds := [.lst (nums ns), .int w, .int n, .int low]) (S := S) (Q := fun d S1 => S1 = S ∧ ∃ cs, cs.length = n ∧ Cs w cs 6 ∧ d = tS w cs) rfl ?_
  · obtain ⟨d, S1, h1, rfl, cs, h2, h3, rfl⟩ := H
    exact ⟨cs, h2, h3, h1⟩
  have hr := rng_nat (n := n) (by omega)
  simp [b__law_system, hr]
  refine wp_bind (wp_rng0 (fun i e S1 => S1 = S ∧ ∃ cs : List Con, ∃ s5 s6 s7 : Slot, cs.length = i ∧ Cs w cs 6 ∧ e = [.val (.lst (nums ns)), .val (.int w), .val (.int n), .val (.int low), .own (cs.map tC), s5, s6, s7]) ⟨rfl, [], .no, .no, .no, rfl, fun c hc => absurd hc List.not_mem_nil, rfl⟩ ?_ ?_)
  · rintro i e S1 hi ⟨rfl, cs, s5, s6, s7, h1, h2, rfl⟩
    have m5 : mulI (.int 5) (.int i) = some (.int (5 * i)) := mulI_ok (by have : bit 5 ≤ 3 := bit_small (by omega) (by omega); have : bit i ≤ 6 := bit_small (by omega) (by omega); omega)
    have m41 : mulI (.int 41) (.int i) = some (.int (41 * i)) := mulI_ok (by have : bit 41 ≤ 6 := bit_small (by omega) (by omega); have : bit i ≤ 6 := bit_small (by omega) (by omega); omega)
    obtain ⟨p1, p2⟩ := pa_ix h (7 + 5 * i)
    obtain ⟨q1, q2⟩ := pa_ix h (11 + 5 * i)
    generalize pa ns (7 + 5 * i) = v at *
    generalize pa ns (11 + 5 * i) = u at *
    have m3 : modD (.int v) (.int 3) = some (.int (v % 3)) := modD_ok (by omega)
    obtain ⟨b, hb⟩ : ∃ b, ixD (.lst [.str "<=", .str "<=", .str "="]) (.int (v % 3)) = some (rel b) := by
      rcases (by omega : v % 3 = 0 ∨ v % 3 = 1 ∨ v % 3 = 2) with e | e | e
      · rw [e]; exact ⟨true, rfl⟩
      · rw [e]; exact ⟨true, rfl⟩
      · rw [e]; exact ⟨false, rfl⟩
    obtain ⟨q, hq, eq⟩ := bound_ev (n := u) (low := low) g0 g1 S1
    obtain ⟨xs, l1, l2, l3⟩ := row_ev h (13 + 41 * i) w (by omega) S1
    have hl : cs.length < LN := by unfold LN; omega
    have tc : (.tup [tL xs, rel b, tR q] : D) = tC ⟨xs, b, q⟩ := rfl
    simp only [nums] at p2 q2 l3
    simp [b__law_system_1, m5, m41, p1, p2, q1, q2, m3, hb, eq, l3, sApp, hl, tc]
    refine ⟨cs ++ [⟨xs, b, q⟩], by simp; omega, ?_, by simp⟩
    intro c hc
    rcases List.mem_append.mp hc with hz | hz
    · exact h2 c hz
    · rw [List.mem_singleton.mp hz]; exact ⟨l1, l2, hq⟩
  · rintro e S1 ⟨rfl, cs, s5, s6, s7, h1, h2, rfl⟩
    simp
    exact ⟨cs, h1, h2, rfl⟩
theorem Cs.mono {w m n : Nat} {cs : List Con} (h : Cs w cs m) (hn : m ≤ n) : Cs w cs n := fun c hc => ⟨(h c hc).1, (h c hc).2.1, (h c hc).2.2.mono hn⟩
theorem cut_to {xs : List D} {k : Nat} (h : k ≤ xs.length) : slD (.tup xs) none (some (k : Int)) = some (.tup (xs.take k)) := by
  have h1 : ¬ ((k : Int) < 0) := by omega
  have h2 : min k xs.length = k := by omega
  simp [slD, cut, sIx, h1, h2]
theorem cut_from {xs : List D} {k : Nat} (h : k ≤ xs.length) : slD (.tup xs) (some (k : Int)) none = some (.tup (xs.drop k)) := by
  have h1 : ¬ ((k : Int) < 0) := by omega
  have h2 : min k xs.length = k := by omega
  simp [slD, cut, sIx, h1, h2]
  rw [List.take_of_length_le]
  simp
theorem hist_no {w : Nat} {cs : List Con} {x : List Rat} (h : x.length ≠ w) : hist w cs x = false := by
  unfold hist
  rw [decide_eq_false h]
  rfl
theorem mod_at {ns : List Int} {n : Nat} (hn : 0 < n) (v : Int) : ∃ k : Nat, k < n ∧ v % n = k ∧ modD (.int v) (.int n) = some (.int k) := by
  have h0 : 0 ≤ v % n := Int.emod_nonneg _ (by omega)
  have h2 : v % n < n := Int.emod_lt_of_pos _ (by omega)
  refine ⟨(v % n).toNat, by omega, by omega, ?_⟩
  rw [modD_ok (by omega), Int.toNat_of_nonneg h0]
theorem ix_n {ns : List Int} {k : Nat} (h : k < ns.length) : ixD (.lst (nums ns)) (.int k) = some (.int (ns.getD k 0)) := ixD_lst (by
  unfold nums
  rw [List.getElem?_map, List.getElem?_eq_getElem h, List.getD_eq_getElem?_getD, List.getElem?_eq_getElem h]; rfl)
end Ks

set_option linter.all false
set_option maxRecDepth 100000
namespace Ks
open Kb PySem
theorem numlt (q : Rat) : q.num < 0 ↔ q < 0 := by
  rw [← Int.not_le, Rat.num_nonneg, Rat.not_le]
theorem sgn_lt (n : Int) : sgn n < 0 ↔ n < 0 := by
  have := sgn_ge n
  omega
/-- a multiplier and its condition -/
def okm (p : Rat × Con) : Bool := !(p.2.le && decide (p.1 < 0))
def mixR (w : Nat) (ps : List (Rat × Con)) : List Rat := ps.foldl (fun r p => List.zipWith (· + ·) r (p.2.row.map (p.1 * ·))) (List.replicate w 0)
def mixB (ps : List (Rat × Con)) : Rat := ps.foldl (fun b p => b + p.1 * p.2.bound) 0
theorem take_foldl {α β : Type} (f : β → α → β) (b : β) {xs : List α} {i : Nat} {x : α} (h : xs[i]? = some x) : (xs.take (i + 1)).foldl f b = f ((xs.take i).foldl f b) x := by
  rw [List.take_succ, List.foldl_append, h]
  rfl
def mf (p : Rat × Con) : D := tR p.1
def mc (p : Rat × Con) : D := tC p.2
theorem zipL_map {α : Type} (f g : α → D) : ∀ xs : List α, zipL (xs.map f) (xs.map g) = xs.map fun x => .tup [f x, g x]
  | [] => rfl
  | x :: xs => by
    rw [List.map_cons, List.map_cons, List.map_cons, ← zipL_map f g xs]
    rfl
theorem all_take {α : Type} (p : α → Bool) {xs : List α} {i : Nat} {x : α} (h : xs[i]? = some x) : (xs.take (i + 1)).all p = ((xs.take i).all p && p x) := by
  rw [List.take_succ, List.all_append, h]
  simp
theorem arem_ev {w : Nat} (ps : List (Rat × Con)) (S : Store) : d_are_multipliers [tS w (ps.map (·.2)), .tup (ps.map mf)] S = .ok (.bl (ps.all okm)) S := by
  have H := fnD_wp (n := 2) (k := 2) (b := b_are_multipliers) (ds := [tS w (ps.map (·.2)), .tup (ps.map mf)]) (S := S) (Q := fun d S1 => S1 = S ∧ d = .bl (ps.all okm)) rfl ?_
  · obtain ⟨d, S1, h1, rfl, rfl⟩ := H
    exact h1
  have hz := zipL_map mf mc ps
  have hc : (ps.map (·.2)).map tC = ps.map mc := by rw [List.map_map]; rfl
  simp only [b_are_multipliers, sSeq_ev]
  have z0 : zipD [.tup (ps.map mf), .tup (ps.map mc)] = some (ps.map fun x => .tup [mf x, mc x]) := by rw [← hz]; rfl
  simp [-List.map_map, hc, z0]
  refine wp_bind (wp_for (fun i e S1 => S1 = S ∧ (ps.take i).all okm = true ∧ ∃ s2 s3, e = [.val (tS w (ps.map (·.2))), .val (.tup (ps.map mf)), s2, s3]) ⟨rfl, rfl, _, _, rfl⟩ ?_ ?_)
  · rintro i d e S1 hd ⟨rfl, ho, s2, s3, rfl⟩
    rw [List.getElem?_map] at hd
    cases hj : ps[i]? with
    | none => rw [hj] at hd; cases hd
    | some p =>
      rw [hj] at hd
      cases hd
      refine ⟨_, put_2, ?_⟩
      have e1 := rel_le p.2.le
      have e2 := signR_ev p.1 S1
      have e3 := all_take okm hj
      rw [ho, Bool.true_and] at e3
      cases hl : p.2.le
      · rw [hl] at e1
        have : okm p = true := by unfold okm; rw [hl]; rfl
        rw [this] at e3
        simp [b_are_multipliers_1, mc, mf, e1, e3, hl]
      · rw [hl] at e1
        by_cases hn : p.1 < 0
        · have : okm p = false := by unfold okm; rw [hl, decide_eq_true hn]; rfl
          simp [b_are_multipliers_1, mc, mf, e1, e2, hl, sgn_lt, numlt, hn]
          exact ⟨p.1, p.2, List.mem_of_getElem? hj, this⟩
        · have : okm p = true := by unfold okm; rw [hl, decide_eq_false hn]; rfl
          rw [this] at e3
          simp [b_are_multipliers_1, mc, mf, e1, e2, e3, hl, sgn_lt, numlt, hn]
  · rintro e S1 ⟨rfl, ho, s2, s3, rfl⟩
    rw [List.length_map, List.take_length] at ho
    simp
    simpa using ho
theorem arem_len {w : Nat} {cs : List Con} {ms : List D} (h : ms.length ≠ cs.length) (S : Store) : d_are_multipliers [tS w cs, .tup ms] S = .ok (.bl false) S := by
  refine fnD_rt rfl (en1 := [.val (tS w cs), .val (.tup ms), .no, .no]) ?_
  have : ¬ ((ms.length : Int)) = cs.length := by omega
  simp [b_are_multipliers, this]
theorem mixture_no {a b : D} {S : Store} (h : d_are_multipliers [a, b] S = .ok (.bl false) S) : d_mixture [a, b] S = .exc "NotAllowed" S := by
  refine fnD_exc rfl (en1 := [.val a, .val b, .no, .no, .no, .no]) ?_
  simp [b_mixture, h]
/-- all within their bits -/
def Mx (w k l m : Nat) (ps : List (Rat × Con)) : Prop := ∀ p ∈ ps, p.2.row.length = w ∧ BdL k p.2.row ∧ Bd m p.2.bound ∧ Bd l p.1
theorem mixR_len {w k l m : Nat} {ps : List (Rat × Con)} (h : Mx w k l m ps) (i : Nat) : (mixR w (ps.take i)).length = w := by
  induction i with
  | zero => simp [mixR]
  | succ i ih =>
    cases hj : ps[i]? with
    | none =>
      have : ps.length ≤ i := List.getElem?_eq_none_iff.mp hj
      rw [List.take_of_length_le (by omega)] at ih ⊢
      exact ih
    | some p =>
      unfold mixR at ih ⊢
      rw [take_foldl _ _ hj, List.length_zipWith, ih, List.length_map, (h p (List.mem_of_getElem? hj)).1, Nat.min_self]
theorem mixR_bd {w k l m : Nat} {ps : List (Rat × Con)} (h : Mx w k l m ps) (i : Nat) : BdL (1 + i * (k + l + 1)) (mixR w (ps.take i)) := by
  induction i with
  | zero =>
    intro x hx
    have : x = 0 := (List.mem_replicate.mp hx).2
    rw [this]
    exact Bd0 (by omega)
  | succ i ih =>
    cases hj : ps[i]? with
    | none =>
      have : ps.length ≤ i := List.getElem?_eq_none_iff.mp hj
      rw [List.take_of_length_le (by omega)] at ih ⊢
      exact ih.mono (by rw [Nat.succ_mul]; omega)
    | some p =>
      obtain ⟨_, h2, _, h4⟩ := h p (List.mem_of_getElem? hj)
      have := ih.add (BdL.scale h4 h2)
      unfold mixR at this ⊢
      rw [take_foldl _ _ hj]
      exact this.mono (by rw [Nat.succ_mul]; omega)
theorem mixB_bd {w k l m : Nat} {ps : List (Rat × Con)} (h : Mx w k l m ps) (i : Nat) : Bd (1 + i * (l + m + 1)) (mixB (ps.take i)) := by
  induction i with
  | zero => exact Bd0 (by omega)
  | succ i ih =>
    cases hj : ps[i]? with
    | none =>
      have : ps.length ≤ i := List.getElem?_eq_none_iff.mp hj
      rw [List.take_of_length_le (by omega)] at ih ⊢
      exact ih.mono (by rw [Nat.succ_mul]; omega)
    | some p =>
      obtain ⟨_, _, h3, h4⟩ := h p (List.mem_of_getElem? hj)
      have := ih.add (h4.mul h3)
      unfold mixB at this ⊢
      rw [take_foldl _ _ hj]
      exact this.mono (by rw [Nat.succ_mul]; omega)
theorem mixture_ev {w k l m : Nat} {ps : List (Rat × Con)} (h : Mx w k l m ps) (ho : ps.all okm = true) (w1 : 1 ≤ w) (w2 : w ≤ 24) (hk : 1 + ps.length * (k + l + 1) + k + l ≤ 8000) (hm : 1 + ps.length * (l + m + 1) + l + m ≤ 8000) (S : Store) : d_mixture [tS w (ps.map (·.2)), .tup (ps.map mf)] S = .ok (tF (mixR w ps) (mixB ps)) S := by
  have H := fnD_wp (n := 2) (k := 4) (b := b_mixture) (ds := [tS w (ps.map (·.2)), .tup (ps.map mf)]) (S := S) (Q := fun d S1 => S1 = S ∧ d = tF (mixR w ps) (mixB ps)) rfl ?_
  · obtain ⟨d, S1, h1, rfl, rfl⟩ := H
    exact h1
  have hz := zipL_map mf mc ps
  have hc : (ps.map (·.2)).map tC = ps.map mc := by rw [List.map_map]; rfl
  have z0 : zipD [.tup (ps.map mf), .tup (ps.map mc)] = some (ps.map fun x => .tup [mf x, mc x]) := by rw [← hz]; rfl
  have t0 : (.tup [.int 0, .int 1] : D) = tR 0 := rfl
  have ea := arem_ev (w := w) ps S
  rw [ho] at ea
  simp [-List.map_map, b_mixture, hc, z0, ea, zero_ev w1 w2, c_ZERO, t0]
  refine wp_bind (wp_for (fun i e S1 => S1 = S ∧ ∃ s4 s5, e = [.val (tS w (ps.map (·.2))), .val (.tup (ps.map mf)), .val (tL (mixR w (ps.take i))), .val (tR (mixB (ps.take i))), s4, s5]) ⟨rfl, _, _, rfl⟩ ?_ ?_)
  · rintro i d e S1 hd ⟨rfl, s4, s5, rfl⟩
    rw [List.getElem?_map] at hd
    cases hj : ps[i]? with
    | none => rw [hj] at hd; cases hd
    | some p =>
      rw [hj] at hd
      cases hd
      refine ⟨_, put_2, ?_⟩
      have hi : i < ps.length := (List.getElem?_eq_some_iff.mp hj).1
      obtain ⟨h1, h2, h3, h4⟩ := h p (List.mem_of_getElem? hj)
      have q1 : i * (k + l + 1) ≤ ps.length * (k + l + 1) := Nat.mul_le_mul_right _ (by omega)
      have q2 : i * (l + m + 1) ≤ ps.length * (l + m + 1) := Nat.mul_le_mul_right _ (by omega)
      have e1 := scale_ev h4 h2 (by omega) (by unfold LN; omega) S1
      have e2 := addrows_ev (mixR_bd h i) (BdL.scale h4 h2) (by rw [mixR_len h, List.length_map, h1]) (by omega) (by rw [mixR_len h]; unfold LN; omega) S1
      have e3 := times_ev h4 h3 (by omega) S1
      have e4 := plus_ev (mixB_bd h i) (h4.mul h3) (by omega) S1
      have n1 : mixR w (ps.take (i + 1)) = List.zipWith (· + ·) (mixR w (ps.take i)) (p.2.row.map (p.1 * ·)) := take_foldl _ _ hj
      have n2 : mixB (ps.take (i + 1)) = mixB (ps.take i) + p.1 * p.2.bound := take_foldl _ _ hj
      rw [n1, n2]
      simp [-List.map_zipWith, -List.map_map, -List.zipWith_map, -List.map_replicate, b_mixture_1, mc, mf, e1, e2, e3, e4]
  · rintro e S1 ⟨rfl, s4, s5, rfl⟩
    rw [List.length_map, List.take_length]
    simp [tF]
end Ks

set_option linter.all false
set_option maxRecDepth 100000
namespace Ks
open Kb PySem
/-- a condition as it may be told -/
structure RC where
  row : List (Int × Int)
  rel : Str
  bound : Int × Int
def tRC (c : RC) : D := .tup [.tup (c.row.map tP), .str c.rel, tP c.bound]
def sys (w : Int) (rs : List RC) : D := .tup [.int w, .tup (rs.map tRC)]
def okRC (w : Int) (c : RC) : Bool := decide ((c.row.length : Int) = w) && (("<=" == c.rel || "=" == c.rel) && (okP c.bound && c.row.all okP))
def okSys (w : Int) (rs : List RC) : Bool := decide (1 ≤ w) && (decide (w ≤ 24) && (decide (rs.length ≤ 40) && rs.all (okRC w)))
def vRC (c : RC) : Prop := (c.rel.cps.all fun c => decide (c < 1114112)) = true
theorem put_3 {i j k : Nat} {x y z : D} {env : Kb.Env} : (Tg.tp [.nm i, .nm j, .nm k]).put (.tup [x, y, z]) env = some (((env.set i (.val x)).set j (.val y)).set k (.val z)) := rfl
theorem forGo_exc {tg : Tg} {b : SM} {d : D} {ds : List D} {env e1 e2 : Kb.Env} {S S2 : Store} {c : String} (hp : tg.put d env = some e1) (hb : b e1 S = .exc c e2 S2) : forGo tg b (d :: ds) env S = .exc c e2 S2 := by
  rw [forGo, hp]
  dsimp only
  rw [hb]
theorem nin_rel {r : Str} (h : (r.cps.all fun c => decide (c < 1114112)) = true) : ninD (.str r) c_RELATIONS = some (.bl (!("<=" == r || "=" == r))) := by
  unfold c_RELATIONS
  show (if (okd 60 (.str r) && okd 60 (.tup [.str "<=", .str "="])) = true then _ else _) = _
  have h1 : okd 60 (.str r) = true := h
  have h2 : okd 60 (.tup [.str "<=", .str "="]) = true := by decide +kernel
  rw [h1, h2]
  simp [eqv]
theorem chk_turn {w : Int} {c : RC} (hv : vRC c) (hn : c.row.length ≤ 1000) (d1 d2 : D) (s6 : Slot) (S : Store) : b_check_system_2 [d1 |> .val, .val (.int w), .val d2, .val (.tup (c.row.map tP)), .val (.str c.rel), .val (tP c.bound), s6] S = if okRC w c = true then .ok .nx [d1 |> .val, .val (.int w), .val d2, .val (.tup (c.row.map tP)), .val (.str c.rel), .val (tP c.bound), s6] S else .exc "NotAllowed" [d1 |> .val, .val (.int w), .val d2, .val (.tup (c.row.map tP)), .val (.str c.rel), .val (tP c.bound), s6] S := by
  have e1 := nin_rel hv
  have e2 : d_is_ratio [tP c.bound] S = .ok (.bl (okP c.bound)) S := isratio_ev c.bound.1 c.bound.2 S
  have e3 : l_check_system_1 [d1 |> .val, .val (.int w), .val d2, .val (.tup (c.row.map tP)), .val (.str c.rel), .val (tP c.bound), s6] S = .ok (c.row.map fun p => .bl (okP p)) S := by
    refine mapU (zs := c.row) (u := tP) (by simp) hn ?_
    intro z hz
    have : d_is_ratio [tP z] S = .ok (.bl (okP z)) S := isratio_ev z.1 z.2 S
    simp [this]
  have e4 := allP okP c.row
  unfold okRC
  by_cases h1 : (c.row.length : Int) = w
  · cases h2 : ("<=" == c.rel || "=" == c.rel)
    · rw [h2] at e1
      simp [b_check_system_2, h1, e1]
    · rw [h2] at e1
      cases h3 : okP c.bound
      · rw [h3] at e2
        simp [b_check_system_2, h1, e1, e2]
      · rw [h3] at e2
        cases h4 : c.row.all okP
        · rw [h4] at e4
          simp [b_check_system_2, h1, e1, e2, e3, e4]
        · rw [h4] at e4
          simp [b_check_system_2, h1, e1, e2, e3, e4]
  · simp [b_check_system_2, h1]
theorem chk_loop {w : Int} (d1 d2 : D) (s6 : Slot) (S : Store) : ∀ (rs : List RC) (s3 s4 s5 : Slot), (∀ c ∈ rs, vRC c ∧ c.row.length ≤ 1000) → ∃ e, forGo (.tp [.nm 3, .nm 4, .nm 5]) b_check_system_2 (rs.map tRC) [.val d1, .val (.int w), .val d2, s3, s4, s5, s6] S = if rs.all (okRC w) = true then .ok .nx e S else .exc "NotAllowed" e S
  | [], s3, s4, s5, _ => ⟨_, rfl⟩
  | c :: rs, s3, s4, s5, h => by
    obtain ⟨h1, h2⟩ := h c List.mem_cons_self
    have ht := chk_turn (w := w) h1 h2 d1 d2 s6 S
    cases hc : okRC w c
    · rw [hc, if_neg Bool.false_ne_true] at ht
      refine ⟨[.val d1, .val (.int w), .val d2, .val (.tup (c.row.map tP)), .val (.str c.rel), .val (tP c.bound), s6], ?_⟩
      rw [List.all_cons, hc, Bool.false_and, if_neg Bool.false_ne_true]
      exact forGo_exc (e2 := [.val d1, .val (.int w), .val d2, .val (.tup (c.row.map tP)), .val (.str c.rel), .val (tP c.bound), s6]) put_3 ht
    · rw [hc, if_pos rfl] at ht
      obtain ⟨e, he⟩ := chk_loop d1 d2 s6 S rs _ _ _ fun x hx => h x (List.mem_cons_of_mem _ hx)
      refine ⟨e, ?_⟩
      rw [List.all_cons, hc, Bool.true_and]
      exact (forGo_cons put_3 ht).trans he
theorem chk_ev {w : Int} {rs : List RC} (h : ∀ c ∈ rs, vRC c ∧ c.row.length ≤ 1000) (S : Store) : d_check_system [sys w rs] S = if okSys w rs = true then .ok .non S else .exc "NotAllowed" S := by
  obtain ⟨e, he⟩ := chk_loop (w := w) (sys w rs) (.tup (rs.map tRC)) .no S rs .no .no .no h
  have hT : sTg (.tp [.nm 1, .nm 2]) (eN 0) [.val (sys w rs), .no, .no, .no, .no, .no, .no] S = .ok .nx [.val (sys w rs), .val (.int w), .val (.tup (rs.map tRC)), .no, .no, .no, .no] S := sTg_ev rfl rfl
  unfold okSys
  by_cases h1 : w < 1
  · have h1' : ¬ (1 ≤ w) := by omega
    rw [decide_eq_false h1', Bool.false_and, if_neg Bool.false_ne_true]
    refine fnD_exc rfl (en1 := [.val (sys w rs), .val (.int w), .val (.tup (rs.map tRC)), .no, .no, .no, .no]) ?_
    simp [b_check_system, hT, h1]
  · rw [decide_eq_true (by omega : 1 ≤ w), Bool.true_and]
    by_cases h2 : 24 < w
    · rw [decide_eq_false (by omega : ¬ (w ≤ 24)), Bool.false_and, if_neg Bool.false_ne_true]
      refine fnD_exc rfl (en1 := [.val (sys w rs), .val (.int w), .val (.tup (rs.map tRC)), .no, .no, .no, .no]) ?_
      simp [b_check_system, hT, h1, h2, c_MAX_WIDTH]
    · rw [decide_eq_true (by omega : w ≤ 24), Bool.true_and]
      by_cases h3 : 40 < rs.length
      · rw [decide_eq_false (by omega : ¬ (rs.length ≤ 40)), Bool.false_and, if_neg Bool.false_ne_true]
        have h3' : (40 : Int) < rs.length := by omega
        refine fnD_exc rfl (en1 := [.val (sys w rs), .val (.int w), .val (.tup (rs.map tRC)), .no, .no, .no, .no]) ?_
        simp [b_check_system, hT, h1, h2, h3', c_MAX_WIDTH, c_MAX_CONDITIONS]
      · rw [decide_eq_true (by omega : rs.length ≤ 40), Bool.true_and]
        have h3' : ¬ ((40 : Int) < rs.length) := by omega
        cases ha : rs.all (okRC w)
        · rw [ha, if_neg Bool.false_ne_true] at he
          rw [if_neg Bool.false_ne_true]
          refine fnD_exc rfl (en1 := e) ?_
          simp [b_check_system, hT, h1, h2, h3', c_MAX_WIDTH, c_MAX_CONDITIONS, he]
        · rw [ha, if_pos rfl] at he
          rw [if_pos rfl]
          refine fnD_nx rfl (en1 := e) ?_
          simp [b_check_system, hT, h1, h2, h3', c_MAX_WIDTH, c_MAX_CONDITIONS, he]
/-- a condition of ratios, as it may be told -/
def relS (b : Bool) : Str := if b then "<=" else "="
def rcOf (c : Con) : RC := ⟨prs c.row, relS c.le, (c.bound.num, (c.bound.den : Int))⟩
theorem tC_rc (c : Con) : tC c = tRC (rcOf c) := by
  unfold tC tRC rcOf
  rw [tL_prs]
  rfl
theorem vrc_of (c : Con) : vRC (rcOf c) := by
  show ((relS c.le).cps.all fun c => decide (c < 1114112)) = true
  have : ∀ b, ((relS b).cps.all fun c => decide (c < 1114112)) = true := by decide +kernel
  exact this c.le
theorem okrc_of {w : Nat} {c : Con} (h : c.row.length = w) : okRC w (rcOf c) = true := by
  have h0 : ∀ b, (("<=" : Str) == relS b || ("=" : Str) == relS b) = true := by decide +kernel
  have h1 : ("<=" == (rcOf c).rel || "=" == (rcOf c).rel) = true := h0 c.le
  have h2 : (rcOf c).row.all okP = true := by
    rw [List.all_eq_true]
    intro p hp
    obtain ⟨q, _, rfl⟩ := List.mem_map.mp hp
    exact okP_rat q
  have h3 : okP (rcOf c).bound = true := okP_rat c.bound
  have h4 : ((rcOf c).row.length : Int) = w := by
    unfold rcOf prs
    rw [List.length_map, h]
  unfold okRC
  rw [h1, h2, h3, decide_eq_true h4]
  rfl
theorem tS_sys (w : Nat) (cs : List Con) : tS w cs = sys w (cs.map rcOf) := by
  unfold tS sys
  rw [List.map_map]
  have : (tRC ∘ rcOf) = tC := funext fun c => (tC_rc c).symm
  rw [this]
end Ks

set_option linter.all false
set_option maxRecDepth 100000
namespace Ks
open Kb PySem
/-! the helpers of the laws of scales -/
theorem euclidC {S : Store} (n d : D) : ∀ (k : Nat) (ds : List D) (x y : Nat) (s4 s5 : Slot), y < 2 ^ k → 2 * k + 1 ≤ ds.length → ∃ s4', forGo (.nm 4) b__law_ratioC_1 ds [.val n, .val d, .val (.int x), .val (.int y), s4, s5] S = .ok .nx [.val n, .val d, .val (.int (Nat.gcd x y : Nat)), .val (.int 0), s4', s5] S := by
  have stop : ∀ (ds : List D) (x : Nat) (s4 s5 : Slot), 1 ≤ ds.length → ∃ s4', forGo (.nm 4) b__law_ratioC_1 ds [.val n, .val d, .val (.int x), .val (.int 0), s4, s5] S = .ok .nx [.val n, .val d, .val (.int (x : Nat)), .val (.int 0), s4', s5] S := by
    intro ds x s4 s5 hl
    obtain ⟨a, ds, rfl⟩ := List.exists_cons_of_length_pos (by omega : 0 < ds.length)
    refine ⟨.val a, ?_⟩
    simp [for_turn, b__law_ratioC_1]
  have one : ∀ (a : D) (ds : List D) (x y : Nat) (s4 s5 : Slot), y ≠ 0 → forGo (.nm 4) b__law_ratioC_1 (a :: ds) [.val n, .val d, .val (.int x), .val (.int y), s4, s5] S = forGo (.nm 4) b__law_ratioC_1 ds [.val n, .val d, .val (.int y), .val (.int ((x % y : Nat) : Int)), .val a, s5] S := by
    intro a ds x y s4 s5 hy
    have hm : modD (.int x) (.int y) = some (.int ((x % y : Nat) : Int)) := modD_ok (by omega)
    refine forGo_cons put_nm ?_
    simp [b__law_ratioC_1, hy, hm, sPar]
  intro k
  induction k with
  | zero =>
    intro ds x y s4 s5 hy hl
    have : y = 0 := by omega
    subst this
    rw [Nat.gcd_zero_right]
    exact stop ds x s4 s5 hl
  | succ k ih =>
    intro ds x y s4 s5 hy hl
    by_cases h0 : y = 0
    · subst h0
      rw [Nat.gcd_zero_right]
      exact stop ds x s4 s5 (by omega)
    · obtain ⟨a, ds, rfl⟩ := List.exists_cons_of_length_pos (by omega : 0 < ds.length)
      rw [List.length_cons] at hl
      rw [one a ds x y s4 s5 h0]
      have hg : Nat.gcd x y = Nat.gcd y (x % y) := by rw [Nat.gcd_comm x y, Nat.gcd_rec y x]; exact Nat.gcd_comm _ _
      rw [hg]
      generalize hr : x % y = r
      have hr1 : r < y := by rw [← hr]; exact Nat.mod_lt x (by omega)
      by_cases h1 : r = 0
      · subst h1
        rw [Nat.gcd_zero_right]
        exact stop ds y _ _ (by omega)
      · obtain ⟨b, ds, rfl⟩ := List.exists_cons_of_length_pos (by omega : 0 < ds.length)
        rw [List.length_cons] at hl
        rw [one b ds y r _ _ h1]
        have hg : Nat.gcd y r = Nat.gcd r (y % r) := by rw [Nat.gcd_comm y r, Nat.gcd_rec r y]; exact Nat.gcd_comm _ _
        rw [hg]
        refine ih ds r (y % r) _ _ ?_ (by omega)
        have h2 : y % r < r := Nat.mod_lt y (by omega)
        have h3 : y % r + r ≤ y := by
          have := Nat.div_add_mod y r
          have h4 : 1 ≤ y / r := (Nat.one_le_div_iff (by omega)).mpr (by omega)
          have h5 : r * 1 ≤ r * (y / r) := Nat.mul_le_mul_left r h4
          omega
        rw [Nat.pow_succ] at hy
        omega
theorem mul_1 (n : Int) (h : bit n < 10000000) : mulI (.int 1) (.int n) = some (.int n) := by
  rw [mulI_ok (by have : bit 1 ≤ 1 := bit_small (by omega) (by omega); omega), Int.one_mul]
theorem ratioC_ev {n d : Int} (h : 0 < d) (hk : d.natAbs < 2 ^ 1990) (hn : bit n < 10000000) (S : Store) : d__law_ratioC [.int n, .int d] S = .ok (tR (Rat.divInt n d)) S := by
  have g0 := gcd_pos (n := n) h
  have hk' : d.natAbs < 2 ^ 8000 := Nat.lt_of_lt_of_le hk (pow2_le (by omega))
  have f : ∀ x, fdivD (.int x) (.int (Int.gcd n d)) = some (.int (x / Int.gcd n d)) := fun x => fdivD_ok (by omega) (by have := gcd_bit (n := n) h hk'; omega)
  obtain ⟨s4, hl⟩ := euclidC (S := S) (.int n) (.int d) 1990 (rngI 0 4000) n.natAbs d.natAbs .no .no hk (by rw [rngI_length]; omega)
  have hg : (Nat.gcd n.natAbs d.natAbs) = Int.gcd n d := rfl
  rw [hg] at hl
  refine fnD_rt rfl (en1 := [.val (.int n), .val (.int d), .val (.int (Int.gcd n d)), .val (.int 0), s4, .val (.int 1)]) ?_
  have h1 : ¬ d < 0 := by omega
  obtain ⟨e1, e2⟩ := divInt_pos (n := n) h
  have ha : ∀ z : Int, (if z < 0 then -z else z) = (z.natAbs : Int) := fun z => by split <;> omega
  have hb : ((d.natAbs : Nat) : Int) = d := by omega
  have i0 : ixD (.lst [.int 1, .int (-1)]) (.int 0) = some (.int 1) := rfl
  have m1 := mul_1 n hn
  have m2 := mul_1 d (by have := bit_lt hk; omega)
  simp only [tR, e1, e2]
  rw [hb] at hl
  simp [b__law_ratioC, ha, hl, h1, i0, m1, m2, f]
theorem plusC_ev {k l : Nat} {a b : Rat} (ha : Bd k a) (hb : Bd l b) (h : k + l ≤ 1980) (S : Store) : d__law_plusC [tR a, tR b] S = .ok (tR (a + b)) S := by
  have m1 : mulI (.int a.num) (.int b.den) = some (.int (a.num * b.den)) := mulI_ok (by have := ha.bn; have := hb.bd; omega)
  have m2 : mulI (.int b.num) (.int a.den) = some (.int (b.num * a.den)) := mulI_ok (by have := hb.bn; have := ha.bd; omega)
  have m3 : mulI (.int a.den) (.int b.den) = some (.int (a.den * b.den)) := mulI_ok (by have := ha.bd; have := hb.bd; omega)
  have hn : (a.num * b.den + b.num * a.den).natAbs < 2 ^ 1990 := by
    have h1 : (a.num * b.den).natAbs < 2 ^ (k + l) := by rw [Int.natAbs_mul]; exact mul_lt ha.n (by have := hb.d; simpa using this)
    have h2 : (b.num * a.den).natAbs < 2 ^ (l + k) := by rw [Int.natAbs_mul]; exact mul_lt hb.n (by have := ha.d; simpa using this)
    rw [Nat.add_comm l k] at h2
    have h3 := add_lt h1 h2
    exact Nat.lt_of_le_of_lt (Int.natAbs_add_le _ _) (Nat.lt_of_lt_of_le h3 (pow2_le (by omega)))
  refine fnD_rt rfl (en1 := [.val (tR a), .val (tR b)]) ?_
  simp [b__law_plusC, m1, m2, m3, ratioC_ev (n := a.num * b.den + b.num * a.den) (den2_pos a b) (dd_ltN ha hb (by omega)) (by have := bit_lt hn; omega), add_divInt]
theorem timesC_ev {k l : Nat} {a b : Rat} (ha : Bd k a) (hb : Bd l b) (h : k + l ≤ 1980) (S : Store) : d__law_timesC [tR a, tR b] S = .ok (tR (a * b)) S := by
  have m1 : mulI (.int a.num) (.int b.num) = some (.int (a.num * b.num)) := mulI_ok (by have := ha.bn; have := hb.bn; omega)
  have m3 : mulI (.int a.den) (.int b.den) = some (.int (a.den * b.den)) := mulI_ok (by have := ha.bd; have := hb.bd; omega)
  have hn : (a.num * b.num).natAbs < 2 ^ (k + l) := by rw [Int.natAbs_mul]; exact mul_lt ha.n hb.n
  refine fnD_rt rfl (en1 := [.val (tR a), .val (tR b)]) ?_
  simp [b__law_timesC, m1, m3, ratioC_ev (n := a.num * b.num) (den2_pos a b) (dd_ltN ha hb (by omega)) (by have := bit_lt hn; omega), mul_divInt]
theorem minusC_ev {k l : Nat} {a b : Rat} (ha : Bd k a) (hb : Bd l b) (h : k + l ≤ 1980) (S : Store) : d__law_minusC [tR a, tR b] S = .ok (tR (a - b)) S := by
  have e := plusC_ev ha hb.neg h S
  have e2 : (.tup [.int (-b.num), .int b.den] : D) = tR (-b) := by unfold tR; rw [Rat.neg_num, Rat.neg_den]
  refine fnD_rt rfl (en1 := [.val (tR a), .val (tR b)]) ?_
  simp [b__law_minusC, e2, e]
  rw [Rat.sub_eq_add_neg]
theorem overC_ev {k l : Nat} {a b : Rat} (ha : Bd k a) (hb : Bd l b) (h : k + l ≤ 1980) (h0 : 0 < b) (S : Store) : d__law_overC [tR a, tR b] S = .ok (tR (a / b)) S := by
  have m1 : mulI (.int a.num) (.int b.den) = some (.int (a.num * b.den)) := mulI_ok (by have := ha.bn; have := hb.bd; omega)
  have m3 : mulI (.int a.den) (.int b.num) = some (.int (a.den * b.num)) := mulI_ok (by have := ha.bd; have := hb.bn; omega)
  have hn : (a.num * b.den).natAbs < 2 ^ (k + l) := by rw [Int.natAbs_mul]; exact mul_lt ha.n (by have := hb.d; simpa using this)
  have hd : ((a.den : Int) * b.num).natAbs < 2 ^ 1990 := by
    have h1 : ((a.den : Int) * b.num).natAbs < 2 ^ (k + l) := by rw [Int.natAbs_mul]; exact mul_lt (by have := ha.d; simpa using this) hb.n
    exact Nat.lt_of_lt_of_le h1 (pow2_le (by omega))
  have hp : (0 : Int) < a.den * b.num := Int.mul_pos (by have := den_pos a; omega) (by
    have h1 : ¬ b.num < 0 := fun z => by have := (numlt b).mp z; grind
    have h2 : b.num ≠ 0 := num_ne (by grind)
    omega)
  refine fnD_rt rfl (en1 := [.val (tR a), .val (tR b)]) ?_
  simp [b__law_overC, m1, m3, ratioC_ev (n := a.num * b.den) hp hd (by have := bit_lt hn; omega), div_divInt]
/-- numbers below 1000 -/
def N3 (ns : List Int) : Prop := ∀ x ∈ ns, 0 ≤ x ∧ x < 1000
theorem N3.snoc {ns : List Int} {x : Int} (h : N3 ns) (h0 : 0 ≤ x) (h1 : x < 1000) : N3 (ns ++ [x]) := by
  intro y hy
  rcases List.mem_append.mp hy with h2 | h2
  · exact h y h2
  · rw [List.mem_singleton.mp h2]; exact ⟨h0, h1⟩
theorem N3.at {ns : List Int} (h : N3 ns) {k : Nat} (hk : k < ns.length) : 0 ≤ ns.getD k 0 ∧ ns.getD k 0 < 1000 := by
  rw [List.getD_eq_getElem?_getD, List.getElem?_eq_getElem hk]
  exact h _ (List.getElem_mem hk)
theorem numC_1 (cell k many : D) (n : Nat) (hn : n ≤ 1000) (r : Int) (t5 t6 t7 : Slot) (S : Store) : ∃ (ns : List Int) (s4 s5 : Slot), ns.length = n ∧ N3 ns ∧ forGo (.nm 5) b__law_numbersC_1 (rngI 0 n) [.val cell, .val k, .val many, .own [], .val (.int r), t5, t6, t7] S = .ok .nx [.val cell, .val k, .val many, .own (nums ns), s4, s5, t6, t7] S := by
  have L : Wp (forGo (.nm 5) b__law_numbersC_1 (rngI 0 n) [.val cell, .val k, .val many, .own [], .val (.int r), t5, t6, t7] S) (fun f e S1 => f = .nx ∧ S1 = S ∧ ∃ (ns : List Int) (s4 s5 : Slot), ns.length = n ∧ N3 ns ∧ e = [.val cell, .val k, .val many, .own (nums ns), s4, s5, t6, t7]) := by
    refine wp_rng0 (fun i e S1 => S1 = S ∧ ∃ (ns : List Int) (r : Int) (t5 : Slot), ns.length = i ∧ N3 ns ∧ e = [.val cell, .val k, .val many, .own (nums ns), .val (.int r), t5, t6, t7]) ⟨rfl, [], _, _, rfl, fun x hx => absurd hx List.not_mem_nil, rfl⟩ ?_ ?_
    · rintro i e S1 hi ⟨rfl, ns, r, t5, h1, h2, rfl⟩
      obtain ⟨v, m1, v0, v1⟩ : ∃ v, modD (.int r) (.int 1000) = some (.int v) ∧ 0 ≤ v ∧ v < 1000 := ⟨_, modD_ok (by omega), by omega, by omega⟩
      obtain ⟨u, f1⟩ : ∃ u, fdivD (.int r) (.int 1000) = some (.int u) := ⟨_, fdiv_s (by omega) (by omega)⟩
      have hl' : ns.length < LN := by unfold LN; omega
      simp [b__law_numbersC_1, m1, f1, sApp, hl']
      exact ⟨ns ++ [v], by simp; omega, h2.snoc v0 v1, by simp⟩
    · rintro e S1 ⟨rfl, ns, r, t5, h1, h2, rfl⟩
      exact ⟨rfl, rfl, ns, _, _, h1, h2, rfl⟩
  obtain ⟨f, e, S1, h, rfl, rfl, ns, s4, s5, h1, h2, rfl⟩ := wp_out L
  exact ⟨ns, s4, s5, h1, h2, h⟩
theorem numC_2 (cell many : D) (k n : Nat) (hk : k ≤ 1000) (hn : n ≤ 1000) (r : Int) (r0 : 0 ≤ r) (r1 : r < 2147483647) (t4 t5 t7 : Slot) (S : Store) : ∃ (ns : List Int) (s5 s6 s7 : Slot), ns.length = n ∧ N3 ns ∧ forGo (.nm 5) b__law_numbersC_2 (rngI 0 n) [.val cell, .val (.int k), .val many, .own [], t4, t5, .val (.int r), t7] S = .ok .nx [.val cell, .val (.int k), .val many, .own (nums ns), t4, s5, s6, s7] S := by
  have s3 : bit (k : Int) ≤ 10 := bit_small (by omega) (by omega)
  have s4 : bit 16807 ≤ 15 := bit_small (by omega) (by omega)
  have s5 : bit 7919 ≤ 13 := bit_small (by omega) (by omega)
  have s6 : bit 31 ≤ 5 := bit_small (by omega) (by omega)
  have L : Wp (forGo (.nm 5) b__law_numbersC_2 (rngI 0 n) [.val cell, .val (.int k), .val many, .own [], t4, t5, .val (.int r), t7] S) (fun f e S1 => f = .nx ∧ S1 = S ∧ ∃ (ns : List Int) (s5 s6 s7 : Slot), ns.length = n ∧ N3 ns ∧ e = [.val cell, .val (.int k), .val many, .own (nums ns), t4, s5, s6, s7]) := by
    refine wp_rng0 (fun i e S1 => S1 = S ∧ ∃ (ns : List Int) (r : Int) (t5 t7 : Slot), ns.length = i ∧ N3 ns ∧ 0 ≤ r ∧ r < 2147483647 ∧ e = [.val cell, .val (.int k), .val many, .own (nums ns), t4, t5, .val (.int r), t7]) ⟨rfl, [], _, _, _, rfl, fun x hx => absurd hx List.not_mem_nil, r0, r1, rfl⟩ ?_ ?_
    · clear r0 r1 r
      rintro i e S1 hi ⟨rfl, ns, r, t5, t7, h1, h2, r0, r1, rfl⟩
      have sr : bit r ≤ 31 := bit_small r0 (by omega)
      have si : bit (i : Int) ≤ 10 := bit_small (by omega) (by omega)
      have n1 : mulI (.int r) (.int 16807) = some (.int (r * 16807)) := mulI_ok (by omega)
      have n2 : mulI (.int i) (.int 7919) = some (.int (i * 7919)) := mulI_ok (by omega)
      obtain ⟨y, n8, y0, y1⟩ : ∃ y, modD (.int (r * 16807 + i * 7919 + 13)) (.int 2147483647) = some (.int y) ∧ 0 ≤ y ∧ y < 2147483647 := ⟨_, modD_ok (by omega), by omega, by omega⟩
      have sy : bit y ≤ 31 := bit_small y0 (by omega)
      have n3 : mulI (.int y) (.int y) = some (.int (y * y)) := mulI_ok (by omega)
      have n4 : mulI (.int k) (.int 31) = some (.int (k * 31)) := mulI_ok (by omega)
      obtain ⟨z, n5⟩ : ∃ z, modD (.int (y * y + k * 31 + i)) (.int 1000000007) = some (.int z) := ⟨_, modD_ok (by omega)⟩
      obtain ⟨u, n6⟩ : ∃ u, fdivD (.int z) (.int 101) = some (.int u) := ⟨_, fdiv_s (by omega) (by omega)⟩
      obtain ⟨v, n7, v0, v1⟩ : ∃ v, modD (.int u) (.int 1000) = some (.int v) ∧ 0 ≤ v ∧ v < 1000 := ⟨_, modD_ok (by omega), by omega, by omega⟩
      have hl' : ns.length < LN := by unfold LN; omega
      simp [b__law_numbersC_2, n1, n2, n8, n3, n4, n5, n6, n7, sApp, hl']
      exact ⟨ns ++ [v], by simp; omega, h2.snoc v0 v1, y, y0, y1, by simp⟩
    · rintro e S1 ⟨rfl, ns, r, t5, t7, h1, h2, r0, r1, rfl⟩
      exact ⟨rfl, rfl, ns, _, _, _, h1, h2, rfl⟩
  obtain ⟨f, e, S1, h, rfl, rfl, ns, s5, s6, s7, h1, h2, rfl⟩ := wp_out L
  exact ⟨ns, s5, s6, s7, h1, h2, h⟩
theorem numC_ev {cell : Int} (hb : bit cell ≤ 1048576) (k many : Nat) (hk : k ≤ 1000) (hm : many ≤ 1000) (S : Store) : ∃ ns, ns.length = many ∧ N3 ns ∧ d__law_numbersC [.int cell, .int k, .int many] S = .ok (.lst (nums ns)) S := by
  have hr := rng_nat (n := many) (by omega)
  have p18 : powD (.int 10) (.int 18) = some (.int (10 ^ 18)) := rfl
  have s1 : bit 48271 ≤ 16 := bit_small (by omega) (by omega)
  have s2 : bit 69621 ≤ 17 := bit_small (by omega) (by omega)
  have s3 : bit (k : Int) ≤ 10 := bit_small (by omega) (by omega)
  by_cases hc : 10 ^ 18 ≤ cell
  · have hc' : (1000000000000000000 : Int) ≤ cell := hc
    obtain ⟨ns, s4, s5, h1, h2, h3⟩ := numC_1 (.int cell) (.int k) (.int many) many hm cell .no .no .no S
    refine ⟨ns, h1, h2, fnD_rt rfl (en1 := [.val (.int cell), .val (.int k), .val (.int many), .val (.lst (nums ns)), s4, s5, .no, .no]) ?_⟩
    simp [b__law_numbersC, p18, hc', hr, h3, frz]
  · have hc' : ¬ (1000000000000000000 : Int) ≤ cell := hc
    have m1 : mulI (.int cell) (.int 48271) = some (.int (cell * 48271)) := mulI_ok (by omega)
    have m2 : mulI (.int k) (.int 69621) = some (.int (k * 69621)) := mulI_ok (by omega)
    obtain ⟨x, m3, x0, x1⟩ : ∃ x, modD (.int (cell * 48271 + k * 69621 + 11)) (.int 2147483647) = some (.int x) ∧ 0 ≤ x ∧ x < 2147483647 := ⟨_, modD_ok (by omega), by omega, by omega⟩
    obtain ⟨ns, s5, s6, s7, h1, h2, h3⟩ := numC_2 (.int cell) (.int many) k many hk hm x x0 x1 .no .no .no S
    refine ⟨ns, h1, h2, fnD_rt rfl (en1 := [.val (.int cell), .val (.int k), .val (.int many), .val (.lst (nums ns)), .no, s5, s6, s7]) ?_⟩
    simp [b__law_numbersC, p18, hc', hr, m1, m2, m3, h3, frz]
theorem drawnC_ev {x most : Int} (h0 : 0 ≤ x) (h1 : x < 1000) (m0 : 0 ≤ most) (m1 : most < 500) (S : Store) : ∃ q, 0 ≤ q ∧ Bd 9 q ∧ d__law_drawnC [.int x, .int most] S = .ok (tR q) S := by
  have f1 : fdivD (.int x) (.int 6) = some (.int (x / 6)) := fdiv_s (by omega) (by omega)
  have e1 : modD (.int (x / 6)) (.int (most + 1)) = some (.int (x / 6 % (most + 1))) := modD_ok (by omega)
  have e2 : modD (.int x) (.int 6) = some (.int (x % 6)) := modD_ok (by omega)
  have b0 : 0 ≤ x / 6 % (most + 1) := Int.emod_nonneg _ (by omega)
  have b1 : x / 6 % (most + 1) < most + 1 := Int.emod_lt_of_pos _ (by omega)
  have hn : (x / 6 % (most + 1)).natAbs < 2 ^ 9 := by omega
  have hq := ratioC_ev (n := x / 6 % (most + 1)) (d := 1 + x % 6) (by omega) (Nat.lt_of_lt_of_le (show (1 + x % 6).natAbs < 2 ^ 10 by omega) (pow2_le (by omega))) (by have := bit_lt hn; omega) S
  refine ⟨_, ?_, bd_div (n := x / 6 % (most + 1)) (d := 1 + x % 6) (by omega) hn (by omega), fnD_rt rfl (en1 := [.val (.int x), .val (.int most)]) ?_⟩
  · exact Rat.divInt_nonneg b0 (by omega)
  · simp [b__law_drawnC, f1, e1, e2, hq]
end Ks

set_option linter.all false
set_option maxRecDepth 100000
namespace Ks
open Kb PySem
theorem sTg_is {tg : Tg} {f : EM D} {env : Kb.Env} {S : Store} : sTg tg f env S = eS (f env S) env fun d S1 => match tg.put d env with | some env' => .ok .nx env' S1 | none => .stuck := rfl
theorem gets {ns : List Int} {k : Nat} (h : k < ns.length) : ixD (.lst (ns.map .int)) (.int k) = some (.int (ns.getD k 0)) := ix_n h
/-- a paper -/
structure Pap where
  first : Int
  last : Int
  zero : Rat
  share : Rat
  drift : Rat
  checked : Int
def tPap (p : Pap) : D := .tup [.int p.first, .int p.last, tR p.zero, tR p.share, tR p.drift, .int p.checked]
structure Pap.ok (p : Pap) : Prop where
  c0 : 0 ≤ p.checked
  c1 : p.checked ≤ p.first
  c2 : p.first ≤ p.last
  c3 : p.last ≤ 999
  z0 : 0 ≤ p.zero
  s0 : 0 ≤ p.share
  s1 : p.share < 1
  d0 : 0 ≤ p.drift
  zb : Bd 20 p.zero
  sb : Bd 20 p.share
  db : Bd 20 p.drift
@[simp] theorem tPap0 (p : Pap) : ixD (tPap p) (.int 0) = some (.int p.first) := (rfl)
@[simp] theorem tPap1 (p : Pap) : ixD (tPap p) (.int 1) = some (.int p.last) := (rfl)
@[simp] theorem tPap2 (p : Pap) : ixD (tPap p) (.int 2) = some (tR p.zero) := (rfl)
@[simp] theorem tPap3 (p : Pap) : ixD (tPap p) (.int 3) = some (tR p.share) := (rfl)
@[simp] theorem tPap4 (p : Pap) : ixD (tPap p) (.int 4) = some (tR p.drift) := (rfl)
@[simp] theorem tPap5 (p : Pap) : ixD (tPap p) (.int 5) = some (.int p.checked) := (rfl)
theorem put_pap {a b c d e f : Nat} {p : Pap} {env : Kb.Env} : (Tg.tp [.nm a, .nm b, .nm c, .nm d, .nm e, .nm f]).put (tPap p) env = some ((((((env.set a (.val (.int p.first))).set b (.val (.int p.last))).set c (.val (tR p.zero))).set d (.val (tR p.share))).set e (.val (tR p.drift))).set f (.val (.int p.checked))) := rfl
/-- an entry of a drawer -/
structure En where
  name : Str
  pap : Pap
  til : Option Int
def tU : Option Int → D
  | none => .non
  | some u => .int u
def tEn (e : En) : D := .tup [.str e.name, tPap e.pap, tU e.til]
def names4 : List Str := ["a", "b", "zzzz", "c"]
structure En.ok (e : En) : Prop where
  n : e.name ∈ names4
  p : e.pap.ok
  u : ∀ u, e.til = some u → 0 ≤ u ∧ u ≤ 999
def tDr (es : List En) : D := .tup (es.map tEn)
theorem put_en {a b c : Nat} {e : En} {env : Kb.Env} : (Tg.tp [.nm a, .nm b, .nm c]).put (tEn e) env = some (((env.set a (.val (.str e.name))).set b (.val (tPap e.pap))).set c (.val (tU e.til))) := rfl
@[simp] theorem tEn1 (e : En) : ixD (tEn e) (.int 1) = some (tPap e.pap) := (rfl)
@[simp] theorem len_tDr (es : List En) : lenD [tDr es] = some (.int es.length) := by
  unfold tDr
  rw [lenD_tup, List.length_map]
theorem ix_tDr {es : List En} {i : Nat} {e : En} (h : es[i]? = some e) : ixD (tDr es) (.int i) = some (tEn e) := ixD_tup (by rw [List.getElem?_map, h]; rfl)
/-- three in order -/
theorem sort3 {m : Int} (x y z : Int) (hx : 0 ≤ x ∧ x < m) (hy : 0 ≤ y ∧ y < m) (hz : 0 ≤ z ∧ z < m) : ∃ a b c, sortI [x, y, z] = [a, b, c] ∧ 0 ≤ a ∧ a ≤ b ∧ b ≤ c ∧ c < m := by
  have p : (sortI [x, y, z]).Perm [x, y, z] := List.mergeSort_perm _ _
  have q : (sortI [x, y, z]).Pairwise fun a b => decide (a ≤ b) = true := List.pairwise_mergeSort (fun a b c h1 h2 => decide_eq_true (by have := of_decide_eq_true h1; have := of_decide_eq_true h2; omega)) (fun a b => by
    by_cases h : a ≤ b
    · rw [decide_eq_true h]; rfl
    · rw [decide_eq_true (by omega : b ≤ a), Bool.or_true]) _
  have hl := p.length_eq
  generalize sortI [x, y, z] = l at *
  match l, hl with
  | [a, b, c], _ =>
    have q1 := List.pairwise_cons.mp q
    have q2 := List.pairwise_cons.mp q1.2
    have m1 : a ∈ [x, y, z] := p.subset (by simp)
    have m2 : c ∈ [x, y, z] := p.subset (by simp)
    have o1 := of_decide_eq_true (q1.1 b (by simp))
    have o2 := of_decide_eq_true (q2.1 c (by simp))
    simp only [List.mem_cons, List.not_mem_nil, or_false] at m1 m2
    refine ⟨a, b, c, rfl, ?_, o1, o2, ?_⟩
    · rcases m1 with rfl | rfl | rfl <;> omega
    · rcases m2 with rfl | rfl | rfl <;> omega
theorem mapIxD {F : EM (List D)} {tg : Nat} {g : EM D} {env : Kb.Env} {S : Store} {zs : List D} {n : Nat} {vs : List Nat} (hF : F env S = .ok (rngI 0 n) S) (hn : zs.length = n) (h2 : n ≤ 1000) (h : ∀ (i : Nat) z, zs[i]? = some z → g ((wipe env vs).set tg (.val (.int i))) S = .ok z S) : eLc F (.nm tg) vs tYes g env S = .ok zs S := by
  refine eLc_of hF (lcGo_idx (es := zs) [] ?_ ?_ ?_)
  · rw [rngI_length, hn]
  · intro i d hd
    obtain ⟨hi, rfl⟩ := rngI_at hd
    obtain ⟨z, hz⟩ := get_of (xs := zs) (i := i) (by omega)
    exact ⟨_, z, put_nm, rfl, by rw [Int.zero_add]; exact h i z hz, hz⟩
  · rw [rngI_length, List.length_nil]; unfold LN; omega
/-- one of two -/
theorem two {a b : D} {k : Int} (h0 : 0 ≤ k) (h1 : k < 2) : ixD (.lst [a, b]) (.int k) = some (if k = 0 then a else b) := by
  rcases (by omega : k = 0 ∨ k = 1) with rfl | rfl <;> rfl
theorem divInt_lt_one {n d : Int} (h : 0 < d) (hn : n < d) : Rat.divInt n d < 1 := by
  have hd : (0 : Rat) < (d : Rat) := by exact_mod_cast h
  rw [Rat.divInt_eq_div, Rat.div_lt_iff hd, Rat.one_mul]
  exact_mod_cast hn
theorem paperC_ev {ns : List Int} (hN : N3 ns) (hl : 8 ≤ ns.length) (S : Store) : ∃ p, Pap.ok p ∧ d__law_paperC [.lst (nums ns)] S = .ok (tPap p) S := by
  have g : ∀ k : Nat, k < 8 → ixD (.lst (nums ns)) (.int k) = some (.int (ns.getD k 0)) := fun k h => ix_n (by omega)
  have b : ∀ k : Nat, k < 8 → 0 ≤ ns.getD k 0 ∧ ns.getD k 0 < 1000 := fun k h => hN.at (by omega)
  have g0 := g 0 (by omega); have g1 := g 1 (by omega); have g2 := g 2 (by omega); have g3 := g 3 (by omega)
  have g4 := g 4 (by omega); have g5 := g 5 (by omega); have g6 := g 6 (by omega); have g7 := g 7 (by omega)
  have b0 := b 0 (by omega); have b1 := b 1 (by omega); have b2 := b 2 (by omega); have b3 := b 3 (by omega)
  have b4 := b 4 (by omega); have b5 := b 5 (by omega); have b6 := b 6 (by omega); have b7 := b 7 (by omega)
  clear g b
  generalize ns.getD 0 0 = v0 at *; generalize ns.getD 1 0 = v1 at *; generalize ns.getD 2 0 = v2 at *; generalize ns.getD 3 0 = v3 at *
  generalize ns.getD 4 0 = v4 at *; generalize ns.getD 5 0 = v5 at *; generalize ns.getD 6 0 = v6 at *; generalize ns.getD 7 0 = v7 at *
  obtain ⟨md, hmd, m0, m1⟩ : ∃ md : Int, ixD (.lst [.int 1000, .int 20]) (.int (v3 % 2)) = some (.int md) ∧ 0 < md ∧ md ≤ 1000 := by
    rw [two (by omega) (by omega)]
    by_cases h : v3 % 2 = 0
    · rw [if_pos h]; exact ⟨_, rfl, by omega, by omega⟩
    · rw [if_neg h]; exact ⟨_, rfl, by omega, by omega⟩
  have e3 : modD (.int v3) (.int 2) = some (.int (v3 % 2)) := modD_ok (by omega)
  have r : ∀ v : Int, modD (.int v) (.int md) = some (.int (v % md)) ∧ 0 ≤ v % md ∧ v % md < 1000 := fun v => ⟨modD_ok m0, Int.emod_nonneg _ (by omega), by have := Int.emod_lt_of_pos v m0; omega⟩
  obtain ⟨x0, x1⟩ := r v0
  obtain ⟨y0, y1⟩ := r v1
  obtain ⟨z0, z1⟩ := r v2
  obtain ⟨a, b, c, hs, a0, a1, a2, a3⟩ := sort3 (m := 1000) (v0 % md) (v1 % md) (v2 % md) x1 y1 z1
  have c1 : l__law_paperC_1 [.val (.lst (nums ns)), .no, .no, .no, .no, .no] S = .ok [.int (v0 % md), .int (v1 % md), .int (v2 % md)] S := by
    have hr := rng_nat (n := 3) (by omega)
    refine mapIxD (n := 3) (by simp) rfl (by omega) ?_
    intro i z hz
    have hi : i < 3 := (List.getElem?_eq_some_iff.mp hz).1
    rcases (by omega : i = 0 ∨ i = 1 ∨ i = 2) with rfl | rfl | rfl
    · cases hz
      simp only [nums] at g0 g3
      have g0' : ixD (.lst (ns.map .int)) (.int 0) = some (.int v0) := g0
      have g3' : ixD (.lst (ns.map .int)) (.int 3) = some (.int v3) := g3
      simp [g0', g3', e3, hmd, x0]
    · cases hz
      simp only [nums] at g1 g3
      have g0' : ixD (.lst (ns.map .int)) (.int 1) = some (.int v1) := g1
      have g3' : ixD (.lst (ns.map .int)) (.int 3) = some (.int v3) := g3
      simp [g0', g3', e3, hmd, y0]
    · cases hz
      simp only [nums] at g2 g3
      have g0' : ixD (.lst (ns.map .int)) (.int 2) = some (.int v2) := g2
      have g3' : ixD (.lst (ns.map .int)) (.int 3) = some (.int v3) := g3
      simp [g0', g3', e3, hmd, z0]
  have c2 : sortD [.lst [.int (v0 % md), .int (v1 % md), .int (v2 % md)]] = some (.lst [.int a, .int b, .int c]) := by
    show (some (.lst ((sortI [v0 % md, v1 % md, v2 % md]).map .int)) : Option D) = _
    rw [hs]
    rfl
  obtain ⟨q4, p4, d4, f4⟩ := drawnC_ev (x := v4) (most := 12) b4.1 b4.2 (by omega) (by omega) S
  have t0 : (.tup [.int 0, .int 1] : D) = tR 0 := rfl
  have e5 : modD (.int v5) (.int 5) = some (.int (v5 % 5)) := modD_ok (by omega)
  have f5 : fdivD (.int v5) (.int 5) = some (.int (v5 / 5)) := fdiv_s (by omega) (by omega)
  have h5 : modD (.int (v5 / 5)) (.int 7) = some (.int (v5 / 5 % 7)) := modD_ok (by omega)
  have n5 : (v5 % 5).natAbs < 2 ^ 4 := by omega
  have r5 := ratioC_ev (n := v5 % 5) (d := 5 + v5 / 5 % 7) (by omega) (Nat.lt_of_lt_of_le (show (5 + v5 / 5 % 7).natAbs < 2 ^ 10 by omega) (pow2_le (by omega))) (by have := bit_lt n5; omega) S
  have q5 : Bd 4 (Rat.divInt (v5 % 5) (5 + v5 / 5 % 7)) := bd_div (by omega) n5 (by omega)
  have s5 : 0 ≤ Rat.divInt (v5 % 5) (5 + v5 / 5 % 7) := Rat.divInt_nonneg (by omega) (by omega)
  have u5 : Rat.divInt (v5 % 5) (5 + v5 / 5 % 7) < 1 := divInt_lt_one (by omega) (by omega)
  generalize Rat.divInt (v5 % 5) (5 + v5 / 5 % 7) = sh at *
  have e6 : modD (.int v6) (.int 2) = some (.int (v6 % 2)) := modD_ok (by omega)
  have i6 : ixD (.lst [tR 0, tR sh]) (.int (v6 % 2)) = some (tR (if v6 % 2 = 0 then 0 else sh)) := by
    rw [two (by omega) (by omega)]; split <;> rfl
  have f6 : fdivD (.int v6) (.int 2) = some (.int (v6 / 2)) := fdiv_s (by omega) (by omega)
  have h6 : modD (.int (v6 / 2)) (.int 2) = some (.int (v6 / 2 % 2)) := modD_ok (by omega)
  have e7 : modD (.int v7) (.int 4) = some (.int (v7 % 4)) := modD_ok (by omega)
  have f7 : fdivD (.int v7) (.int 4) = some (.int (v7 / 4)) := fdiv_s (by omega) (by omega)
  have h7 : modD (.int (v7 / 4)) (.int 20) = some (.int (v7 / 4 % 20)) := modD_ok (by omega)
  have n7 : (v7 % 4).natAbs < 2 ^ 5 := by omega
  have r7 := ratioC_ev (n := v7 % 4) (d := 1 + v7 / 4 % 20) (by omega) (Nat.lt_of_lt_of_le (show (1 + v7 / 4 % 20).natAbs < 2 ^ 10 by omega) (pow2_le (by omega))) (by have := bit_lt n7; omega) S
  have q7 : Bd 5 (Rat.divInt (v7 % 4) (1 + v7 / 4 % 20)) := bd_div (by omega) n7 (by omega)
  have s7 : 0 ≤ Rat.divInt (v7 % 4) (1 + v7 / 4 % 20) := Rat.divInt_nonneg (by omega) (by omega)
  generalize Rat.divInt (v7 % 4) (1 + v7 / 4 % 20) = dr at *
  have i7 : ixD (.lst [tR 0, tR dr]) (.int (v6 / 2 % 2)) = some (tR (if v6 / 2 % 2 = 0 then 0 else dr)) := by
    rw [two (by omega) (by omega)]; split <;> rfl
  have k0 : ixD (.lst [.int a, .int b, .int c]) (.int 0) = some (.int a) := rfl
  have k1 : ixD (.lst [.int a, .int b, .int c]) (.int 1) = some (.int b) := rfl
  have k2 : ixD (.lst [.int a, .int b, .int c]) (.int 2) = some (.int c) := rfl
  have tp : tupD [.int b, .int c, tR q4, tR (if v6 % 2 = 0 then 0 else sh), tR (if v6 / 2 % 2 = 0 then 0 else dr), .int a] = some (tPap ⟨b, c, q4, (if v6 % 2 = 0 then 0 else sh), (if v6 / 2 % 2 = 0 then 0 else dr), a⟩) := rfl
  refine ⟨⟨b, c, q4, (if v6 % 2 = 0 then 0 else sh), (if v6 / 2 % 2 = 0 then 0 else dr), a⟩, ⟨a0, a1, a2, by show c ≤ 999; omega, p4, ?_, ?_, ?_, d4.mono (by omega), ?_, ?_⟩, fnD_rt rfl (en1 := [.val (.lst (nums ns)), .val (.lst [.int a, .int b, .int c]), .val (tR q4), .val (tR (if v6 % 2 = 0 then 0 else sh)), .val (tR (if v6 / 2 % 2 = 0 then 0 else dr)), .no]) ?_⟩
  · show (0 : Rat) ≤ if v6 % 2 = 0 then 0 else sh
    split
    · exact Rat.le_refl
    · exact s5
  · show (if v6 % 2 = 0 then (0 : Rat) else sh) < 1
    split
    · decide +kernel
    · exact u5
  · show (0 : Rat) ≤ if v6 / 2 % 2 = 0 then 0 else dr
    split
    · exact Rat.le_refl
    · exact s7
  · show Bd 20 (if v6 % 2 = 0 then 0 else sh)
    split
    · exact Bd0 (by omega)
    · exact q5.mono (by omega)
  · show Bd 20 (if v6 / 2 % 2 = 0 then 0 else dr)
    split
    · exact Bd0 (by omega)
    · exact q7.mono (by omega)
  · simp only [nums] at *
    have g4' : ixD (.lst (ns.map .int)) (.int 4) = some (.int v4) := g4
    have g5' : ixD (.lst (ns.map .int)) (.int 5) = some (.int v5) := g5
    have g6' : ixD (.lst (ns.map .int)) (.int 6) = some (.int v6) := g6
    have g7' : ixD (.lst (ns.map .int)) (.int 7) = some (.int v7) := g7
    generalize tR (if v6 % 2 = 0 then 0 else sh) = X at *
    generalize tR (if v6 / 2 % 2 = 0 then 0 else dr) = Y at *
    simp [b__law_paperC, c1, c2, g4', f4, t0, g5', e5, f5, h5, r5, g6', e6, i6, g7', e7, f7, h7, r7, f6, h6, i7, k0, k1, k2, tp]
end Ks

set_option linter.all false
set_option maxRecDepth 100000
namespace Ks
open Kb PySem
theorem cutl2 {xs : List D} {a b : Nat} (h : a ≤ b) (h2 : b ≤ xs.length) : slD (.lst xs) (some (a : Int)) (some (b : Int)) = some (.lst ((xs.drop a).take (b - a))) := by
  have h3 : ¬ ((a : Int) < 0) := by omega
  have h4 : ¬ ((b : Int) < 0) := by omega
  have h5 : min a xs.length = a := by omega
  have h6 : min b xs.length = b := by omega
  simp [slD, cut, sIx, h3, h4, h5, h6]
theorem N3.part {ns : List Int} (h : N3 ns) (a k : Nat) : N3 ((ns.drop a).take k) := fun x hx => h x (List.mem_of_mem_drop (List.mem_of_mem_take hx))
theorem slN {ns : List Int} {a b : Nat} (h : a ≤ b) (h2 : b ≤ ns.length) : slD (.lst (ns.map .int)) (some (a : Int)) (some (b : Int)) = some (.lst (((ns.drop a).take (b - a)).map .int)) := by
  rw [cutl2 h (by rw [List.length_map]; exact h2), List.map_take, List.map_drop]
theorem nm3 {k : Int} (h0 : 0 ≤ k) (h1 : k < 3) : ∃ n ∈ names4, ixD (.lst [.str "a", .str "b", .str "zzzz"]) (.int k) = some (.str n) := by
  rcases (by omega : k = 0 ∨ k = 1 ∨ k = 2) with rfl | rfl | rfl
  · exact ⟨"a", by decide, rfl⟩
  · exact ⟨"b", by decide, rfl⟩
  · exact ⟨"zzzz", by decide, rfl⟩
theorem nm4 {k : Int} (h0 : 0 ≤ k) (h1 : k < 4) : ∃ n ∈ names4, ixD (.lst [.str "a", .str "b", .str "zzzz", .str "c"]) (.int k) = some (.str n) := by
  rcases (by omega : k = 0 ∨ k = 1 ∨ k = 2 ∨ k = 3) with rfl | rfl | rfl | rfl
  · exact ⟨"a", by decide, rfl⟩
  · exact ⟨"b", by decide, rfl⟩
  · exact ⟨"zzzz", by decide, rfl⟩
  · exact ⟨"c", by decide, rfl⟩
theorem m1020 {k : Int} (h0 : 0 ≤ k) (h1 : k < 2) : ∃ m : Int, ixD (.lst [.int 1000, .int 20]) (.int k) = some (.int m) ∧ 0 < m ∧ m ≤ 1000 := by
  rcases (by omega : k = 0 ∨ k = 1) with rfl | rfl
  · exact ⟨1000, rfl, by omega, by omega⟩
  · exact ⟨20, rfl, by omega, by omega⟩
def Oks (es : List En) : Prop := ∀ e ∈ es, En.ok e
theorem drawer_1 {ns : List Int} (hN : N3 ns) (most : D) (n : Nat) (hn : n ≤ 12) (hl : 1 + 10 * n ≤ ns.length) (s3 s4 s5 : Slot) (S : Store) : ∃ (es : List En) (t3 t4 t5 : Slot), es.length = n ∧ Oks es ∧ forGo (.nm 3) b__law_drawerC_1 (rngI 0 n) [.val (.lst (nums ns)), .val most, .own [], s3, s4, s5] S = .ok .nx [.val (.lst (nums ns)), .val most, .own (es.map tEn), t3, t4, t5] S := by
  have L : Wp (forGo (.nm 3) b__law_drawerC_1 (rngI 0 n) [.val (.lst (nums ns)), .val most, .own [], s3, s4, s5] S) (fun f e S1 => f = .nx ∧ S1 = S ∧ ∃ (es : List En) (t3 t4 t5 : Slot), es.length = n ∧ Oks es ∧ e = [.val (.lst (nums ns)), .val most, .own (es.map tEn), t3, t4, t5]) := by
    refine wp_rng0 (fun i e S1 => S1 = S ∧ ∃ (es : List En) (t3 t4 t5 : Slot), es.length = i ∧ Oks es ∧ e = [.val (.lst (nums ns)), .val most, .own (es.map tEn), t3, t4, t5]) ⟨rfl, [], _, _, _, rfl, fun x hx => absurd hx List.not_mem_nil, rfl⟩ ?_ ?_
    · rintro i e S1 hi ⟨rfl, es, t3, t4, t5, h1, h2, rfl⟩
      have mi : mulI (.int 10) (.int i) = some (.int (10 * i)) := mulI_ok (by have : bit 10 ≤ 4 := bit_small (by omega) (by omega); have : bit i ≤ 4 := bit_small (by omega) (by omega); omega)
      obtain ⟨rs, hrs⟩ : ∃ rs, rs = (ns.drop (1 + 10 * i)).take 10 := ⟨_, rfl⟩
      have lr : rs.length = 10 := by rw [hrs, List.length_take, List.length_drop]; omega
      have nr : N3 rs := by rw [hrs]; exact hN.part _ _
      have sl : slD (.lst (ns.map .int)) (some (1 + 10 * (i : Int))) (some (11 + 10 * (i : Int))) = some (.lst (rs.map .int)) := by
        have := slN (ns := ns) (a := 1 + 10 * i) (b := 11 + 10 * i) (by omega) (by omega)
        rw [show 11 + 10 * i - (1 + 10 * i) = 10 by omega, ← hrs] at this
        simpa using this
      obtain ⟨p, hp, ep⟩ := paperC_ev nr (by omega) S1
      have g8 : ixD (.lst (rs.map .int)) (.int 8) = some (.int (rs.getD 8 0)) := gets (k := 8) (by omega)
      have g9 : ixD (.lst (rs.map .int)) (.int 9) = some (.int (rs.getD 9 0)) := gets (k := 9) (by omega)
      have b8 := nr.at (k := 8) (by omega)
      have b9 := nr.at (k := 9) (by omega)
      generalize rs.getD 8 0 = v8 at *
      generalize rs.getD 9 0 = v9 at *
      have e8 : modD (.int v8) (.int 3) = some (.int (v8 % 3)) := modD_ok (by omega)
      have f8 : fdivD (.int v8) (.int 3) = some (.int (v8 / 3)) := fdiv_s (by omega) (by omega)
      have h8 : modD (.int (v8 / 3)) (.int 2) = some (.int (v8 / 3 % 2)) := modD_ok (by omega)
      obtain ⟨m, hm, m0, m1⟩ := m1020 (k := v8 / 3 % 2) (by omega) (by omega)
      obtain ⟨u, hu, u0, u1⟩ : ∃ u, modD (.int v9) (.int m) = some (.int u) ∧ 0 ≤ u ∧ u ≤ 999 := ⟨_, modD_ok m0, Int.emod_nonneg _ (by omega), by have := Int.emod_lt_of_pos v9 m0; omega⟩
      have g6 : fdivD (.int v8) (.int 6) = some (.int (v8 / 6)) := fdiv_s (by omega) (by omega)
      have k6 : modD (.int (v8 / 6)) (.int 3) = some (.int (v8 / 6 % 3)) := modD_ok (by omega)
      obtain ⟨nm, hnm, inm⟩ := nm3 (k := v8 / 6 % 3) (by omega) (by omega)
      have hl' : es.length < LN := by unfold LN; omega
      simp only [nums] at ep
      by_cases h3 : v8 % 3 = 0
      · have te : (.tup [.str nm, tPap p, .int u] : D) = tEn ⟨nm, p, some u⟩ := rfl
        simp [b__law_drawerC_1, mi, pSo, sl, g8, g9, e8, h3, f8, h8, hm, hu, g6, k6, inm, ep, sApp, hl', te]
        refine ⟨es ++ [⟨nm, p, some u⟩], by simp; omega, ?_, by simp⟩
        intro e he
        rcases List.mem_append.mp he with he | he
        · exact h2 e he
        · rw [List.mem_singleton.mp he]; exact ⟨hnm, hp, fun _ h => by cases h; exact ⟨u0, u1⟩⟩
      · have te : (.tup [.str nm, tPap p, .non] : D) = tEn ⟨nm, p, none⟩ := rfl
        simp [b__law_drawerC_1, mi, pSo, sl, g8, g9, e8, h3, f8, h8, hm, hu, g6, k6, inm, ep, sApp, hl', te]
        refine ⟨es ++ [⟨nm, p, none⟩], by simp; omega, ?_, by simp⟩
        intro e he
        rcases List.mem_append.mp he with he | he
        · exact h2 e he
        · rw [List.mem_singleton.mp he]; exact ⟨hnm, hp, fun _ h => by cases h⟩
    · rintro e S1 ⟨rfl, es, t3, t4, t5, h1, h2, rfl⟩
      exact ⟨rfl, rfl, es, _, _, _, h1, h2, rfl⟩
  obtain ⟨f, e, S1, h, rfl, rfl, es, t3, t4, t5, h1, h2, rfl⟩ := wp_out L
  exact ⟨es, t3, t4, t5, h1, h2, h⟩
theorem drawerC_ev {ns : List Int} (hN : N3 ns) (most : Nat) (hm : most ≤ 12) (hl : 1 + 10 * most ≤ ns.length) (S : Store) : ∃ es, es.length ≤ most ∧ Oks es ∧ d__law_drawerC [.lst (nums ns), .int most] S = .ok (tDr es) S := by
  have g0 : ixD (.lst (ns.map .int)) (.int 0) = some (.int (ns.getD 0 0)) := gets (k := 0) (by omega)
  generalize ns.getD 0 0 = v0 at *
  have e0 : modD (.int v0) (.int ((most : Int) + 1)) = some (.int (v0 % (most + 1))) := modD_ok (by omega)
  have b0 : 0 ≤ v0 % ((most : Int) + 1) := Int.emod_nonneg _ (by omega)
  have b1 : v0 % ((most : Int) + 1) < most + 1 := Int.emod_lt_of_pos _ (by omega)
  obtain ⟨n, hn⟩ : ∃ n : Nat, v0 % ((most : Int) + 1) = n := ⟨(v0 % ((most : Int) + 1)).toNat, by omega⟩
  rw [hn] at e0 b1
  have hr := rng_nat (n := n) (by omega)
  obtain ⟨es, t3, t4, t5, h1, h2, h3⟩ := drawer_1 hN (.int most) n (by omega) (by omega) .no .no .no S
  refine ⟨es, by omega, h2, fnD_rt rfl (en1 := [.val (.lst (nums ns)), .val (.int most), .own (es.map tEn), t3, t4, t5]) ?_⟩
  simp only [nums] at h3
  simp [b__law_drawerC, g0, e0, hr, h3]
  rfl
theorem dayC_ev {ns : List Int} (hN : N3 ns) (hl : 5 ≤ ns.length) {es : List En} (ho : Oks es) (le : es.length ≤ 20) (S : Store) : ∃ nm day, nm ∈ names4 ∧ 0 ≤ day ∧ day ≤ 999 ∧ d__law_dayC [.lst (nums ns), tDr es] S = .ok (.tup [.str nm, .int day]) S := by
  have g0 : ixD (.lst (ns.map .int)) (.int 0) = some (.int (ns.getD 0 0)) := gets (k := 0) (by omega)
  have g1 : ixD (.lst (ns.map .int)) (.int 1) = some (.int (ns.getD 1 0)) := gets (k := 1) (by omega)
  have g2 : ixD (.lst (ns.map .int)) (.int 2) = some (.int (ns.getD 2 0)) := gets (k := 2) (by omega)
  have g3 : ixD (.lst (ns.map .int)) (.int 3) = some (.int (ns.getD 3 0)) := gets (k := 3) (by omega)
  have g4 : ixD (.lst (ns.map .int)) (.int 4) = some (.int (ns.getD 4 0)) := gets (k := 4) (by omega)
  have b2 := hN.at (k := 2) (by omega)
  generalize ns.getD 0 0 = v0 at *; generalize ns.getD 1 0 = v1 at *; generalize ns.getD 2 0 = v2 at *; generalize ns.getD 3 0 = v3 at *; generalize ns.getD 4 0 = v4 at *
  have e0 : modD (.int v0) (.int 4) = some (.int (v0 % 4)) := modD_ok (by omega)
  have e1 : modD (.int v1) (.int 4) = some (.int (v1 % 4)) := modD_ok (by omega)
  have e2 : modD (.int v2) (.int 1000) = some (.int (v2 % 1000)) := modD_ok (by omega)
  have e3 : modD (.int v3) (.int 4) = some (.int (v3 % 4)) := modD_ok (by omega)
  have e4 : modD (.int v4) (.int 5) = some (.int (v4 % 5)) := modD_ok (by omega)
  obtain ⟨nm, hnm, inm⟩ := nm4 (k := v1 % 4) (by omega) (by omega)
  obtain ⟨dl, hdl⟩ : ∃ dl : Int, ixD (.lst [.int 0, .int 0, .int 0, .int 1, .int (-1)]) (.int (v4 % 5)) = some (.int dl) := by
    rcases (by omega : v4 % 5 = 0 ∨ v4 % 5 = 1 ∨ v4 % 5 = 2 ∨ v4 % 5 = 3 ∨ v4 % 5 = 4) with h | h | h | h | h <;> rw [h] <;> exact ⟨_, rfl⟩
  have l5 : lstD [.int 0, .int 0, .int 0, .int 1, .int (-1)] = some (.lst [.int 0, .int 0, .int 0, .int 1, .int (-1)]) := rfl
  have rest : ∀ (en : Kb.Env), en[0]? = some (.val (.lst (ns.map .int))) → True := fun _ _ => trivial
  by_cases hc : 0 < es.length ∧ 0 < v0 % 4
  · obtain ⟨c1, c2⟩ := hc
    have c1' : (0 : Int) < es.length := by omega
    obtain ⟨k, k1, _, k2⟩ := mod_at (ns := ns) (n := es.length) c1 v1
    obtain ⟨e, he⟩ := get_of k1
    have ie := ix_tDr he
    obtain ⟨on, op, ou⟩ := ho e (List.mem_of_getElem? he)
    have q0 := op.c0; have q1 := op.c1; have q2 := op.c2; have q3 := op.c3
    have hT : ∀ a b c d f : Slot, sTg (.tp [(.nm 2), (.nm 3), (.nm 4)]) (Kb.e2 ixD (eB 1) (Kb.e2 modD (eA intD (aCons (Kb.e2 ixD (eB 0) (eC (.int 1))) aNil)) (eA lenD (aCons (eB 1) aNil)))) [.val (.lst (ns.map .int)), .val (tDr es), a, b, c, d, f] S = .ok .nx [.val (.lst (ns.map .int)), .val (tDr es), .val (.str e.name), .val (tPap e.pap), .val (tU e.til), d, f] S := by
      intro a b c d f
      rw [sTg_is]
      simp [g1, k2, ie, put_en]
    have m2 : modD (.int v2) (.int (e.pap.last - e.pap.first + 1)) = some (.int (v2 % (e.pap.last - e.pap.first + 1))) := modD_ok (by omega)
    obtain ⟨x, hx⟩ : ∃ x, x = e.pap.first + v2 % (e.pap.last - e.pap.first + 1) := ⟨_, rfl⟩
    have l4 : lstD [.int e.pap.first, .int e.pap.last, .int x, tU e.til] = some (.lst [.int e.pap.first, .int e.pap.last, .int x, tU e.til]) := rfl
    obtain ⟨y, hy⟩ : ∃ y, ixD (.lst [.int e.pap.first, .int e.pap.last, .int x, tU e.til]) (.int (v3 % 4)) = some y ∧ (y = .non ∨ ∃ d, y = .int d) := by
      rcases (by omega : v3 % 4 = 0 ∨ v3 % 4 = 1 ∨ v3 % 4 = 2 ∨ v3 % 4 = 3) with h | h | h | h <;> rw [h]
      · exact ⟨_, rfl, .inr ⟨_, rfl⟩⟩
      · exact ⟨_, rfl, .inr ⟨_, rfl⟩⟩
      · exact ⟨_, rfl, .inr ⟨_, rfl⟩⟩
      · refine ⟨_, rfl, ?_⟩
        cases e.til with
        | none => exact .inl rfl
        | some u => exact .inr ⟨u, rfl⟩
    obtain ⟨hy, hk⟩ := hy
    rcases hk with rfl | ⟨d, rfl⟩
    · refine ⟨nm, v2 % 1000, hnm, by omega, by omega, fnD_rt rfl (en1 := [.val (.lst (ns.map .int)), .val (tDr es), .val (.str e.name), .val (tPap e.pap), .val (tU e.til), .val (.lst [.int e.pap.first, .int e.pap.last, .int x, tU e.til]), .val .non]) ?_⟩
      have n1 : isntND .non .non = some (.bl false) := rfl
      simp [b__law_dayC, c1, g0, e0, c2, hT, g2, m2, ← hx, l4, g3, e3, hy, n1, g1, e1, inm, e2]
    · have n1 : isntND (.int d) .non = some (.bl true) := rfl
      have mn : ∀ a b : Int, minD [.int a, .int b] = some (.int (if b < a then b else a)) := fun _ _ => rfl
      have mx : ∀ a b : Int, maxD [.int a, .int b] = some (.int (if b > a then b else a)) := fun _ _ => rfl
      obtain ⟨z, hz, z0, z1⟩ : ∃ z : Int, maxD [.int 0, .int (if d + dl < 999 then d + dl else 999)] = some (.int z) ∧ 0 ≤ z ∧ z ≤ 999 := by
        rw [mx]
        refine ⟨_, rfl, ?_, ?_⟩ <;> (repeat' split) <;> omega
      refine ⟨e.name, z, on, z0, z1, fnD_rt rfl (en1 := [.val (.lst (ns.map .int)), .val (tDr es), .val (.str e.name), .val (tPap e.pap), .val (tU e.til), .val (.lst [.int e.pap.first, .int e.pap.last, .int x, tU e.til]), .val (.int d)]) ?_⟩
      simp [b__law_dayC, c1, g0, e0, c2, hT, g2, m2, ← hx, l4, g3, e3, hy, n1, l5, g4, e4, hdl, mn, hz]
  · have hc' : ¬ ((0 : Int) < es.length) ∨ ¬ (0 < v0 % 4) := by omega
    refine ⟨nm, v2 % 1000, hnm, by omega, by omega, fnD_rt rfl (en1 := [.val (.lst (ns.map .int)), .val (tDr es), .no, .no, .no, .no, .no]) ?_⟩
    by_cases h1 : 0 < es.length
    · have h2 := hc'.resolve_left (fun z => z (by omega))
      simp [b__law_dayC, h1, h2, g0, e0, g1, e1, inm, g2, e2]
    · simp [b__law_dayC, h1, g0, e0, g1, e1, inm, g2, e2]
end Ks

set_option linter.all false
set_option maxRecDepth 100000
namespace Ks
open Kb PySem
/-- does an entry count -/
def act (nm : Str) (day : Int) (e : En) : Bool := (e.name == nm) && (decide (e.pap.first ≤ day) && (decide (day ≤ e.pap.last) && (match e.til with
  | none => true
  | some u => decide (day < u))))
def slk (day : Int) (e : En) : Rat × Rat := (e.pap.zero + e.pap.drift * ((day - e.pap.checked : Int) : Rat), e.pap.share)
def tSl (p : Rat × Rat) : D := .tup [tR p.1, tR p.2]
def sls (nm : Str) (day : Int) (es : List En) : List (Rat × Rat) := (es.filter (act nm day)).map (slk day)
/-- the indexes of what counts -/
def idxF (p : En → Bool) : List En → Nat → List Nat
  | [], _ => []
  | e :: es, n => if p e = true then n :: idxF p es (n + 1) else idxF p es (n + 1)
theorem idxF_get {p : En → Bool} : ∀ {es : List En} {n j i : Nat}, (idxF p es n)[j]? = some i → ∃ e, n ≤ i ∧ es[i - n]? = some e ∧ (es.filter p)[j]? = some e
  | [], n, j, i, h => by cases h
  | e :: es, n, j, i, h => by
    rw [idxF] at h
    by_cases hp : p e = true
    · rw [if_pos hp] at h
      cases j with
      | zero =>
        cases h
        exact ⟨e, Nat.le_refl _, by rw [Nat.sub_self]; rfl, by rw [List.filter_cons_of_pos hp]; rfl⟩
      | succ j =>
        obtain ⟨x, h1, h2, h3⟩ := idxF_get (es := es) (n := n + 1) (by simpa using h)
        refine ⟨x, by omega, ?_, by rw [List.filter_cons_of_pos hp]; simpa using h3⟩
        rw [show i - n = (i - (n + 1)) + 1 by omega]
        simpa using h2
    · rw [if_neg hp] at h
      obtain ⟨x, h1, h2, h3⟩ := idxF_get (es := es) (n := n + 1) h
      refine ⟨x, by omega, ?_, by rw [List.filter_cons_of_neg hp]; exact h3⟩
      rw [show i - n = (i - (n + 1)) + 1 by omega]
      simpa using h2
theorem idxF_len {p : En → Bool} : ∀ (es : List En) (n : Nat), (idxF p es n).length = (es.filter p).length
  | [], _ => rfl
  | e :: es, n => by
    rw [idxF]
    by_cases hp : p e = true
    · rw [if_pos hp, List.filter_cons_of_pos hp, List.length_cons, List.length_cons, idxF_len es]
    · rw [if_neg hp, List.filter_cons_of_neg hp, idxF_len es]
theorem idxF_snoc {p : En → Bool} (e : En) : ∀ (es : List En) (n : Nat), idxF p (es ++ [e]) n = idxF p es n ++ if p e = true then [n + es.length] else []
  | [], n => by simp [idxF]
  | x :: es, n => by
    rw [List.cons_append, idxF, idxF, idxF_snoc e es]
    have : n + 1 + es.length = n + (x :: es).length := by rw [List.length_cons]; omega
    rw [this]
    split <;> rfl
def nD (k : Nat) : D := .int k
def tY : D := .bl true
theorem names_cps {n : Str} (h : n ∈ names4) : (n.cps.all fun c => decide (c < 1114112)) = true := by
  have : ∀ n ∈ names4, (n.cps.all fun c => decide (c < 1114112)) = true := by decide +kernel
  exact this n h
theorem eq_nm {a b : Str} (ha : a ∈ names4) (hb : b ∈ names4) : eqD (.str a) (.str b) = some (.bl (a == b)) := eq_str (names_cps ha) (names_cps hb)
def LETs : List Nat := ("abcdefghijklmnopqrstuvwxyz" : Str).cps.toList
def scOk (z : Str) : Bool := decide (1 ≤ z.length) && (decide (z.length ≤ 4) && z.cps.toList.all fun c => decide (c ∈ LETs))
theorem scale_is {z : Str} (h : z.length ≤ 1000) (S : Store) : d_is_scale [.str z] S = .ok (.bl (scOk z)) S := by
  have hl : lenD [.str z] = some (.int z.length) := if_pos (by unfold LN; omega)
  have sq : seqD (.str z) = some (z.cps.toList.map fun c => .str ⟨#[c]⟩) := rfl
  refine fnD_rt rfl (en1 := [.val (.str z), .no]) ?_
  have c1 : l_is_scale_1 [.val (.str z), .no] S = .ok (z.cps.toList.map fun c => .bl (decide (c ∈ LETs))) S := by
    refine mapU (zs := z.cps.toList) (u := fun c => .str ⟨#[c]⟩) (by simp [sq]) (by rw [Array.length_toList]; exact h) ?_
    intro c hc
    have : inD (.str ⟨#[c]⟩) c_LETTERS = some (.bl (decide (c ∈ LETs))) := rfl
    simp [this]
  have c2 := allP (fun c => decide (c ∈ LETs)) z.cps.toList
  unfold scOk
  by_cases h1 : 1 ≤ z.length
  · have h1' : (1 : Int) ≤ z.length := by omega
    by_cases h4 : z.length ≤ 4
    · have h4' : ((z.length : Int)) ≤ 4 := by omega
      simp [b_is_scale, hl, h1', c_MAX_NAME, h4', c1, c2, h1, h4]
    · have h4' : ¬ ((z.length : Int)) ≤ 4 := by omega
      simp [b_is_scale, hl, h1', c_MAX_NAME, h4', h1, h4]
  · have h1' : ¬ (1 : Int) ≤ z.length := by omega
    simp [b_is_scale, hl, h1', c_MAX_NAME, h1]
theorem scale_yes {n : Str} (h : n ∈ names4) (S : Store) : d_check_scale [.str n] S = .ok .non S := by
  have h1 : ∀ n ∈ names4, scOk n = true ∧ n.length ≤ 1000 := by decide +kernel
  have e := scale_is (h1 n h).2 S
  rw [(h1 n h).1] at e
  refine fnD_nx rfl (en1 := [.val (.str n)]) ?_
  simp [b_check_scale, e]
theorem scale_no {z : Str} (h : scOk z = false) (hl : z.length ≤ 1000) (S : Store) : d_check_scale [.str z] S = .exc "NotAllowed" S := by
  have e := scale_is hl S
  rw [h] at e
  refine fnD_exc rfl (en1 := [.val (.str z)]) ?_
  simp [b_check_scale, e]
theorem isday_ev (d : Int) (S : Store) : d_is_day [.int d] S = .ok (.bl (decide (0 ≤ d) && decide (d ≤ 999))) S := by
  refine fnD_rt rfl (en1 := [.val (.int d)]) ?_
  by_cases h : 0 ≤ d
  · simp [b_is_day, h, c_MAX_DAY]
  · simp [b_is_day, h, c_MAX_DAY]
theorem day_yes {d : Int} (h0 : 0 ≤ d) (h1 : d ≤ 999) (S : Store) : d_check_day [.int d] S = .ok .non S := by
  have e := isday_ev d S
  rw [decide_eq_true h0, decide_eq_true h1] at e
  refine fnD_nx rfl (en1 := [.val (.int d)]) ?_
  simp [b_check_day, e]
theorem day_no {d : Int} (h : ¬ (0 ≤ d ∧ d ≤ 999)) (S : Store) : d_check_day [.int d] S = .exc "NotAllowed" S := by
  have e := isday_ev d S
  have : (decide (0 ≤ d) && decide (d ≤ 999)) = false := by simp; omega
  rw [this] at e
  refine fnD_exc rfl (en1 := [.val (.int d)]) ?_
  simp [b_check_day, e]
@[simp] theorem isD_int (u : Int) : isD (.int u) .non = some (.bl false) := (rfl)
@[simp] theorem isD_non : isD .non .non = some (.bl true) := (rfl)
@[simp] theorem isntD_int (u : Int) : isntND (.int u) .non = some (.bl true) := (rfl)
@[simp] theorem isntD_non : isntND .non .non = some (.bl false) := (rfl)
@[simp] theorem isD_tR (q : Rat) : isD (tR q) .non = some (.bl false) := (rfl)
@[simp] theorem isntD_tR (q : Rat) : isntND (tR q) .non = some (.bl true) := (rfl)
theorem iscount_ev {e : En} {nm : Str} (he : e.name ∈ names4) (hn : nm ∈ names4) (day : Int) (S : Store) : d_is_counting [tEn e, .str nm, .int day] S = .ok (.bl (act nm day e)) S := by
  have q := eq_nm he hn
  have hT : ∀ a b c d f : Slot, sTg (.tp [(.nm 3), (.nm 4), (.nm 5)]) (eN 0) [.val (tEn e), a, b, c, d, f] S = .ok .nx [.val (tEn e), a, b, .val (.str e.name), .val (tPap e.pap), .val (tU e.til)] S := by
    intro a b c d f
    rw [sTg_is]
    simp [put_en]
  refine fnD_rt rfl (en1 := [.val (tEn e), .val (.str nm), .val (.int day), .val (.str e.name), .val (tPap e.pap), .val (tU e.til)]) ?_
  unfold act
  cases hq : e.name == nm
  · rw [hq] at q
    simp [b_is_counting, hT, q]
  · rw [hq] at q
    by_cases h1 : e.pap.first ≤ day
    · by_cases h2 : day ≤ e.pap.last
      · cases hu : e.til with
        | none => simp [b_is_counting, hT, q, h1, h2, hu, tU]
        | some u => simp [b_is_counting, hT, q, h1, h2, hu, tU]
      · simp [b_is_counting, hT, q, h1, h2]
    · simp [b_is_counting, hT, q, h1]
/-- entries and their indexes -/
def eL : List En → Nat → List D
  | [], _ => []
  | e :: es, n => .tup [.int n, tEn e] :: eL es (n + 1)
theorem enum_eL (es : List En) : enumL (es.map tEn) = eL es 0 := by
  have go : ∀ (es : List En) (n : Nat), (es.map tEn).mapIdx (fun i d => D.tup [.int ((n + i : Nat) : Int), d]) = eL es n := by
    intro es
    induction es with
    | nil => intro n; rfl
    | cons e es ih =>
      intro n
      rw [List.map_cons, List.mapIdx_cons, eL, ← ih (n + 1)]
      have : (fun i d => D.tup [.int ((n + 1 + i : Nat) : Int), d]) = (fun i d => D.tup [.int ((n + (i + 1) : Nat) : Int), d]) := by
        funext i d
        rw [show n + 1 + i = n + (i + 1) by omega]
      rw [this]
      rfl
  have := go es 0
  rw [← this]
  unfold enumL
  congr 1
  funext i d
  rw [Nat.zero_add]
theorem eL_len : ∀ (es : List En) (n : Nat), (eL es n).length = es.length
  | [], _ => rfl
  | e :: es, n => by rw [eL, List.length_cons, List.length_cons, eL_len es]
theorem count_lc {nm : Str} (hn : nm ∈ names4) (day : Int) (dr : D) (S : Store) : ∀ (es : List En) (n : Nat) (acc : List D), Oks es → acc.length + es.length ≤ 1000 →
    lcGo (.tp [.nm 3, .nm 4]) (tV (eF d_is_counting (aCons (eN 4) (aCons (eN 1) (aCons (eN 2) aNil))))) (eN 3) [.val dr, .val (.str nm), .val (.int day), .no, .no] (eL es n) acc S = .ok (acc ++ (idxF (act nm day) es n).map nD) S
  | [], n, acc, _, _ => by rw [idxF, List.map_nil, List.append_nil]; rfl
  | e :: es, n, acc, ho, hl => by
    rw [List.length_cons] at hl
    have hc := iscount_ev (ho e List.mem_cons_self).n hn day S
    rw [eL, lcGo, put_2]
    dsimp only
    have ht : tV (eF d_is_counting (aCons (eN 4) (aCons (eN 1) (aCons (eN 2) aNil)))) (([Slot.val dr, .val (.str nm), .val (.int day), .no, .no].set 3 (.val (.int n))).set 4 (.val (tEn e))) S = .ok (act nm day e) S := by
      simp [hc]
    rw [ht]
    rw [idxF]
    cases ha : act nm day e
    · dsimp only
      rw [count_lc hn day dr S es (n + 1) acc (fun x hx => ho x (List.mem_cons_of_mem _ hx)) (by omega)]
      rfl
    · dsimp only
      have hf : eN 3 (([Slot.val dr, .val (.str nm), .val (.int day), .no, .no].set 3 (.val (.int n))).set 4 (.val (tEn e))) S = .ok (.int n) S := rfl
      rw [hf]
      dsimp only
      rw [if_pos (by unfold LN; omega : acc.length < LN), count_lc hn day dr S es (n + 1) (acc ++ [D.int ((n : Nat) : Int)]) (fun x hx => ho x (List.mem_cons_of_mem _ hx)) (by rw [List.length_append, List.length_singleton]; omega), if_pos rfl, List.map_cons, List.append_assoc]
      rfl
theorem counting_ev {es : List En} {nm : Str} {day : Int} (ho : Oks es) (hn : nm ∈ names4) (d0 : 0 ≤ day) (d1 : day ≤ 999) (hl : es.length ≤ 1000) (S : Store) : d_counting [tDr es, .str nm, .int day] S = .ok (.lst ((idxF (act nm day) es 0).map nD)) S := by
  have e1 := scale_yes hn S
  have e2 := day_yes d0 d1 S
  have c1 : l_counting_1 [.val (tDr es), .val (.str nm), .val (.int day), .no, .no] S = .ok ((idxF (act nm day) es 0).map nD) S := by
    refine eLc_of (ds := eL es 0) (S1 := S) ?_ (count_lc hn day (tDr es) S es 0 [] ho (by simpa using hl))
    have : enumD [tDr es] = some (eL es 0) := by rw [← enum_eL]; rfl
    simp [this]
  refine fnD_rt rfl (en1 := [.val (tDr es), .val (.str nm), .val (.int day), .no, .no]) ?_
  simp [-List.map_map, b_counting, e1, e2, c1]
theorem countingC_ev {es : List En} {nm : Str} {day : Int} (ho : Oks es) (hn : nm ∈ names4) (hl : es.length ≤ 1000) (S : Store) : d__law_countingC [tDr es, .str nm, .int day] S = .ok (.lst ((idxF (act nm day) es 0).map nD)) S := by
  have hr := rng_nat (n := es.length) (by omega)
  have L : Wp (forGo (.nm 4) b__law_countingC_1 (rngI 0 es.length) [.val (tDr es), .val (.str nm), .val (.int day), .own [], .no, .no, .no, .no] S) (fun f e S1 => f = .nx ∧ S1 = S ∧ ∃ s4 s5 s6 s7, e = [.val (tDr es), .val (.str nm), .val (.int day), .own ((idxF (act nm day) es 0).map nD), s4, s5, s6, s7]) := by
    refine wp_rng0 (fun i e S1 => S1 = S ∧ i ≤ es.length ∧ ∃ s4 s5 s6 s7, e = [.val (tDr es), .val (.str nm), .val (.int day), .own ((idxF (act nm day) (es.take i) 0).map nD), s4, s5, s6, s7]) ⟨rfl, by omega, _, _, _, _, rfl⟩ ?_ ?_
    · rintro i e S1 hi ⟨rfl, _, s4, s5, s6, s7, rfl⟩
      obtain ⟨e, he⟩ := get_of hi
      have q := eq_nm (ho e (List.mem_of_getElem? he)).n hn
      have ie := ix_tDr he
      have tk : es.take (i + 1) = es.take i ++ [e] := by rw [List.take_succ, he]; rfl
      have ll : (es.take i).length = i := by rw [List.length_take]; omega
      have li : (idxF (act nm day) (es.take i) 0).length < 16777216 := by
        have := List.length_filter_le (act nm day) (es.take i)
        rw [idxF_len]; omega
      have hT : ∀ b c d : Slot, ∀ X : Slot, sTg (.tp [(.nm 5), (.nm 6), (.nm 7)]) (Kb.e2 ixD (eB 0) (eN 4)) [.val (tDr es), .val (.str nm), .val (.int day), X, .val (.int i), b, c, d] S1 = .ok .nx [.val (tDr es), .val (.str nm), .val (.int day), X, .val (.int i), .val (.str e.name), .val (tPap e.pap), .val (tU e.til)] S1 := by
        intro b c d X
        rw [sTg_is]
        simp [ie, put_en]
      have sn : (idxF (act nm day) (es.take (i + 1)) 0).map nD = (idxF (act nm day) (es.take i) 0).map nD ++ if act nm day e = true then [nD i] else [] := by
        rw [tk, idxF_snoc, ll, List.map_append, Nat.zero_add]
        split <;> rfl
      rw [sn]
      generalize hX : (idxF (act nm day) (es.take i) 0).map nD = X
      have lX : X.length < LN := by rw [← hX, List.length_map]; exact li
      have n1 : (D.int i) = nD i := rfl
      have done : ∀ (b : Bool), act nm day e = b → (b_eq : Bool) → True := fun _ _ _ => trivial
      unfold act
      cases hq : e.name == nm
      · rw [hq] at q
        simp [b__law_countingC_1, hT, q]
        omega
      · rw [hq] at q
        by_cases h1 : e.pap.first ≤ day
        · by_cases h2 : day ≤ e.pap.last
          · cases hu : e.til with
            | none =>
              have hT' := fun b c d => hT b c d (.own X)
              rw [hu] at hT'
              simp [b__law_countingC_1, hT', q, h1, h2, tU, sApp, lX]
              exact ⟨by omega, rfl⟩
            | some u =>
              have hT' := fun b c d => hT b c d (.own X)
              rw [hu] at hT'
              by_cases h3 : day < u
              · simp [b__law_countingC_1, hT', q, h1, h2, tU, sApp, lX, h3]
                exact ⟨by omega, rfl⟩
              · simp [b__law_countingC_1, hT', q, h1, h2, tU, sApp, lX, h3]
                omega
          · simp [b__law_countingC_1, hT, q, h1, h2]
            omega
        · simp [b__law_countingC_1, hT, q, h1]
          omega
    · rintro e S1 ⟨rfl, _, s4, s5, s6, s7, rfl⟩
      rw [List.take_length]
      exact ⟨rfl, rfl, _, _, _, _, rfl⟩
  obtain ⟨f, e, S1, h, rfl, rfl, s4, s5, s6, s7, rfl⟩ := wp_out L
  refine fnD_rt rfl (en1 := [.val (tDr es), .val (.str nm), .val (.int day), .val (.lst ((idxF (act nm day) es 0).map nD)), s4, s5, s6, s7]) ?_
  simp [-List.map_map, b__law_countingC, hr, h, frz]
end Ks

set_option linter.all false
set_option maxRecDepth 100000
namespace Ks
open Kb PySem
theorem act_day {nm : Str} {day : Int} {e : En} (h : act nm day e = true) : e.pap.first ≤ day := by
  unfold act at h
  simp only [Bool.and_eq_true] at h
  exact of_decide_eq_true h.2.1
theorem slk_ok {e : En} {nm : Str} {day : Int} (ho : e.ok) (h : act nm day e = true) : 0 ≤ (slk day e).1 := by
  have h1 := act_day h
  have p := ho.p
  have k : (0 : Rat) ≤ ((day - e.pap.checked : Int) : Rat) := by
    have := p.c1
    exact_mod_cast (by omega : (0 : Int) ≤ day - e.pap.checked)
  have := Rat.mul_nonneg p.d0 k
  have := p.z0
  show 0 ≤ e.pap.zero + e.pap.drift * ((day - e.pap.checked : Int) : Rat)
  grind
theorem day_b {e : En} {day : Int} (ho : e.ok) (d0 : 0 ≤ day) (d1 : day ≤ 999) : Bd 10 ((day - e.pap.checked : Int) : Rat) := by
  have p := ho.p
  have := p.c0; have := p.c1; have := p.c2; have := p.c3
  exact Bd.int (by omega) (by omega)
theorem slk_b {e : En} {day : Int} (ho : e.ok) (d0 : 0 ≤ day) (d1 : day ≤ 999) : Bd 51 (slk day e).1 := (ho.p.zb.add (ho.p.db.mul (day_b ho d0 d1))).mono (by omega)
/-- what is known of slacks and shares -/
def Ssl (l : List (Rat × Rat)) : Prop := ∀ p ∈ l, 0 ≤ p.1 ∧ 0 ≤ p.2 ∧ p.2 < 1 ∧ Bd 51 p.1 ∧ Bd 20 p.2
theorem sls_ok {nm : Str} {day : Int} {es : List En} (ho : Oks es) (d0 : 0 ≤ day) (d1 : day ≤ 999) : Ssl (sls nm day es) := by
  intro p hp
  obtain ⟨e, he, rfl⟩ := List.mem_map.mp hp
  obtain ⟨he, ha⟩ := List.mem_filter.mp he
  have o := ho e he
  exact ⟨slk_ok o ha, o.p.s0, o.p.s1, slk_b o d0 d1, o.p.sb⟩
theorem sls_len {nm : Str} {day : Int} {es : List En} : (sls nm day es).length ≤ es.length := by
  unfold sls
  rw [List.length_map]
  exact List.length_filter_le _ _
theorem idx_at {nm : Str} {day : Int} {es : List En} {j i : Nat} (h : (idxF (act nm day) es 0)[j]? = some i) : ∃ e, es[i]? = some e ∧ (sls nm day es)[j]? = some (slk day e) := by
  obtain ⟨e, _, h2, h3⟩ := idxF_get h
  rw [Nat.sub_zero] at h2
  exact ⟨e, h2, by unfold sls; rw [List.getElem?_map, h3]; rfl⟩
theorem snocT {xs : List (Rat × Rat)} {i : Nat} {x : Rat × Rat} (h : xs[i]? = some x) : (xs.take (i + 1)).map tSl = (xs.take i).map tSl ++ [tSl x] := by
  rw [List.take_succ, h, List.map_append]
  rfl
theorem limits_ev {es : List En} {nm : Str} {day : Int} (ho : Oks es) (hn : nm ∈ names4) (d0 : 0 ≤ day) (d1 : day ≤ 999) (hl : es.length ≤ 1000) (S : Store) : d_limits [tDr es, .str nm, .int day] S = .ok (.lst ((sls nm day es).map tSl)) S := by
  have ec := counting_ev ho hn d0 d1 hl S
  have L : Wp (forGo (.nm 4) b_limits_1 ((idxF (act nm day) es 0).map nD) [.val (tDr es), .val (.str nm), .val (.int day), .own [], .no, .no, .no, .no, .no, .no] S) (fun f e S1 => f = .nx ∧ S1 = S ∧ ∃ s4 s5 s6 s7 s8 s9, e = [.val (tDr es), .val (.str nm), .val (.int day), .own ((sls nm day es).map tSl), s4, s5, s6, s7, s8, s9]) := by
    refine wp_for (fun i e S1 => S1 = S ∧ ∃ s4 s5 s6 s7 s8 s9, e = [.val (tDr es), .val (.str nm), .val (.int day), .own (((sls nm day es).take i).map tSl), s4, s5, s6, s7, s8, s9]) ⟨rfl, _, _, _, _, _, _, rfl⟩ ?_ ?_
    · rintro j d e S1 hd ⟨rfl, s4, s5, s6, s7, s8, s9, rfl⟩
      rw [List.getElem?_map] at hd
      cases hj : (idxF (act nm day) es 0)[j]? with
      | none => rw [hj] at hd; cases hd
      | some i =>
        rw [hj] at hd
        cases hd
        obtain ⟨e, he, hs⟩ := idx_at hj
        have o := ho e (List.mem_of_getElem? he)
        have ie := ix_tDr he
        have lj : j < (sls nm day es).length := (List.getElem?_eq_some_iff.mp hs).1
        have ls := sls_len (nm := nm) (day := day) (es := es)
        have f1 := ofint_ev (day - e.pap.checked) S1
        have f2 := times_ev o.p.db (day_b o d0 d1) (by omega) S1
        have f3 := plus_ev o.p.zb (o.p.db.mul (day_b o d0 d1)) (by omega) S1
        have hT : ∀ X a b c d f : Slot, sTg (.tp [(.nm 5), (.nm 5), (.nm 6), (.nm 7), (.nm 8), (.nm 9)]) (Kb.e2 ixD (Kb.e2 ixD (eB 0) (eN 4)) (eC (.int 1))) [.val (tDr es), .val (.str nm), .val (.int day), X, .val (nD i), a, b, c, d, f] S1 = .ok .nx [.val (tDr es), .val (.str nm), .val (.int day), X, .val (nD i), .val (.int e.pap.last), .val (tR e.pap.zero), .val (tR e.pap.share), .val (tR e.pap.drift), .val (.int e.pap.checked)] S1 := by
          intro X a b c d f
          rw [sTg_is]
          simp [nD, ie, put_pap]
        have ts : (.tup [tR (e.pap.zero + e.pap.drift * ((day - e.pap.checked : Int) : Rat)), tR e.pap.share] : D) = tSl (slk day e) := rfl
        have hx : min j (sls nm day es).length < LN := by unfold LN; omega
        refine ⟨_, put_nm, ?_⟩
        rw [snocT hs]
        generalize ((day - e.pap.checked : Int) : Rat) = dq at f1 f2 f3 ts
        simp only [b_limits_1, sSeq_ev, List.set, hT]
        simp [-List.map_take, f1, f2, f3, sApp, hx, ts]
    · rintro e S1 ⟨rfl, s4, s5, s6, s7, s8, s9, rfl⟩
      have : (sls nm day es).take ((idxF (act nm day) es 0).map nD).length = sls nm day es := by
        rw [List.take_of_length_le]
        rw [List.length_map, idxF_len]
        unfold sls
        rw [List.length_map]
        exact Nat.le_refl _
      rw [this]
      exact ⟨rfl, rfl, _, _, _, _, _, _, rfl⟩
  obtain ⟨f, e, S1, h, rfl, rfl, s4, s5, s6, s7, s8, s9, rfl⟩ := wp_out L
  refine fnD_rt rfl (en1 := [.val (tDr es), .val (.str nm), .val (.int day), .val (.lst ((sls nm day es).map tSl)), s4, s5, s6, s7, s8, s9]) ?_
  simp [-List.map_map, b_limits, ec, h, frz]
theorem slacksC_ev {es : List En} {nm : Str} {day : Int} (ho : Oks es) (hn : nm ∈ names4) (d0 : 0 ≤ day) (d1 : day ≤ 999) (hl : es.length ≤ 1000) (S : Store) : d__law_slacksC [tDr es, .str nm, .int day] S = .ok (.lst ((sls nm day es).map tSl)) S := by
  have ec := countingC_ev (day := day) ho hn hl S
  have L : Wp (forGo (.nm 4) b__law_slacksC_1 ((idxF (act nm day) es 0).map nD) [.val (tDr es), .val (.str nm), .val (.int day), .own [], .no, .no] S) (fun f e S1 => f = .nx ∧ S1 = S ∧ ∃ s4 s5, e = [.val (tDr es), .val (.str nm), .val (.int day), .own ((sls nm day es).map tSl), s4, s5]) := by
    refine wp_for (fun i e S1 => S1 = S ∧ ∃ s4 s5, e = [.val (tDr es), .val (.str nm), .val (.int day), .own (((sls nm day es).take i).map tSl), s4, s5]) ⟨rfl, _, _, rfl⟩ ?_ ?_
    · rintro j d e S1 hd ⟨rfl, s4, s5, rfl⟩
      rw [List.getElem?_map] at hd
      cases hj : (idxF (act nm day) es 0)[j]? with
      | none => rw [hj] at hd; cases hd
      | some i =>
        rw [hj] at hd
        cases hd
        obtain ⟨e, he, hs⟩ := idx_at hj
        have o := ho e (List.mem_of_getElem? he)
        have ie := ix_tDr he
        have lj : j < (sls nm day es).length := (List.getElem?_eq_some_iff.mp hs).1
        have ls := sls_len (nm := nm) (day := day) (es := es)
        have f2 := timesC_ev o.p.db (day_b o d0 d1) (by omega) S1
        have f3 := plusC_ev o.p.zb (o.p.db.mul (day_b o d0 d1)) (by omega) S1
        have ts : (.tup [tR (e.pap.zero + e.pap.drift * ((day - e.pap.checked : Int) : Rat)), tR e.pap.share] : D) = tSl (slk day e) := rfl
        have ti : (.tup [.int (day - e.pap.checked), .int 1] : D) = tR ((day - e.pap.checked : Int) : Rat) := tR_int _
        have hx : min j (sls nm day es).length < LN := by unfold LN; omega
        refine ⟨_, put_nm, ?_⟩
        rw [snocT hs]
        generalize ((day - e.pap.checked : Int) : Rat) = dq at ti f2 f3 ts
        simp [-List.map_take, b__law_slacksC_1, nD, ie, ti, f2, f3, sApp, hx, ts]
    · rintro e S1 ⟨rfl, s4, s5, rfl⟩
      have : (sls nm day es).take ((idxF (act nm day) es 0).map nD).length = sls nm day es := by
        rw [List.take_of_length_le]
        rw [List.length_map, idxF_len]
        unfold sls
        rw [List.length_map]
        exact Nat.le_refl _
      rw [this]
      exact ⟨rfl, rfl, _, _, rfl⟩
  obtain ⟨f, e, S1, h, rfl, rfl, s4, s5, rfl⟩ := wp_out L
  refine fnD_rt rfl (en1 := [.val (tDr es), .val (.str nm), .val (.int day), .val (.lst ((sls nm day es).map tSl)), s4, s5]) ?_
  simp [-List.map_map, b__law_slacksC, ec, h, frz]
/-! ends -/
def mx (a b : Rat) : Rat := if a < b then b else a
def mnO (a : Option Rat) (b : Rat) : Option Rat := match a with
  | none => some b
  | some u => if b < u then some b else some u
def oR : Option Rat → D
  | none => .non
  | some q => tR q
theorem greater_ev {k l : Nat} {a b : Rat} (ha : Bd k a) (hb : Bd l b) (h : k + l ≤ 8000) (S : Store) : d_greater_of [tR a, tR b] S = .ok (tR (mx a b)) S := by
  have c := compare_ev ha hb h S
  rw [cmp_lt] at c
  refine fnD_rt rfl (en1 := [.val (tR a), .val (tR b)]) ?_
  unfold mx
  by_cases h1 : a < b
  · rw [if_pos h1] at c
    simp [b_greater_of, c, h1]
  · rw [if_neg h1] at c
    have : (0 : Int) ≤ if b < a then 1 else 0 := by split <;> omega
    generalize (if b < a then (1 : Int) else 0) = z at *
    simp [b_greater_of, c, h1, this]
theorem lesser_ev {k l : Nat} {a : Option Rat} {b : Rat} (ha : ∀ u, a = some u → Bd k u) (hb : Bd l b) (h : k + l ≤ 8000) (S : Store) : d_lesser_of [oR a, tR b] S = .ok (oR (mnO a b)) S := by
  cases a with
  | none =>
    refine fnD_rt rfl (en1 := [.val .non, .val (tR b)]) ?_
    simp [b_lesser_of, oR, mnO]
  | some u =>
    have c := compare_ev (ha u rfl) hb h S
    rw [cmp_lt] at c
    refine fnD_rt rfl (en1 := [.val (tR u), .val (tR b)]) ?_
    by_cases h1 : b < u
    · have h2 : ¬ u < b := by grind
      rw [if_neg h2, if_pos h1] at c
      simp [b_lesser_of, oR, mnO, c, h1]
    · have : ¬ (0 : Int) < (if u < b then -1 else if b < u then 1 else 0) := by rw [if_neg h1]; split <;> omega
      generalize (if u < b then (-1 : Int) else if b < u then 1 else 0) = z at *
      simp [b_lesser_of, oR, mnO, c, h1, this]
theorem weight_yes {q : Rat} (h : 0 ≤ q) (S : Store) : d_check_weight [tR q] S = .ok .non S := by
  have e := signR_ev q S
  have : ¬ sgn q.num < 0 := by rw [sgn_lt, numlt]; grind
  refine fnD_nx rfl (en1 := [.val (tR q)]) ?_
  simp [b_check_weight, e, this]
theorem weight_no {q : Rat} (h : q < 0) (S : Store) : d_check_weight [tR q] S = .exc "NotAllowed" S := by
  have e := signR_ev q S
  have : sgn q.num < 0 := by rw [sgn_lt, numlt]; exact h
  refine fnD_exc rfl (en1 := [.val (tR q)]) ?_
  simp [b_check_weight, e, this]
def loS (r : Rat) (p : Rat × Rat) : Rat := (r - p.1) / (1 + p.2)
def hiS (r : Rat) (p : Rat × Rat) : Rat := (r + p.1) / (1 - p.2)
def loF (r : Rat) (l : List (Rat × Rat)) : Rat := l.foldl (fun lo p => mx lo (loS r p)) 0
def hiF (r : Rat) (l : List (Rat × Rat)) : Option Rat := l.foldl (fun up p => mnO up (hiS r p)) none
theorem Bd1 {k : Nat} (h : 1 ≤ k) : Bd k 1 := (⟨by decide, by decide⟩ : Bd 1 1).mono h
theorem mx_b {k : Nat} {a b : Rat} (ha : Bd k a) (hb : Bd k b) : Bd k (mx a b) := by
  unfold mx
  split
  · exact hb
  · exact ha
theorem mnO_b {k : Nat} {a : Option Rat} {b : Rat} (ha : ∀ u, a = some u → Bd k u) (hb : Bd k b) : ∀ u, mnO a b = some u → Bd k u := by
  intro u h
  unfold mnO at h
  cases a with
  | none => cases h; exact hb
  | some v =>
    dsimp only at h
    split at h
    · cases h; exact hb
    · cases h; exact ha _ rfl
theorem one_plus_b {p : Rat × Rat} (h : Bd 20 p.2) : Bd 22 (1 + p.2) := ((Bd1 (Nat.le_refl 1)).add h).mono (by omega)
theorem one_minus_b {p : Rat × Rat} (h : Bd 20 p.2) : Bd 22 (1 - p.2) := ((Bd1 (Nat.le_refl 1)).sub h).mono (by omega)
theorem plus_ne {p : Rat × Rat} (h : 0 ≤ p.2) : (1 + p.2) ≠ 0 := by grind
theorem minus_ne {p : Rat × Rat} (h : p.2 < 1) : (1 - p.2) ≠ 0 := by grind
theorem loS_b {r : Rat} {p : Rat × Rat} (hr : Bd 200 r) (h1 : Bd 51 p.1) (h2 : Bd 20 p.2) (h0 : 0 ≤ p.2) : Bd 300 (loS r p) := ((hr.sub h1).div (one_plus_b h2) (plus_ne h0)).mono (by omega)
theorem hiS_b {r : Rat} {p : Rat × Rat} (hr : Bd 200 r) (h1 : Bd 51 p.1) (h2 : Bd 20 p.2) (h0 : p.2 < 1) : Bd 300 (hiS r p) := ((hr.add h1).div (one_minus_b h2) (minus_ne h0)).mono (by omega)
theorem take_none {α : Type} {xs : List α} {i : Nat} (h : xs[i]? = none) : xs.take (i + 1) = xs.take i := by
  have : xs.length ≤ i := List.getElem?_eq_none_iff.mp h
  rw [List.take_of_length_le (by omega), List.take_of_length_le (by omega)]
theorem loF_b {r : Rat} {l : List (Rat × Rat)} (hr : Bd 200 r) (hl : Ssl l) : ∀ i, Bd 300 (loF r (l.take i)) := by
  intro i
  induction i with
  | zero => exact Bd0 (by omega)
  | succ i ih =>
    cases hj : l[i]? with
    | none => rw [take_none hj]; exact ih
    | some p =>
      obtain ⟨_, h2, _, h4, h5⟩ := hl p (List.mem_of_getElem? hj)
      unfold loF at ih ⊢
      rw [take_foldl _ _ hj]
      exact mx_b ih (loS_b hr h4 h5 h2)
theorem hiF_b {r : Rat} {l : List (Rat × Rat)} (hr : Bd 200 r) (hl : Ssl l) : ∀ i u, hiF r (l.take i) = some u → Bd 300 u := by
  intro i
  induction i with
  | zero => intro u h; cases h
  | succ i ih =>
    cases hj : l[i]? with
    | none => rw [take_none hj]; exact ih
    | some p =>
      obtain ⟨_, _, h3, h4, h5⟩ := hl p (List.mem_of_getElem? hj)
      unfold hiF at ih ⊢
      rw [take_foldl _ _ hj]
      exact mnO_b ih (hiS_b hr h4 h5 h3)
def never (r : Rat) (l : List (Rat × Rat)) : Bool := match hiF r l with
  | none => false
  | some u => decide (u < loF r l)
theorem slot_at {l : List (Rat × Rat)} {i : Nat} {d : D} (h : (l.map tSl)[i]? = some d) : ∃ p, l[i]? = some p ∧ d = .tup [tR p.1, tR p.2] := by
  rw [List.getElem?_map] at h
  cases e : l[i]? with
  | none => rw [e] at h; cases h
  | some x => rw [e] at h; exact ⟨x, rfl, (Option.some.inj h).symm⟩
theorem ends_loop {r : Rat} {l : List (Rat × Rat)} (a b c d : D) (hr : Bd 200 r) (hl : Ssl l) (S : Store) : ∃ s7 s8, forGo (.tp [.nm 7, .nm 8]) b_ends_1 (l.map tSl) [.val a, .val b, .val c, .val (tR r), .val d, .val (tR 0), .val .non, .no, .no] S = .ok .nx [.val a, .val b, .val c, .val (tR r), .val d, .val (tR (loF r l)), .val (oR (hiF r l)), s7, s8] S := by
  have L : Wp (forGo (.tp [.nm 7, .nm 8]) b_ends_1 (l.map tSl) [.val a, .val b, .val c, .val (tR r), .val d, .val (tR 0), .val .non, .no, .no] S) (fun f e S1 => f = .nx ∧ S1 = S ∧ ∃ s7 s8, e = [.val a, .val b, .val c, .val (tR r), .val d, .val (tR (loF r l)), .val (oR (hiF r l)), s7, s8]) := by
    refine wp_for (fun i e S1 => S1 = S ∧ ∃ s7 s8, e = [.val a, .val b, .val c, .val (tR r), .val d, .val (tR (loF r (l.take i))), .val (oR (hiF r (l.take i))), s7, s8]) ⟨rfl, _, _, rfl⟩ ?_ ?_
    · rintro i x e S1 hd ⟨rfl, s7, s8, rfl⟩
      obtain ⟨p, hp, rfl⟩ := slot_at hd
      obtain ⟨h1, h2, h3, h4, h5⟩ := hl p (List.mem_of_getElem? hp)
      have f1 := minus_ev hr h4 (by omega) S1
      have f2 := plus_ev (Bd1 (Nat.le_refl 1)) h5 (by omega) S1
      have f3 := over_ev (hr.sub h4) (one_plus_b h5) (by omega) (plus_ne h2) S1
      have f4 := greater_ev (loF_b hr hl i) (loS_b hr h4 h5 h2) (by omega) S1
      have f5 := plus_ev hr h4 (by omega) S1
      have f6 := minus_ev (Bd1 (Nat.le_refl 1)) h5 (by omega) S1
      have f7 := over_ev (hr.add h4) (one_minus_b h5) (by omega) (minus_ne h3) S1
      have f8 := lesser_ev (hiF_b hr hl i) (hiS_b hr h4 h5 h3) (by omega) S1
      have n1 : loF r (l.take (i + 1)) = mx (loF r (l.take i)) (loS r p) := take_foldl _ _ hp
      have n2 : hiF r (l.take (i + 1)) = mnO (hiF r (l.take i)) (hiS r p) := take_foldl _ _ hp
      have o1 : c_ONE = tR 1 := rfl
      refine ⟨_, put_2, ?_⟩
      rw [n1, n2]
      unfold loS at f4 ⊢
      unfold hiS at f8 ⊢
      simp [b_ends_1, o1, f1, f2, f3, f4, f5, f6, f7, f8]
    · rintro e S1 ⟨rfl, s7, s8, rfl⟩
      rw [List.length_map, List.take_length]
      exact ⟨rfl, rfl, _, _, rfl⟩
  obtain ⟨f, e, S1, h, rfl, rfl, s7, s8, rfl⟩ := wp_out L
  exact ⟨s7, s8, h⟩
theorem ends_ev {es : List En} {nm : Str} {day : Int} {r : Rat} (ho : Oks es) (hn : nm ∈ names4) (d0 : 0 ≤ day) (d1 : day ≤ 999) (hl : es.length ≤ 1000) (r0 : 0 ≤ r) (hr : Bd 200 r) (S : Store) : d_ends [tDr es, .str nm, .int day, tR r] S = if never r (sls nm day es) = true then .exc "Never" S else .ok (.tup [tR (loF r (sls nm day es)), oR (hiF r (sls nm day es))]) S := by
  have el := limits_ev ho hn d0 d1 hl S
  have ew := weight_yes r0 S
  have hs := sls_ok (nm := nm) ho d0 d1
  generalize sls nm day es = l at *
  obtain ⟨s7, s8, lp⟩ := ends_loop (tDr es) (.str nm) (.int day) (.lst (l.map tSl)) hr hs S
  have z0 : c_ZERO = tR 0 := rfl
  have lb := loF_b hr hs l.length
  have hb := hiF_b hr hs l.length
  rw [List.take_length] at lb hb
  unfold never
  cases hh : hiF r l with
  | none =>
    rw [hh] at lp
    dsimp only
    rw [if_neg Bool.false_ne_true]
    refine fnD_rt rfl (en1 := [.val (tDr es), .val (.str nm), .val (.int day), .val (tR r), .val (.lst (l.map tSl)), .val (tR (loF r l)), .val .non, s7, s8]) ?_
    simp only [oR] at lp ⊢
    simp [-List.map_map, b_ends, el, ew, z0, lp]
  | some u =>
    rw [hh] at lp
    dsimp only
    have cp := compare_ev lb (hb u hh) (by omega) S
    rw [cmp_lt] at cp
    simp only [oR] at lp ⊢
    by_cases h1 : u < loF r l
    · rw [if_pos (decide_eq_true h1)]
      have h2 : ¬ loF r l < u := by grind
      rw [if_neg h2, if_pos h1] at cp
      refine fnD_exc rfl (en1 := [.val (tDr es), .val (.str nm), .val (.int day), .val (tR r), .val (.lst (l.map tSl)), .val (tR (loF r l)), .val (tR u), s7, s8]) ?_
      simp [-List.map_map, b_ends, el, ew, z0, lp, cp]
    · rw [if_neg (fun z => h1 (of_decide_eq_true z))]
      have h2 : ¬ (0 : Int) < (if loF r l < u then -1 else if u < loF r l then 1 else 0) := by rw [if_neg h1]; split <;> omega
      generalize (if loF r l < u then (-1 : Int) else if u < loF r l then 1 else 0) = z at *
      refine fnD_rt rfl (en1 := [.val (tDr es), .val (.str nm), .val (.int day), .val (tR r), .val (.lst (l.map tSl)), .val (tR (loF r l)), .val (tR u), s7, s8]) ?_
      simp [-List.map_map, b_ends, el, ew, z0, lp, cp, h2]
/-- may the weight give the reading -/
def may (r w : Rat) (p : Rat × Rat) : Bool := !(decide (p.1 + p.2 * w < r - w) || decide (p.1 + p.2 * w < w - r))
theorem cmp_gt {k l : Nat} {a b : Rat} (ha : Bd k a) (hb : Bd l b) (h : k + l ≤ 8000) (S : Store) : ∃ z, d_compare [tR a, tR b] S = .ok (.int z) S ∧ (0 < z ↔ b < a) := by
  have c := compare_ev ha hb h S
  rw [cmp_lt] at c
  refine ⟨_, c, ?_⟩
  by_cases h1 : a < b
  · rw [if_pos h1]
    constructor
    · intro z; omega
    · intro z; grind
  · rw [if_neg h1]
    by_cases h2 : b < a
    · rw [if_pos h2]; exact ⟨fun _ => h2, fun _ => by omega⟩
    · rw [if_neg h2]
      constructor
      · intro z; omega
      · intro z; exact absurd z h2
theorem allows_ev {es : List En} {nm : Str} {day : Int} {r w : Rat} (ho : Oks es) (hn : nm ∈ names4) (d0 : 0 ≤ day) (d1 : day ≤ 999) (hl : es.length ≤ 1000) (r0 : 0 ≤ r) (hr : Bd 1000 r) (w0 : 0 ≤ w) (hw : Bd 1000 w) (S : Store) : d_allows [tDr es, .str nm, .int day, tR r, tR w] S = .ok (.bl ((sls nm day es).all (may r w))) S := by
  have el := limits_ev ho hn d0 d1 hl S
  have e1 := weight_yes r0 S
  have e2 := weight_yes w0 S
  have hs := sls_ok (nm := nm) ho d0 d1
  generalize sls nm day es = l at *
  have H := fnD_wp (n := 5) (k := 4) (b := b_allows) (ds := [tDr es, .str nm, .int day, tR r, tR w]) (S := S) (Q := fun d S1 => S1 = S ∧ d = .bl (l.all (may r w))) rfl ?_
  · obtain ⟨d, S1, h1, rfl, rfl⟩ := H
    exact h1
  simp [-List.map_map, b_allows, el, e1, e2]
  refine wp_bind (wp_for (fun i e S1 => S1 = S ∧ (l.take i).all (may r w) = true ∧ ∃ s6 s7 s8, e = [.val (tDr es), .val (.str nm), .val (.int day), .val (tR r), .val (tR w), .val (.lst (l.map tSl)), s6, s7, s8]) ⟨rfl, rfl, _, _, _, rfl⟩ ?_ ?_)
  · rintro i x e S1 hd ⟨rfl, hq, s6, s7, s8, rfl⟩
    obtain ⟨p, hp, rfl⟩ := slot_at hd
    obtain ⟨h1, h2, h3, h4, h5⟩ := hs p (List.mem_of_getElem? hp)
    have f1 := times_ev h5 hw (by omega) S1
    have f2 := plus_ev h4 (h5.mul hw) (by omega) S1
    have f3 := minus_ev hr hw (by omega) S1
    have f4 := minus_ev hw hr (by omega) S1
    obtain ⟨z1, g1, i1⟩ := cmp_gt (hr.sub hw) (h4.add (h5.mul hw)) (by omega) S1
    obtain ⟨z2, g2, i2⟩ := cmp_gt (hw.sub hr) (h4.add (h5.mul hw)) (by omega) S1
    have e3 := all_take (may r w) hp
    rw [hq, Bool.true_and] at e3
    refine ⟨_, put_2, ?_⟩
    rw [e3]
    by_cases c1 : p.1 + p.2 * w < r - w
    · have q : may r w p = false := by unfold may; rw [decide_eq_true c1]; rfl
      have a := i1.mpr c1
      simp [b_allows_1, f1, f2, f3, f4, g1, g2, a]
      exact ⟨p.1, p.2, List.mem_of_getElem? hp, q⟩
    · have a : ¬ 0 < z1 := fun z => c1 (i1.mp z)
      by_cases c2 : p.1 + p.2 * w < w - r
      · have q : may r w p = false := by unfold may; rw [decide_eq_true c2, Bool.or_true]; rfl
        have b := i2.mpr c2
        simp [b_allows_1, f1, f2, f3, f4, g1, g2, a, b]
        exact ⟨p.1, p.2, List.mem_of_getElem? hp, q⟩
      · have q : may r w p = true := by unfold may; rw [decide_eq_false c1, decide_eq_false c2]; rfl
        have b : ¬ 0 < z2 := fun z => c2 (i2.mp z)
        simp [b_allows_1, f1, f2, f3, f4, g1, g2, a, b, q]
  · rintro e S1 ⟨rfl, hq, s6, s7, s8, rfl⟩
    rw [List.length_map, List.take_length] at hq
    simp
    simpa using hq
/-- what the ends say -/
theorem may_iff {r w : Rat} {p : Rat × Rat} (h2 : 0 ≤ p.2) (h3 : p.2 < 1) : may r w p = true ↔ loS r p ≤ w ∧ w ≤ hiS r p := by
  have a1 : loS r p ≤ w ↔ ¬ (p.1 + p.2 * w < r - w) := by
    unfold loS
    have hd : (0 : Rat) < 1 + p.2 := by grind
    rw [← Rat.not_lt, Rat.lt_div_iff hd]
    grind
  have a2 : w ≤ hiS r p ↔ ¬ (p.1 + p.2 * w < w - r) := by
    unfold hiS
    have hd : (0 : Rat) < 1 - p.2 := by grind
    rw [← Rat.not_lt, Rat.div_lt_iff hd]
    grind
  rw [a1, a2]
  unfold may
  simp
theorem lo_iff {r w : Rat} : ∀ (l : List (Rat × Rat)) (a : Rat), (l.foldl (fun lo p => mx lo (loS r p)) a ≤ w ↔ a ≤ w ∧ ∀ p ∈ l, loS r p ≤ w)
  | [], a => by simp
  | p :: l, a => by
    rw [List.foldl_cons, lo_iff l]
    have : mx a (loS r p) ≤ w ↔ a ≤ w ∧ loS r p ≤ w := by unfold mx; split <;> grind
    rw [this]
    simp [and_assoc]
def leO (w : Rat) : Option Rat → Prop
  | none => True
  | some u => w ≤ u
theorem hi_iff {r w : Rat} : ∀ (l : List (Rat × Rat)) (a : Option Rat), (leO w (l.foldl (fun up p => mnO up (hiS r p)) a) ↔ leO w a ∧ ∀ p ∈ l, w ≤ hiS r p)
  | [], a => by simp
  | p :: l, a => by
    rw [List.foldl_cons, hi_iff l]
    have : leO w (mnO a (hiS r p)) ↔ leO w a ∧ w ≤ hiS r p := by
      cases a with
      | none => simp [mnO, leO]
      | some u =>
        unfold mnO
        dsimp only
        split
        · show w ≤ _ ↔ w ≤ u ∧ w ≤ _; grind
        · show w ≤ _ ↔ w ≤ u ∧ w ≤ _; grind
    rw [this]
    simp [and_assoc]
theorem all_iff {r w : Rat} {l : List (Rat × Rat)} (hl : Ssl l) (w0 : 0 ≤ w) : l.all (may r w) = true ↔ loF r l ≤ w ∧ leO w (hiF r l) := by
  unfold loF hiF
  rw [lo_iff, hi_iff, List.all_eq_true]
  constructor
  · intro h
    have h' : ∀ p ∈ l, loS r p ≤ w ∧ w ≤ hiS r p := fun p hp => by
      obtain ⟨_, h2, h3, _, _⟩ := hl p hp
      exact (may_iff h2 h3).mp (h p hp)
    exact ⟨⟨w0, fun p hp => (h' p hp).1⟩, trivial, fun p hp => (h' p hp).2⟩
  · rintro ⟨⟨_, h1⟩, _, h2⟩ p hp
    obtain ⟨_, h3, h4, _, _⟩ := hl p hp
    exact (may_iff h3 h4).mpr ⟨h1 p hp, h2 p hp⟩
end Ks

set_option linter.all false
set_option maxRecDepth 100000
namespace Ks
open Kb PySem
/-! what the laws of scales share besides -/
theorem cell_ev {cs : List Int} (hb : ∀ z ∈ cs, bit z ≤ 1048576) (k : Nat) (S : Store) : ∃ z, bit z ≤ 1048576 ∧ d__law_cell [.scr (cs.map .int), .int k] S = .ok (.int z) S := by
  by_cases h : k < cs.length
  · obtain ⟨z, hz⟩ := get_of h
    have ix : ixD (.scr (cs.map .int)) (.int k) = some (.int z) := ixD_scr (by rw [List.getElem?_map, hz]; rfl)
    have h' : (k : Int) < cs.length := by omega
    refine ⟨z, hb z (List.mem_of_getElem? hz), fnD_rt rfl (en1 := [.val (.scr (cs.map .int)), .val (.int k)]) ?_⟩
    simp [b__law_cell, h, ix]
  · have h' : ¬ (k : Int) < cs.length := by omega
    refine ⟨0, by decide, fnD_rt rfl (en1 := [.val (.scr (cs.map .int)), .val (.int k)]) ?_⟩
    simp [b__law_cell, h]
theorem limits_noS {z : Str} (h : scOk z = false) (hl : z.length ≤ 1000) (dr d : D) (S : Store) : d_limits [dr, .str z, d] S = .exc "NotAllowed" S := by
  have e := scale_no h hl S
  have c : d_counting [dr, .str z, d] S = .exc "NotAllowed" S := by
    refine fnD_exc rfl (en1 := [.val dr, .val (.str z), .val d, .no, .no]) ?_
    simp [b_counting, e]
  refine fnD_exc rfl (en1 := [.val dr, .val (.str z), .val d, .own [], .no, .no, .no, .no, .no, .no]) ?_
  simp [b_limits, c]
theorem limits_noD {nm : Str} (hn : nm ∈ names4) {d : Int} (h : ¬ (0 ≤ d ∧ d ≤ 999)) (dr : D) (S : Store) : d_limits [dr, .str nm, .int d] S = .exc "NotAllowed" S := by
  have e := scale_yes hn S
  have e2 := day_no h S
  have c : d_counting [dr, .str nm, .int d] S = .exc "NotAllowed" S := by
    refine fnD_exc rfl (en1 := [.val dr, .val (.str nm), .val (.int d), .no, .no]) ?_
    simp [b_counting, e, e2]
  refine fnD_exc rfl (en1 := [.val dr, .val (.str nm), .val (.int d), .own [], .no, .no, .no, .no, .no, .no]) ?_
  simp [b_limits, c]
theorem ends_noL {a b c : D} {S : Store} (h : d_limits [a, b, c] S = .exc "NotAllowed" S) (r : D) : d_ends [a, b, c, r] S = .exc "NotAllowed" S := by
  refine fnD_exc rfl (en1 := [.val a, .val b, .val c, .val r, .no, .no, .no, .no, .no]) ?_
  simp [b_ends, h]
theorem allows_noL {a b c : D} {S : Store} (h : d_limits [a, b, c] S = .exc "NotAllowed" S) (r w : D) : d_allows [a, b, c, r, w] S = .exc "NotAllowed" S := by
  refine fnD_exc rfl (en1 := [.val a, .val b, .val c, .val r, .val w, .no, .no, .no, .no]) ?_
  simp [b_allows, h]
theorem readings_noL {a b c : D} {S : Store} (h : d_limits [a, b, c] S = .exc "NotAllowed" S) (w : D) : d_readings [a, b, c, w] S = .exc "NotAllowed" S := by
  refine fnD_exc rfl (en1 := [.val a, .val b, .val c, .val w, .no, .no, .no, .no, .no, .no]) ?_
  simp [b_readings, h]
theorem ends_noW {a b c l : D} {S : Store} (h : d_limits [a, b, c] S = .ok l S) {q : Rat} (hq : q < 0) : d_ends [a, b, c, tR q] S = .exc "NotAllowed" S := by
  have e := weight_no hq S
  refine fnD_exc rfl (en1 := [.val a, .val b, .val c, .val (tR q), .val l, .no, .no, .no, .no]) ?_
  simp [b_ends, h, e]
theorem allows_noR {a b c l : D} {S : Store} (h : d_limits [a, b, c] S = .ok l S) {q : Rat} (hq : q < 0) (w : D) : d_allows [a, b, c, tR q, w] S = .exc "NotAllowed" S := by
  have e := weight_no hq S
  refine fnD_exc rfl (en1 := [.val a, .val b, .val c, .val (tR q), .val w, .val l, .no, .no, .no]) ?_
  simp [b_allows, h, e]
theorem allows_noW {a b c l : D} {S : Store} (h : d_limits [a, b, c] S = .ok l S) {r q : Rat} (hr : 0 ≤ r) (hq : q < 0) : d_allows [a, b, c, tR r, tR q] S = .exc "NotAllowed" S := by
  have e := weight_no hq S
  have e2 := weight_yes hr S
  refine fnD_exc rfl (en1 := [.val a, .val b, .val c, .val (tR r), .val (tR q), .val l, .no, .no, .no]) ?_
  simp [b_allows, h, e, e2]
theorem readings_noW {a b c l : D} {S : Store} (h : d_limits [a, b, c] S = .ok l S) {q : Rat} (hq : q < 0) : d_readings [a, b, c, tR q] S = .exc "NotAllowed" S := by
  have e := weight_no hq S
  refine fnD_exc rfl (en1 := [.val a, .val b, .val c, .val (tR q), .val l, .no, .no, .no, .no, .no]) ?_
  simp [b_readings, h, e]
theorem manyC_ev {ns : List Int} (hN : N3 ns) (hl : 15 ≤ ns.length) (S : Store) : ∃ es, es.length ≤ 20 ∧ Oks es ∧ d__law_manyC [.lst (nums ns)] S = .ok (tDr es) S := by
  have g0 : ixD (.lst (ns.map .int)) (.int 0) = some (.int (ns.getD 0 0)) := gets (k := 0) (by omega)
  generalize ns.getD 0 0 = v0 at *
  have e0 : modD (.int v0) (.int 5) = some (.int (v0 % 5)) := modD_ok (by omega)
  obtain ⟨n, hn⟩ : ∃ n : Nat, 8 + v0 % 5 = n := ⟨(8 + v0 % 5).toNat, by omega⟩
  have hr := rng_nat (n := n) (by omega)
  have L : Wp (forGo (.nm 3) b__law_manyC_1 (rngI 0 n) [.val (.lst (nums ns)), .val (.int n), .own [], .no, .no, .no] S) (fun f e S1 => f = .nx ∧ S1 = S ∧ ∃ (es : List En) (t3 t4 t5 : Slot), es.length = n ∧ Oks es ∧ e = [.val (.lst (nums ns)), .val (.int n), .own (es.map tEn), t3, t4, t5]) := by
    refine wp_rng0 (fun i e S1 => S1 = S ∧ ∃ (es : List En) (t3 t4 t5 : Slot), es.length = i ∧ Oks es ∧ e = [.val (.lst (nums ns)), .val (.int n), .own (es.map tEn), t3, t4, t5]) ⟨rfl, [], _, _, _, rfl, fun x hx => absurd hx List.not_mem_nil, rfl⟩ ?_ ?_
    · rintro i e S1 hi ⟨rfl, es, t3, t4, t5, h1, h2, rfl⟩
      have gi : ixD (.lst (ns.map .int)) (.int (1 + i)) = some (.int (ns.getD (1 + i) 0)) := by
        have := gets (ns := ns) (k := 1 + i) (by omega)
        simpa using this
      have bi := hN.at (k := 1 + i) (by omega)
      generalize ns.getD (1 + i) 0 = v at *
      have m2 : mulI (.int 2) (.int ((n : Int) - i)) = some (.int (2 * ((n : Int) - i))) := mulI_ok (by have : bit 2 ≤ 2 := bit_small (by omega) (by omega); have : bit ((n : Int) - i) ≤ 5 := bit_small (by omega) (by omega); omega)
      obtain ⟨q, q0, qb, eq⟩ := drawnC_ev (x := v) (most := 3) bi.1 bi.2 (by omega) (by omega) S1
      obtain ⟨z, hz⟩ : ∃ z : Int, 2 * ((n : Int) - i) - 2 = z := ⟨_, rfl⟩
      have ti : (.tup [.int z, .int 1] : D) = tR z := tR_int z
      have bz : Bd 6 (z : Rat) := Bd.int (by omega) (by omega)
      have ep := plusC_ev bz qb (by omega) S1
      have f18 : fdivD (.int v) (.int 18) = some (.int (v / 18)) := fdiv_s (by omega) (by omega)
      have m3 : modD (.int (v / 18)) (.int 3) = some (.int (v / 18 % 3)) := modD_ok (by omega)
      have n5 : (v / 18 % 3).natAbs < 2 ^ 5 := by omega
      have es' := ratioC_ev (n := v / 18 % 3) (d := 20) (by omega) (Nat.lt_of_lt_of_le (show (20 : Int).natAbs < 2 ^ 10 by omega) (pow2_le (by omega))) (by have := bit_lt n5; omega) S1
      have sb : Bd 5 (Rat.divInt (v / 18 % 3) 20) := bd_div (by omega) n5 (by omega)
      have s0 : 0 ≤ Rat.divInt (v / 18 % 3) 20 := Rat.divInt_nonneg (by omega) (by omega)
      have s1 : Rat.divInt (v / 18 % 3) 20 < 1 := divInt_lt_one (by omega) (by omega)
      generalize Rat.divInt (v / 18 % 3) 20 = sh at *
      have z0 : (0 : Rat) ≤ (z : Rat) := by exact_mod_cast (by omega : (0 : Int) ≤ z)
      have t0 : (.tup [.int 0, .int 1] : D) = tR 0 := rfl
      have tp : tupD [.int 0, .int 999, tR ((z : Rat) + q), tR sh, tR 0, .int 0] = some (tPap ⟨0, 999, (z : Rat) + q, sh, 0, 0⟩) := rfl
      have te : (.tup [.str "a", tPap ⟨0, 999, (z : Rat) + q, sh, 0, 0⟩, .non] : D) = tEn ⟨"a", ⟨0, 999, (z : Rat) + q, sh, 0, 0⟩, none⟩ := rfl
      have hl' : es.length < LN := by unfold LN; omega
      simp [b__law_manyC_1, m2, hz, ti, gi, eq, ep, f18, m3, es', t0, tp, te, sApp, hl']
      refine ⟨es ++ [⟨"a", ⟨0, 999, (z : Rat) + q, sh, 0, 0⟩, none⟩], by simp; omega, ?_, by simp⟩
      intro e he
      rcases List.mem_append.mp he with he | he
      · exact h2 e he
      · rw [List.mem_singleton.mp he]
        refine ⟨by show ("a" : Str) ∈ names4; decide, ⟨by show (0 : Int) ≤ 0; omega, by show (0 : Int) ≤ 0; omega, by show (0 : Int) ≤ 999; omega, by show (999 : Int) ≤ 999; omega, ?_, s0, s1, Rat.le_refl, (bz.add qb).mono (by omega), sb.mono (by omega), Bd0 (by omega)⟩, fun _ h => by cases h⟩
        show (0 : Rat) ≤ (z : Rat) + q
        grind
    · rintro e S1 ⟨rfl, es, t3, t4, t5, h1, h2, rfl⟩
      exact ⟨rfl, rfl, es, _, _, _, h1, h2, rfl⟩
  obtain ⟨f, e, S1, h, rfl, rfl, es, t3, t4, t5, h1, h2, rfl⟩ := wp_out L
  refine ⟨es, by omega, h2, fnD_rt rfl (en1 := [.val (.lst (nums ns)), .val (.int n), .own (es.map tEn), t3, t4, t5]) ?_⟩
  simp only [nums] at h
  simp [b__law_manyC, g0, e0, hn, hr, h]
  rfl
theorem hiS_0 {r : Rat} {p : Rat × Rat} (r0 : 0 ≤ r) (h1 : 0 ≤ p.1) (h3 : p.2 < 1) : 0 ≤ hiS r p := by
  unfold hiS
  have hd : (0 : Rat) < 1 - p.2 := by grind
  rw [← Rat.not_lt, Rat.div_lt_iff hd]
  grind
theorem loF_0 (r : Rat) (l : List (Rat × Rat)) : 0 ≤ loF r l := by
  have := (lo_iff (r := r) (w := loF r l) l 0).mp Rat.le_refl
  exact this.1
theorem hiF_0 {r : Rat} (r0 : 0 ≤ r) : ∀ (l : List (Rat × Rat)) (a : Option Rat), Ssl l → (∀ u, a = some u → 0 ≤ u) → ∀ u, l.foldl (fun up p => mnO up (hiS r p)) a = some u → 0 ≤ u
  | [], a, _, ha, u, h => ha u h
  | p :: l, a, hl, ha, u, h => by
    rw [List.foldl_cons] at h
    obtain ⟨h1, _, h3, _, _⟩ := hl p List.mem_cons_self
    refine hiF_0 r0 l _ (fun x hx => hl x (List.mem_cons_of_mem _ hx)) ?_ u h
    intro v hv
    unfold mnO at hv
    cases a with
    | none => cases hv; exact hiS_0 r0 h1 h3
    | some w =>
      dsimp only at hv
      split at hv
      · cases hv; exact hiS_0 r0 h1 h3
      · cases hv; exact ha _ rfl
end Ks

set_option linter.all false
set_option maxRecDepth 100000
namespace Ks
open Kb PySem
/-! readings -/
def wd (w : Rat) (p : Rat × Rat) : Rat := p.1 + p.2 * w
def loR (w : Rat) (l : List (Rat × Rat)) : Rat := l.foldl (fun lo p => mx lo (w - wd w p)) 0
def hiR (w : Rat) (l : List (Rat × Rat)) : Option Rat := l.foldl (fun up p => mnO up (w + wd w p)) none
theorem wd_b {w : Rat} {p : Rat × Rat} (hw : Bd 50 w) (h1 : Bd 51 p.1) (h2 : Bd 20 p.2) : Bd 122 (wd w p) := (h1.add (h2.mul hw)).mono (by omega)
theorem loR_b {w : Rat} {l : List (Rat × Rat)} (hw : Bd 50 w) (hl : Ssl l) : ∀ i, Bd 180 (loR w (l.take i)) := by
  intro i
  induction i with
  | zero => exact Bd0 (by omega)
  | succ i ih =>
    cases hj : l[i]? with
    | none => rw [take_none hj]; exact ih
    | some p =>
      obtain ⟨_, _, _, h4, h5⟩ := hl p (List.mem_of_getElem? hj)
      unfold loR at ih ⊢
      rw [take_foldl _ _ hj]
      exact mx_b ih ((hw.sub (wd_b hw h4 h5)).mono (by omega))
theorem hiR_b {w : Rat} {l : List (Rat × Rat)} (hw : Bd 50 w) (hl : Ssl l) : ∀ i u, hiR w (l.take i) = some u → Bd 180 u := by
  intro i
  induction i with
  | zero => intro u h; cases h
  | succ i ih =>
    cases hj : l[i]? with
    | none => rw [take_none hj]; exact ih
    | some p =>
      obtain ⟨_, _, _, h4, h5⟩ := hl p (List.mem_of_getElem? hj)
      unfold hiR at ih ⊢
      rw [take_foldl _ _ hj]
      exact mnO_b ih ((hw.add (wd_b hw h4 h5)).mono (by omega))
theorem readings_ev {es : List En} {nm : Str} {day : Int} {w : Rat} (ho : Oks es) (hn : nm ∈ names4) (d0 : 0 ≤ day) (d1 : day ≤ 999) (hl : es.length ≤ 1000) (w0 : 0 ≤ w) (hw : Bd 50 w) (S : Store) : d_readings [tDr es, .str nm, .int day, tR w] S = .ok (.tup [tR (loR w (sls nm day es)), oR (hiR w (sls nm day es))]) S := by
  have el := limits_ev ho hn d0 d1 hl S
  have ew := weight_yes w0 S
  have hs := sls_ok (nm := nm) ho d0 d1
  generalize sls nm day es = l at *
  have z0 : c_ZERO = tR 0 := rfl
  have L : Wp (forGo (.tp [.nm 7, .nm 8]) b_readings_1 (l.map tSl) [.val (tDr es), .val (.str nm), .val (.int day), .val (tR w), .val (.lst (l.map tSl)), .val (tR 0), .val .non, .no, .no, .no] S) (fun f e S1 => f = .nx ∧ S1 = S ∧ ∃ s7 s8 s9, e = [.val (tDr es), .val (.str nm), .val (.int day), .val (tR w), .val (.lst (l.map tSl)), .val (tR (loR w l)), .val (oR (hiR w l)), s7, s8, s9]) := by
    refine wp_for (fun i e S1 => S1 = S ∧ ∃ s7 s8 s9, e = [.val (tDr es), .val (.str nm), .val (.int day), .val (tR w), .val (.lst (l.map tSl)), .val (tR (loR w (l.take i))), .val (oR (hiR w (l.take i))), s7, s8, s9]) ⟨rfl, _, _, _, rfl⟩ ?_ ?_
    · rintro i x e S1 hd ⟨rfl, s7, s8, s9, rfl⟩
      obtain ⟨p, hp, rfl⟩ := slot_at hd
      obtain ⟨h1, h2, h3, h4, h5⟩ := hs p (List.mem_of_getElem? hp)
      have f1 := times_ev h5 hw (by omega) S1
      have f2 := plus_ev h4 (h5.mul hw) (by omega) S1
      have hwd := wd_b hw h4 h5
      have e1 : p.1 + p.2 * w = wd w p := rfl
      rw [e1] at f2
      have f3 := minus_ev hw hwd (by omega) S1
      have f4 := greater_ev (loR_b hw hs i) (hw.sub hwd) (by omega) S1
      have f5 := plus_ev hw hwd (by omega) S1
      have f6 := lesser_ev (hiR_b hw hs i) (hw.add hwd) (by omega) S1
      have n1 : loR w (l.take (i + 1)) = mx (loR w (l.take i)) (w - wd w p) := take_foldl _ _ hp
      have n2 : hiR w (l.take (i + 1)) = mnO (hiR w (l.take i)) (w + wd w p) := take_foldl _ _ hp
      refine ⟨_, put_2, ?_⟩
      rw [n1, n2]
      simp [b_readings_1, f1, f2, f3, f4, f5, f6]
    · rintro e S1 ⟨rfl, s7, s8, s9, rfl⟩
      rw [List.length_map, List.take_length]
      exact ⟨rfl, rfl, _, _, _, rfl⟩
  obtain ⟨f, e, S1, h, rfl, rfl, s7, s8, s9, rfl⟩ := wp_out L
  refine fnD_rt rfl (en1 := [.val (tDr es), .val (.str nm), .val (.int day), .val (tR w), .val (.lst (l.map tSl)), .val (tR (loR w l)), .val (oR (hiR w l)), s7, s8, s9]) ?_
  simp [-List.map_map, b_readings, el, ew, z0, h]
theorem loR_iff {w x : Rat} : ∀ (l : List (Rat × Rat)) (a : Rat), (l.foldl (fun lo p => mx lo (w - wd w p)) a ≤ x ↔ a ≤ x ∧ ∀ p ∈ l, w - wd w p ≤ x)
  | [], a => by simp
  | p :: l, a => by
    rw [List.foldl_cons, loR_iff l]
    have : mx a (w - wd w p) ≤ x ↔ a ≤ x ∧ w - wd w p ≤ x := by unfold mx; split <;> grind
    rw [this]
    simp [and_assoc]
theorem hiR_iff {w x : Rat} : ∀ (l : List (Rat × Rat)) (a : Option Rat), (leO x (l.foldl (fun up p => mnO up (w + wd w p)) a) ↔ leO x a ∧ ∀ p ∈ l, x ≤ w + wd w p)
  | [], a => by simp
  | p :: l, a => by
    rw [List.foldl_cons, hiR_iff l]
    have : leO x (mnO a (w + wd w p)) ↔ leO x a ∧ x ≤ w + wd w p := by
      cases a with
      | none => simp [mnO, leO]
      | some u =>
        unfold mnO
        dsimp only
        split
        · show x ≤ _ ↔ x ≤ u ∧ x ≤ _; grind
        · show x ≤ _ ↔ x ≤ u ∧ x ≤ _; grind
    rw [this]
    simp [and_assoc]
theorem mayR_iff {x w : Rat} {p : Rat × Rat} : may x w p = true ↔ w - wd w p ≤ x ∧ x ≤ w + wd w p := by
  have a1 : ¬ (p.1 + p.2 * w < x - w) ↔ x ≤ w + wd w p := by unfold wd; grind
  have a2 : ¬ (p.1 + p.2 * w < w - x) ↔ w - wd w p ≤ x := by unfold wd; grind
  unfold may
  rw [Bool.not_eq_true', Bool.or_eq_false_iff, decide_eq_false_iff_not, decide_eq_false_iff_not, a1, a2]
  exact And.comm
theorem allR_iff {x w : Rat} {l : List (Rat × Rat)} (x0 : 0 ≤ x) : l.all (may x w) = true ↔ loR w l ≤ x ∧ leO x (hiR w l) := by
  unfold loR hiR
  rw [loR_iff, hiR_iff, List.all_eq_true]
  constructor
  · intro h
    exact ⟨⟨x0, fun p hp => (mayR_iff.mp (h p hp)).1⟩, trivial, fun p hp => (mayR_iff.mp (h p hp)).2⟩
  · rintro ⟨⟨_, h1⟩, _, h2⟩ p hp
    exact mayR_iff.mpr ⟨h1 p hp, h2 p hp⟩
theorem loR_0 (w : Rat) (l : List (Rat × Rat)) : 0 ≤ loR w l := ((loR_iff (w := w) (x := loR w l) l 0).mp Rat.le_refl).1
theorem wd_0 {w : Rat} {p : Rat × Rat} (w0 : 0 ≤ w) (h1 : 0 ≤ p.1) (h2 : 0 ≤ p.2) : 0 ≤ wd w p := by
  have := Rat.mul_nonneg h2 w0
  unfold wd
  grind
theorem own_in {w : Rat} {l : List (Rat × Rat)} (w0 : 0 ≤ w) (hl : Ssl l) : loR w l ≤ w ∧ leO w (hiR w l) := by
  rw [← allR_iff w0, List.all_eq_true]
  intro p hp
  obtain ⟨h1, h2, _, _, _⟩ := hl p hp
  have := wd_0 w0 h1 h2
  exact mayR_iff.mpr ⟨by grind, by grind⟩
theorem hiR_0 {w : Rat} (w0 : 0 ≤ w) : ∀ (l : List (Rat × Rat)) (a : Option Rat), Ssl l → (∀ u, a = some u → 0 ≤ u) → ∀ u, l.foldl (fun up p => mnO up (w + wd w p)) a = some u → 0 ≤ u
  | [], a, _, ha, u, h => ha u h
  | p :: l, a, hl, ha, u, h => by
    rw [List.foldl_cons] at h
    obtain ⟨h1, h2, _, _, _⟩ := hl p List.mem_cons_self
    have := wd_0 w0 h1 h2
    refine hiR_0 w0 l _ (fun x hx => hl x (List.mem_cons_of_mem _ hx)) ?_ u h
    intro v hv
    unfold mnO at hv
    cases a with
    | none => cases hv; grind
    | some w =>
      dsimp only at hv
      split at hv
      · cases hv; grind
      · cases hv; exact ha _ rfl
/-- between two ends -/
def bt (lo : Rat) (hi : Option Rat) (x : Rat) : Bool := !decide (x < lo) && (match hi with
  | none => true
  | some u => !decide (u < x))
theorem bt_iff {lo x : Rat} {hi : Option Rat} : bt lo hi x = true ↔ lo ≤ x ∧ leO x hi := by
  unfold bt leO
  cases hi with
  | none => simp [Rat.not_lt]
  | some u => simp [Rat.not_lt]
end Ks

set_option linter.all false
set_option maxRecDepth 100000
namespace Lk24
open Kb Ks PySem
theorem t11 : (.tup [.int 1, .int 1] : D) = tR 1 := rfl
theorem t01 : (.tup [.int 0, .int 1] : D) = tR 0 := rfl
/-! weighings -/
def tW (nm : Str) (day : Int) (lots : List Int) (rd : D) : D := .tup [.str nm, .int day, .tup (lots.map .int), rd]
theorem put_4 {i j k m : Nat} {x y z w : D} {env : Kb.Env} : (Tg.tp [.nm i, .nm j, .nm k, .nm m]).put (.tup [x, y, z, w]) env = some ((((env.set i (.val x)).set j (.val y)).set k (.val z)).set m (.val w)) := rfl
def lotsOk (lots : List Int) : Bool := lots.all fun l => decide (0 ≤ l) && decide (l ≤ 99)
def ascOk (lots : List Int) : Bool := (List.range (lots.length - 1)).all fun i => decide (lots.getD i 0 < lots.getD (i + 1) 0)
theorem tup_is (a b c d : D) (S : Store) (s1 s2 s3 s4 s5 s6 : Slot) : sTg (.tp [(.nm 1), (.nm 2), (.nm 3), (.nm 4)]) (eN 0) [.val (.tup [a, b, c, d]), s1, s2, s3, s4, s5, s6] S = .ok .nx [.val (.tup [a, b, c, d]), .val a, .val b, .val c, .val d, s5, s6] S := sTg_ev rfl put_4
theorem ixT {lots : List Int} {i : Nat} (h : i < lots.length) : ixD (.tup (lots.map .int)) (.int i) = some (.int (lots.getD i 0)) := ixD_tup (by
  rw [List.getElem?_map, List.getElem?_eq_getElem h, List.getD_eq_getElem?_getD, List.getElem?_eq_getElem h]; rfl)
theorem isw_ev (p : Int × Int) (S : Store) : d_is_weight [tP p] S = .ok (.bl (okP p && decide (0 ≤ p.1))) S := by
  have e1 : d_is_ratio [tP p] S = .ok (.bl (okP p)) S := isratio_ev p.1 p.2 S
  have e2 : d_sign_of [tP p] S = .ok (.int (sgn p.1)) S := sign_ev p.1 p.2 S
  refine fnD_rt rfl (en1 := [.val (tP p)]) ?_
  cases h : okP p
  · rw [h] at e1
    simp [b_is_weight, e1]
  · rw [h] at e1
    simp [b_is_weight, e1, e2, sgn_ge]
/-- the whole check, where name and day are right -/
theorem checkW_ev {nm : Str} {day : Int} (hn : nm ∈ names4) (d0 : 0 ≤ day) (d1 : day ≤ 999) (lots : List Int) (hl : lots.length ≤ 100) (p : Int × Int) (S : Store) : d_check_weighing [tW nm day lots (tP p)] S = if (decide (1 ≤ lots.length) && decide (lots.length ≤ 8) && lotsOk lots && (ascOk lots && (okP p && decide (0 ≤ p.1)))) = true then .ok .non S else .exc "NotAllowed" S := by
  have e1 := scale_yes hn S
  have e2 := day_yes d0 d1 S
  have e3 := isw_ev p S
  have hT := fun s1 s2 s3 s4 s5 s6 => tup_is (.str nm) (.int day) (.tup (lots.map .int)) (tP p) S s1 s2 s3 s4 s5 s6
  have c1 : ∀ a b c d e : Slot, l_check_weighing_1 [a, b, c, .val (.tup (lots.map .int)), d, .no, .no] S = .ok (lots.map fun l => .bl (decide (0 ≤ l) && decide (l ≤ 99))) S := by
    intro a b c d e
    refine mapU (zs := lots) (u := .int) (by simp) (by omega) ?_
    intro z hz
    by_cases h : 0 ≤ z
    · simp [h, c_MAX_NUMBER]
    · simp [h, c_MAX_NUMBER]
  have a1 := allP (fun l : Int => decide (0 ≤ l) && decide (l ≤ 99)) lots
  by_cases h1 : 1 ≤ lots.length
  · have h1' : (1 : Int) ≤ lots.length := by omega
    by_cases h8 : lots.length ≤ 8
    · have h8' : (lots.length : Int) ≤ 8 := by omega
      cases hk : lotsOk lots
      · unfold lotsOk at hk
        rw [hk] at a1
        rw [if_neg (by simp)]
        refine fnD_exc rfl (en1 := [.val (tW nm day lots (tP p)), .val (.str nm), .val (.int day), .val (.tup (lots.map .int)), .val (tP p), .no, .no]) ?_
        unfold tW
        simp [-List.map_map, b_check_weighing, hT, e1, e2, h1, h8, h1', h8', c_MAX_WEIGHED, c1 _ _ _ _ .no, a1]
      · unfold lotsOk at hk
        rw [hk] at a1
        have hr := rng_nat (n := lots.length - 1) (by omega)
        have hrc : (((lots.length - 1 : Nat)) : Int) = (lots.length : Int) - 1 := by omega
        rw [hrc] at hr
        have c2 : ∀ a b c d : Slot, l_check_weighing_2 [a, b, c, .val (.tup (lots.map .int)), d, .no, .no] S = .ok ((List.range (lots.length - 1)).map fun i => .bl (decide (lots.getD i 0 < lots.getD (i + 1) 0))) S := by
          intro a b c d
          refine mapIxD (n := lots.length - 1) (by simp [hr]) (by rw [List.length_map, List.length_range]) (by omega) ?_
          intro i z hz
          have hi : i < lots.length - 1 := by
            have := (List.getElem?_eq_some_iff.mp hz).1
            rwa [List.length_map, List.length_range] at this
          rw [List.getElem?_map, List.getElem?_range hi] at hz
          cases hz
          have i1 := ixT (lots := lots) (i := i) (by omega)
          have i2 : ixD (.tup (lots.map .int)) (.int ((i : Int) + 1)) = some (.int (lots.getD (i + 1) 0)) := ixT (i := i + 1) (by omega)
          rw [List.getD_eq_getElem?_getD] at i1 i2
          simp [i1, i2]
        have a2 := allP (fun i : Nat => decide (lots.getD i 0 < lots.getD (i + 1) 0)) (List.range (lots.length - 1))
        cases ha : ascOk lots
        · unfold ascOk at ha
          rw [ha] at a2
          rw [if_neg (by simp)]
          refine fnD_exc rfl (en1 := [.val (tW nm day lots (tP p)), .val (.str nm), .val (.int day), .val (.tup (lots.map .int)), .val (tP p), .no, .no]) ?_
          unfold tW
          generalize ((List.range (lots.length - 1)).map fun i => D.bl (decide (lots.getD i 0 < lots.getD (i + 1) 0))) = X at *
          simp [-List.map_map, b_check_weighing, hT, e1, e2, h1, h8, h1', h8', c_MAX_WEIGHED, c1 _ _ _ _ .no, a1, c2, a2]
        · unfold ascOk at ha
          rw [ha] at a2
          cases hw : (okP p && decide (0 ≤ p.1))
          · rw [hw] at e3
            rw [if_neg (by simp)]
            refine fnD_exc rfl (en1 := [.val (tW nm day lots (tP p)), .val (.str nm), .val (.int day), .val (.tup (lots.map .int)), .val (tP p), .no, .no]) ?_
            unfold tW
            generalize ((List.range (lots.length - 1)).map fun i => D.bl (decide (lots.getD i 0 < lots.getD (i + 1) 0))) = X at *
            simp [-List.map_map, b_check_weighing, hT, e1, e2, h1, h8, h1', h8', c_MAX_WEIGHED, c1 _ _ _ _ .no, a1, c2, a2, e3]
          · rw [hw] at e3
            rw [if_pos (by simp [h1, h8, lotsOk, ascOk, hk, ha])]
            refine fnD_nx rfl (en1 := [.val (tW nm day lots (tP p)), .val (.str nm), .val (.int day), .val (.tup (lots.map .int)), .val (tP p), .no, .no]) ?_
            unfold tW
            generalize ((List.range (lots.length - 1)).map fun i => D.bl (decide (lots.getD i 0 < lots.getD (i + 1) 0))) = X at *
            simp [-List.map_map, b_check_weighing, hT, e1, e2, h1, h8, h1', h8', c_MAX_WEIGHED, c1 _ _ _ _ .no, a1, c2, a2, e3]
    · have h8' : ¬ (lots.length : Int) ≤ 8 := by omega
      rw [if_neg (by simp [h8])]
      refine fnD_exc rfl (en1 := [.val (tW nm day lots (tP p)), .val (.str nm), .val (.int day), .val (.tup (lots.map .int)), .val (tP p), .no, .no]) ?_
      unfold tW
      simp [-List.map_map, b_check_weighing, hT, e1, e2, h1, h8, h1', h8', c_MAX_WEIGHED]
  · have h1' : ¬ (1 : Int) ≤ lots.length := by omega
    rw [if_neg (by simp [h1])]
    refine fnD_exc rfl (en1 := [.val (tW nm day lots (tP p)), .val (.str nm), .val (.int day), .val (.tup (lots.map .int)), .val (tP p), .no, .no]) ?_
    unfold tW
    simp [-List.map_map, b_check_weighing, hT, e1, e2, h1, h1', c_MAX_WEIGHED]
def BadW (d : D) : Prop := ∀ S, d_check_weighing [d] S = .exc "NotAllowed" S
theorem badW_of {nm : Str} {day : Int} (hn : nm ∈ names4) (d0 : 0 ≤ day) (d1 : day ≤ 999) {lots : List Int} (hl : lots.length ≤ 100) {p : Int × Int} (h : (decide (1 ≤ lots.length) && decide (lots.length ≤ 8) && lotsOk lots && (ascOk lots && (okP p && decide (0 ≤ p.1)))) = false) : BadW (tW nm day lots (tP p)) := fun S => by
  rw [checkW_ev hn d0 d1 lots hl p S, h]
  rfl
theorem badW_scale {z : Str} (h : scOk z = false) (hl : z.length ≤ 1000) (a b c : D) : BadW (.tup [.str z, a, b, c]) := fun S => by
  have e := scale_no h hl S
  have hT := fun s1 s2 s3 s4 s5 s6 => tup_is (.str z) a b c S s1 s2 s3 s4 s5 s6
  refine fnD_exc rfl (en1 := [.val (.tup [.str z, a, b, c]), .val (.str z), .val a, .val b, .val c, .no, .no]) ?_
  simp [b_check_weighing, hT, e]
theorem badW_day {nm : Str} (hn : nm ∈ names4) {d : Int} (h : ¬ (0 ≤ d ∧ d ≤ 999)) (b c : D) : BadW (.tup [.str nm, .int d, b, c]) := fun S => by
  have e := scale_yes hn S
  have e2 := day_no h S
  have hT := fun s1 s2 s3 s4 s5 s6 => tup_is (.str nm) (.int d) b c S s1 s2 s3 s4 s5 s6
  refine fnD_exc rfl (en1 := [.val (.tup [.str nm, .int d, b, c]), .val (.str nm), .val (.int d), .val b, .val c, .no, .no]) ?_
  simp [b_check_weighing, hT, e, e2]
def pq (q : Rat) : Int × Int := (q.num, (q.den : Int))
theorem tP_pq (q : Rat) : tP (pq q) = tR q := rfl
theorem odd_ev {nm : Str} {day : Int} (hn : nm ∈ names4) (d0 : 0 ≤ day) (d1 : day ≤ 999) {lots : List Int} (hl : lots.length ≤ 100) (r : Rat) (v : Int) (S : Store) : ∃ d, d__law_odd [tW nm day lots (tR r), .int v] S = .ok d S ∧ BadW d := by
  have m12 : modD (.int v) (.int 12) = some (.int (v % 12)) := modD_ok (by omega)
  obtain ⟨L, hL⟩ : ∃ L : List D, L = [tW "" day lots (tR r), tW "Aa" day lots (tR r), tW nm (-1) lots (tR r), tW nm 1000 lots (tR r), tW nm day [] (tR r), tW nm day [3, 3] (tR r), tW nm day [4, 2] (tR r), tW nm day [-1, 2] (tR r), tW nm day [100] (tR r), tW nm day [0, 1, 2, 3, 4, 5, 6, 7, 8] (tR r), tW nm day lots (tP (-1, 3)), tW nm day lots (tP (2, 4))] := ⟨_, rfl⟩
  have hb : ∀ d ∈ L, BadW d := by
    intro d hd
    rw [hL] at hd
    simp only [List.mem_cons, List.not_mem_nil, or_false] at hd
    rw [← tP_pq] at hd
    rcases hd with rfl | rfl | rfl | rfl | rfl | rfl | rfl | rfl | rfl | rfl | rfl | rfl
    · exact badW_scale (by decide +kernel) (by decide +kernel) _ _ _
    · exact badW_scale (by decide +kernel) (by decide +kernel) _ _ _
    · exact badW_day hn (by omega) _ _
    · exact badW_day hn (by omega) _ _
    · exact badW_of hn d0 d1 (by simp) rfl
    · exact badW_of hn d0 d1 (by simp) (by rw [show ascOk [3, 3] = false by decide +kernel, Bool.false_and, Bool.and_false])
    · exact badW_of hn d0 d1 (by simp) (by rw [show ascOk [4, 2] = false by decide +kernel, Bool.false_and, Bool.and_false])
    · exact badW_of hn d0 d1 (by simp) (by rw [show lotsOk [-1, 2] = false by decide +kernel, Bool.and_false, Bool.false_and])
    · exact badW_of hn d0 d1 (by simp) (by rw [show lotsOk [100] = false by decide +kernel, Bool.and_false, Bool.false_and])
    · exact badW_of hn d0 d1 (by simp) rfl
    · exact badW_of hn d0 d1 hl (by rw [show decide ((0 : Int) ≤ ((-1 : Int), (3 : Int)).1) = false by decide, Bool.and_false, Bool.and_false, Bool.and_false])
    · exact badW_of hn d0 d1 hl (by rw [show okP (2, 4) = false by decide +kernel, Bool.false_and, Bool.and_false, Bool.and_false])
  have lL : L.length = 12 := by rw [hL]; rfl
  have h0 : 0 ≤ v % 12 := by omega
  obtain ⟨d, hd⟩ := get_of (xs := L) (i := (v % 12).toNat) (by omega)
  have ix := ixD_lst hd
  rw [Int.toNat_of_nonneg h0] at ix
  refine ⟨d, ?_, hb d (List.mem_of_getElem? hd)⟩
  have hT : ∀ a b s2 s3 s4 s5 s6 : Slot, sTg (.tp [(.nm 2), (.nm 3), (.nm 4), (.nm 5)]) (eN 0) [.val (tW nm day lots (tR r)), a, s2, s3, s4, s5, s6] S = .ok .nx [.val (tW nm day lots (tR r)), a, .val (.str nm), .val (.int day), .val (.tup (lots.map .int)), .val (tR r), s6] S := fun a b s2 s3 s4 s5 s6 => sTg_ev rfl put_4
  have p4 : ∀ a b c d : D, tupD [a, b, c, d] = some (.tup [a, b, c, d]) := fun _ _ _ _ => rfl
  have p9 : ∀ a b c d e f g h i : D, tupD [a, b, c, d, e, f, g, h, i] = some (.tup [a, b, c, d, e, f, g, h, i]) := fun _ _ _ _ _ _ _ _ _ => rfl
  have ad : ∀ a b c d e f g h : D, addD (.lst [a, b, c, d]) (.lst [e, f, g, h]) = some (.lst [a, b, c, d, e, f, g, h]) := fun _ _ _ _ _ _ _ _ => rfl
  have ad2 : ∀ a b c d e f g h i j k : D, addD (.lst [a, b, c, d, e, f, g, h]) (.lst [i, j, k]) = some (.lst [a, b, c, d, e, f, g, h, i, j, k]) := fun _ _ _ _ _ _ _ _ _ _ _ => rfl
  have ad3 : ∀ a b c d e f g h i j k l : D, addD (.lst [a, b, c, d, e, f, g, h, i, j, k]) (.lst [l]) = some (.lst [a, b, c, d, e, f, g, h, i, j, k, l]) := fun _ _ _ _ _ _ _ _ _ _ _ _ => rfl
  rw [hL] at ix
  refine fnD_rt rfl (en1 := [.val (tW nm day lots (tR r)), .val (.int v), .val (.str nm), .val (.int day), .val (.tup (lots.map .int)), .val (tR r), .val (.lst (L.take 11))]) ?_
  rw [hL]
  unfold tW at hT ix ⊢
  simp only [tP, List.map_cons, List.map_nil] at ix
  simp [b__law_odd, hT _ .no, p4, p9, ad, ad2, ad3, m12, ix, tP]
/-! places -/
def tI (ps : List Nat) : D := .lst (ps.map nD)
theorem okd_ints (ps : List Nat) : okd 60 (tI ps) = true := by
  unfold tI
  rw [okd]
  exact okds_all fun d hd => by obtain ⟨n, _, rfl⟩ := List.mem_map.mp hd; rfl
theorem any_nD (ps : List Nat) (v : Int) : ((ps.map nD).any fun z => eqv z (.int v)) = ps.any fun p => decide ((p : Int) = v) := by
  rw [List.any_map]
  congr 1
theorem in_pl (ps : List Nat) (v : Int) : inD (.int v) (tI ps) = some (.bl (ps.any fun p => decide ((p : Int) = v))) := by
  show (if (okd 60 (.int v) && okd 60 (tI ps)) = true then some (D.bl ((ps.map nD).any fun z => eqv z (.int v))) else none) = _
  rw [okd_ints, any_nD]
  rfl
theorem nin_pl (ps : List Nat) (v : Int) : ninD (.int v) (tI ps) = some (.bl (!ps.any fun p => decide ((p : Int) = v))) := by
  show (if (okd 60 (.int v) && okd 60 (tI ps)) = true then some (D.bl (!(ps.map nD).any fun z => eqv z (.int v))) else none) = _
  rw [okd_ints, any_nD]
  rfl
theorem any_mem (ps : List Nat) (n : Nat) : (ps.any fun p => decide ((p : Int) = n)) = decide (n ∈ ps) := by
  rw [Bool.eq_iff_iff, List.any_eq_true]
  simp only [decide_eq_true_eq]
  constructor
  · rintro ⟨p, hp, e⟩
    have : p = n := by omega
    rw [← this]; exact hp
  · intro h
    exact ⟨n, h, rfl⟩
/-- places that are right -/
structure Pls (w : Nat) (ps : List Nat) : Prop where
  nd : ps.Nodup
  lt : ∀ p ∈ ps, p < w
  ne : ps ≠ []
  ln : ps.length ≤ 6
theorem places_ev {ns : List Int} (hN : N3 ns) (hl : 8 ≤ ns.length) {w : Nat} (w1 : 1 ≤ w) (w2 : w ≤ 24) (S : Store) : ∃ ps, Pls w ps ∧ d__law_places [.lst (nums ns), .int w] S = .ok (tI ps) S := by
  have g0 : ixD (.lst (ns.map .int)) (.int 0) = some (.int (ns.getD 0 0)) := gets (k := 0) (by omega)
  generalize ns.getD 0 0 = v0 at *
  obtain ⟨m, hm, m1, m6⟩ : ∃ m : Int, minD [.int 6, .int w] = some (.int m) ∧ 1 ≤ m ∧ m ≤ 6 := by
    refine ⟨if (w : Int) < 6 then w else 6, rfl, ?_, ?_⟩ <;> split <;> omega
  have e0 : modD (.int v0) (.int m) = some (.int (v0 % m)) := modD_ok (by omega)
  have b0 : 0 ≤ v0 % m := Int.emod_nonneg _ (by omega)
  have b1 : v0 % m < m := Int.emod_lt_of_pos _ (by omega)
  obtain ⟨n, hn⟩ : ∃ n : Nat, 1 + v0 % m = n := ⟨(1 + v0 % m).toNat, by omega⟩
  have hr := rng_nat (n := n) (by omega)
  have L : Wp (forGo (.nm 3) b__law_places_1 (rngI 0 n) [.val (.lst (nums ns)), .val (.int w), .own [], .no, .no] S) (fun f e S1 => f = .nx ∧ S1 = S ∧ ∃ (ps : List Nat) (t3 t4 : Slot), Pls w ps ∧ e = [.val (.lst (nums ns)), .val (.int w), .own (ps.map nD), t3, t4]) := by
    refine wp_rng0 (fun i e S1 => S1 = S ∧ ∃ (ps : List Nat) (t3 t4 : Slot), ps.Nodup ∧ (∀ p ∈ ps, p < w) ∧ ps.length ≤ i ∧ (1 ≤ i → ps ≠ []) ∧ e = [.val (.lst (nums ns)), .val (.int w), .own (ps.map nD), t3, t4]) ⟨rfl, [], _, _, List.nodup_nil, fun p h => absurd h List.not_mem_nil, by simp, fun h => by omega, rfl⟩ ?_ ?_
    · rintro i e S1 hi ⟨rfl, ps, t3, t4, h1, h2, h3, h4, rfl⟩
      have gi : ixD (.lst (ns.map .int)) (.int (1 + i)) = some (.int (ns.getD (1 + i) 0)) := by
        have := gets (ns := ns) (k := 1 + i) (by omega)
        simpa using this
      generalize ns.getD (1 + i) 0 = v at *
      obtain ⟨k, k1, _, k2⟩ := mod_at (ns := ns) (n := w) (by omega) v
      have nn := nin_pl ps k
      rw [any_mem] at nn
      have hl' : ps.length < 16777216 := by omega
      have ti : (.lst (ps.map nD) : D) = tI ps := rfl
      by_cases hk : k ∈ ps
      · rw [decide_eq_true hk] at nn
        simp [-List.map_map, b__law_places_1, gi, k2, ti, nn]
        refine ⟨ps, h1, h2, by omega, ?_, rfl⟩
        intro e
        rw [e] at hk
        cases hk
      · rw [decide_eq_false hk] at nn
        simp [-List.map_map, b__law_places_1, gi, k2, ti, nn, sApp, LN, hl']
        refine ⟨ps ++ [k], ?_, ?_, by simp; omega, by simp, by simp [nD]⟩
        · rw [List.nodup_append]
          exact ⟨h1, by simp, fun a ha b hb => by rw [List.mem_singleton.mp hb]; rintro rfl; exact hk ha⟩
        · intro p hp
          rcases List.mem_append.mp hp with hp | hp
          · exact h2 p hp
          · rw [List.mem_singleton.mp hp]; exact k1
    · rintro e S1 ⟨rfl, ps, t3, t4, h1, h2, h3, h4, rfl⟩
      exact ⟨rfl, rfl, ps, _, _, ⟨h1, h2, h4 (by omega), by omega⟩, rfl⟩
  obtain ⟨f, e, S1, h, rfl, rfl, ps, t3, t4, h1, rfl⟩ := wp_out L
  refine ⟨ps, h1, fnD_rt rfl (en1 := [.val (.lst (nums ns)), .val (.int w), .val (tI ps), t3, t4]) ?_⟩
  simp only [nums] at h
  simp [-List.map_map, b__law_places, g0, hm, e0, hn, hr, h, frz, tI]
/-! conditions -/
def rowOf (f : Rat) (ps : List Nat) (w : Nat) : List Rat := (List.range w).map fun i => if i ∈ ps then f else 0
theorem rowOf_at {f : Rat} {ps : List Nat} {w i : Nat} (h : i < w) : (rowOf f ps w)[i]? = some (if i ∈ ps then f else 0) := by
  unfold rowOf
  rw [List.getElem?_map, List.getElem?_range h]
  rfl
theorem rowOf_len (f : Rat) (ps : List Nat) (w : Nat) : (rowOf f ps w).length = w := by
  unfold rowOf
  rw [List.length_map, List.length_range]
theorem rowOf_b {k : Nat} {f : Rat} (hf : Bd k f) (hk : 1 ≤ k) (ps : List Nat) (w : Nat) : BdL k (rowOf f ps w) := by
  intro x hx
  obtain ⟨i, _, rfl⟩ := List.mem_map.mp hx
  split
  · exact hf
  · exact Bd0 hk
theorem ded_self {ns : List Int} (h : ns.Nodup) : ded ns = ns := by
  have go : ∀ (ns acc : List Int), (acc ++ ns).Nodup → ns.foldl (fun acc x => if acc.any (· == x) then acc else acc ++ [x]) acc = acc ++ ns := by
    intro ns
    induction ns with
    | nil => intro acc _; simp
    | cons x ns ih =>
      intro acc h
      have hx : (acc.any (· == x)) = false := by
        cases q : acc.any (· == x) with
        | false => rfl
        | true =>
          obtain ⟨y, hy, ey⟩ := List.any_eq_true.mp q
          have e : y = x := eq_of_beq ey
          subst e
          exact absurd rfl ((List.nodup_append.mp h).2.2 y hy y List.mem_cons_self)
      rw [List.foldl_cons, hx]
      show List.foldl _ (acc ++ [x]) ns = _
      rw [ih (acc ++ [x]) (by rw [List.append_assoc]; exact h), List.append_assoc]
      rfl
  exact go ns [] (by simpa using h)
theorem ded_snoc {ns : List Int} (h : ns.Nodup) {x : Int} (hx : x ∈ ns) : ded (ns ++ [x]) = ns := by
  have e : ded (ns ++ [x]) = (if (ded ns).any (· == x) then ded ns else ded ns ++ [x]) := by
    unfold ded
    rw [List.foldl_append]
    rfl
  rw [e, ded_self h, if_pos]
  exact List.any_eq_true.mpr ⟨x, hx, by simp⟩
def asI (ps : List Nat) : List Int := ps.map fun p : Nat => (p : Int)
theorem tI_ints (ps : List Nat) : tI ps = .lst ((asI ps).map .int) := by
  unfold tI asI
  rw [List.map_map]
  rfl
theorem intsOf_map : ∀ ns : List Int, intsOf (ns.map .int) = some ns
  | [] => rfl
  | n :: ns => by rw [List.map_cons, intsOf, intsOf_map ns]; rfl
theorem nd_ints {ps : List Nat} (h : ps.Nodup) : (asI ps).Nodup := by
  unfold asI
  rw [List.Nodup, List.pairwise_map]
  exact h.imp fun h e => h (by exact_mod_cast e)
theorem lenSet_ev (ns : List Int) (h : ns.length ≤ 4000) : lenSetD (.lst (ns.map .int)) = some (.int (ded ns).length) := by
  show ((intsOf (ns.map .int)).bind fun ns => if ns.length ≤ 4000 then some (D.int (ded ns).length) else none) = _
  rw [intsOf_map, Option.bind_some, if_pos h]
/-- refused for places that are not -/
theorem wc_no {w : Nat} (ns : List Int) (hl : ns.length ≤ 100) (h : (ns.all fun p : Int => decide (0 ≤ p) && decide (p < w)) = false ∨ (ded ns).length < ns.length) (a b : D) (S : Store) : d_weighing_conditions [a, b, .lst (ns.map .int), .int w] S = .exc "NotAllowed" S := by
  have c1 : ∀ s4 s5 s6 s7 s8 s9 s10 s11 s12 s13 s14 s15 : Slot, l_weighing_conditions_1 [.val a, .val b, .val (.lst (ns.map .int)), .val (.int w), s4, s5, s6, s7, s8, s9, s10, s11, s12, s13, s14, s15, .no] S = .ok (ns.map fun p : Int => .bl (decide (0 ≤ p) && decide (p < w))) S := by
    intro s4 s5 s6 s7 s8 s9 s10 s11 s12 s13 s14 s15
    refine mapU (zs := ns) (u := .int) (by simp) (by omega) ?_
    intro z hz
    by_cases h : 0 ≤ z
    · simp [h]
    · simp [h]
  have a1 := allP (fun p : Int => decide (0 ≤ p) && decide (p < w)) ns
  have ls := lenSet_ev ns (by omega)
  refine fnD_exc rfl (en1 := [.val a, .val b, .val (.lst (ns.map .int)), .val (.int w), .no, .no, .no, .no, .no, .no, .no, .no, .no, .no, .no, .no, .no]) ?_
  cases q : (ns.all fun p : Int => decide (0 ≤ p) && decide (p < w))
  · rw [q] at a1
    simp [-List.map_map, b_weighing_conditions, c1, a1]
  · rw [q] at a1
    have h2 : (ded ns).length < ns.length := by
      rcases h with h | h
      · rw [q] at h; cases h
      · exact h
    have h2' : (((ded ns).length : Nat) : Int) < ns.length := by omega
    simp [-List.map_map, b_weighing_conditions, c1, a1, ls, h2, h2']
def cU (r : Rat) (ps : List Nat) (w : Nat) (p : Rat × Rat) : Con := ⟨rowOf (1 - p.2) ps w, true, r + p.1⟩
def cL (r : Rat) (ps : List Nat) (w : Nat) (p : Rat × Rat) : Con := ⟨rowOf (-(1 + p.2)) ps w, true, p.1 - r⟩
def conds (r : Rat) (ps : List Nat) (w : Nat) (l : List (Rat × Rat)) : List Con := l.flatMap fun p => [cU r ps w p, cL r ps w p]
theorem conds_snoc {r : Rat} {ps : List Nat} {w : Nat} {l : List (Rat × Rat)} {i : Nat} {p : Rat × Rat} (h : l[i]? = some p) : conds r ps w (l.take (i + 1)) = conds r ps w (l.take i) ++ [cU r ps w p, cL r ps w p] := by
  unfold conds
  rw [List.take_succ, h, List.flatMap_append]
  rfl
theorem conds_len {r : Rat} {ps : List Nat} {w : Nat} (l : List (Rat × Rat)) : (conds r ps w l).length = 2 * l.length := by
  induction l with
  | nil => rfl
  | cons p l ih =>
    unfold conds at *
    rw [List.flatMap_cons, List.length_append, ih, List.length_cons]
    simp
    omega
theorem row_turn {w : Nat} (w2 : w ≤ 24) (ps : List Nat) (f b : Rat) (a0 a1 a4 a5 a6 a7 s9 s10 s11 s12 s15 : Slot) (cs : List Con) (hl : cs.length < 10000) (S : Store) : b_weighing_conditions_3 [a0, a1, .val (tI ps), .val (.int w), a4, a5, a6, a7, .own (cs.map tC), s9, s10, s11, s12, .val (tR f), .val (tR b), s15, .no] S = .ok .nx [a0, a1, .val (tI ps), .val (.int w), a4, a5, a6, a7, .own ((cs ++ [Con.mk (rowOf f ps w) true b]).map tC), s9, s10, s11, s12, .val (tR f), .val (tR b), .val (tL (rowOf f ps w)), .no] S := by
  have hr := rng_nat (n := w) (by omega)
  have z0 : c_ZERO = tR 0 := rfl
  have c1 : l_weighing_conditions_2 [a0, a1, .val (tI ps), .val (.int w), a4, a5, a6, a7, .own (cs.map tC), s9, s10, s11, s12, .val (tR f), .val (tR b), s15, .no] S = .ok ((rowOf f ps w).map tR) S := by
    refine mapIx (n := w) (by simp [hr]) (rowOf_len f ps w) (by omega) ?_
    intro i z hz
    have hi : i < w := by
      have := (List.getElem?_eq_some_iff.mp hz).1
      rwa [rowOf_len] at this
    rw [rowOf_at hi] at hz
    cases hz
    have ii := in_pl ps i
    rw [any_mem] at ii
    by_cases h : i ∈ ps
    · rw [decide_eq_true h] at ii
      simp [ii, h]
    · rw [decide_eq_false h] at ii
      simp [ii, h, z0]
  have hl' : cs.length < 16777216 := by omega
  have tc : (.tup [tL (rowOf f ps w), .str "<=", tR b] : D) = tC (Con.mk (rowOf f ps w) true b) := rfl
  simp [b_weighing_conditions_3, c1, sApp, LN, hl', tL_def, tc]
theorem wc_ev {es : List En} {nm : Str} {day : Int} {r : Rat} (ho : Oks es) (hn : nm ∈ names4) (d0 : 0 ≤ day) (d1 : day ≤ 999) (hl : es.length ≤ 1000) (rb : Bd 200 r) {w : Nat} (w1 : 1 ≤ w) (w2 : w ≤ 24) {ps : List Nat} (hp : ps.Nodup ∧ (∀ p ∈ ps, p < w) ∧ ps.length ≤ 100) (lots : List Int) (S : Store) : d_weighing_conditions [tDr es, tW nm day lots (tR r), tI ps, .int w] S = .ok (.lst ((conds r ps w (sls nm day es)).map tC)) S := by
  have el := limits_ev ho hn d0 d1 hl S
  have hs := sls_ok (nm := nm) ho d0 d1
  have ll := sls_len (nm := nm) (day := day) (es := es)
  generalize sls nm day es = l at *
  have c1 : ∀ s4 s5 s6 s7 s8 s9 s10 s11 s12 s13 s14 s15 : Slot, l_weighing_conditions_1 [.val (tDr es), .val (tW nm day lots (tR r)), .val (tI ps), .val (.int w), s4, s5, s6, s7, s8, s9, s10, s11, s12, s13, s14, s15, .no] S = .ok (ps.map fun p : Nat => .bl (decide (0 ≤ (p : Int)) && decide ((p : Int) < w))) S := by
    intro s4 s5 s6 s7 s8 s9 s10 s11 s12 s13 s14 s15
    refine mapU (zs := ps) (u := nD) (by simp [tI]) (by omega) ?_
    intro z hz
    have h : (0 : Int) ≤ z := by omega
    simp [nD, h]
  have a1 := allP (fun p : Nat => decide (0 ≤ (p : Int)) && decide ((p : Int) < w)) ps
  have al : (ps.all fun p : Nat => decide (0 ≤ (p : Int)) && decide ((p : Int) < w)) = true := by
    rw [List.all_eq_true]
    intro p h
    have := hp.2.1 p h
    rw [decide_eq_true (by omega : (0 : Int) ≤ p), decide_eq_true (by omega : (p : Int) < w)]
    rfl
  rw [al] at a1
  generalize (ps.map fun p : Nat => D.bl (decide (0 ≤ (p : Int)) && decide ((p : Int) < w))) = X at c1 a1
  have ls : lenSetD (tI ps) = some (.int ps.length) := by
    rw [tI_ints, lenSet_ev _ (by unfold asI; rw [List.length_map]; omega), ded_self (nd_ints hp.1)]
    unfold asI
    rw [List.length_map]
  have ln : lenD [tI ps] = some (.int ps.length) := by unfold tI; rw [lenD_lst, List.length_map]
  have hT : ∀ s4 s5 s6 s7 s8 s9 s10 s11 s12 s13 s14 s15 s16 : Slot, sTg (.tp [(.nm 4), (.nm 5), (.nm 6), (.nm 7)]) (eN 1) [.val (tDr es), .val (tW nm day lots (tR r)), .val (tI ps), .val (.int w), s4, s5, s6, s7, s8, s9, s10, s11, s12, s13, s14, s15, s16] S = .ok .nx [.val (tDr es), .val (tW nm day lots (tR r)), .val (tI ps), .val (.int w), .val (.str nm), .val (.int day), .val (.tup (lots.map .int)), .val (tR r), s8, s9, s10, s11, s12, s13, s14, s15, s16] S := fun _ _ _ _ _ _ _ _ _ _ _ _ _ => sTg_ev rfl put_4
  have o1 : c_ONE = tR 1 := rfl
  have L : Wp (forGo (.tp [.nm 9, .nm 10]) b_weighing_conditions_4 (l.map tSl) [.val (tDr es), .val (tW nm day lots (tR r)), .val (tI ps), .val (.int w), .val (.str nm), .val (.int day), .val (.tup (lots.map .int)), .val (tR r), .own [], .no, .no, .no, .no, .no, .no, .no, .no] S) (fun f e S1 => f = .nx ∧ S1 = S ∧ ∃ s9 s10 s11 s12 s13 s14 s15, e = [.val (tDr es), .val (tW nm day lots (tR r)), .val (tI ps), .val (.int w), .val (.str nm), .val (.int day), .val (.tup (lots.map .int)), .val (tR r), .own ((conds r ps w l).map tC), s9, s10, s11, s12, s13, s14, s15, .no]) := by
    refine wp_for (fun i e S1 => S1 = S ∧ i ≤ l.length ∧ ∃ s9 s10 s11 s12 s13 s14 s15, e = [.val (tDr es), .val (tW nm day lots (tR r)), .val (tI ps), .val (.int w), .val (.str nm), .val (.int day), .val (.tup (lots.map .int)), .val (tR r), .own ((conds r ps w (l.take i)).map tC), s9, s10, s11, s12, s13, s14, s15, .no]) ⟨rfl, by omega, _, _, _, _, _, _, _, rfl⟩ ?_ ?_
    · rintro i x e S1 hd ⟨rfl, _, s9, s10, s11, s12, s13, s14, s15, rfl⟩
      obtain ⟨p, hpp, rfl⟩ := slot_at hd
      have hi : i < l.length := (List.getElem?_eq_some_iff.mp hpp).1
      obtain ⟨h1, h2, h3, h4, h5⟩ := hs p (List.mem_of_getElem? hpp)
      have f1 := minus_ev (Bd1 (Nat.le_refl 1)) h5 (by omega) S1
      have f2 := plus_ev rb h4 (by omega) S1
      have f3 := plus_ev (Bd1 (Nat.le_refl 1)) h5 (by omega) S1
      have f4 := negated_ev (1 + p.2) S1
      have f5 := minus_ev h4 rb (by omega) S1
      rw [conds_snoc hpp]
      have hc : (conds r ps w (l.take i)).length < 5000 := by rw [conds_len, List.length_take]; omega
      generalize conds r ps w (l.take i) = cs at *
      have q1 := fun a9 a10 a11 a12 a15 => row_turn w2 ps (1 - p.2) (r + p.1) (.val (tDr es)) (.val (tW nm day lots (tR r))) (.val (.str nm)) (.val (.int day)) (.val (.tup (lots.map .int))) (.val (tR r)) a9 a10 a11 a12 a15 cs (by omega) S1
      have q2 := fun a9 a10 a11 a12 a15 => row_turn w2 ps (-(1 + p.2)) (p.1 - r) (.val (tDr es)) (.val (tW nm day lots (tR r))) (.val (.str nm)) (.val (.int day)) (.val (.tup (lots.map .int))) (.val (tR r)) a9 a10 a11 a12 a15 (cs ++ [cU r ps w p]) (by rw [List.length_append]; simp only [List.length_singleton]; omega) S1
      have cc : cs ++ [cU r ps w p, cL r ps w p] = cs ++ [cU r ps w p] ++ [cL r ps w p] := by simp
      rw [cc]
      refine ⟨_, put_2, ?_⟩
      have inner : ∀ s13 s14 s15 : Slot, forGo (.tp [(.nm 13), (.nm 14)]) b_weighing_conditions_3 [.tup [tR (1 - p.2), tR (r + p.1)], .tup [tR (-(1 + p.2)), tR (p.1 - r)]] [.val (tDr es), .val (tW nm day lots (tR r)), .val (tI ps), .val (.int w), .val (.str nm), .val (.int day), .val (.tup (lots.map .int)), .val (tR r), .own (cs.map tC), .val (tR p.1), .val (tR p.2), .val (.tup [tR (1 - p.2), tR (r + p.1)]), .val (.tup [tR (-(1 + p.2)), tR (p.1 - r)]), s13, s14, s15, .no] S1 = .ok .nx [.val (tDr es), .val (tW nm day lots (tR r)), .val (tI ps), .val (.int w), .val (.str nm), .val (.int day), .val (.tup (lots.map .int)), .val (tR r), .own ((cs ++ [cU r ps w p] ++ [cL r ps w p]).map tC), .val (tR p.1), .val (tR p.2), .val (.tup [tR (1 - p.2), tR (r + p.1)]), .val (.tup [tR (-(1 + p.2)), tR (p.1 - r)]), .val (tR (-(1 + p.2))), .val (tR (p.1 - r)), .val (tL (rowOf (-(1 + p.2)) ps w)), .no] S1 := by
        intro s13 s14 s15
        exact (forGo_cons put_2 (q1 _ _ _ _ _)).trans ((forGo_cons put_2 (q2 _ _ _ _ _)).trans rfl)
      simp only [b_weighing_conditions_4, sSeq_ev, List.set]
      simp [-List.map_append, -List.append_assoc, o1, f1, f2, f3, f4, f5, inner]
      omega
    · rintro e S1 ⟨rfl, _, s9, s10, s11, s12, s13, s14, s15, rfl⟩
      rw [List.length_map, List.take_length]
      exact ⟨rfl, rfl, _, _, _, _, _, _, _, rfl⟩
  obtain ⟨f, e, S1, h, rfl, rfl, s9, s10, s11, s12, s13, s14, s15, rfl⟩ := wp_out L
  refine fnD_rt rfl (en1 := [.val (tDr es), .val (tW nm day lots (tR r)), .val (tI ps), .val (.int w), .val (.str nm), .val (.int day), .val (.tup (lots.map .int)), .val (tR r), .val (.lst ((conds r ps w l).map tC)), s9, s10, s11, s12, s13, s14, s15, .no]) ?_
  simp [-List.map_map, b_weighing_conditions, c1, a1, ls, ln, hT, el, h, frz]
/-! the law's own conditions -/
@[simp] theorem tW0 (nm : Str) (day : Int) (lots : List Int) (rd : D) : ixD (tW nm day lots rd) (.int 0) = some (.str nm) := (rfl)
@[simp] theorem tW1 (nm : Str) (day : Int) (lots : List Int) (rd : D) : ixD (tW nm day lots rd) (.int 1) = some (.int day) := (rfl)
@[simp] theorem tW3 (nm : Str) (day : Int) (lots : List Int) (rd : D) : ixD (tW nm day lots rd) (.int 3) = some rd := (rfl)
theorem rowOf_nil (f : Rat) (w : Nat) : (rowOf f [] w).map tR = List.replicate w (tR 0) := by
  unfold rowOf
  rw [List.map_map]
  apply List.ext_getElem?
  intro i
  by_cases h : i < w
  · rw [List.getElem?_map, List.getElem?_range h, List.getElem?_replicate, if_pos h]
    simp
  · rw [List.getElem?_eq_none (by rw [List.length_map, List.length_range]; omega), List.getElem?_eq_none (by rw [List.length_replicate]; omega)]
theorem rowOf_set {f : Rat} {ps : List Nat} {w j q : Nat} (h : ps[j]? = some q) (hq : q < w) : (rowOf f (ps.take (j + 1)) w).map tR = ((rowOf f (ps.take j) w).map tR).set q (tR f) := by
  rw [← List.map_set]
  congr 1
  apply List.ext_getElem?
  intro i
  by_cases hi : i < w
  · rw [rowOf_at hi, List.getElem?_set]
    have m : i ∈ ps.take (j + 1) ↔ i ∈ ps.take j ∨ i = q := by
      rw [List.take_succ, h]
      simp
    by_cases e : q = i
    · subst e
      rw [if_pos rfl, if_pos (m.mpr (.inr rfl)), if_pos (by rw [rowOf_len]; exact hi)]
    · rw [if_neg e, rowOf_at hi]
      by_cases h2 : i ∈ ps.take j
      · rw [if_pos h2, if_pos (m.mpr (.inl h2))]
      · rw [if_neg h2, if_neg (fun z => (m.mp z).elim h2 (fun z => e z.symm))]
  · rw [List.getElem?_eq_none (by rw [rowOf_len]; omega), List.getElem?_eq_none (by rw [List.length_set, rowOf_len]; omega)]
theorem rep_flat1 : ∀ (n : Nat) (x : D), (List.replicate n [x]).flatten = List.replicate n x := by
  intro n x
  induction n with
  | zero => rfl
  | succ n ih => rw [List.replicate_succ, List.flatten_cons, ih, List.replicate_succ]; rfl
theorem put_loop {w : Nat} {ps : List Nat} (hp : ∀ p ∈ ps, p < w) (a0 a1 a3 a4 a5 : Slot) {h : Rat} (hb : Bd 20 h) (S : Store) : ∃ s9, forGo (.nm 9) b__law_conditions_1 (ps.map nD) [a0, a1, .val (tI ps), a3, a4, a5, .val (tR h), .own (List.replicate w (tR 0)), .own (List.replicate w (tR 0)), .no] S = .ok .nx [a0, a1, .val (tI ps), a3, a4, a5, .val (tR h), .own ((rowOf (1 - h) ps w).map tR), .own ((rowOf (-(1 + h)) ps w).map tR), s9] S ∧ ∀ s9, ∃ t9, forGo (.nm 9) b__law_conditions_1 (ps.map nD) [a0, a1, .val (tI ps), a3, a4, a5, .val (tR h), .own (List.replicate w (tR 0)), .own (List.replicate w (tR 0)), s9] S = .ok .nx [a0, a1, .val (tI ps), a3, a4, a5, .val (tR h), .own ((rowOf (1 - h) ps w).map tR), .own ((rowOf (-(1 + h)) ps w).map tR), t9] S := by
  have go : ∀ s9, ∃ t9, forGo (.nm 9) b__law_conditions_1 (ps.map nD) [a0, a1, .val (tI ps), a3, a4, a5, .val (tR h), .own (List.replicate w (tR 0)), .own (List.replicate w (tR 0)), s9] S = .ok .nx [a0, a1, .val (tI ps), a3, a4, a5, .val (tR h), .own ((rowOf (1 - h) ps w).map tR), .own ((rowOf (-(1 + h)) ps w).map tR), t9] S := by
    intro s9
    have L : Wp (forGo (.nm 9) b__law_conditions_1 (ps.map nD) [a0, a1, .val (tI ps), a3, a4, a5, .val (tR h), .own (List.replicate w (tR 0)), .own (List.replicate w (tR 0)), s9] S) (fun f e S1 => f = .nx ∧ S1 = S ∧ ∃ t9, e = [a0, a1, .val (tI ps), a3, a4, a5, .val (tR h), .own ((rowOf (1 - h) ps w).map tR), .own ((rowOf (-(1 + h)) ps w).map tR), t9]) := by
      refine wp_for (fun i e S1 => S1 = S ∧ ∃ t9, e = [a0, a1, .val (tI ps), a3, a4, a5, .val (tR h), .own ((rowOf (1 - h) (ps.take i) w).map tR), .own ((rowOf (-(1 + h)) (ps.take i) w).map tR), t9]) ⟨rfl, s9, by rw [List.take_zero, rowOf_nil, rowOf_nil]⟩ ?_ ?_
      · rintro j d e S1 hd ⟨rfl, t9, rfl⟩
        rw [List.getElem?_map] at hd
        cases hj : ps[j]? with
        | none => rw [hj] at hd; cases hd
        | some q =>
          rw [hj] at hd
          cases hd
          have hq := hp q (List.mem_of_getElem? hj)
          have f1 := minusC_ev (Bd1 (Nat.le_refl 1)) hb (by omega) S1
          have f2 := plusC_ev (Bd1 (Nat.le_refl 1)) hb (by omega) S1
          have f3 := minusC_ev (Bd0 (Nat.le_refl 1)) ((Bd1 (Nat.le_refl 1)).add hb) (by omega) S1
          have z : (0 : Rat) - (1 + h) = -(1 + h) := by grind
          rw [z] at f3
          refine ⟨_, put_nm, ?_⟩
          rw [rowOf_set hj hq, rowOf_set hj hq]
          have l1 := rowOf_len (1 - h) (ps.take j) w
          have l2 := rowOf_len (-(1 + h)) (ps.take j) w
          generalize hx : (rowOf (1 - h) (ps.take j) w).map tR = X
          generalize hy : (rowOf (-(1 + h)) (ps.take j) w).map tR = Y
          have k1 : ixN X.length (q : Int) = some q := by rw [← hx, List.length_map, l1]; exact ixN_nat hq
          have k2 : ixN Y.length (q : Int) = some q := by rw [← hy, List.length_map, l2]; exact ixN_nat hq
          simp [b__law_conditions_1, t11, t01, f1, f2, f3, sPut, nD, k1, k2]
      · rintro e S1 ⟨rfl, t9, rfl⟩
        rw [List.length_map, List.take_length]
        exact ⟨rfl, rfl, _, rfl⟩
    obtain ⟨f, e, S1, hh, rfl, rfl, t9, rfl⟩ := wp_out L
    exact ⟨t9, hh⟩
  obtain ⟨t9, ht⟩ := go .no
  exact ⟨t9, ht, go⟩
theorem lconds_ev {es : List En} {nm : Str} {day : Int} {r : Rat} (ho : Oks es) (hn : nm ∈ names4) (d0 : 0 ≤ day) (d1 : day ≤ 999) (hl : es.length ≤ 1000) (rb : Bd 200 r) {w : Nat} (w2 : w ≤ 24) {ps : List Nat} (hp : ∀ p ∈ ps, p < w) (lots : List Int) (S : Store) : d__law_conditions [tDr es, tW nm day lots (tR r), tI ps, .int w] S = .ok (.lst ((conds r ps w (sls nm day es)).map tC)) S := by
  have el := slacksC_ev ho hn d0 d1 hl S
  have hs := sls_ok (nm := nm) ho d0 d1
  have ll := sls_len (nm := nm) (day := day) (es := es)
  generalize sls nm day es = l at *
  have L : Wp (forGo (.tp [.nm 5, .nm 6]) b__law_conditions_2 (l.map tSl) [.val (tDr es), .val (tW nm day lots (tR r)), .val (tI ps), .val (.int w), .own [], .no, .no, .no, .no, .no] S) (fun f e S1 => f = .nx ∧ S1 = S ∧ ∃ s5 s6 s7 s8 s9, e = [.val (tDr es), .val (tW nm day lots (tR r)), .val (tI ps), .val (.int w), .own ((conds r ps w l).map tC), s5, s6, s7, s8, s9]) := by
    refine wp_for (fun i e S1 => S1 = S ∧ i ≤ l.length ∧ ∃ s5 s6 s7 s8 s9, e = [.val (tDr es), .val (tW nm day lots (tR r)), .val (tI ps), .val (.int w), .own ((conds r ps w (l.take i)).map tC), s5, s6, s7, s8, s9]) ⟨rfl, by omega, _, _, _, _, _, rfl⟩ ?_ ?_
    · rintro i x e S1 hd ⟨rfl, _, s5, s6, s7, s8, s9, rfl⟩
      obtain ⟨p, hpp, rfl⟩ := slot_at hd
      have hi : i < l.length := (List.getElem?_eq_some_iff.mp hpp).1
      obtain ⟨h1, h2, h3, h4, h5⟩ := hs p (List.mem_of_getElem? hpp)
      have f2 := plusC_ev rb h4 (by omega) S1
      have f5 := minusC_ev h4 rb (by omega) S1
      rw [conds_snoc hpp]
      have hc : (conds r ps w (l.take i)).length < 5000 := by rw [conds_len, List.length_take]; omega
      generalize conds r ps w (l.take i) = cs at *
      obtain ⟨_, _, lp⟩ := put_loop (w := w) (ps := ps) hp (.val (tDr es)) (.val (tW nm day lots (tR r))) (.val (.int w)) (.own (cs.map tC)) (.val (tR p.1)) h5 S1
      obtain ⟨t9, ht⟩ := lp s9
      have mu : (List.replicate ((w : Int)).toNat [tR 0]).flatten = List.replicate w (tR 0) := by rw [Int.toNat_natCast, rep_flat1]
      have cnd : -100000 ≤ (w : Int) ∧ (w : Int) ≤ 100000 ∧ [tR 0].length * ((w : Int)).toNat ≤ 16777216 := ⟨by omega, by omega, by simp; omega⟩
      have tc1 : (.tup [.tup ((rowOf (1 - p.2) ps w).map tR), .str "<=", tR (r + p.1)] : D) = tC (cU r ps w p) := rfl
      have tc2 : (.tup [.tup ((rowOf (-(1 + p.2)) ps w).map tR), .str "<=", tR (p.1 - r)] : D) = tC (cL r ps w p) := rfl
      have sqp : seqD (tI ps) = some (ps.map nD) := rfl
      have l1 : cs.length < 16777216 := by omega
      have l2 : cs.length + 1 < 16777216 := by omega
      refine ⟨_, put_2, ?_⟩
      generalize (rowOf (1 - p.2) ps w).map tR = X at *
      generalize (rowOf (-(1 + p.2)) ps w).map tR = Y at *
      have m1 : -100000 ≤ (w : Int) := by omega
      have m2 : (w : Int) ≤ 100000 := by omega
      have m3 : w ≤ 16777216 := by omega
      have m4 : w ≤ 100000 := by omega
      simp [b__law_conditions_2, t01, LN, mu, rep_flat1, m1, m2, m3, m4, sqp, ht, f2, f5, tc1, tc2, sApp, l1, l2]
      omega
    · rintro e S1 ⟨rfl, _, s5, s6, s7, s8, s9, rfl⟩
      rw [List.length_map, List.take_length]
      exact ⟨rfl, rfl, _, _, _, _, _, rfl⟩
  obtain ⟨f, e, S1, h, rfl, rfl, s5, s6, s7, s8, s9, rfl⟩ := wp_out L
  refine fnD_rt rfl (en1 := [.val (tDr es), .val (tW nm day lots (tR r)), .val (tI ps), .val (.int w), .val (.lst ((conds r ps w l).map tC)), s5, s6, s7, s8, s9]) ?_
  simp [-List.map_map, b__law_conditions, el, h, frz]
/-! ends and sums -/
def pr (lo : Rat) (hi : Option Rat) : D := .tup [tR lo, oR hi]
def toldD (r : Rat) (l : List (Rat × Rat)) : D := if never r l = true then .non else pr (loF r l) (hiF r l)
theorem lends_ev {es : List En} {nm : Str} {day : Int} {r : Rat} (ho : Oks es) (hn : nm ∈ names4) (d0 : 0 ≤ day) (d1 : day ≤ 999) (hl : es.length ≤ 1000) (r0 : 0 ≤ r) (rb : Bd 200 r) (lots : List Int) (S : Store) : d__law_ends [tDr es, tW nm day lots (tR r)] S = .ok (toldD r (sls nm day es)) S := by
  have e := ends_ev ho hn d0 d1 hl r0 rb S
  generalize sls nm day es = l at *
  unfold toldD
  cases hc : never r l
  · rw [hc, if_neg Bool.false_ne_true] at e
    refine fnD_rt rfl (en1 := [.val (tDr es), .val (tW nm day lots (tR r))]) ?_
    simp [b__law_ends, sTry, e, pr]
  · rw [hc, if_pos rfl] at e
    refine fnD_rt rfl (en1 := [.val (tDr es), .val (tW nm day lots (tR r))]) ?_
    simp [b__law_ends, sTry, e, List.lookup, notEx]
def Xs (n : Nat) (xs : List Rat) : Prop := xs.length ≤ n ∧ ∀ x ∈ xs, 0 ≤ x ∧ Bd 340 x
theorem Xs.app {m n : Nat} {us vs : List Rat} (h : Xs m us) (h2 : Xs n vs) : Xs (m + n) (us ++ vs) := ⟨by rw [List.length_append]; have := h.1; have := h2.1; omega, fun w hw => (List.mem_append.mp hw).elim (h.2 w) (h2.2 w)⟩
theorem Xs.two {a b : Rat} (a0 : 0 ≤ a) (ab : Bd 340 a) (b0 : 0 ≤ b) (bb : Bd 340 b) : Xs 2 [a, b] := ⟨by simp, fun x hx => by
  simp only [List.mem_cons, List.not_mem_nil, or_false] at hx
  rcases hx with rfl | rfl
  · exact ⟨a0, ab⟩
  · exact ⟨b0, bb⟩⟩
theorem Xs.one {a : Rat} (a0 : 0 ≤ a) (ab : Bd 340 a) : Xs 1 [a] := ⟨by simp, fun x hx => by rw [List.mem_singleton.mp hx]; exact ⟨a0, ab⟩⟩
theorem sums_ev {r : Rat} {l : List (Rat × Rat)} (r0 : 0 ≤ r) (rb : Bd 200 r) (hs : Ssl l) {ns : List Int} (hN : N3 ns) (hl : 1 ≤ ns.length) (S : Store) : ∃ xs, Xs 20 xs ∧ d__law_sums [toldD r l, .lst (nums ns)] S = .ok (.lst (xs.map tR)) S := by
  have g0 : ixD (.lst (ns.map .int)) (.int 0) = some (.int (ns.getD 0 0)) := gets (k := 0) (by omega)
  have b0 := hN.at (k := 0) (by omega)
  obtain ⟨p, p0, pb, ep⟩ := drawnC_ev (most := 160) b0.1 b0.2 (by omega) (by omega) S
  generalize ns.getD 0 0 = v0 at *
  have x0 : Xs 2 [p, 0] := Xs.two p0 (pb.mono (by omega)) Rat.le_refl (Bd0 (by omega))
  have lb := loF_b rb hs l.length
  have hb := hiF_b rb hs l.length
  rw [List.take_length] at lb hb
  have l0 := loF_0 r l
  have h0 : ∀ u, hiF r l = some u → 0 ≤ u := hiF_0 r0 l none hs (fun u h => by cases h)
  have tb : Bd 10 (Rat.divInt 1 777) := bd_div (by omega) (by decide) (by decide)
  have tt : (.tup [.int 1, .int 777] : D) = tR (Rat.divInt 1 777) := by
    have z1 : (Rat.divInt 1 777).num = 1 := by decide +kernel
    have z2 : (Rat.divInt 1 777).den = 777 := by decide +kernel
    unfold tR
    rw [z1, z2]
    rfl
  have t0 : (0 : Rat) ≤ Rat.divInt 1 777 := Rat.divInt_nonneg (by omega) (by omega)
  generalize Rat.divInt 1 777 = t at *
  unfold toldD
  cases hc : never r l
  · rw [if_neg Bool.false_ne_true]
    have f1 := plusC_ev lb tb (by omega) S
    have f2 := less_ev tb lb (by omega) S
    have f3 := minusC_ev lb tb (by omega) S
    have x1 : Xs 2 [loF r l, loF r l + t] := Xs.two l0 (lb.mono (by omega)) (by grind) ((lb.add tb).mono (by omega))
    have xm : t < loF r l → Xs 1 [loF r l - t] := fun h => Xs.one (by grind) ((lb.sub tb).mono (by omega))
    have i0 : ∀ a b, ixD (pr a b) (.int 0) = some (tR a) := fun _ _ => rfl
    have i1 : ∀ a b, ixD (pr a b) (.int 1) = some (oR b) := fun _ _ => rfl
    have ni : ∀ a b, isntND (pr a b) .non = some (.bl true) := fun _ _ => rfl
    generalize loF r l = lo at *
    cases hh : hiF r l with
    | none =>
      by_cases c : t < lo
      · refine ⟨[p, 0] ++ [lo, lo + t] ++ [lo - t], by have := (x0.app x1).app (xm c); exact ⟨by have := this.1; omega, this.2⟩, fnD_rt rfl (en1 := [.val (pr lo none), .val (.lst (ns.map .int)), .val (.lst (([p, 0] ++ [lo, lo + t] ++ [lo - t]).map tR))]) ?_⟩
        simp [b__law_sums, g0, ep, t01, LN, ni, i0, i1, tt, f1, f2, f3, c, sApp, frz, oR]
      · refine ⟨[p, 0] ++ [lo, lo + t], by have := x0.app x1; exact ⟨by have := this.1; omega, this.2⟩, fnD_rt rfl (en1 := [.val (pr lo none), .val (.lst (ns.map .int)), .val (.lst (([p, 0] ++ [lo, lo + t]).map tR))]) ?_⟩
        simp [b__law_sums, g0, ep, t01, LN, ni, i0, i1, tt, f1, f2, f3, c, sApp, frz, oR]
    | some u =>
      have u0 := h0 u hh
      have ub := hb u hh
      have f4 := plusC_ev ub tb (by omega) S
      have x2 : Xs 2 [u, u + t] := Xs.two u0 (ub.mono (by omega)) (by grind) ((ub.add tb).mono (by omega))
      by_cases c : t < lo
      · refine ⟨[p, 0] ++ [lo, lo + t] ++ [lo - t] ++ [u, u + t], by have := ((x0.app x1).app (xm c)).app x2; exact ⟨by have := this.1; omega, this.2⟩, fnD_rt rfl (en1 := [.val (pr lo (some u)), .val (.lst (ns.map .int)), .val (.lst (([p, 0] ++ [lo, lo + t] ++ [lo - t] ++ [u, u + t]).map tR))]) ?_⟩
        simp [b__law_sums, g0, ep, t01, LN, ni, i0, i1, tt, f1, f2, f3, f4, c, sApp, frz, oR]
      · refine ⟨[p, 0] ++ [lo, lo + t] ++ [u, u + t], by have := (x0.app x1).app x2; exact ⟨by have := this.1; omega, this.2⟩, fnD_rt rfl (en1 := [.val (pr lo (some u)), .val (.lst (ns.map .int)), .val (.lst (([p, 0] ++ [lo, lo + t] ++ [u, u + t]).map tR))]) ?_⟩
        simp [b__law_sums, g0, ep, t01, LN, ni, i0, i1, tt, f1, f2, f3, f4, c, sApp, frz, oR]
  · rw [if_pos rfl]
    refine ⟨[p, 0], ⟨by simp, x0.2⟩, fnD_rt rfl (en1 := [.val .non, .val (.lst (ns.map .int)), .val (.lst ([p, 0].map tR))]) ?_⟩
    simp [b__law_sums, g0, ep, t01, LN, frz]
/-! a total spread over places -/
def fr (n : Int) : Rat := (n : Rat) / 4096
theorem fr_div (n : Int) : fr n = Rat.divInt n 4096 := by
  unfold fr
  rw [Rat.divInt_eq_div]
  rfl
theorem fr_b {n : Int} (h0 : 0 ≤ n) (h1 : n ≤ 4096) : Bd 13 (fr n) := by
  rw [fr_div]
  exact bd_div (by omega) (by omega) (by decide)
theorem fr_0 {n : Int} (h : 0 ≤ n) : 0 ≤ fr n := by
  rw [fr_div]
  exact Rat.divInt_nonneg h (by omega)
theorem fr_sub (a b : Int) : fr a - fr b = fr (a - b) := by
  unfold fr
  rw [Rat.intCast_sub]
  grind
theorem fr_add (a b : Int) : fr a + fr b = fr (a + b) := by
  unfold fr
  rw [Rat.intCast_add]
  grind
theorem fr_one : fr 4096 = 1 := by decide +kernel
theorem fr_zero : fr 0 = 0 := by decide +kernel
theorem fr_mul (c m : Int) : fr (4 * c) * Rat.divInt m 4 = fr (c * m) := by
  unfold fr
  rw [Rat.divInt_eq_div, Rat.intCast_mul, Rat.intCast_mul]
  have : ((4 : Int) : Rat) = 4 := rfl
  rw [this]
  grind
theorem fr_le {a b : Int} (h : a ≤ b) : fr a ≤ fr b := by
  have := fr_0 (n := b - a) (by omega)
  have := fr_sub b a
  grind
/-- what stands in the columns below j -/
def sumTo (g : Nat → Int) : Nat → Int
  | 0 => 0
  | j + 1 => sumTo g j + g j
def upd (g : Nat → Int) (q : Nat) (n : Int) : Nat → Int := fun i => if i = q then n else g i
theorem sumTo_upd {g : Nat → Int} {q : Nat} {n : Int} (h : g q = 0) : ∀ j, sumTo (upd g q n) j = sumTo g j + if q < j then n else 0
  | 0 => rfl
  | j + 1 => by
    rw [sumTo, sumTo, sumTo_upd h j]
    unfold upd
    by_cases e : j = q
    · subst e
      rw [if_pos rfl, if_neg (by omega), if_pos (by omega), h]
    · rw [if_neg e]
      by_cases h2 : q < j
      · rw [if_pos h2, if_pos (by omega)]
        omega
      · rw [if_neg h2, if_neg (by omega)]
        omega
theorem sumTo_0 {g : Nat → Int} (h : ∀ i, 0 ≤ g i) : ∀ j, 0 ≤ sumTo g j
  | 0 => Int.le_refl 0
  | j + 1 => by
    have := sumTo_0 h j
    have := h j
    rw [sumTo]
    omega
theorem sumTo_le {g : Nat → Int} (h : ∀ i, 0 ≤ g i) {j w : Nat} (hj : j ≤ w) : sumTo g j ≤ sumTo g w := by
  induction w with
  | zero =>
    have : j = 0 := by omega
    rw [this]
    exact Int.le_refl _
  | succ w ih =>
    by_cases e : j = w + 1
    · rw [e]; exact Int.le_refl _
    · have := ih (by omega)
      have := h w
      rw [sumTo]
      omega
/-- a row in which the total is spread over the places -/
structure Sp (total : Rat) (ps : List Nat) (w : Nat) (row : List Rat) (g : Nat → Int) : Prop where
  len : row.length = w
  g0 : ∀ i, 0 ≤ g i
  out : ∀ i, i ∉ ps → g i = 0
  at_ : ∀ i, i ∈ ps → row[i]? = some (total * fr (g i))
  bd : BdL 360 row
theorem spread_ev {total : Rat} (t0 : 0 ≤ total) (tb : Bd 340 total) {ps : List Nat} {w : Nat} (hp : Pls w ps) (w2 : w ≤ 24) {ns : List Int} (hN : N3 ns) (hl : 0 < ns.length) (hl2 : ns.length ≤ 1000) (S : Store) : ∃ row g, Sp total ps w row g ∧ sumTo g w = 4096 ∧ d__law_spread [tR total, tI ps, .int w, .lst (nums ns)] S = .ok (tL row) S := by
  have hw := rng_nat (n := w) (by omega)
  have hps := rng_nat (n := ps.length) (by have := hp.ln; omega)
  have num : ∀ k : Nat, ∃ v y : Int, 0 ≤ v ∧ v < 1000 ∧ modD (.int k) (.int ns.length) = some (.int y) ∧ ixD (.lst (ns.map .int)) (.int y) = some (.int v) := by
    intro k
    have hk : k % ns.length < ns.length := Nat.mod_lt _ hl
    refine ⟨ns.getD (k % ns.length) 0, ((k % ns.length : Nat) : Int), (hN.at hk).1, (hN.at hk).2, ?_, gets hk⟩
    rw [modD_ok (by omega)]
    rfl
  have rows : ∀ n, n ≤ 24 → ∃ row : List Rat, row.length = n ∧ BdL 9 row ∧ ∀ (i : Nat) x, row[i]? = some x → ∃ v y, modD (.int i) (.int ns.length) = some (.int y) ∧ ixD (.lst (ns.map .int)) (.int y) = some (.int v) ∧ d__law_drawnC [.int v, .int 9] S = .ok (tR x) S := by
    intro n
    induction n with
    | zero => exact fun _ => ⟨[], rfl, fun x h => absurd h List.not_mem_nil, fun i x h => by cases h⟩
    | succ n ih =>
      intro hn
      obtain ⟨xs, h1, h2, h3⟩ := ih (by omega)
      obtain ⟨v, y, v0, v1, v2, v3⟩ := num n
      obtain ⟨x, _, h4, h5⟩ := drawnC_ev (x := v) (most := 9) v0 v1 (by omega) (by omega) S
      refine ⟨xs ++ [x], by simp [h1], ?_, ?_⟩
      · intro y hy
        rcases List.mem_append.mp hy with hz | hz
        · exact h2 y hz
        · rw [List.mem_singleton.mp hz]; exact h4
      · intro i y hy
        by_cases hi : i < xs.length
        · rw [List.getElem?_append_left hi] at hy
          exact h3 i y hy
        · have hlt := (List.getElem?_eq_some_iff.mp hy).1
          rw [List.length_append, List.length_singleton] at hlt
          have e0 : i = xs.length := by omega
          subst e0
          rw [List.getElem?_append_right (by omega), Nat.sub_self] at hy
          cases hy
          rw [h1]
          exact ⟨v, y, v2, v3, h5⟩
  obtain ⟨row0, r1, r2, r3⟩ := rows w w2
  have c1 : ∀ s4 s5 s6 s7 : Slot, l__law_spread_1 [.val (tR total), .val (tI ps), .val (.int w), .val (.lst (nums ns)), s4, s5, s6, s7] S = .ok (row0.map tR) S := by
    intro s4 s5 s6 s7
    refine mapIx (n := w) (by simp [hw]) r1 (by omega) ?_
    intro i z hz
    obtain ⟨v, y, m, v3, v4⟩ := r3 i z hz
    simp only [nums]
    simp [m, v3, v4]
  have L : Wp (forGo (.nm 4) b__law_spread_2 (rngI 0 ps.length) [.val (tR total), .val (tI ps), .val (.int w), .val (.lst (nums ns)), .no, .own (row0.map tR), .val (tR total), .no] S) (fun f e S1 => f = .nx ∧ S1 = S ∧ ∃ (row : List Rat) (g : Nat → Int) (s4 s6 s7 : Slot), Sp total ps w row g ∧ sumTo g w = 4096 ∧ e = [.val (tR total), .val (tI ps), .val (.int w), .val (.lst (nums ns)), s4, .own (row.map tR), s6, s7]) := by
    refine wp_rng0 (fun i e S1 => S1 = S ∧ i ≤ ps.length ∧ ∃ (row : List Rat) (g : Nat → Int) (c : Int) (s4 s7 : Slot), Sp total (ps.take i) w row g ∧ 0 ≤ c ∧ sumTo g w + (4 ^ (6 - i) : Nat) * c = 4096 ∧ (i = ps.length → c = 0) ∧ e = [.val (tR total), .val (tI ps), .val (.int w), .val (.lst (nums ns)), s4, .own (row.map tR), .val (tR (total * fr ((4 ^ (6 - i) : Nat) * c))), s7]) ⟨rfl, by omega, row0, fun _ => 0, 1, .no, .no, ⟨r1, fun _ => Int.le_refl 0, fun _ _ => rfl, fun i h => absurd h List.not_mem_nil, r2.mono (by omega)⟩, by omega, ?_, fun h => absurd (List.eq_nil_of_length_eq_zero h.symm) hp.ne, ?_⟩ ?_ ?_
    · have : ∀ j, sumTo (fun _ => 0) j = 0 := by
        intro j
        induction j with
        | zero => rfl
        | succ j ih => rw [sumTo, ih]; rfl
      rw [this]
      decide
    · have : fr (((4 ^ (6 - 0) : Nat) : Int) * 1) = 1 := by decide +kernel
      rw [this, Rat.mul_one]
    · rintro i e S1 hi ⟨rfl, _, row, g, c, s4, s7, hsp, c0, hsum, _, rfl⟩
      obtain ⟨q, hq⟩ := get_of hi
      have qw := hp.lt q (List.mem_of_getElem? hq)
      obtain ⟨v, y, v0, v1, vm, vx⟩ := num i
      have m5 : modD (.int v) (.int 5) = some (.int (v % 5)) := modD_ok (by omega)
      obtain ⟨m, hm⟩ : ∃ m, v % 5 = m := ⟨_, rfl⟩
      have m0 : 0 ≤ m := by omega
      have m4 : m ≤ 4 := by omega
      rw [hm] at m5
      have n4 : m.natAbs < 2 ^ 3 := by omega
      have er := ratioC_ev (n := m) (d := 4) (by omega) (Nat.lt_of_lt_of_le (show (4 : Int).natAbs < 2 ^ 10 by omega) (pow2_le (by omega))) (by have := bit_lt n4; omega) S1
      have qb : Bd 3 (Rat.divInt m 4) := bd_div (by omega) n4 (by decide)
      -- the rest before this turn: P * 4 * c
      obtain ⟨P, hP, P1⟩ : ∃ P : Nat, 4 ^ (6 - i) = 4 * P ∧ 4 ^ (6 - (i + 1)) = P := by
        have h6 := hp.ln
        refine ⟨4 ^ (6 - (i + 1)), ?_, rfl⟩
        rw [show 6 - i = (6 - (i + 1)) + 1 by omega, Nat.pow_succ, Nat.mul_comm]
      rw [hP] at hsum
      rw [hP, P1]
      have s0 := sumTo_0 hsp.g0 w
      obtain ⟨k, hk⟩ : ∃ k : Int, k = (P : Int) * c := ⟨_, rfl⟩
      have k0 : 0 ≤ k := by rw [hk]; exact Int.mul_nonneg (by omega) c0
      have e4 : (((4 * P : Nat) : Int)) * c = 4 * k := by rw [hk, Int.natCast_mul, Int.mul_assoc]; rfl
      rw [e4] at hsum ⊢
      have lb : Bd 353 (total * fr (4 * k)) := (tb.mul (fr_b (by omega) (by omega))).mono (by omega)
      have et := timesC_ev lb qb (by omega) S1
      have pe : total * fr (4 * k) * Rat.divInt m 4 = total * fr (k * m) := by rw [Rat.mul_assoc, fr_mul]
      rw [pe] at et
      have km0 : 0 ≤ k * m := Int.mul_nonneg k0 m0
      have km1 : k * m ≤ 4 * k := by
        have : k * m ≤ k * 4 := Int.mul_le_mul_of_nonneg_left m4 k0
        omega
      have pb : Bd 353 (total * fr (k * m)) := (tb.mul (fr_b km0 (by omega))).mono (by omega)
      have el := less_ev lb pb (by omega) S1
      have nl : ¬ total * fr (4 * k) < total * fr (k * m) := by
        have h1 := fr_le km1
        have h2 : 0 ≤ total * (fr (4 * k) - fr (k * m)) := Rat.mul_nonneg t0 (by grind)
        grind
      rw [decide_eq_false nl] at el
      have gq : g q = 0 := hsp.out q (fun h => by
        obtain ⟨j, hj⟩ := List.mem_iff_getElem?.mp h
        rw [List.getElem?_take] at hj
        split at hj
        · rename_i h3
          obtain ⟨a1, a2⟩ := List.getElem?_eq_some_iff.mp hj
          obtain ⟨b1, b2⟩ := List.getElem?_eq_some_iff.mp hq
          exact absurd (a2.trans b2.symm) (List.pairwise_iff_getElem.mp hp.nd j i a1 b1 h3)
        · cases hj)
      have ixq : ixD (tI ps) (.int i) = some (.int q) := ixD_lst (by rw [List.getElem?_map, hq]; rfl)
      have mem : ∀ x, x ∈ ps.take (i + 1) ↔ x ∈ ps.take i ∨ x = q := by
        intro x
        rw [List.take_succ, hq]
        simp
      have kq : ixN row.length (q : Int) = some q := by rw [hsp.len]; exact ixN_nat qw
      have step : ∀ n : Int, 0 ≤ n → n ≤ 4 * k → Sp total (ps.take (i + 1)) w (row.set q (total * fr n)) (upd g q n) ∧ sumTo (upd g q n) w = sumTo g w + n := by
        intro n n0 n1
        refine ⟨⟨by rw [List.length_set, hsp.len], fun x => ?_, fun x hx => ?_, fun x hx => ?_, fun x hx => ?_⟩, by rw [sumTo_upd gq, if_pos qw]⟩
        · unfold upd
          split
          · exact n0
          · exact hsp.g0 x
        · have h1 : x ≠ q := fun e => hx ((mem x).mpr (.inr e))
          have h2 : x ∉ ps.take i := fun e => hx ((mem x).mpr (.inl e))
          unfold upd
          rw [if_neg h1]
          exact hsp.out x h2
        · rw [List.getElem?_set]
          by_cases e : q = x
          · subst e
            rw [if_pos rfl, if_pos (by rw [hsp.len]; exact qw)]
            unfold upd
            rw [if_pos rfl]
          · rw [if_neg e]
            unfold upd
            rw [if_neg (fun z => e z.symm)]
            rcases (mem x).mp hx with h | h
            · exact hsp.at_ x h
            · exact absurd h.symm e
        · rcases List.mem_or_eq_of_mem_set hx with h | h
          · exact hsp.bd x h
          · rw [h]
            exact (tb.mul (fr_b n0 (by omega))).mono (by omega)
      have lastc : (((ps.length : Int)) = (i : Int) + 1) ↔ i + 1 = ps.length := by omega
      have lnI : lenD [tI ps] = some (.int ps.length) := by unfold tI; rw [lenD_lst, List.length_map]
      by_cases hlast : i + 1 = ps.length
      · have hl' : (i : Int) + 1 = ps.length := by omega
        obtain ⟨t1, t2⟩ := step (4 * k) (by omega) (by omega)
        have em := minusC_ev lb lb (by omega) S1
        have z : total * fr (4 * k) - total * fr (4 * k) = total * fr ((P : Int) * 0) := by
          have : (P : Int) * 0 = 0 := Int.mul_zero _
          rw [this, fr_zero]
          grind
        rw [z] at em
        have fin : sumTo (upd g q (4 * k)) w + (P : Int) * 0 = 4096 := by rw [t2, Int.mul_zero]; omega
        generalize total * fr (4 * k) = left at *
        simp only [nums]
        simp [-List.map_map, -Int.mul_zero, b__law_spread_2, vm, vx, m5, er, et, lnI, hl', sPut, ixq, kq, em, ← List.map_set]
        exact ⟨by omega, _, _, t1, 0, by omega, fin, fun _ => rfl, rfl, rfl⟩
      · have hl' : ¬ (i : Int) + 1 = ps.length := by omega
        obtain ⟨t1, t2⟩ := step (k * m) km0 km1
        have em := minusC_ev lb pb (by omega) S1
        have z : total * fr (4 * k) - total * fr (k * m) = total * fr ((P : Int) * (c * (4 - m))) := by
          have e5 : (P : Int) * (c * (4 - m)) = 4 * k - k * m := by rw [← Int.mul_assoc, ← hk, Int.mul_sub]; omega
          rw [e5, ← fr_sub]
          grind
        rw [z] at em
        have fin : sumTo (upd g q (k * m)) w + (P : Int) * (c * (4 - m)) = 4096 := by
          have e5 : (P : Int) * (c * (4 - m)) = 4 * k - k * m := by rw [← Int.mul_assoc, ← hk, Int.mul_sub]; omega
          rw [t2, e5]
          omega
        have c2 : 0 ≤ c * (4 - m) := Int.mul_nonneg c0 (by omega)
        generalize total * fr (4 * k) = left at *
        generalize total * fr (k * m) = part at *
        generalize c * (4 - m) = c' at *
        simp only [nums]
        simp [-List.map_map, b__law_spread_2, vm, vx, m5, er, et, lnI, hl', el, sPut, ixq, kq, em, ← List.map_set]
        exact ⟨by omega, _, _, t1, c', c2, fin, fun h => absurd h hlast, rfl, rfl⟩
    · rintro e S1 ⟨rfl, _, row, g, c, s4, s7, hsp, c0, hsum, hz, rfl⟩
      rw [List.take_length] at hsp
      rw [hz rfl, Int.mul_zero, Int.add_zero] at hsum
      exact ⟨rfl, rfl, row, g, _, _, _, hsp, hsum, rfl⟩
  obtain ⟨f, e, S1, h, rfl, rfl, row, g, s4, s6, s7, hsp, hsum, rfl⟩ := wp_out L
  refine ⟨row, g, hsp, hsum, fnD_rt rfl (en1 := [.val (tR total), .val (tI ps), .val (.int w), .val (.lst (nums ns)), s4, .own (row.map tR), s6, s7]) ?_⟩
  have lnI : lenD [tI ps] = some (.int ps.length) := by unfold tI; rw [lenD_lst, List.length_map]
  simp only [nums] at *
  simp [-List.map_map, b__law_spread, c1, lnI, hps, h]
  rfl
/-! the rows kept -/
def mkc (ps : List Nat) (w : Nat) (q : Rat × Rat) : Con := ⟨rowOf q.1 ps w, true, q.2⟩
def cfs (r : Rat) (l : List (Rat × Rat)) : List (Rat × Rat) := l.flatMap fun p => [(1 - p.2, r + p.1), (-(1 + p.2), p.1 - r)]
theorem conds_cfs (r : Rat) (ps : List Nat) (w : Nat) (l : List (Rat × Rat)) : conds r ps w l = (cfs r l).map (mkc ps w) := by
  unfold conds cfs
  rw [List.map_flatMap]
  rfl
theorem cfs_all (r t : Rat) (l : List (Rat × Rat)) : ((cfs r l).all fun q => !decide (q.2 < q.1 * t)) = l.all (may r t) := by
  unfold cfs
  rw [List.all_flatMap]
  congr 1
  funext p
  have a1 : (p.1 + p.2 * t < r - t) ↔ (p.1 - r < -(1 + p.2) * t) := by grind
  have a2 : (p.1 + p.2 * t < t - r) ↔ (r + p.1 < (1 - p.2) * t) := by grind
  unfold may
  simp only [List.all_cons, List.all_nil, Bool.and_true, a1, a2, Bool.not_or]
  exact Bool.and_comm _ _
theorem cfs_b {r : Rat} (rb : Bd 200 r) {l : List (Rat × Rat)} (hs : Ssl l) : ∀ q ∈ cfs r l, Bd 22 q.1 ∧ Bd 260 q.2 := by
  intro q hq
  unfold cfs at hq
  obtain ⟨p, hp, hq⟩ := List.mem_flatMap.mp hq
  obtain ⟨_, _, _, h4, h5⟩ := hs p hp
  simp only [List.mem_cons, List.not_mem_nil, or_false] at hq
  rcases hq with rfl | rfl
  · exact ⟨one_minus_b h5, (rb.add h4).mono (by omega)⟩
  · exact ⟨(one_plus_b h5).neg, (h4.sub rb).mono (by omega)⟩
theorem col_loop {total : Rat} (tb : Bd 340 total) {ps : List Nat} {w : Nat} (w2 : w ≤ 24) {row : List Rat} {g : Nat → Int} (hsp : Sp total ps w row g) (hsum : sumTo g w = 4096) {f : Rat} (fb : Bd 22 f) (a0 a3 a4 s6 : Slot) (S : Store) : ∃ t6, forGo (.nm 6) b__law_keeps_1 (rngI 0 w) [a0, .val (tL row), .val (tL (rowOf f ps w)), a3, a4, .val (tR 0), s6] S = .ok .nx [a0, .val (tL row), .val (tL (rowOf f ps w)), a3, a4, .val (tR (f * total)), t6] S := by
  have L : Wp (forGo (.nm 6) b__law_keeps_1 (rngI 0 w) [a0, .val (tL row), .val (tL (rowOf f ps w)), a3, a4, .val (tR 0), s6] S) (fun fl e S1 => fl = .nx ∧ S1 = S ∧ ∃ t6, e = [a0, .val (tL row), .val (tL (rowOf f ps w)), a3, a4, .val (tR (f * total)), t6]) := by
    refine wp_rng0 (fun i e S1 => S1 = S ∧ i ≤ w ∧ ∃ t6, e = [a0, .val (tL row), .val (tL (rowOf f ps w)), a3, a4, .val (tR (f * (total * fr (sumTo g i)))), t6]) ⟨rfl, by omega, s6, ?_⟩ ?_ ?_
    · have : f * (total * fr (sumTo g 0)) = 0 := by rw [show sumTo g 0 = 0 from rfl, fr_zero]; grind
      rw [this]
    · rintro i e S1 hi ⟨rfl, _, t6, rfl⟩
      obtain ⟨y, hy⟩ := get_of (xs := row) (i := i) (by rw [hsp.len]; exact hi)
      have yb := hsp.bd y (List.mem_of_getElem? hy)
      have hx := rowOf_at (f := f) (ps := ps) hi
      have s0 := sumTo_0 hsp.g0 i
      have s1 := sumTo_le hsp.g0 (Nat.le_of_lt hi)
      have tot : Bd 375 (f * (total * fr (sumTo g i))) := (fb.mul (tb.mul (fr_b s0 (by omega)))).mono (by omega)
      have xb : Bd 22 (if i ∈ ps then f else 0) := by
        split
        · exact fb
        · exact Bd0 (by omega)
      have e1 := timesC_ev xb yb (by omega) S1
      have e2 := plusC_ev tot (xb.mul yb) (by omega) S1
      have e3 : f * (total * fr (sumTo g i)) + (if i ∈ ps then f else 0) * y = f * (total * fr (sumTo g (i + 1))) := by
        rw [sumTo, ← fr_add]
        by_cases h : i ∈ ps
        · rw [if_pos h]
          have := hsp.at_ i h
          rw [hy] at this
          have ye : y = total * fr (g i) := Option.some.inj this
          rw [ye]
          grind
        · rw [if_neg h, hsp.out i h, fr_zero]
          grind
      rw [e3] at e2
      generalize (if i ∈ ps then f else 0) = x at *
      simp [b__law_keeps_1, ix_tL hx, ix_tL hy, e1, e2]
      omega
    · rintro e S1 ⟨rfl, _, t6, rfl⟩
      have : f * (total * fr (sumTo g w)) = f * total := by rw [hsum, fr_one]; grind
      rw [this]
      exact ⟨rfl, rfl, _, rfl⟩
  obtain ⟨fl, e, S1, h, rfl, rfl, t6, rfl⟩ := wp_out L
  exact ⟨t6, h⟩
theorem keeps_ev {total : Rat} (tb : Bd 340 total) {ps : List Nat} {w : Nat} (w2 : w ≤ 24) {row : List Rat} {g : Nat → Int} (hsp : Sp total ps w row g) (hsum : sumTo g w = 4096) {qs : List (Rat × Rat)} (hq : ∀ q ∈ qs, Bd 22 q.1 ∧ Bd 260 q.2) (S : Store) : d__law_keeps [.lst ((qs.map (mkc ps w)).map tC), tL row] S = .ok (.bl (qs.all fun q => !decide (q.2 < q.1 * total))) S := by
  have H := fnD_wp (n := 2) (k := 5) (b := b__law_keeps) (ds := [.lst ((qs.map (mkc ps w)).map tC), tL row]) (S := S) (Q := fun d S1 => S1 = S ∧ d = .bl (qs.all fun q => !decide (q.2 < q.1 * total))) rfl ?_
  · obtain ⟨d, S1, h1, rfl, rfl⟩ := H
    exact h1
  have hw := rng_nat (n := w) (by omega)
  have lr : lenD [tL row] = some (.int w) := by rw [len_tL, hsp.len]
  simp [-List.map_map, b__law_keeps]
  refine wp_bind (wp_for (fun i e S1 => S1 = S ∧ ((qs.take i).all fun q => !decide (q.2 < q.1 * total)) = true ∧ ∃ s2 s3 s4 s5 s6, e = [.val (.lst ((qs.map (mkc ps w)).map tC)), .val (tL row), s2, s3, s4, s5, s6]) ⟨rfl, rfl, _, _, _, _, _, rfl⟩ ?_ ?_)
  · rintro i d e S1 hd ⟨rfl, ho, s2, s3, s4, s5, s6, rfl⟩
    rw [List.getElem?_map, List.getElem?_map] at hd
    cases hj : qs[i]? with
    | none => rw [hj] at hd; cases hd
    | some q =>
      rw [hj] at hd
      cases hd
      obtain ⟨fb, bb⟩ := hq q (List.mem_of_getElem? hj)
      have e3 := all_take (fun q : Rat × Rat => !decide (q.2 < q.1 * total)) hj
      rw [ho, Bool.true_and] at e3
      obtain ⟨t6, hl⟩ := col_loop tb w2 hsp hsum fb (.val (.lst ((qs.map (mkc ps w)).map tC))) (.val (rel true)) (.val (tR q.2)) s6 S1
      have el := less_ev bb (fb.mul tb) (by omega) S1
      refine ⟨_, put_3, ?_⟩
      rw [e3]
      have d1 : (mkc ps w q).row = rowOf q.1 ps w := rfl
      have d2 : (mkc ps w q).le = true := rfl
      have d3 : (mkc ps w q).bound = q.2 := rfl
      simp only [List.set, d1, d2, d3]
      generalize (qs.map (mkc ps w)).map tC = X at *
      by_cases c : q.2 < q.1 * total
      · simp [b__law_keeps_2, t01, lr, hw, hl, el, c]
        exact ⟨q.1, q.2, List.mem_of_getElem? hj, c⟩
      · simp [b__law_keeps_2, t01, lr, hw, hl, el, c]
  · rintro e S1 ⟨rfl, ho, s2, s3, s4, s5, s6, rfl⟩
    rw [List.length_map, List.length_map, List.take_length] at ho
    simp
    simpa using ho
/-! turns of the law -/
theorem sum_turn {es : List En} {nm : Str} {day : Int} {r : Rat} (ho : Oks es) (d0 : 0 ≤ day) (d1 : day ≤ 999) (r0 : 0 ≤ r) (rb : Bd 200 r) {w : Nat} (w2 : w ≤ 24) {ps : List Nat} (hp : Pls w ps) {ns : List Int} (hN : N3 ns) (ln : ns.length = 90) {x : Rat} (x0 : 0 ≤ x) (xb : Bd 340 x) (a0 a1 a3 a4 a5 a6 a7 a10 s14 s15 : Slot) (S : Store) :
    ∃ t14, b_law_2 [a0, a1, .val (.lst (nums ns)), a3, a4, a5, a6, a7, .val (.int w), .val (tI ps), a10, .val (.lst ((conds r ps w (sls nm day es)).map tC)), .val (toldD r (sls nm day es)), .val (tR x), s14, s15, .no] S = .ok .nx [a0, a1, .val (.lst (nums ns)), a3, a4, a5, a6, a7, .val (.int w), .val (tI ps), a10, .val (.lst ((conds r ps w (sls nm day es)).map tC)), .val (toldD r (sls nm day es)), .val (tR x), t14, s15, .no] S := by
  have hs := sls_ok (nm := nm) ho d0 d1
  generalize sls nm day es = l at *
  have sl : slD (.lst (ns.map .int)) (some 62) (some 90) = some (.lst (((ns.drop 62).take 28).map .int)) := slN (ns := ns) (a := 62) (b := 90) (by omega) (by omega)
  obtain ⟨row, g, hsp, hsum, er⟩ := spread_ev x0 xb hp w2 (hN.part 62 28) (by rw [List.length_take, List.length_drop]; omega) (by rw [List.length_take, List.length_drop]; omega) S
  generalize (ns.drop 62).take 28 = ms at *
  have ek := keeps_ev xb w2 hsp hsum (cfs_b rb hs) S
  rw [cfs_all, ← conds_cfs] at ek
  have ai := all_iff (r := r) hs x0
  have lb := loF_b rb hs l.length
  have hb := hiF_b rb hs l.length
  rw [List.take_length] at lb hb
  refine ⟨.val (.bl (l.all (may r x))), ?_⟩
  generalize (conds r ps w l).map tC = C at *
  simp only [nums] at *
  unfold toldD
  cases hc : never r l
  · rw [if_neg Bool.false_ne_true]
    have f1 := less_ev xb lb (by omega) S
    have i0 : ∀ a b, ixD (pr a b) (.int 0) = some (tR a) := fun _ _ => rfl
    have i1 : ∀ a b, ixD (pr a b) (.int 1) = some (oR b) := fun _ _ => rfl
    have ni : ∀ a b, isntND (pr a b) .non = some (.bl true) := fun _ _ => rfl
    cases hh : hiF r l with
    | none =>
      rw [hh] at ai
      by_cases c1 : x < loF r l
      · have al : l.all (may r x) = false := by
          cases q : l.all (may r x) with
          | false => rfl
          | true => exact absurd c1 (by have := (ai.mp q).1; grind)
        rw [al] at ek ⊢
        simp [b_law_2, ni, i0, i1, f1, c1, pSo, sl, er, ek, oR]
      · have al : l.all (may r x) = true := ai.mpr ⟨by grind, trivial⟩
        rw [al] at ek ⊢
        simp [b_law_2, ni, i0, i1, f1, c1, pSo, sl, er, ek, oR]
    | some u =>
      rw [hh] at ai
      have f2 := less_ev (hb u hh) xb (by omega) S
      by_cases c1 : x < loF r l
      · have al : l.all (may r x) = false := by
          cases q : l.all (may r x) with
          | false => rfl
          | true => exact absurd c1 (by have := (ai.mp q).1; grind)
        rw [al] at ek ⊢
        simp [b_law_2, ni, i0, i1, f1, f2, c1, pSo, sl, er, ek, oR]
      · by_cases c2 : u < x
        · have al : l.all (may r x) = false := by
            cases q : l.all (may r x) with
            | false => rfl
            | true => exact absurd c2 (by have : x ≤ u := (ai.mp q).2; grind)
          rw [al] at ek ⊢
          simp [b_law_2, ni, i0, i1, f1, f2, c1, c2, pSo, sl, er, ek, oR]
        · have al : l.all (may r x) = true := ai.mpr ⟨by grind, by show x ≤ u; grind⟩
          rw [al] at ek ⊢
          simp [b_law_2, ni, i0, i1, f1, f2, c1, c2, pSo, sl, er, ek, oR]
  · rw [if_pos rfl]
    have al : l.all (may r x) = false := by
      cases q : l.all (may r x) with
      | false => rfl
      | true =>
        obtain ⟨a1, a2⟩ := ai.mp q
        unfold never at hc
        cases hh : hiF r l with
        | none => rw [hh] at hc; cases hc
        | some u =>
          rw [hh] at hc a2
          have h3 : u < loF r l := of_decide_eq_true hc
          have h4 : x ≤ u := a2
          exact absurd h3 (by grind)
    rw [al] at ek ⊢
    simp [b_law_2, pSo, sl, er, ek]
theorem refW {d : D} (h : BadW d) (S : Store) : d__law_refused [.int 0, d] S = .ok (.bl true) S := by
  have := h S
  refine fnD_rt rfl (en1 := [.val (.int 0), .val d, .no]) ?_
  simp [b__law_refused, sTryAs, this, List.lookup, eIsE, notEx]
theorem refC {a b c d : D} {S : Store} (h : d_weighing_conditions [a, b, c, d] S = .exc "NotAllowed" S) : d__law_refused [.int 1, .tup [a, b, c, d]] S = .ok (.bl true) S := by
  have i0 : ixD (.tup [a, b, c, d]) (.int 0) = some a := rfl
  have i1 : ixD (.tup [a, b, c, d]) (.int 1) = some b := rfl
  have i2 : ixD (.tup [a, b, c, d]) (.int 2) = some c := rfl
  have i3 : ixD (.tup [a, b, c, d]) (.int 3) = some d := rfl
  refine fnD_rt rfl (en1 := [.val (.int 1), .val (.tup [a, b, c, d]), .no]) ?_
  simp [b__law_refused, sTryAs, i2, i3, h, List.lookup, eIsE, notEx]
/-! lots -/
theorem lots_lc {ns : List Int} (v : Int) (h47 : ixD (.lst (ns.map .int)) (.int 47) = some (.int v)) (a0 a1 a3 a4 a5 a6 a7 a8 a9 a10 a11 a12 a13 a14 a15 : Slot) (S : Store) : ∃ LS : List Nat, LS.Pairwise (· < ·) ∧ (∀ x ∈ LS, x < 12) ∧ LS.length ≤ 12 ∧ l_law_1 [a0, a1, .val (.lst (nums ns)), a3, a4, a5, a6, a7, a8, a9, a10, a11, a12, a13, a14, a15, .no] S = .ok (LS.map nD) S := by
  obtain ⟨P, hP⟩ : ∃ P : Nat → Bool, P = fun k : Nat => decide (v / (1 + (k : Int)) % 3 = 0) := ⟨_, rfl⟩
  obtain ⟨pd, hpd⟩ : ∃ pd : D → Bool, pd = fun d => match d with | .int k => decide (v / (1 + k) % 3 = 0) | _ => false := ⟨_, rfl⟩
  refine ⟨(List.range 12).filter P, (List.pairwise_lt_range).filter _, fun x hx => List.mem_range.mp (List.mem_filter.mp hx).1, Nat.le_trans (List.length_filter_le _ _) (by rw [List.length_range]; omega), ?_⟩
  have hr : rng1D [.int 12] = some (rngI 0 12) := rng_nat (n := 12) (by omega)
  have key : lcGo (.nm 16) (tB (e2 eqD (e2 modD (e2 fdivD (eA intD (aCons (e2 ixD (eB 2) (eC (.int 47))) aNil)) (e2 addD (eC (.int 1)) (eB 16))) (eC (.int 3))) (eC (.int 0)))) (eN 16) (wipe [a0, a1, .val (.lst (nums ns)), a3, a4, a5, a6, a7, a8, a9, a10, a11, a12, a13, a14, a15, .no] [16]) (rngI 0 12) [] S = .ok ([] ++ ((rngI 0 12).filter pd).map id) S := by
    refine lcGo_filter (p := pd) (g := id) [] ?_ (by rw [rngI_length, List.length_nil]; unfold LN; omega)
    intro d hd
    obtain ⟨j, hj⟩ := List.mem_iff_getElem?.mp hd
    obtain ⟨hj12, rfl⟩ := rngI_at hj
    refine ⟨_, put_nm, ?_, fun _ => rfl⟩
    have f1 : fdivD (.int v) (.int (1 + j)) = some (.int (v / (1 + j))) := fdiv_s (by omega) (by omega)
    have m1 : modD (.int (v / (1 + j))) (.int 3) = some (.int (v / (1 + j) % 3)) := modD_ok (by omega)
    have e0 : (0 : Int) + j = j := by omega
    rw [e0, hpd]
    simp only [nums]
    simp [h47, f1, m1]
    rfl
  have e1 : ((rngI 0 12).filter pd).map id = ((List.range 12).filter P).map nD := by
    rw [List.map_id]
    unfold rngI
    rw [List.filter_map]
    have ef : (pd ∘ fun k : Nat => D.int (0 + (k : Int))) = P := by
      funext k
      rw [hpd, hP]
      show decide (v / (1 + (0 + (k : Int))) % 3 = 0) = _
      rw [Int.zero_add]
    rw [ef]
    congr 1
    funext k
    show D.int (0 + (k : Int)) = D.int k
    rw [Int.zero_add]
  rw [List.nil_append, e1] at key
  refine eLc_of (ds := rngI 0 12) (S1 := S) (by simp) key
def lotsL (LS : List Nat) : List Int := if LS = [] then [99] else asI LS
theorem lotsL_ok {LS : List Nat} (h1 : LS.Pairwise (· < ·)) (h2 : ∀ x ∈ LS, x < 12) (h3 : LS.length ≤ 8) (r : Rat) (r0 : 0 ≤ r) : (decide (1 ≤ (lotsL LS).length) && decide ((lotsL LS).length ≤ 8) && lotsOk (lotsL LS) && (ascOk (lotsL LS) && (okP (pq r) && decide (0 ≤ (pq r).1)))) = true := by
  have e1 : okP (pq r) = true := okP_rat r
  have e2 : decide (0 ≤ (pq r).1) = true := decide_eq_true ((Rat.num_nonneg).mpr r0)
  rw [e1, e2]
  unfold lotsL
  by_cases h : LS = []
  · rw [if_pos h]
    decide +kernel
  · rw [if_neg h]
    have l1 : 1 ≤ LS.length := List.length_pos_iff.mpr h
    have l2 : (asI LS).length = LS.length := by unfold asI; rw [List.length_map]
    have q1 : lotsOk (asI LS) = true := by
      unfold lotsOk asI
      rw [List.all_eq_true]
      intro x hx
      obtain ⟨n, hn, rfl⟩ := List.mem_map.mp hx
      have := h2 n hn
      rw [decide_eq_true (by omega : (0 : Int) ≤ n), decide_eq_true (by omega : (n : Int) ≤ 99)]
      rfl
    have q2 : ascOk (asI LS) = true := by
      unfold ascOk
      rw [List.all_eq_true]
      intro i hi
      have hi' : i < LS.length - 1 := by have := List.mem_range.mp hi; rwa [l2] at this
      have g : ∀ k (hk : k < LS.length), (asI LS).getD k 0 = ((LS[k] : Nat) : Int) := by
        intro k hk
        unfold asI
        rw [List.getD_eq_getElem?_getD, List.getElem?_map, List.getElem?_eq_getElem hk]
        rfl
      rw [g i (by omega), g (i + 1) (by omega)]
      have := List.pairwise_iff_getElem.mp h1 i (i + 1) (by omega) (by omega) (by omega)
      exact decide_eq_true (by exact_mod_cast this)
    rw [q1, q2, l2, decide_eq_true l1, decide_eq_true h3]
    rfl
theorem rep1 (x : D) (n : Nat) (h : n ≤ 1000) : mulTD (.tup [x]) (.int n) = some (.tup (List.replicate n x)) := by
  refine (if_pos (c := [x] ≠ [] ∧ -1000 ≤ (n : Int) ∧ (n : Int) ≤ 1000 ∧ [x].length ≤ 1000) ⟨by simp, by omega, by omega, by simp⟩).trans ?_
  rw [Int.toNat_natCast, rep_flat1]
theorem okd_tC (n : Nat) (c : Con) : okd (n + 3) (tC c) = true := by
  unfold tC
  rw [okd]
  refine okds_all fun d hd => ?_
  simp only [List.mem_cons, List.not_mem_nil, or_false] at hd
  rcases hd with rfl | rfl | rfl
  · exact okd_tL n _
  · unfold rel
    rw [okd]
    cases c.le <;> decide +kernel
  · exact okd_tR (n + 1) _
theorem ne_cs (cs : List Con) : neD (.lst (cs.map tC)) (.lst (cs.map tC)) = some (.bl false) := by
  refine neD_self ?_
  rw [okd]
  exact okds_all fun d hd => by obtain ⟨c, _, rfl⟩ := List.mem_map.mp hd; exact okd_tC 56 c
theorem turn4 {cs : List Int} (hb : ∀ z ∈ cs, bit z ≤ 1048576) {k : Nat} (hk : k < 6) (s2 s3 s4 s5 s6 s7 s8 s9 s10 s11 s12 s13 s14 s15 : Slot) (S : Store) :
    ∃ t2 t3 t4 t5 t6 t7 t8 t9 t10 t11 t12 t13 t14 t15, b_law_4 [.val (.scr (cs.map .int)), .val (.int k), s2, s3, s4, s5, s6, s7, s8, s9, s10, s11, s12, s13, s14, s15, .no] S = .ok .nx [.val (.scr (cs.map .int)), .val (.int k), t2, t3, t4, t5, t6, t7, t8, t9, t10, t11, t12, t13, t14, t15, .no] S := by
  obtain ⟨z, zb, ez⟩ := cell_ev hb k S
  obtain ⟨ns, ln, hN, en⟩ := numC_ev zb k 90 (by omega) (by omega) S
  have c90 : ((90 : Nat) : Int) = 90 := rfl
  rw [c90] at en
  obtain ⟨es, le, ho, ed⟩ := drawerC_ev hN 4 (by omega) (by omega) S
  have c4 : ((4 : Nat) : Int) = 4 := rfl
  rw [c4] at ed
  have sm : slD (.lst (ns.map .int)) (some 42) (some 47) = some (.lst (((ns.drop 42).take 5).map .int)) := slN (ns := ns) (a := 42) (b := 47) (by omega) (by omega)
  obtain ⟨n, day, hn, d0, d1, edy⟩ := dayC_ev (hN.part 42 5) (by rw [List.length_take, List.length_drop]; omega) ho (by omega) S
  generalize (ns.drop 42).take 5 = ms at *
  have g47 : ixD (.lst (ns.map .int)) (.int 47) = some (.int (ns.getD 47 0)) := gets (k := 47) (by omega)
  have g48 : ixD (.lst (ns.map .int)) (.int 48) = some (.int (ns.getD 48 0)) := gets (k := 48) (by omega)
  have g49 : ixD (.lst (ns.map .int)) (.int 49) = some (.int (ns.getD 49 0)) := gets (k := 49) (by omega)
  have g50 : ixD (.lst (ns.map .int)) (.int 50) = some (.int (ns.getD 50 0)) := gets (k := 50) (by omega)
  have g51 : ixD (.lst (ns.map .int)) (.int 51) = some (.int (ns.getD 51 0)) := gets (k := 51) (by omega)
  have b48 := hN.at (k := 48) (by omega)
  generalize ns.getD 47 0 = v47 at *
  generalize ns.getD 48 0 = v48 at *
  generalize ns.getD 49 0 = v49 at *
  generalize ns.getD 50 0 = v50 at *
  generalize ns.getD 51 0 = v51 at *
  have m2 : modD (.int v49) (.int 2) = some (.int (v49 % 2)) := modD_ok (by omega)
  obtain ⟨m, hm, m0, m1⟩ : ∃ m : Int, ixD (.lst [.int 160, .int 12]) (.int (v49 % 2)) = some (.int m) ∧ 0 ≤ m ∧ m ≤ 160 := by
    rcases (by omega : v49 % 2 = 0 ∨ v49 % 2 = 1) with h | h <;> rw [h]
    · exact ⟨160, rfl, by omega, by omega⟩
    · exact ⟨12, rfl, by omega, by omega⟩
  obtain ⟨r, r0, rb, er⟩ := drawnC_ev b48.1 b48.2 m0 (by omega) S
  have rb2 : Bd 200 r := rb.mono (by omega)
  obtain ⟨LS, p1, p2, p3, el⟩ := lots_lc v47 g47 (.val (.scr (cs.map .int))) (.val (.int k)) (.val (tDr es)) (.val (.str n)) (.val (.int day)) s6 s7 s8 s9 s10 s11 s12 s13 s14 s15 S
  obtain ⟨LT, hLT⟩ : ∃ LT, LT = LS.take 8 := ⟨_, rfl⟩
  have l8 : LT.length ≤ 8 := by rw [hLT, List.length_take]; omega
  have pT : LT.Pairwise (· < ·) := by rw [hLT]; exact p1.sublist (List.take_sublist 8 LS)
  have lT : ∀ x ∈ LT, x < 12 := fun x hx => p2 x (by rw [hLT] at hx; exact List.mem_of_mem_take hx)
  have sl8 : slD (.lst (LS.map nD)) none (some 8) = some (.lst (LT.map nD)) := by
    rw [hLT, List.map_take]
    simp [slD, cut, sIx]
  have tlT : tupleD [.lst (LT.map nD)] = some (.tup (LT.map nD)) := rfl
  have lenT : lenD [.tup (LT.map nD)] = some (.int LT.length) := by rw [lenD_tup, List.length_map]
  have mul99 : ∃ X, mulTD (.tup [.int 99]) (.int (if LT = [] then 1 else 0)) = some X ∧ addD (.tup (LT.map nD)) X = some (.tup ((lotsL LT).map .int)) := by
    unfold lotsL
    by_cases h : LT = []
    · rw [h]
      exact ⟨.tup [.int 99], rep1 (.int 99) 1 (by omega), rfl⟩
    · rw [if_neg h, if_neg h]
      refine ⟨.tup [], rep1 (.int 99) 0 (by omega), ?_⟩
      refine (if_pos (by rw [List.length_map]; unfold LN; simp; omega)).trans ?_
      rw [List.append_nil]
      unfold asI
      rw [List.map_map]
      rfl
  obtain ⟨X, mx1, mx2⟩ := mul99
  have tw : tupD [.str n, .int day, .tup ((lotsL LT).map .int), tR r] = some (tW n day (lotsL LT) (tR r)) := rfl
  have lln : (lotsL LT).length ≤ 100 := by
    unfold lotsL
    split
    · simp
    · unfold asI; rw [List.length_map]; omega
  have ck := checkW_ev hn d0 d1 (lotsL LT) lln (pq r) S
  rw [if_pos (lotsL_ok pT lT l8 r r0), tP_pq] at ck
  obtain ⟨od, eo, bo⟩ := odd_ev hn d0 d1 lln r v50 S
  have ro := refW bo S
  have m24 : modD (.int v51) (.int 24) = some (.int (v51 % 24)) := modD_ok (by omega)
  obtain ⟨w, hw, w1, w2⟩ : ∃ w : Nat, 1 + v51 % 24 = w ∧ 1 ≤ w ∧ w ≤ 24 := ⟨(1 + v51 % 24).toNat, by omega, by omega, by omega⟩
  have sp : slD (.lst (ns.map .int)) (some 52) (some 60) = some (.lst (((ns.drop 52).take 8).map .int)) := slN (ns := ns) (a := 52) (b := 60) (by omega) (by omega)
  obtain ⟨ps, hp, epl⟩ := places_ev (hN.part 52 8) (by rw [List.length_take, List.length_drop]; omega) w1 w2 S
  generalize (ns.drop 52).take 8 = qs at *
  have lst : listD [tI ps] = some (tI ps) := rfl
  have ewc := wc_ev ho hn d0 d1 (by omega) rb2 w1 w2 (ps := ps) ⟨hp.nd, hp.lt, by have := hp.ln; omega⟩ (lotsL LT) S
  have elc := lconds_ev ho hn d0 d1 (by omega) rb2 w2 hp.lt (lotsL LT) S
  have ncs := ne_cs (conds r ps w (sls n day es))
  have npl := neD_self (okd_ints ps)
  have een := lends_ev ho hn d0 d1 (by omega) r0 rb2 (lotsL LT) S
  have ss : slD (.lst (ns.map .int)) (some 60) (some 62) = some (.lst (((ns.drop 60).take 2).map .int)) := slN (ns := ns) (a := 60) (b := 62) (by omega) (by omega)
  have hs := sls_ok (nm := n) ho d0 d1
  obtain ⟨xs, hx, esm⟩ := sums_ev r0 rb2 hs (hN.part 60 2) (by rw [List.length_take, List.length_drop]; omega) S
  generalize (ns.drop 60).take 2 = us at *
  have L : ∀ a10 : Slot, ∃ t13 t14, forGo (.nm 13) b_law_2 (xs.map tR) [.val (.scr (cs.map .int)), .val (.int k), .val (.lst (nums ns)), .val (tDr es), .val (.str n), .val (.int day), .val (.tup (LT.map nD)), .val (tW n day (lotsL LT) (tR r)), .val (.int w), .val (tI ps), a10, .val (.lst ((conds r ps w (sls n day es)).map tC)), .val (toldD r (sls n day es)), s13, s14, s15, .no] S = .ok .nx [.val (.scr (cs.map .int)), .val (.int k), .val (.lst (nums ns)), .val (tDr es), .val (.str n), .val (.int day), .val (.tup (LT.map nD)), .val (tW n day (lotsL LT) (tR r)), .val (.int w), .val (tI ps), a10, .val (.lst ((conds r ps w (sls n day es)).map tC)), .val (toldD r (sls n day es)), t13, t14, s15, .no] S := by
    intro a10
    have W : Wp (forGo (.nm 13) b_law_2 (xs.map tR) [.val (.scr (cs.map .int)), .val (.int k), .val (.lst (nums ns)), .val (tDr es), .val (.str n), .val (.int day), .val (.tup (LT.map nD)), .val (tW n day (lotsL LT) (tR r)), .val (.int w), .val (tI ps), a10, .val (.lst ((conds r ps w (sls n day es)).map tC)), .val (toldD r (sls n day es)), s13, s14, s15, .no] S) (fun f e S1 => f = .nx ∧ S1 = S ∧ ∃ t13 t14, e = [.val (.scr (cs.map .int)), .val (.int k), .val (.lst (nums ns)), .val (tDr es), .val (.str n), .val (.int day), .val (.tup (LT.map nD)), .val (tW n day (lotsL LT) (tR r)), .val (.int w), .val (tI ps), a10, .val (.lst ((conds r ps w (sls n day es)).map tC)), .val (toldD r (sls n day es)), t13, t14, s15, .no]) := by
      refine wp_for (fun i e S1 => S1 = S ∧ ∃ t13 t14, e = [.val (.scr (cs.map .int)), .val (.int k), .val (.lst (nums ns)), .val (tDr es), .val (.str n), .val (.int day), .val (.tup (LT.map nD)), .val (tW n day (lotsL LT) (tR r)), .val (.int w), .val (tI ps), a10, .val (.lst ((conds r ps w (sls n day es)).map tC)), .val (toldD r (sls n day es)), t13, t14, s15, .no]) ⟨rfl, _, _, rfl⟩ ?_ ?_
      · rintro i d e S1 hd ⟨rfl, t13, t14, rfl⟩
        obtain ⟨x, hxm, rfl⟩ := tL_at hd
        obtain ⟨x0, xb⟩ := hx.2 x (List.mem_of_getElem? hxm)
        obtain ⟨u14, ht⟩ := sum_turn (nm := n) ho d0 d1 r0 rb2 w2 hp hN ln x0 xb (.val (.scr (cs.map .int))) (.val (.int k)) (.val (tDr es)) (.val (.str n)) (.val (.int day)) (.val (.tup (LT.map nD))) (.val (tW n day (lotsL LT) (tR r))) a10 t14 s15 S1
        refine ⟨_, put_nm, ?_⟩
        simp only [List.set]
        rw [ht]
        exact ⟨rfl, _, _, rfl⟩
      · rintro e S1 ⟨rfl, t13, t14, rfl⟩
        exact ⟨rfl, rfl, _, _, rfl⟩
    obtain ⟨f, e, S1, h, rfl, rfl, t13, t14, rfl⟩ := wp_out W
    exact ⟨t13, t14, h⟩
  obtain ⟨t13, t14, hL⟩ := L (.val (tI ps))
  -- the three that are refused
  have hln := hp.ln
  have lnI : (asI ps).length = ps.length := by unfold asI; rw [List.length_map]
  have w_1 := refC (wc_no (w := w) (asI ps ++ [(w : Int)]) (by rw [List.length_append, lnI]; simp; omega) (.inl (by rw [List.all_append]; simp)) (tDr es) (tW n day (lotsL LT) (tR r)) S)
  have w_2 := refC (wc_no (w := w) (asI ps ++ [-1]) (by rw [List.length_append, lnI]; simp; omega) (.inl (by rw [List.all_append]; simp)) (tDr es) (tW n day (lotsL LT) (tR r)) S)
  obtain ⟨q, qs', hqs⟩ := List.exists_cons_of_ne_nil hp.ne
  have qm : (q : Int) ∈ asI ps := by unfold asI; rw [hqs]; simp
  have w_3 := refC (wc_no (w := w) (asI ps ++ [(q : Int)]) (by rw [List.length_append, lnI]; simp; omega) (.inr (by rw [ded_snoc (nd_ints hp.nd) qm, List.length_append]; simp)) (tDr es) (tW n day (lotsL LT) (tR r)) S)
  have ads : ∀ x : Int, addD (tI ps) (.lst [.int x]) = some (.lst ((asI ps ++ [x]).map .int)) := by
    intro x
    rw [tI_ints, List.map_append]
    exact if_pos (by rw [List.length_map, lnI]; unfold LN; simp only [List.length_singleton]; omega)
  have sq : slD (tI ps) none (some 1) = some (.lst [.int q]) := by
    rw [hqs]
    unfold tI
    simp [slD, cut, sIx, nD]
  have t3p : ∀ a b c : D, tupD [a, b, c] = some (.tup [a, b, c]) := fun _ _ _ => rfl
  have t4p : ∀ a b c d : D, tupD [a, b, c, d] = some (.tup [a, b, c, d]) := fun _ _ _ _ => rfl
  have nn : isntND .non .non = some (.bl false) := rfl
  have isl : tyD (.lst ((conds r ps w (sls n day es)).map tC)) = some "list" := rfl
  have L3 : forGo (.nm 15) b_law_3 [.lst ((asI ps ++ [(w : Int)]).map .int), .lst ((asI ps ++ [-1]).map .int), .lst ((asI ps ++ [(q : Int)]).map .int)] [.val (.scr (cs.map .int)), .val (.int k), .val (.lst (nums ns)), .val (tDr es), .val (.str n), .val (.int day), .val (.tup (LT.map nD)), .val (tW n day (lotsL LT) (tR r)), .val (.int w), .val (tI ps), .val (tI ps), .val (.lst ((conds r ps w (sls n day es)).map tC)), .val (toldD r (sls n day es)), t13, t14, s15, .no] S = .ok .nx [.val (.scr (cs.map .int)), .val (.int k), .val (.lst (nums ns)), .val (tDr es), .val (.str n), .val (.int day), .val (.tup (LT.map nD)), .val (tW n day (lotsL LT) (tR r)), .val (.int w), .val (tI ps), .val (tI ps), .val (.lst ((conds r ps w (sls n day es)).map tC)), .val (toldD r (sls n day es)), t13, t14, .val (.lst ((asI ps ++ [(q : Int)]).map .int)), .no] S := by
    generalize (asI ps ++ [(w : Int)]).map D.int = A at *
    generalize (asI ps ++ [-1]).map D.int = B at *
    generalize (asI ps ++ [(q : Int)]).map D.int = C at *
    generalize (conds r ps w (sls n day es)).map tC = E at *
    simp [for_turn, for_done, b_law_3, t4p, w_1, w_2, w_3]
  refine ⟨.val (.lst (nums ns)), .val (tDr es), .val (.str n), .val (.int day), .val (.tup (LT.map nD)), .val (tW n day (lotsL LT) (tR r)), .val (.int w), .val (tI ps), .val (tI ps), .val (.lst ((conds r ps w (sls n day es)).map tC)), .val (toldD r (sls n day es)), t13, t14, .val (.lst ((asI ps ++ [(q : Int)]).map .int)), ?_⟩
  have ax := ads w
  have ay := ads (-1)
  have az := ads q
  generalize (asI ps ++ [(w : Int)]).map D.int = A at *
  generalize (asI ps ++ [-1]).map D.int = B at *
  generalize (asI ps ++ [(q : Int)]).map D.int = C at *
  generalize (conds r ps w (sls n day es)).map tC = E at *
  generalize LT.map nD = F at *
  simp only [nums] at *
  simp [b_law_4, sTg_is, ez, en, ed, pSo, sm, edy, el, sl8, tlT, lenT, mx1, mx2, g48, g49, m2, hm, er, tw, ck, nn, g50, eo, ro, g51, m24, hw, sp, epl, lst, ewc, isl, elc, ncs, npl, een, ss, esm, hL, ax, ay, sq, az, L3]
theorem pure_ (cs : List Int) (hc : cs.length ≤ 63) (hb : ∀ z ∈ cs, bit z ≤ 1048576) : ∃ S', d_law [.scr (cs.map .int)] [] = .ok (.bl true) S' := by
  refine ⟨[], ?_⟩
  have mn : ∀ a b : Int, minD [.int a, .int b] = some (.int (if b < a then b else a)) := fun _ _ => rfl
  have mxx : ∀ a b : Int, maxD [.int a, .int b] = some (.int (if b > a then b else a)) := fun _ _ => rfl
  obtain ⟨n, hn, n6⟩ : ∃ n : Nat, maxD [.int 1, .int (if 4 < (cs.length : Int) then 4 else cs.length)] = some (.int n) ∧ n ≤ 4 := by
    rw [mxx]
    refine ⟨(if (if 4 < (cs.length : Int) then 4 else (cs.length : Int)) > 1 then (if 4 < (cs.length : Int) then 4 else (cs.length : Int)) else 1).toNat, ?_, ?_⟩
    · congr 2
      rw [Int.toNat_of_nonneg]
      (repeat' split) <;> omega
    · (repeat' split) <;> omega
  have hr := rng_nat (n := n) (by omega)
  have L : Wp (forGo (.nm 1) b_law_4 (rngI 0 n) [.val (.scr (cs.map .int)), .no, .no, .no, .no, .no, .no, .no, .no, .no, .no, .no, .no, .no, .no, .no, .no] []) (fun f e S1 => f = .nx ∧ S1 = []) := by
    refine wp_rng0 (fun i e S1 => S1 = [] ∧ ∃ t1 t2 t3 t4 t5 t6 t7 t8 t9 t10 t11 t12 t13 t14 t15, e = [.val (.scr (cs.map .int)), t1, t2, t3, t4, t5, t6, t7, t8, t9, t10, t11, t12, t13, t14, t15, .no]) ⟨rfl, _, _, _, _, _, _, _, _, _, _, _, _, _, _, _, rfl⟩ ?_ ?_
    · rintro i e S1 hi ⟨rfl, t1, t2, t3, t4, t5, t6, t7, t8, t9, t10, t11, t12, t13, t14, t15, rfl⟩
      obtain ⟨u2, u3, u4, u5, u6, u7, u8, u9, u10, u11, u12, u13, u14, u15, ht⟩ := turn4 hb (k := i) (by omega) t2 t3 t4 t5 t6 t7 t8 t9 t10 t11 t12 t13 t14 t15 []
      simp only [List.set]
      rw [ht]
      exact ⟨rfl, _, _, _, _, _, _, _, _, _, _, _, _, _, _, _, rfl⟩
    · rintro e S1 ⟨rfl, _⟩
      exact ⟨rfl, rfl⟩
  obtain ⟨f, e, S1, hL, rfl, rfl⟩ := wp_out L
  have na : ("a" : Str) ∈ names4 := by decide
  have noE : Oks [] := fun e h => absurd h List.not_mem_nil
  have o1 : Bd 200 1 := Bd1 (by omega)
  have w0 := wc_ev (es := []) (day := 0) (r := 1) (w := 1) (ps := [0]) noE na (by omega) (by omega) (by simp) o1 (by omega) (by omega) ⟨by simp, by simp, by simp⟩ [0] []
  have dE : tDr [] = .tup [] := rfl
  have pE : tI [0] = .lst [.int 0] := rfl
  have c1 : ((1 : Nat) : Int) = 1 := rfl
  have cE : (conds 1 [0] 1 (sls "a" 0 [])).map tC = [] := rfl
  rw [dE, pE, c1, cE] at w0
  have tw : tupD [.str "a", .int 0, .tup [.int 0], tR 1] = some (tW "a" 0 [0] (tR 1)) := rfl
  have e0 : eqD (.lst []) (.lst []) = some (.bl true) := eqD_self rfl
  refine fnD_rt rfl (en1 := e) ?_
  simp [b_law, mn, hn, hr, hL, t11, tw, w0, e0]
end Lk24

theorem PySem.Challenge.cw_kerbwise_k24_conditions_of_weighings_holds : PySem.Challenge.rw_kerbwise_k24_conditions_of_weighings.Holds := by
  exact Lk24.holds fun ns h hb => Lk24.pure_ ns h hb
