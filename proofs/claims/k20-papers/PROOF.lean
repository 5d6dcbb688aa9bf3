import PyProof.Rows.All
import Wide.All
import OpenK.AllK
import Wide.FinOn
import PySem.Str
import HandS.ForMost
import HandS.Exc
import HandS.TryOnly
import HandS.ExcOwn
import HandS.ExcIs
import HandS.IsInst
import HandS.CallSlots
import HandS.Wide
import HandS.TupAny
import HandS.Zip
import HandS.RevRange
import HandS.Flow
import HandS.Defaults
import HandS.WordsExc
import HandS.Conv
import HandS.Strs
import HandS.Style
import KE.KStateDown
import HandS.Ends
import HandS.EndBits
import HandS.More
import HandS.Words
import HandS.Head0
import HandS.Head1
import HandS.Head2
import HandS.HeadEnd
import HandS.HeadHook1
import HandS.HeadHook2
import HandS.TupMul
import PyProof.P3In
import HandS.SortInts
import KE.GoesMore
import HandS.Text
import HandS.FStr
import HandS.RaiseMore
import PySem.Challenge.RW_kerbwise_k20_papers_and_drawers
set_option linter.all false
/-! Kb0: pure data, the store, outcomes; what a text of the subset does, as plain functions. No machine here. -/
namespace Kb
open PySem
/-- data; a cell is a list that may change, by its number in the store; scr is the script itself -/
inductive D where
  | non | bl (b : Bool) | int (i : Int) | str (x : Str) | tup (xs : List D) | lst (xs : List D) | cell (n : Nat) | glo (x : Str) | scr (xs : List D)
  deriving Inhabited
inductive Slot where
  | no | val (d : D) | own (xs : List D) | ex (c : String)
  deriving Inhabited
abbrev Env := List Slot
abbrev Store := List (List D)
inductive Out (α : Type) where
  | ok (a : α) (S : Store) | exc (c : String) (S : Store) | stuck
abbrev M (α : Type) := Store → Out α
abbrev EM (α : Type) := Env → Store → Out α
inductive Fl where
  | nx | rt (d : D) | bk | ct
inductive SO where
  | ok (f : Fl) (e : Env) (S : Store) | exc (c : String) (e : Env) (S : Store) | stuck
abbrev SM := Env → Store → SO

@[inline] def Out.bind {α β : Type} (o : Out α) (f : α → Store → Out β) : Out β := match o with
  | .ok a S => f a S
  | .exc c S => .exc c S
  | .stuck => .stuck
def lift {α : Type} : Option α → Store → Out α
  | some a, S => .ok a S
  | none, _ => .stuck

/-- sizeLine, as a number -/
abbrev LN : Nat := 16777216

/-! ### expressions -/
def eC (d : D) : EM D := fun _ S => .ok d S
def slotV : Slot → Option D
  | .val d => some d
  | _ => none
def slotB : Slot → Option D
  | .val d => some d
  | .own xs => some (.lst xs)
  | _ => none
def eN (i : Nat) : EM D := fun env S => lift ((env[i]?).bind slotV) S
def eB (i : Nat) : EM D := fun env S => lift ((env[i]?).bind slotB) S
def e1 (op : D → Option D) (f : EM D) : EM D := fun env S => (f env S).bind fun x S1 => lift (op x) S1
def e2 (op : D → D → Option D) (f g : EM D) : EM D := fun env S => (f env S).bind fun x S1 => (g env S1).bind fun y S2 => lift (op x y) S2
def aNil : EM (List D) := fun _ S => .ok [] S
def aCons (f : EM D) (g : EM (List D)) : EM (List D) := fun env S => (f env S).bind fun x S1 => (g env S1).bind fun xs S2 => .ok (x :: xs) S2
def eA (op : List D → Option D) (g : EM (List D)) : EM D := fun env S => (g env S).bind fun xs S1 => lift (op xs) S1
def tupD (xs : List D) : Option D := if xs.length ≤ LN then some (.tup xs) else none
def lstD (xs : List D) : Option D := if xs.length ≤ LN then some (.lst xs) else none
/-- a call of a def -/
def eF (F : List D → M D) (g : EM (List D)) : EM D := fun env S => (g env S).bind fun xs S1 => F xs S1
/-! ### tests -/
def boolD : D → Option Bool
  | .bl b => some b
  | _ => none
/-- truth of a value -/
def truD : D → Option Bool
  | .non => some false
  | .bl b => some b
  | .int i => some (i != 0)
  | .str x => if x.length ≤ LN then some ((x.length : Int) != 0) else none
  | .tup xs => some (!xs.isEmpty)
  | .lst xs => some (!xs.isEmpty)
  | _ => none
/-- a value's truth as a test -/
def tV (f : EM D) : EM Bool := fun env S => (f env S).bind fun x S1 => lift (truD x) S1
/-- a comparison's bool as a test -/
def tB (f : EM D) : EM Bool := fun env S => (f env S).bind fun x S1 => lift (boolD x) S1
def tAnd (t u : EM Bool) : EM Bool := fun env S => (t env S).bind fun b S1 => if b = true then u env S1 else .ok false S1
def tOr (t u : EM Bool) : EM Bool := fun env S => (t env S).bind fun b S1 => if b = true then .ok true S1 else u env S1
def tNot (t : EM Bool) : EM Bool := fun env S => (t env S).bind fun b S1 => .ok (!b) S1
def eIf (t : EM Bool) (f g : EM D) : EM D := fun env S => (t env S).bind fun b S1 => if b = true then f env S1 else g env S1
/-- and, or, not as values -/
def eAnd (f g : EM D) : EM D := fun env S => (f env S).bind fun x S1 => (lift (boolD x) S1).bind fun b S2 => if b = true then g env S2 else .ok (.bl false) S2
def eOr (f g : EM D) : EM D := fun env S => (f env S).bind fun x S1 => (lift (boolD x) S1).bind fun b S2 => if b = true then .ok (.bl true) S2 else g env S2
def eNot (f : EM D) : EM D := fun env S => (f env S).bind fun x S1 => (lift (boolD x) S1).bind fun b S2 => .ok (.bl (!b)) S2
/-- a op b op' c -/
def eCh (op op' : D → D → Option D) (f g h : EM D) : EM D := fun env S => (f env S).bind fun x S1 => (g env S1).bind fun y S2 => (lift (op x y) S2).bind fun z S3 => (lift (boolD z) S3).bind fun b S4 =>
  if b = true then (h env S4).bind fun w S5 => lift (op' y w) S5 else .ok (.bl false) S4
/-! ### operators on data -/
def addD : D → D → Option D
  | .int i, .int j => some (.int (i + j))
  | .str x, .str y => if x.length + y.length ≤ LN then some (.str (x ++ y)) else none
  | .lst xs, .lst ys => if xs.length + ys.length ≤ LN then some (.lst (xs ++ ys)) else none
  | .tup xs, .tup ys => if xs.length + ys.length ≤ LN then some (.tup (xs ++ ys)) else none
  | _, _ => none
def subD : D → D → Option D
  | .int i, .int j => some (.int (i - j))
  | _, _ => none
/-- bits of a factor -/
def bit (i : Int) : Nat := i.natAbs.log2
def mulD : D → D → Option D
  | .int i, .int j => if bit i + bit j < 100000000 then some (.int (i * j)) else none
  | .lst xs, .int k => if -(2 ^ 63) ≤ k ∧ k < 2 ^ 63 ∧ xs.length * k.toNat ≤ LN then some (.lst (List.replicate k.toNat xs).flatten) else none
  | _, _ => none
/-- a row times an int -/
def mulTD : D → D → Option D
  | .tup xs, .int k => if xs ≠ [] ∧ -1000 ≤ k ∧ k ≤ 1000 ∧ xs.length ≤ 1000 then some (.tup (List.replicate k.toNat xs).flatten) else none
  | _, _ => none
/-- a list times an int -/
def mulLD : D → D → Option D
  | .lst xs, .int k => if -100000 ≤ k ∧ k ≤ 100000 ∧ xs.length * k.toNat ≤ LN then some (.lst (List.replicate k.toNat xs).flatten) else none
  | _, _ => none
def fdivD : D → D → Option D
  | .int i, .int j => if 0 < j ∧ bit j < 9000 then some (.int (i / j)) else none
  | _, _ => none
def modD : D → D → Option D
  | .int i, .int j => if 0 < j then some (.int (i % j)) else none
  | _, _ => none
def powD : D → D → Option D
  | .int i, .int j => if 0 ≤ j ∧ j ≤ 1000000 ∧ i.natAbs < 2 ^ 64 then some (.int (i ^ j.toNat)) else none
  | _, _ => none
def negD : D → Option D
  | .int i => some (.int (-i))
  | _ => none
def ltD : D → D → Option D
  | .int i, .int j => some (.bl (decide (i < j)))
  | _, _ => none
def leD : D → D → Option D
  | .int i, .int j => some (.bl (decide (i ≤ j)))
  | _, _ => none
def gtD : D → D → Option D
  | .int i, .int j => some (.bl (decide (j < i)))
  | _, _ => none
def geD : D → D → Option D
  | .int i, .int j => some (.bl (decide (j ≤ i)))
  | _, _ => none
/-! ### equality -/
mutual
/-- plain data of a depth -/
def okd : Nat → D → Bool
  | _, .non => true
  | _, .bl _ => true
  | _, .int _ => true
  | _, .str x => x.cps.all fun c => decide (c < 1114112)
  | n + 1, .tup xs => okds n xs
  | n + 1, .lst xs => okds n xs
  | _, _ => false
def okds : Nat → List D → Bool
  | _, [] => true
  | n, x :: xs => okd n x && okds n xs
end
mutual
def eqv : D → D → Bool
  | .non, .non => true
  | .bl a, .bl b => a == b
  | .bl a, .int j => (if a then 1 else 0) == j
  | .int i, .bl b => i == (if b then 1 else 0)
  | .int i, .int j => i == j
  | .str x, .str y => x == y
  | .lst xs, .lst ys => eqvs xs ys
  | .tup xs, .tup ys => eqvs xs ys
  | _, _ => false
def eqvs : List D → List D → Bool
  | [], [] => true
  | x :: xs, y :: ys => eqv x y && eqvs xs ys
  | _, _ => false
end
def eqD (x y : D) : Option D := if (okd 60 x && okd 60 y) = true then some (.bl (eqv x y)) else none
def neD (x y : D) : Option D := if (okd 60 x && okd 60 y) = true then some (.bl (!eqv x y)) else none
/-! ### is -/
def isNonD : D → Option D
  | .non => some (.bl true)
  | .bl _ => some (.bl false)
  | .int _ => some (.bl false)
  | .str _ => some (.bl false)
  | .tup _ => some (.bl false)
  | .lst _ => some (.bl false)
  | _ => none
def notNonD : D → Option D
  | .non => some (.bl false)
  | .bl _ => some (.bl true)
  | .int _ => some (.bl true)
  | .str _ => some (.bl true)
  | .tup _ => some (.bl true)
  | .lst _ => some (.bl true)
  | _ => none
/-- e is True, e is False: of boolsOf -/
def isBlD (k : Bool) : D → Option D
  | .bl b => some (.bl (b == k))
  | _ => none
/-! ### items, slices -/
def ixN (n : Nat) (i : Int) : Option Nat := if 0 ≤ i then (if i < n then some i.toNat else none) else (if -(n : Int) ≤ i then some (i + n).toNat else none)
def atD (xs : List D) (i : Int) : Option D := (ixN xs.length i).bind fun j => xs[j]?
def ixD : D → D → Option D
  | .lst xs, .int i => atD xs i
  | .tup xs, .int i => atD xs i
  | .scr xs, .int i => atD xs i
  | .str z, .int i => if z.length ≤ LN then (ixN z.cps.toList.length i).bind fun j => (z.cps.toList[j]?).map fun c => .str ⟨#[c]⟩ else none
  | _, _ => none
def sIx (n d : Nat) : Option Int → Nat
  | none => d
  | some v => if v < 0 then (v + (n : Int)).toNat else min v.toNat n
def cut {α : Type} (xs : List α) (lo hi : Option Int) : List α := (xs.drop (sIx xs.length 0 lo)).take (sIx xs.length xs.length hi - sIx xs.length 0 lo)
def slD : D → Option Int → Option Int → Option D
  | .lst xs, lo, hi => some (.lst (cut xs lo hi))
  | .tup xs, lo, hi => some (.tup (cut xs lo hi))
  | .scr xs, lo, hi => some (.lst (cut xs lo hi))
  | .str z, lo, hi => if z.length ≤ LN then some (.str ⟨(cut z.cps.toList lo hi).toArray⟩) else none
  | _, _, _ => none
def pNo : EM (Option Int) := fun _ S => .ok none S
def pSo (f : EM D) : EM (Option Int) := fun env S => (f env S).bind fun x S1 => match x with
  | .int i => .ok (some i) S1
  | _ => .stuck
def eSl (f : EM D) (lo hi : EM (Option Int)) : EM D := fun env S => (f env S).bind fun x S1 => (lo env S1).bind fun l S2 => (hi env S2).bind fun u S3 => lift (slD x l u) S3
/-! ### built-ins -/
def lenD : List D → Option D
  | [.lst xs] => some (.int xs.length)
  | [.tup xs] => some (.int xs.length)
  | [.scr xs] => some (.int xs.length)
  | [.str x] => if x.length ≤ LN then some (.int x.length) else none
  | _ => none
def absD : List D → Option D
  | [.int i] => some (.int (if i < 0 then -i else i))
  | _ => none
def intD : List D → Option D
  | [.int i] => some (.int i)
  | [.bl k] => some (.int (if k then 1 else 0))
  | _ => none
def maxD : List D → Option D
  | [.int i, .int j] => some (.int (if j > i then j else i))
  | _ => none
def minD : List D → Option D
  | [.int i, .int j] => some (.int (if j < i then j else i))
  | _ => none
def tupleD : List D → Option D
  | [.lst xs] => some (.tup xs)
  | [.tup xs] => some (.tup xs)
  | _ => none
def listD : List D → Option D
  | [.lst xs] => some (.lst xs)
  | [.tup xs] => some (.lst xs)
  | _ => none
def boolsOf : List D → Option (List Bool)
  | [] => some []
  | .bl b :: r => (boolsOf r).map (b :: ·)
  | _ => none
def intsOf : List D → Option (List Int)
  | [] => some []
  | .int b :: r => (intsOf r).map (b :: ·)
  | _ => none
def allD : List D → Option D
  | [.lst xs] => (boolsOf xs).map fun bs => .bl (bs.all id)
  | _ => none
def anyD : List D → Option D
  | [.lst xs] => (boolsOf xs).map fun bs => .bl (bs.any id)
  | _ => none
def sumD : List D → Option D
  | [.lst xs] => (intsOf xs).map fun ns => .int ns.sum
  | _ => none
/-- in order -/
def sortI (ns : List Int) : List Int := ns.mergeSort fun a b => decide (a ≤ b)
def sortD : List D → Option D
  | [.lst xs] => (intsOf xs).map fun ns => .lst ((sortI ns).map .int)
  | _ => none
/-- each once -/
def ded (ns : List Int) : List Int := ns.foldl (fun acc x => if acc.any (· == x) then acc else acc ++ [x]) []
/-- len(set(..)) -/
def lenSetD : D → Option D
  | .lst xs => (intsOf xs).bind fun ns => if ns.length ≤ 4000 then some (.int (ded ns).length) else none
  | _ => none
/-- isinstance: a built-in type by its name -/
def tyD : D → Option String
  | .non => some "NoneType"
  | .bl _ => some "bool"
  | .int _ => some "int"
  | .str _ => some "str"
  | .tup _ => some "tuple"
  | .lst _ => some "list"
  | _ => none
def isTyD (t : String) : D → Option D := fun d => (tyD d).map fun u => .bl (u == t || (u == "bool" && t == "int"))
def mulI : D → D → Option D := fun x y => match x, y with
  | .int i, .int j => if bit i + bit j < 100000000 then some (.int (i * j)) else none
  | _, _ => none
def isD : D → D → Option D
  | x, .non => isNonD x
  | .bl a, .bl b => some (.bl (decide (a = b)))
  | _, _ => none
def isntND : D → D → Option D
  | x, .non => notNonD x
  | .bl a, .bl b => some (.bl (!decide (a = b)))
  | _, _ => none
/-- x in y -/
def inD (x y : D) : Option D := match y with
  | .lst ys => if (okd 60 x && okd 60 (.lst ys)) = true then some (.bl (ys.any fun z => eqv z x)) else none
  | .tup ys => if (okd 60 x && okd 60 (.tup ys)) = true then some (.bl (ys.any fun z => eqv z x)) else none
  | .str z => match x with
    | .str ⟨⟨[c]⟩⟩ => some (.bl (decide (c ∈ z.cps.toList)))
    | _ => none
  | _ => none
def ninD (x y : D) : Option D := match y with
  | .lst ys => if (okd 60 x && okd 60 (.lst ys)) = true then some (.bl (!ys.any fun z => eqv z x)) else none
  | .tup ys => if (okd 60 x && okd 60 (.tup ys)) = true then some (.bl (!ys.any fun z => eqv z x)) else none
  | .str z => match x with
    | .str ⟨⟨[c]⟩⟩ => some (.bl (!decide (c ∈ z.cps.toList)))
    | _ => none
  | _ => none
def addI : D → D → Option D := fun x y => match x, y with | .int i, .int j => some (.int (i + j)) | _, _ => none
/-! ### chains, calls of a value, texts -/
/-- x op1 e1 op2 e2 ..; the first value is there -/
def eChK : List ((D → D → Option D) × EM D) → D → EM D
  | [], _ => fun _ _ => .stuck
  | [p], x => fun env S => (p.2 env S).bind fun y S1 => lift (p.1 x y) S1
  | p :: q :: l, x => fun env S => (p.2 env S).bind fun y S1 => (lift (p.1 x y) S1).bind fun z S2 => (lift (boolD z) S2).bind fun b S3 => if b = true then eChK (q :: l) y env S3 else .ok (.bl false) S3
def eChn (f : EM D) (l : List ((D → D → Option D) × EM D)) : EM D := fun env S => (f env S).bind fun x S1 => eChK l x env S1
/-- a call of a def that is a value: the defs that it may be -/
def dsp (l : List (String × (List D → M D))) : D → Option (List D → M D)
  | .glo x => (l.find? (fun p => Str.ofString p.1 == x)).map (·.2)
  | _ => none
def eFv (l : List (String × (List D → M D))) (f : EM D) (g : EM (List D)) : EM D := fun env S => (f env S).bind fun y S1 => match dsp l y with
  | some R => (g env S1).bind fun xs S2 => R xs S2
  | none => .stuck
/-- a method of a text, without and with an argument -/
def eM0 (op : Str → Option D) (f : EM D) : EM D := fun env S => (f env S).bind fun x S1 => match x with
  | .str a => lift (op a) S1
  | _ => .stuck
def eM1 (op : Str → D → Option D) (f g : EM D) : EM D := fun env S => (f env S).bind fun x S1 => match x with
  | .str a => (g env S1).bind fun y S2 => lift (op a y) S2
  | _ => .stuck
/-- the first place of a sign -/
def fnd (c : Nat) : List Nat → Nat → Int
  | [], _ => -1
  | x :: r, k => if x = c then k else fnd c r (k + 1)
def findD (z : Str) : D → Option D
  | .str ⟨⟨[c]⟩⟩ => some (.int (fnd c z.cps.toList 0))
  | _ => none
/-- at the first c -/
def par1 (c : Nat) : List Nat → Option (List Nat × List Nat)
  | [] => none
  | x :: r => if x = c then some ([], r) else (par1 c r).map fun p => (x :: p.1, p.2)
def txS (l : List Nat) : Str := ⟨l.toArray⟩
def partD (z : Str) : D → Option D
  | .str ⟨⟨[c]⟩⟩ => if z.length ≤ LN then some (match par1 c z.cps.toList with
    | some p => .tup [.str (txS p.1), .str ⟨#[c]⟩, .str (txS p.2)]
    | none => .tup [.str z, .str ⟨#[]⟩, .str ⟨#[]⟩]) else none
  | _ => none
/-- at each c -/
def spl1 (c : Nat) : List Nat → List Nat → List (List Nat)
  | acc, [] => [acc]
  | acc, x :: r => if x = c then acc :: spl1 c [] r else spl1 c (acc ++ [x]) r
def splitD (z : Str) : D → Option D
  | .str ⟨⟨[c]⟩⟩ => if z.length + 2 ≤ LN ∧ c < 256 then some (.lst ((spl1 c [] z.cps.toList).map fun l => .str (txS l))) else none
  | _ => none
def strsOf : List D → Option (List Str)
  | [] => some []
  | .str b :: r => (strsOf r).map (b :: ·)
  | _ => none
def glue (s : List Nat) : List (List Nat) → List Nat
  | [] => []
  | [l] => l
  | l :: m :: r => l ++ (s ++ glue s (m :: r))
def joinS (z : Str) (ys : List Str) : Option D := if (ys.map (·.length)).sum + ys.length * z.length ≤ LN then some (.str (txS (glue z.cps.toList (ys.map (·.cps.toList))))) else none
def joinD (z : Str) : D → Option D
  | .lst ds => (strsOf ds).bind (joinS z)
  | .tup ds => (strsOf ds).bind (joinS z)
  | _ => none
/-- the digits of a number -/
def digs (n : Nat) : List Nat := if n < 10 then [48 + n] else digs (n / 10) ++ [48 + n % 10]
def numS (i : Int) : Str := txS (if i < 0 then 45 :: digs i.natAbs else digs i.natAbs)
def strD : List D → Option D
  | [.int i] => if bit i < 1920 then some (.str (numS i)) else none
  | [.str z] => some (.str z)
  | _ => none
/-- int(text) -/
def dval (l : List Nat) : Nat := l.foldl (fun a c => a * 10 + (c - 48)) 0
def intTD : List D → Option D
  | [.int i] => some (.int i)
  | [.bl k] => some (.int (if k then 1 else 0))
  | [.str z] => if z.cps.toList ≠ [] ∧ z.length ≤ 640 ∧ (z.cps.toList.all fun c => decide (48 ≤ c ∧ c ≤ 57)) = true then some (.int (dval z.cps.toList)) else none
  | _ => none
/-- a part of an f-string: a text or an int -/
def fmtD : D → Option D
  | .str z => if z.length ≤ LN then some (.str z) else none
  | .int i => if bit i < 1920 then some (.str (numS i)) else none
  | _ => none
/-- the parts of an f-string, one behind the other -/
def eJ : List (EM D) → List Nat → EM D
  | [], acc => fun _ S => .ok (.str (txS acc)) S
  | f :: fs, acc => fun env S => (f env S).bind fun x S1 => match x with
    | .str z => if (acc ++ z.cps.toList).length ≤ LN then eJ fs (acc ++ z.cps.toList) env S1 else .stuck
    | _ => .stuck
/-! ### targets -/
inductive Tg where
  | nm (i : Nat) | tp (ts : List Tg)
mutual
def Tg.put : Tg → D → Env → Option Env
  | .nm i, d, env => some (env.set i (.val d))
  | .tp ts, .tup ds, env => Tg.puts ts ds env
  | .tp ts, .lst ds, env => Tg.puts ts ds env
  | .tp _, _, _ => none
def Tg.puts : List Tg → List D → Env → Option Env
  | [], [], env => some env
  | t :: ts, d :: ds, env => (Tg.put t d env).bind fun env' => Tg.puts ts ds env'
  | _, _, _ => none
end
mutual
def Tg.idx : Tg → List Nat
  | .nm i => [i]
  | .tp ts => Tg.idxs ts
def Tg.idxs : List Tg → List Nat
  | [] => []
  | t :: ts => Tg.idx t ++ Tg.idxs ts
end
/-! ### what is walked -/
def seqD : D → Option (List D)
  | .lst xs => some xs
  | .tup xs => some xs
  | .str z => some (z.cps.toList.map fun c => .str ⟨#[c]⟩)
  | _ => none
def iS (f : EM D) : EM (List D) := fun env S => (f env S).bind fun x S1 => lift (seqD x) S1
def rngI (lo : Int) (n : Nat) : List D := (List.range n).map fun k => .int (lo + (k : Nat))
/-- a range's numbers lie within 2^62; the bound is kept from being reckoned with -/
noncomputable def lim62 : Int := (⟨2 ^ 62, rfl⟩ : ∃ n : Int, n = 2 ^ 62).choose
theorem lim62_eq : lim62 = 2 ^ 62 := (⟨2 ^ 62, rfl⟩ : ∃ n : Int, n = 2 ^ 62).choose_spec
noncomputable def rng1D : List D → Option (List D)
  | [.int j] => if -lim62 ≤ j ∧ j < lim62 then some (rngI 0 j.toNat) else none
  | _ => none
noncomputable def rng2D : List D → Option (List D)
  | [.int i, .int j] => if -lim62 ≤ i ∧ i < lim62 ∧ -lim62 ≤ j ∧ j < lim62 then some (rngI i (j - i).toNat) else none
  | _ => none
theorem rng1_ok {j : Int} (h : -4611686018427387904 ≤ j) (h2 : j < 4611686018427387904) : rng1D [.int j] = some (rngI 0 j.toNat) := by
  have e : lim62 = 4611686018427387904 := lim62_eq
  have z : rng1D [.int j] = if -lim62 ≤ j ∧ j < lim62 then some (rngI 0 j.toNat) else none := rfl
  rw [z, e, if_pos ⟨h, h2⟩]
theorem rng2_ok {i j : Int} (h : -4611686018427387904 ≤ i) (h2 : i < 4611686018427387904) (h3 : -4611686018427387904 ≤ j) (h4 : j < 4611686018427387904) : rng2D [.int i, .int j] = some (rngI i (j - i).toNat) := by
  have e : lim62 = 4611686018427387904 := lim62_eq
  have z : rng2D [.int i, .int j] = if -lim62 ≤ i ∧ i < lim62 ∧ -lim62 ≤ j ∧ j < lim62 then some (rngI i (j - i).toNat) else none := rfl
  rw [z, e, if_pos ⟨h, h2, h3, h4⟩]
theorem rng_nat {n : Nat} (h : n < 4611686018427387904) : rng1D [.int n] = some (rngI 0 n) := by
  rw [rng1_ok (by omega) (by omega), Int.toNat_natCast]
theorem rng_lit (n : Nat) (h : n < 4611686018427387904) : rng1D [.int (OfNat.ofNat n)] = some (rngI 0 n) := rng_nat h
def enumL (ds : List D) : List D := ds.mapIdx fun k d => .tup [.int (k : Nat), d]
def zipL (xs ys : List D) : List D := List.zipWith (fun x y => .tup [x, y]) xs ys
def enumD : List D → Option (List D)
  | [.lst xs] => some (enumL xs)
  | [.tup xs] => some (enumL xs)
  | _ => none
def zipD : List D → Option (List D)
  | [.lst xs, .lst ys] => some (zipL xs ys)
  | [.tup xs, .tup ys] => some (zipL xs ys)
  | _ => none
def iA (op : List D → Option (List D)) (g : EM (List D)) : EM (List D) := fun env S => (g env S).bind fun xs S1 => lift (op xs) S1
/-! ### comprehensions -/
def wipe (env : Env) : List Nat → Env
  | [] => env
  | v :: vs => (wipe env vs).set v .no
def lcGo (tg : Tg) (t : EM Bool) (f : EM D) (env : Env) : List D → List D → M (List D)
  | [], acc, S => .ok acc S
  | d :: ds, acc, S => match tg.put d env with
    | none => .stuck
    | some env' => match t env' S with
      | .ok true S1 => (match f env' S1 with
        | .ok y S2 => if acc.length < LN then lcGo tg t f env ds (acc ++ [y]) S2 else .stuck
        | _ => .stuck)
      | .ok false S1 => lcGo tg t f env ds acc S1
      | _ => .stuck
def eLc (it : EM (List D)) (tg : Tg) (vs : List Nat) (t : EM Bool) (f : EM D) : EM (List D) := fun env S => (it env S).bind fun ds S1 => lcGo tg t f (wipe env vs) ds [] S1
def tYes : EM Bool := fun _ S => .ok true S
def eLst (f : EM (List D)) : EM D := fun env S => (f env S).bind fun ds S1 => .ok (.lst ds) S1
def fLst (F : EM (List D)) : EM (List D) := fun env S => (F env S).bind fun ds S1 => if ds.length ≤ LN then .ok ds S1 else .stuck
def fList (g : EM (List D)) : EM (List D) := fun env S => (g env S).bind fun xs S1 => match listD xs with
  | some (.lst ds) => .ok ds S1
  | _ => .stuck
/-- a list and a list, a new one -/
def fCat (f g : EM D) : EM (List D) := fun env S => (f env S).bind fun x S1 => (g env S1).bind fun y S2 => match x, y with
  | .lst xs, .lst ys => if xs.length + ys.length ≤ LN then .ok (xs ++ ys) S2 else .stuck
  | _, _ => .stuck
/-- a list times an int, a new one -/
def fMul (f g : EM D) : EM (List D) := fun env S => (f env S).bind fun x S1 => (g env S1).bind fun y S2 => match x, y with
  | .lst xs, .int k => if -100000 ≤ k ∧ k ≤ 100000 ∧ xs.length * k.toNat ≤ LN then .ok (List.replicate k.toNat xs).flatten S2 else .stuck
  | _, _ => .stuck
def calm0 {α : Type} : Out α → Out α
  | .exc _ _ => .stuck
  | o => o
/-! ### statements -/
def SO.bind (o : SO) (f : Env → Store → SO) : SO := match o with
  | .ok .nx e S => f e S
  | o => o
def sNil : SM := fun env S => .ok .nx env S
def sSeq (a b : SM) : SM := fun env S => (a env S).bind b
/-- an expression ahead of what follows -/
def eS {α : Type} (o : Out α) (env : Env) (k : α → Store → SO) : SO := match o with
  | .ok a S => k a S
  | .exc c S => .exc c env S
  | .stuck => .stuck
def sExpr (f : EM D) : SM := fun env S => eS (f env S) env fun _ S1 => .ok .nx env S1
def sSet (i : Nat) (f : EM D) : SM := fun env S => eS (f env S) env fun d S1 => .ok .nx (env.set i (.val d)) S1
def sOwn (i : Nat) (f : EM (List D)) : SM := fun env S => eS (f env S) env fun ds S1 => .ok .nx (env.set i (.own ds)) S1
def sTg (tg : Tg) (f : EM D) : SM := fun env S => eS (f env S) env fun d S1 => match tg.put d env with
  | some env' => .ok .nx env' S1
  | none => .stuck
/-- i, j = e1, e2 -/
def sPar (i j : Nat) (g : EM (List D)) : SM := fun env S => eS (g env S) env fun ds S1 => match ds with
  | [x, y] => .ok .nx ((env.set i (.val x)).set j (.val y)) S1
  | _ => .stuck
def sAug (i : Nat) (op : D → D → Option D) (f : EM D) : SM := fun env S => match (env[i]?).bind slotV with
  | none => .stuck
  | some x => eS (f env S) env fun y S1 => match op x y with
    | some z => .ok .nx (env.set i (.val z)) S1
    | none => .stuck
/-- xs.append(e) -/
def sApp (i : Nat) (f : EM D) : SM := fun env S => match env[i]? with
  | some (.own xs) => eS (f env S) env fun d S1 => if xs.length < LN then .ok .nx (env.set i (.own (xs ++ [d]))) S1 else .stuck
  | _ => .stuck
/-- xs[k] = e -/
def sPut (i : Nat) (k f : EM D) : SM := fun env S => eS (f env S) env fun d S1 => match env[i]? with
  | some (.own xs) => eS (k env S1) env fun x S2 => match x with
    | .int j => (match ixN xs.length j with
      | some n => .ok .nx (env.set i (.own (xs.set n d))) S2
      | none => .stuck)
    | _ => .stuck
  | _ => .stuck
def sIf (t : EM Bool) (a b : SM) : SM := fun env S => eS (t env S) env fun c S1 => if c = true then a env S1 else b env S1
def sRet (f : EM D) : SM := fun env S => eS (f env S) env fun d S1 => .ok (.rt d) env S1
def sRetN : SM := fun env S => .ok (.rt .non) env S
def sBrk : SM := fun env S => .ok .bk env S
def sCont : SM := fun env S => .ok .ct env S
def sRaise (c : String) : SM := fun env S => .exc c env S
/-- the list of slot i is left alone from here on -/
def frz (i : Nat) (env : Env) : Env := match env[i]? with
  | some (.own xs) => env.set i (.val (.lst xs))
  | _ => env
def sFrz (i : Nat) (a : SM) : SM := fun env S => a (frz i env) S
def forGo (tg : Tg) (b : SM) : List D → SM
  | [], env, S => .ok .nx env S
  | d :: ds, env, S => match tg.put d env with
    | none => .stuck
    | some env' => match b env' S with
      | .ok .nx e1 S1 => forGo tg b ds e1 S1
      | .ok .ct e1 S1 => forGo tg b ds e1 S1
      | .ok .bk e1 S1 => .ok .nx e1 S1
      | .ok (.rt d) e1 S1 => .ok (.rt d) e1 S1
      | .exc c e1 S1 => .exc c e1 S1
      | .stuck => .stuck
def sFor (tg : Tg) (it : EM (List D)) (b : SM) : SM := fun env S => eS (it env S) env fun ds S1 => forGo tg b ds env S1
/-- n turns at most -/
def whGo (t : EM Bool) (b : SM) : Nat → SM
  | 0, _, _ => .stuck
  | n + 1, env, S => eS (t env S) env fun c S1 => if c = true then (match b env S1 with
      | .ok .nx e1 S2 => whGo t b n e1 S2
      | .ok .ct e1 S2 => whGo t b n e1 S2
      | .ok .bk e1 S2 => .ok .nx e1 S2
      | .ok (.rt d) e1 S2 => .ok (.rt d) e1 S2
      | .exc c e1 S2 => .exc c e1 S2
      | .stuck => .stuck) else .ok .nx env S1
open Classical in
noncomputable def sWhile (t : EM Bool) (b : SM) : SM := fun env S => if h : ∃ n, whGo t b n env S ≠ .stuck then whGo t b h.choose env S else .stuck
/-- try: a except X: cs tells, for each class that may come, whether the clause takes it -/
def notEx : Slot → Bool
  | .ex _ => false
  | _ => true
def sTry (a : SM) (cs : List (String × Bool)) (h : String → SM) : SM := fun env S => match a env S with
  | .exc c e1 S1 => (match cs.lookup c with
    | some true => if e1.all notEx = true then (match h c e1 S1 with
      | .ok f e2 S2 => if e2.all notEx = true then .ok f e2 S2 else .stuck
      | _ => .stuck) else .stuck
    | some false => .exc c e1 S1
    | none => .stuck)
  | o => o
/-- .. as the name of slot i -/
def sTryAs (i : Nat) (a : SM) (cs : List (String × Bool)) (h : String → SM) : SM := fun env S => match a env S with
  | .exc c e1 S1 => (match cs.lookup c with
    | some true => if e1.all notEx = true then (match h c (e1.set i (.ex c)) S1 with
      | .ok f e2 S2 => if (e2.set i .no).all notEx = true then .ok f (e2.set i .no) S2 else .stuck
      | _ => .stuck) else .stuck
    | some false => .exc c e1 S1
    | none => .stuck)
  | o => o
/-- isinstance(e, X), e of slot i of the class n -/
def eIsE (i : Nat) (n : String) (b : Bool) : EM D := fun env S => match env[i]? with
  | some (.ex m) => if m = n then .ok (.bl b) S else .stuck
  | _ => .stuck
/-! ### defs -/
/-- n parameters, k further names -/
def fnD (n k : Nat) (b : SM) : List D → M D := fun ds S => if ds.length = n then (match b (ds.map .val ++ List.replicate k .no) S with
  | .ok (.rt d) _ S1 => .ok d S1
  | .ok .nx _ S1 => .ok .non S1
  | .exc c _ S1 => .exc c S1
  | _ => .stuck) else .stuck
end Kb

set_option Elab.async false
set_option linter.all false
set_option maxRecDepth 100000
/-! Kb1: how the data stand in the abstract heap; what a step may change. -/
namespace Kb
open PySem PySem.Spec PyProof.Rows L2
/-- the module's names; the exception that is handled -/
abbrev MG := (Str → Option Value) × Addr
def xaOf : Option Value → Addr
  | some (.ref a) => a
  | _ => 0
def xm (X : Cx) : MG := (X.mg, xaOf X.A.handled)
/-- K the written part, mg the module's names; lv the addresses of lists that may change, ca those of the store's cells, cm the cells by number -/
structure Cc where
  K : PySem.W.Frag
  mg : MG
  lv : List Addr
  ca : List Addr
  cm : List Addr
/-- a list that stays as it is -/
def SqF (c : Cc) (H : Hp) (a : Addr) (vs : List V) : Prop := Rd H a (.lst vs) ∧ a ∉ c.lv
/-- the script -/
def SqS (K : PySem.W.Frag) (H : Hp) (a : Addr) (vs : List V) : Prop := (∃ o, H a = some (.frz o (.lst vs))) ∨
    ∃ (o : Obj) (its : Array Value) (n : Nat), K.lookup a = some o ∧ o.cls = .type "list" ∧ o.dict = none ∧ o.data = .seq its n ∧ its.size ≤ sizeLine ∧ Vals vs its.toList
theorem SqS.seq {K : PySem.W.Frag} {H : Hp} {a : Addr} {vs : List V} (h : SqS K H a vs) : SqL K H a vs := by
  rcases h with h | h
  · exact .inl (.inr h)
  · exact .inr h
mutual
def Rep (c : Cc) (H : Hp) : D → V → Prop
  | .non, v => v = .non
  | .bl b, v => v = .bl b
  | .int i, v => v = .int i
  | .str x, v => v = .str x
  | .tup ds, v => ∃ a vs, v = .ref a ∧ SqT c.K H a vs ∧ Reps c H ds vs
  | .lst ds, v => ∃ a vs, v = .ref a ∧ SqF c H a vs ∧ Reps c H ds vs
  | .cell n, v => ∃ a, v = .ref a ∧ c.cm[n]? = some a
  | .glo x, v => ∃ a, v = .ref a ∧ c.mg.1 x = some (.ref a)
  | .scr ds, v => ∃ a vs, v = .ref a ∧ SqS c.K H a vs ∧ Reps c H ds vs
def Reps (c : Cc) (H : Hp) : List D → List V → Prop
  | [], vs => vs = []
  | d :: ds, vs => ∃ v r, vs = v :: r ∧ Rep c H d v ∧ Reps c H ds r
end
section
variable {c c' c2 : Cc} {P P' : List Addr} {H H' H2 : Hp} {a : Addr} {d : D} {ds : List D} {v : V} {vs : List V} {S S' S2 : Store}
theorem SqF.seq (h : SqF c H a vs) : SqL c.K H a vs := .inl h.1
theorem Reps.length : ∀ {ds : List D} {vs : List V}, Reps c H ds vs → vs.length = ds.length
  | [], vs, h => by rw [show vs = [] from h]; rfl
  | d :: ds, vs, h => by
    obtain ⟨v, r, rfl, _, h2⟩ := h
    rw [List.length_cons, List.length_cons, Reps.length h2]
theorem Reps.get : ∀ {ds : List D} {vs : List V} {i : Nat} {d : D}, Reps c H ds vs → ds[i]? = some d → ∃ v, vs[i]? = some v ∧ Rep c H d v
  | [], vs, i, d, h, e => by simp at e
  | x :: ds, vs, 0, d, h, e => by
    obtain ⟨v, r, rfl, h1, h2⟩ := h
    have e1 : x = d := by simpa using e
    subst e1
    exact ⟨v, rfl, h1⟩
  | x :: ds, vs, i + 1, d, h, e => by
    obtain ⟨v, r, rfl, h1, h2⟩ := h
    obtain ⟨u, e1, e2⟩ := Reps.get (i := i) (d := d) h2 (by simpa using e)
    exact ⟨u, by simpa using e1, e2⟩
theorem Reps.getV : ∀ {ds : List D} {vs : List V} {i : Nat} {v : V}, Reps c H ds vs → vs[i]? = some v → ∃ d, ds[i]? = some d ∧ Rep c H d v
  | [], vs, i, d, h, e => by rw [show vs = [] from h] at e; simp at e
  | x :: ds, vs, 0, v, h, e => by
    obtain ⟨u, r, rfl, h1, h2⟩ := h
    have e1 : u = v := by simpa using e
    subst e1
    exact ⟨x, rfl, h1⟩
  | x :: ds, vs, i + 1, v, h, e => by
    obtain ⟨u, r, rfl, h1, h2⟩ := h
    obtain ⟨d, e1, e2⟩ := Reps.getV (i := i) (v := v) h2 (by simpa using e)
    exact ⟨d, by simpa using e1, e2⟩
theorem Reps.append : ∀ {ds es : List D} {vs us : List V}, Reps c H ds vs → Reps c H es us → Reps c H (ds ++ es) (vs ++ us)
  | [], es, vs, us, h, h' => by
    have e : vs = [] := h
    subst e
    exact h'
  | x :: ds, es, vs, us, h, h' => by
    obtain ⟨u, r, rfl, h1, h2⟩ := h
    exact ⟨u, r ++ us, rfl, h1, Reps.append h2 h'⟩
theorem Reps.take : ∀ (n : Nat) {ds : List D} {vs : List V}, Reps c H ds vs → Reps c H (ds.take n) (vs.take n)
  | 0, ds, vs, h => rfl
  | n + 1, [], vs, h => by
    have e : vs = [] := h
    subst e
    rfl
  | n + 1, x :: ds, vs, h => by
    obtain ⟨u, r, rfl, h1, h2⟩ := h
    exact ⟨u, r.take n, rfl, h1, Reps.take n h2⟩
theorem Reps.drop : ∀ (n : Nat) {ds : List D} {vs : List V}, Reps c H ds vs → Reps c H (ds.drop n) (vs.drop n)
  | 0, ds, vs, h => h
  | n + 1, [], vs, h => by
    have e : vs = [] := h
    subst e
    rfl
  | n + 1, x :: ds, vs, h => by
    obtain ⟨u, r, rfl, h1, h2⟩ := h
    exact Reps.drop n h2
theorem Reps.set : ∀ (n : Nat) {ds : List D} {vs : List V} {d : D} {v : V}, Rep c H d v → Reps c H ds vs → Reps c H (ds.set n d) (vs.set n v)
  | n, [], vs, d, v, q, h => by
    have e : vs = [] := h
    subst e
    rfl
  | 0, x :: ds, vs, d, v, q, h => by
    obtain ⟨u, r, rfl, h1, h2⟩ := h
    exact ⟨v, r, rfl, q, h2⟩
  | n + 1, x :: ds, vs, d, v, q, h => by
    obtain ⟨u, r, rfl, h1, h2⟩ := h
    exact ⟨u, r.set n v, rfl, h1, Reps.set n q h2⟩
theorem Reps.rep : ∀ (k : Nat) {ds : List D} {vs : List V}, Reps c H ds vs → Reps c H (List.replicate k ds).flatten (List.replicate k vs).flatten
  | 0, _, _, _ => rfl
  | k + 1, _, _, h => by
    rw [List.replicate_succ, List.flatten_cons, List.replicate_succ, List.flatten_cons]
    exact Reps.append h (Reps.rep k h)

/-! ### what a step may change -/
/-- from c, H to c', H': all that may not change stands; what may change behind it could so before, or is new. P: kept in any case -/
structure Ext (c : Cc) (P : List Addr) (H : Hp) (c' : Cc) (H' : Hp) : Prop where
  K : c'.K = c.K
  mg : c'.mg = c.mg
  cm : ∀ (n : Nat) (a : Addr), c.cm[n]? = some a → c'.cm[n]? = some a
  lv : ∀ a, a ∈ c'.lv → a ∈ c.lv ∨ H a = none
  there : ∀ a u, H a = some u → ∃ u', H' a = some u'
  keep : ∀ a u, H a = some u → (a ∈ c.lv → a ∉ P → ¬ Mut (some u)) → H' a = some u
theorem Ext.refl : Ext c P H c H := ⟨rfl, rfl, fun _ _ h => h, fun _ h => .inl h, fun _ u h => ⟨u, h⟩, fun _ _ h _ => h⟩
theorem Ext.trans (e : Ext c P H c' H') (f : Ext c' P H' c2 H2) : Ext c P H c2 H2 where
  K := f.K.trans e.K
  mg := f.mg.trans e.mg
  cm := fun n a h => f.cm n a (e.cm n a h)
  lv := fun a h => by
    rcases f.lv a h with h | h
    · exact e.lv a h
    · refine .inr ?_
      cases z : H a with
      | none => rfl
      | some u =>
        obtain ⟨u', q⟩ := e.there a u z
        rw [q] at h
        cases h
  there := fun a u h => by
    obtain ⟨u', q⟩ := e.there a u h
    exact f.there a u' q
  keep := fun a u h k => f.keep a u (e.keep a u h k) fun w1 w2 => by
    rcases e.lv a w1 with w | w
    · exact k w w2
    · rw [h] at w
      cases w
theorem Ext.mono (e : Ext c P H c' H') (h : ∀ a ∈ P', a ∈ P) : Ext c P' H c' H' :=
  ⟨e.K, e.mg, e.cm, e.lv, e.there, fun a u z k => e.keep a u z fun w1 w2 => k w1 fun w3 => w2 (h a w3)⟩
theorem Ext.rd {u : HO} (e : Ext c P H c' H') (h : Rd H a u) (nm : (a ∈ c.lv → a ∉ P → ¬ Mut (some u))) : Rd H' a u := by
  rcases h with h | ⟨o, h⟩
  · exact .inl (e.keep a u h nm)
  · exact .inr ⟨o, e.keep a _ h fun _ _ z => z⟩
theorem Rd.some {u : HO} (h : Rd H a u) : ∃ u', H a = some u' := by
  rcases h with h | ⟨o, h⟩ <;> exact ⟨_, h⟩
theorem Ext.sqT (e : Ext c P H c' H') (h : SqT c.K H a vs) : SqT c'.K H' a vs := by
  rw [e.K]
  rcases h with h | h
  · exact .inl (e.rd h fun _ _ z => z)
  · exact .inr h
theorem Ext.sqF (e : Ext c P H c' H') (h : SqF c H a vs) : SqF c' H' a vs := by
  obtain ⟨h, n⟩ := h
  refine ⟨e.rd h fun w => absurd w n, fun w => ?_⟩
  obtain ⟨u, q⟩ := Rd.some h
  rcases e.lv a w with w | w
  · exact n w
  · rw [q] at w
    cases w
theorem Ext.sqS (e : Ext c P H c' H') (h : SqS c.K H a vs) : SqS c'.K H' a vs := by
  rw [e.K]
  rcases h with ⟨o, h⟩ | h
  · exact .inl ⟨o, e.keep a _ h fun _ _ z => z⟩
  · exact .inr h
mutual
theorem Ext.rep (e : Ext c P H c' H') : ∀ (d : D) (v : V), Rep c H d v → Rep c' H' d v
  | .non, v, h => h
  | .bl b, v, h => h
  | .int i, v, h => h
  | .str x, v, h => h
  | .tup ds, v, h => by
    obtain ⟨a, vs, rfl, h1, h2⟩ := h
    exact ⟨a, vs, rfl, e.sqT h1, Ext.reps e ds vs h2⟩
  | .lst ds, v, h => by
    obtain ⟨a, vs, rfl, h1, h2⟩ := h
    exact ⟨a, vs, rfl, e.sqF h1, Ext.reps e ds vs h2⟩
  | .cell n, v, h => by
    obtain ⟨a, rfl, h1⟩ := h
    exact ⟨a, rfl, e.cm n a h1⟩
  | .glo x, v, h => by
    obtain ⟨a, rfl, h1⟩ := h
    exact ⟨a, rfl, by rw [e.mg]; exact h1⟩
  | .scr ds, v, h => by
    obtain ⟨a, vs, rfl, h1, h2⟩ := h
    exact ⟨a, vs, rfl, e.sqS h1, Ext.reps e ds vs h2⟩
theorem Ext.reps (e : Ext c P H c' H') : ∀ (ds : List D) (vs : List V), Reps c H ds vs → Reps c' H' ds vs
  | [], vs, h => h
  | d :: ds, vs, h => by
    obtain ⟨v, r, rfl, h1, h2⟩ := h
    exact ⟨v, r, rfl, Ext.rep e d v h1, Ext.reps e ds r h2⟩
end
/-- other lists may change from here on -/
theorem Rep.turn {lv' ca' cm' : List Addr} (hl : ∀ a u, H a = some u → a ∉ c.lv → a ∉ lv') (hc : ∀ (n : Nat) (a : Addr), c.cm[n]? = some a → cm'[n]? = some a) {d : D} {v : V} (h : Rep c H d v) : Rep ⟨c.K, c.mg, lv', ca', cm'⟩ H d v := by
  have key : ∀ {a vs}, SqF c H a vs → SqF ⟨c.K, c.mg, lv', ca', cm'⟩ H a vs := fun {a vs} h => by
    obtain ⟨h, n⟩ := h
    obtain ⟨u, q⟩ := Rd.some h
    exact ⟨h, hl a u q n⟩
  have all : ∀ n, (∀ d v, sizeOf d < n → Rep c H d v → Rep ⟨c.K, c.mg, lv', ca', cm'⟩ H d v) ∧ (∀ ds vs, sizeOf ds < n → Reps c H ds vs → Reps ⟨c.K, c.mg, lv', ca', cm'⟩ H ds vs) := by
    intro n
    induction n with
    | zero => exact ⟨fun _ _ h => absurd h (Nat.not_lt_zero _), fun _ _ h => absurd h (Nat.not_lt_zero _)⟩
    | succ n ih =>
      refine ⟨fun d v hs h => ?_, fun ds vs hs h => ?_⟩
      · cases d with
        | tup ds =>
          obtain ⟨a, vs, rfl, h1, h2⟩ := h
          have e : sizeOf (D.tup ds) = 1 + sizeOf ds := by simp
          exact ⟨a, vs, rfl, h1, ih.2 ds vs (by omega) h2⟩
        | lst ds =>
          obtain ⟨a, vs, rfl, h1, h2⟩ := h
          have e : sizeOf (D.lst ds) = 1 + sizeOf ds := by simp
          exact ⟨a, vs, rfl, key h1, ih.2 ds vs (by omega) h2⟩
        | cell k =>
          obtain ⟨a, rfl, h1⟩ := h
          exact ⟨a, rfl, hc k a h1⟩
        | scr ds =>
          obtain ⟨a, vs, rfl, h1, h2⟩ := h
          have e : sizeOf (D.scr ds) = 1 + sizeOf ds := by simp
          exact ⟨a, vs, rfl, h1, ih.2 ds vs (by omega) h2⟩
        | _ => exact h
      · cases ds with
        | nil => exact h
        | cons d ds =>
          obtain ⟨v, r, rfl, h1, h2⟩ := h
          have e : sizeOf (d :: ds) = 1 + sizeOf d + sizeOf ds := by simp
          exact ⟨v, r, rfl, ih.1 d v (by omega) h1, ih.2 ds r (by omega) h2⟩
  exact (all (sizeOf d + 1)).1 d v (Nat.lt_succ_self _) h
theorem Reps.turn {lv' ca' cm' : List Addr} (hl : ∀ a u, H a = some u → a ∉ c.lv → a ∉ lv') (hc : ∀ (n : Nat) (a : Addr), c.cm[n]? = some a → cm'[n]? = some a) : ∀ {ds : List D} {vs : List V}, Reps c H ds vs → Reps ⟨c.K, c.mg, lv', ca', cm'⟩ H ds vs
  | [], vs, h => h
  | d :: ds, vs, h => by
    obtain ⟨v, r, rfl, h1, h2⟩ := h
    exact ⟨v, r, rfl, Rep.turn hl hc h1, Reps.turn hl hc h2⟩

/-! ### the store -/
def CellOk (c : Cc) (H : Hp) (ds : List D) (a : Addr) : Prop := ∃ vs, H a = some (.lst vs) ∧ Reps c H ds vs
/-- the world of a step: P the lists that are others' or the frame's own, S the store -/
structure WOk (c : Cc) (P : List Addr) (S : Store) (H : Hp) : Prop where
  lv : ∀ a, a ∈ c.lv ↔ a ∈ P ∨ a ∈ c.cm
  disj : ∀ a ∈ c.cm, a ∉ P
  nd : c.cm.Nodup
  there : ∀ a ∈ P, ∃ u, H a = some u
  len : S.length = c.cm.length
  cells : ∀ (n : Nat) ds a, S[n]? = some ds → c.cm[n]? = some a → CellOk c H ds a
/-- a new thing beside -/
theorem ext_new {p : Addr} {o : HO} (h : H p = none) : Ext c P H c (upd H p o) :=
  ⟨rfl, rfl, fun _ _ h => h, fun _ h => .inl h, fun a u z => ⟨u, by rw [upd_ne (ne_of_none z h)]; exact z⟩, fun a u z _ => by rw [upd_ne (ne_of_none z h)]; exact z⟩
/-- things that only grow -/
theorem ext_grow (h : ∀ a u, H a = some u → H' a = some u) : Ext c P H c H' :=
  ⟨rfl, rfl, fun _ _ h => h, fun _ h => .inl h, fun a u z => ⟨u, h a u z⟩, fun a u z _ => h a u z⟩
theorem WOk.grow (w : WOk c P S H) (h : ∀ a u, H a = some u → H' a = some u) : WOk c P S H' :=
  ⟨w.lv, w.disj, w.nd, fun a q => by
    obtain ⟨u, z⟩ := w.there a q
    exact ⟨u, h a u z⟩, w.len, fun n ds a e1 e2 => by
    obtain ⟨vs, z, r⟩ := w.cells n ds a e1 e2
    exact ⟨vs, h a _ z, (ext_grow (P := P) h).reps _ _ r⟩⟩
theorem grow_new {p : Addr} {o : HO} (h : H p = none) : ∀ a u, H a = some u → upd H p o a = some u := fun a u z => by
  rw [upd_ne (ne_of_none z h)]
  exact z

/-! ### slots -/
def SlotOk (c : Cc) (P : List Addr) (H : Hp) : Slot → Option V → Prop
  | .no, _ => True
  | .ex _, o => o = some (.ref c.mg.2)
  | .val d, o => ∃ v, o = some v ∧ Rep c H d v
  | .own xs, o => ∃ a vs, o = some (.ref a) ∧ a ∈ P ∧ a ∈ c.lv ∧ H a = some (.lst vs) ∧ Reps c H xs vs
theorem SlotOk.ext {s : Slot} {o : Option V} (h : SlotOk c P H s o) (e : Ext c P H c' H') (hp : ∀ a ∈ P, a ∈ c'.lv) : SlotOk c' P H' s o := by
  cases s with
  | no => trivial
  | ex n =>
    have h' : o = some (.ref c.mg.2) := h
    show o = some (.ref c'.mg.2)
    rw [e.mg]
    exact h'
  | val d =>
    obtain ⟨v, e1, r⟩ := h
    exact ⟨v, e1, e.rep d v r⟩
  | own xs =>
    obtain ⟨a, vs, e1, h1, h2, h3, r⟩ := h
    exact ⟨a, vs, e1, h1, hp a h1, e.keep a _ h3 fun _ w => absurd h1 w, e.reps xs vs r⟩
/-- an expression's state -/
structure ER (c : Cc) (P : List Addr) (env : Env) (S : Store) (σ : L2.St) (H : Hp) : Prop where
  len : env.length = σ.length
  w : WOk c P S H
  slots : ∀ (i : Nat) s, env[i]? = some s → SlotOk c P H s ((σ[i]?).getD none)
theorem ER.ext {env : Env} {σ : L2.St} (r : ER c P env S σ H) (e : Ext c P H c' H') (w : WOk c' P S' H') : ER c' P env S' σ H' :=
  ⟨r.len, w, fun i s h => (r.slots i s h).ext e fun a q => (w.lv a).mpr (.inl q)⟩
end
end Kb

set_option Elab.async false
set_option linter.all false
set_option maxRecDepth 100000
/-! Kb2: what a piece of the text does, by the plain functions: expressions. -/
namespace Kb
open PySem PySem.Spec PyProof.Rows L2
/-- a reading's relation: data and values -/
abbrev RR (α β : Type) := Cc → List Addr → Hp → α → β → Prop
def RepV : RR D V := fun c _ H d v => Rep c H d v
def RepL : RR (List D) (List V) := fun c _ H d v => Reps c H d v
/-- .. that is read and let go at once: the frame's own lists too -/
def RepB : RR D V := fun c P H d v => Rep c H d v ∨ ∃ ds a vs, d = .lst ds ∧ v = .ref a ∧ a ∈ P ∧ H a = some (.lst vs) ∧ Reps c H ds vs
def RepsB : RR (List D) (List V)
  | c, P, H, [], vs => vs = []
  | c, P, H, d :: ds, vs => ∃ v r, vs = v :: r ∧ RepB c P H d v ∧ RepsB c P H ds r
def RepT : RR Bool Bool := fun _ _ _ a b => b = a
structure Sta (K : PySem.W.Frag) (mg : MG) (c : Cc) (P : List Addr) (env : Env) (S : Store) (σ : L2.St) (H : Hp) : Prop where
  K : c.K = K
  mg : c.mg = mg
  er : ER c P env S σ H
/-- what is wanted behind -/
def GPost {α β : Type} (c : Cc) (P : List Addr) (H : Hp) (W : WX) (σ : L2.St) (R : RR α β) (Q : β → Hp → Prop) : Out α → Prop
  | .ok a S' => ∀ c' H' b, Ext c P H c' H' → WOk c' P S' H' → R c' P H' a b → Q b H'
  | .exc n S' => ∀ c' H' C, Ext c P H c' H' → WOk c' P S' H' → c.mg.1 (Str.ofString n) = some (.ref C) → W (.ref C) none σ H'
  | .stuck => False
def tG {α β : Type} (K : PySem.W.Frag) (mg : MG) (R : RR α β) (f : EM α) (W : WX) : L2.St → Hp → (β → Hp → Prop) → Prop := fun σ H Q =>
  ∃ c P env S, Sta K mg c P env S σ H ∧ GPost c P H W σ R Q (f env S)
section
variable {K : PySem.W.Frag} {mg : MG} {c c1 c' : Cc} {P : List Addr} {env : Env} {S S1 S' : Store} {σ : L2.St} {H H1 H' : Hp} {W : WX} {α β γ δ : Type} {R : RR α β} {R2 : RR γ δ} {Q : δ → Hp → Prop} {Q1 : β → Hp → Prop} {a : Addr} {vs : List V} {ds : List D} {d : D} {v : V}
theorem Sta.ext (s : Sta K mg c P env S σ H) (e : Ext c P H c' H') (w : WOk c' P S' H') : Sta K mg c' P env S' σ H' := ⟨e.K.trans s.K, e.mg.trans s.mg, s.er.ext e w⟩
theorem GPost.ext {o : Out γ} (h : GPost c P H W σ R2 Q o) (e : Ext c P H c' H') : GPost c' P H' W σ R2 Q o := by
  cases o with
  | ok a S' => exact fun c2 H2 b e2 w r => h c2 H2 b (e.trans e2) w r
  | exc n S' => exact fun c2 H2 C e2 w m => h c2 H2 C (e.trans e2) w (by rw [← e.mg]; exact m)
  | stuck => exact h
/-- first f, then k -/
theorem gbind {f : EM α} {k : α → Store → Out γ} (st : Sta K mg c P env S σ H) (h : GPost c P H W σ R2 Q ((f env S).bind k))
    (step : ∀ c1 S1 H1 a b, Ext c P H c1 H1 → Sta K mg c1 P env S1 σ H1 → R c1 P H1 a b → GPost c1 P H1 W σ R2 Q (k a S1) → Q1 b H1) : tG K mg R f W σ H Q1 := by
  refine ⟨c, P, env, S, st, ?_⟩
  cases o : f env S with
  | ok a S1 =>
    rw [o] at h
    exact fun c1 H1 b e w r => step c1 S1 H1 a b e (st.ext e w) r (h.ext e)
  | exc n S1 =>
    rw [o] at h
    exact h
  | stuck =>
    rw [o] at h
    exact h
/-- the answer as it stands -/
theorem GPost.here (st : Sta K mg c P env S σ H) {a : γ} {b : δ} (h : GPost c P H W σ R2 Q (.ok a S)) (r : R2 c P H a b) : Q b H := h c H b Ext.refl st.er.w r
theorem GPost.grow (st : Sta K mg c P env S σ H) {a : γ} {b : δ} (h : GPost c P H W σ R2 Q (.ok a S)) (g : ∀ a u, H a = some u → H' a = some u) (r : R2 c P H' a b) : Q b H' := h c H' b (ext_grow g) (st.er.w.grow g) r
theorem GPost.lift {o : Option γ} {S : Store} (h : GPost c P H W σ R2 Q (lift o S)) : ∃ a, o = some a ∧ GPost c P H W σ R2 Q (.ok a S) := by
  cases o with
  | none => exact h.elim
  | some a => exact ⟨a, rfl, h⟩
/-! ### the borrowed -/
theorem RepB.of (h : Rep c H d v) : RepB c P H d v := .inl h
theorem Ext.repB (e : Ext c P H c' H') (h : RepB c P H d v) : RepB c' P H' d v := by
  rcases h with h | ⟨ds, a, vs, rfl, rfl, h1, h2, h3⟩
  · exact .inl (e.rep _ _ h)
  · exact .inr ⟨ds, a, vs, rfl, rfl, h1, e.keep a _ h2 fun _ w => absurd h1 w, e.reps _ _ h3⟩
theorem Ext.repsB (e : Ext c P H c' H') : ∀ {ds : List D} {vs : List V}, RepsB c P H ds vs → RepsB c' P H' ds vs
  | [], vs, h => h
  | d :: ds, vs, h => by
    obtain ⟨v, r, rfl, h1, h2⟩ := h
    exact ⟨v, r, rfl, e.repB h1, Ext.repsB e h2⟩
/-- a list, lent or not -/
theorem RepB.lst (h : RepB c P H (.lst ds) v) : ∃ a vs, v = .ref a ∧ Rd H a (.lst vs) ∧ Reps c H ds vs := by
  rcases h with h | ⟨ds', a, vs, e, rfl, h1, h2, h3⟩
  · obtain ⟨a, vs, rfl, h1, h2⟩ := h
    exact ⟨a, vs, rfl, h1.1, h2⟩
  · cases e
    exact ⟨a, vs, rfl, .inl h2, h3⟩
theorem RepB.tup (h : RepB c P H (.tup ds) v) : ∃ a vs, v = .ref a ∧ SqT c.K H a vs ∧ Reps c H ds vs := by
  rcases h with h | ⟨ds', a, vs, e, rfl, h1, h2, h3⟩
  · exact h
  · cases e
theorem RepB.int {i : Int} (h : RepB c P H (.int i) v) : v = .int i := by
  rcases h with h | ⟨ds', a, vs, e, rfl, h1, h2, h3⟩
  · exact h
  · cases e
theorem RepB.bl {i : Bool} (h : RepB c P H (.bl i) v) : v = .bl i := by
  rcases h with h | ⟨ds', a, vs, e, rfl, h1, h2, h3⟩
  · exact h
  · cases e
theorem RepB.str {i : Str} (h : RepB c P H (.str i) v) : v = .str i := by
  rcases h with h | ⟨ds', a, vs, e, rfl, h1, h2, h3⟩
  · exact h
  · cases e
theorem RepB.non (h : RepB c P H .non v) : v = .non := by
  rcases h with h | ⟨ds', a, vs, e, rfl, h1, h2, h3⟩
  · exact h
  · cases e
end

/-! ### the judgements -/
theorem wE {X : Cx} {e : Expr} {t t' : TE} (h : PE X e t) (w : ∀ σ H Q, t' σ H Q → t σ H Q) : PE X e t' := ⟨fun pins s σ H Q I q => h.run pins s σ H Q I (w σ H Q q)⟩
theorem wT {X : Cx} {e : Expr} {t t' : TT} (h : PT X e t) (w : ∀ σ H Q, t' σ H Q → t σ H Q) : PT X e t' := ⟨fun pins s σ H Q I q => h.run pins s σ H Q I (w σ H Q q)⟩
theorem wW {X : Cx} {e : Expr} {t t' : TT} (h : PW X e t) (w : ∀ σ H Q, t' σ H Q → t σ H Q) : PW X e t' := ⟨fun wh pins s σ H Q I q => h.run wh pins s σ H Q I (w σ H Q q)⟩
theorem wA {X : Cx} {e : List Expr} {t t' : TA} (h : PA X e t) (w : ∀ σ H Q, t' σ H Q → t σ H Q) : PA X e t' := ⟨fun pos pins s σ H Q I q => h.run pos pins s σ H Q I (w σ H Q q)⟩
theorem wS {X : Cx} {e : Stmt} {t t' : TS} (h : PS X e t) (w : ∀ D σ H, t' D σ H → t D σ H) : PS X e t' := ⟨fun pins s σ H D I q => h.run pins s σ H D I (w D σ H q)⟩
theorem wSs {X : Cx} {e : List Stmt} {t t' : TS} (h : PSs X e t) (w : ∀ D σ H, t' D σ H → t D σ H) : PSs X e t' := ⟨fun pins s σ H D I q => h.run pins s σ H D I (w D σ H q)⟩
/-- an expression does what f says -/
structure SG (R : RR D V) (X : Cx) (e : Expr) (f : EM D) : Prop where
  run : ∀ (pn : List (Addr × Obj)) (xe : Value → Shared → Prop) (W : WX), (∀ p ∈ X.pn, p ∈ pn) → Takes (X.tr pn xe) W → PE (X.tr pn xe) e (tG X.K (xm X) R f W)
abbrev SE := SG RepV
abbrev SB := SG RepB
structure SA (R : RR (List D) (List V)) (X : Cx) (e : List Expr) (f : EM (List D)) : Prop where
  run : ∀ (pn : List (Addr × Obj)) (xe : Value → Shared → Prop) (W : WX), (∀ p ∈ X.pn, p ∈ pn) → Takes (X.tr pn xe) W → PA (X.tr pn xe) e (tG X.K (xm X) R f W)
structure ST (X : Cx) (e : Expr) (f : EM Bool) : Prop where
  run : ∀ (pn : List (Addr × Obj)) (xe : Value → Shared → Prop) (W : WX), (∀ p ∈ X.pn, p ∈ pn) → Takes (X.tr pn xe) W → PT (X.tr pn xe) e (tG X.K (xm X) RepT f W)
structure SW (X : Cx) (e : Expr) (f : EM Bool) : Prop where
  run : ∀ (pn : List (Addr × Obj)) (xe : Value → Shared → Prop) (W : WX), (∀ p ∈ X.pn, p ∈ pn) → Takes (X.tr pn xe) W → PW (X.tr pn xe) e (tG X.K (xm X) RepT f W)
section
variable {X : Cx} {a b e o i : Expr} {es rest : List Expr} {f g h : EM D} {t u : EM Bool} {pos : Pos} {Ra Rb : RR D V} {x : Str}
theorem sb_of (h : SE X e f) : SB X e f := ⟨fun pn xe W hp tk => wE (h.run pn xe W hp tk) fun σ H Q ⟨c, P, env, S, st, q⟩ => ⟨c, P, env, S, st, by
  cases o : f env S with
  | ok a S' =>
    rw [o] at q
    exact fun c' H' b e w r => q c' H' b e w (.inl r)
  | exc n S' =>
    rw [o] at q
    exact q
  | stuck =>
    rw [o] at q
    exact q⟩⟩
theorem ST_of_SW (h : SW X e t) : ST X e t := ⟨fun pn xe W hp tk => (h.run pn xe W hp tk).pt⟩
/-! ### names, constants -/
theorem slot_val {c : Cc} {P : List Addr} {env : Env} {S : Store} {σ : L2.St} {H : Hp} {k : Nat} {d : D} (er : ER c P env S σ H) (hs : (env[k]?).bind slotV = some d) : ∃ v, σ[k]? = some (some v) ∧ Rep c H d v := by
  cases e : env[k]? with
  | none => rw [e] at hs; cases hs
  | some s =>
    rw [e] at hs
    have q := er.slots k s e
    cases s with
    | val d' =>
      have e2 : d' = d := by simpa [slotV] using hs
      subst e2
      obtain ⟨v, e3, r⟩ := q
      refine ⟨v, ?_, r⟩
      cases z : σ[k]? with
      | none => rw [z] at e3; cases e3
      | some w =>
        rw [z] at e3
        have e4 : w = some v := e3
        rw [e4]
    | _ => cases hs
theorem se_name (k : Nat) (hN : X.N[k]? = some x := by rfl) (hv : Vis X.env.scope x := by first | exact Or.inl rfl | exact Or.inr (Or.inl rfl) | exact Or.inr (Or.inr rfl)) (hd : (x == ("__debug__" : Str)) = false := by decide)
    (hcd : (x == ("__classdict__" : Str)) = false := by decide) : SE X (.Name x pos) (eN k) := ⟨fun pn xe W hp tk => wE (pe_var (X := X.tr pn xe) hN hv hd hcd) fun σ H Q ⟨c, P, env, S, st, q⟩ => by
  obtain ⟨d, e, q⟩ := GPost.lift q
  obtain ⟨v, e1, r⟩ := slot_val st.er e
  exact ⟨v, e1, q.here st r⟩⟩
theorem sb_name (k : Nat) (hN : X.N[k]? = some x := by rfl) (hv : Vis X.env.scope x := by first | exact Or.inl rfl | exact Or.inr (Or.inl rfl) | exact Or.inr (Or.inr rfl)) (hd : (x == ("__debug__" : Str)) = false := by decide)
    (hcd : (x == ("__classdict__" : Str)) = false := by decide) : SB X (.Name x pos) (eB k) := ⟨fun pn xe W hp tk => wE (pe_var (X := X.tr pn xe) hN hv hd hcd) fun σ H Q ⟨c, P, env, S, st, q⟩ => by
  obtain ⟨d, e, q⟩ := GPost.lift q
  cases e1 : env[k]? with
  | none => rw [e1] at e; cases e
  | some s =>
    have z := st.er.slots k s e1
    rw [e1] at e
    cases s with
    | no => cases e
    | ex c => cases e
    | val d' =>
      have e2 : d' = d := by simpa [slotB] using e
      subst e2
      obtain ⟨v, e3, r⟩ := slot_val (d := d') st.er (by rw [e1]; rfl)
      exact ⟨v, e3, q.here st (.inl r)⟩
    | own xs =>
      have e2 : D.lst xs = d := by simpa [slotB] using e
      subst e2
      obtain ⟨a, vs, e3, h1, h2, h3, r⟩ := z
      refine ⟨.ref a, ?_, q.here st (.inr ⟨xs, a, vs, rfl, rfl, h1, h3, r⟩)⟩
      cases z : σ[k]? with
      | none => rw [z] at e3; cases e3
      | some w =>
        rw [z] at e3
        have e4 : w = some (.ref a) := e3
        rw [e4]⟩
theorem se_of {e : Expr} {v : V} {d : D} (h : ∀ X' : Cx, PE X' e (tC v)) (r : ∀ c H, Rep c H d v) : SE X e (eC d) := ⟨fun pn xe W hp tk => wE (h (X.tr pn xe)) fun σ H Q ⟨c, P, env, S, st, q⟩ => q.here st (r c H)⟩
theorem se_int {n : Int} {j : Nat} : SE X (.Constant (.int n) j pos) (eC (.int n)) := se_of (fun _ => pe_int) fun _ _ => rfl
theorem se_str {s : Str} {j : Nat} : SE X (.Constant (.str s) j pos) (eC (.str s)) := se_of (fun _ => pe_str) fun _ _ => rfl
theorem se_bl {k : Bool} {j : Nat} : SE X (.Constant (.bool k) j pos) (eC (.bl k)) := se_of (fun _ => pe_bl) fun _ _ => rfl
theorem se_non {j : Nat} : SE X (.Constant .none j pos) (eC .non) := se_of (fun _ => pe_non) fun _ _ => rfl
/-! ### two operands -/
/-- the operator op of data is r of values -/
def OpS (K : PySem.W.Frag) (Ra Rb : RR D V) (op : D → D → Option D) (r : L2.R2) : Prop := ∀ (mg : MG) (c : Cc) (P : List Addr) (env : Env) (S : Store) (σ : L2.St) (H : Hp) (W : WX) (Q : VK) (x y : D) (v w : V) (z : D),
  Sta K mg c P env S σ H → Ra c P H x v → Rb c P H y w → op x y = some z → GPost c P H W σ RepV Q (.ok z S) → r v w H Q
class RX (R : RR D V) : Prop where
  ext : ∀ {c c' P H H' d v}, Ext c P H c' H' → R c P H d v → R c' P H' d v
instance : RX RepV := ⟨fun e h => e.rep _ _ h⟩
instance : RX RepB := ⟨fun e h => e.repB h⟩
end
end Kb

set_option Elab.async false
set_option linter.all false
set_option maxRecDepth 100000
/-! Kb3: operators, tests, displays, items, slices, built-ins. -/
namespace Kb
open PySem PySem.Spec PyProof.Rows L2
theorem LN_eq : LN = sizeLine := sizeLine_eq.symm
theorem iteS {α : Type} {p : Prop} [Decidable p] {a z : α} (e : (if p then some a else none) = some z) : p ∧ a = z := by
  by_cases h : p
  · rw [if_pos h] at e
    exact ⟨h, Option.some.inj e⟩
  · rw [if_neg h] at e
    cases e
section
variable {K : PySem.W.Frag} {mg : MG} {c c1 c' : Cc} {P : List Addr} {env : Env} {S S1 S' : Store} {σ : L2.St} {H H1 H' : Hp} {W : WX} {a : Addr} {vs : List V} {ds : List D} {d x y z : D} {v w : V} {Q : VK}
/-- a new thing that stands for z -/
theorem GPost.newT (st : Sta K mg c P env S σ H) (h : GPost c P H W σ RepV Q (.ok (.tup ds) S)) (r : Reps c H ds vs) {p : Addr} (hp : H p = none) : Q (.ref p) (upd H p (.tup vs)) :=
  h.grow st (grow_new hp) ⟨p, vs, rfl, SqT.of upd_same, (ext_new (P := P) hp).reps _ _ r⟩
theorem Sta.new_lv (st : Sta K mg c P env S σ H) {p : Addr} (hp : H p = none) : p ∉ c.lv := fun q => by
  rcases (st.er.w.lv p).mp q with q | q
  · obtain ⟨u, z⟩ := st.er.w.there p q
    rw [hp] at z; cases z
  · obtain ⟨i, hi⟩ := List.mem_iff_getElem?.mp q
    have hl := st.er.w.len
    have hi2 : i < c.cm.length := (List.getElem?_eq_some_iff.mp hi).1
    obtain ⟨ds, hd⟩ : ∃ ds, S[i]? = some ds := ⟨S[i], List.getElem?_eq_getElem (by omega)⟩
    obtain ⟨vs, z, _⟩ := st.er.w.cells i ds p hd hi
    rw [hp] at z; cases z
theorem GPost.newL (st : Sta K mg c P env S σ H) (h : GPost c P H W σ RepV Q (.ok (.lst ds) S)) (r : Reps c H ds vs) {p : Addr} (hp : H p = none) : Q (.ref p) (upd H p (.lst vs)) :=
  h.grow st (grow_new hp) ⟨p, vs, rfl, ⟨.inl upd_same, st.new_lv hp⟩, (ext_new (P := P) hp).reps _ _ r⟩
/-! ### two operands -/
theorem tOp_of {Ra Rb : RR D V} [RX Ra] {op : D → D → Option D} {r : L2.R2} (hS : OpS K Ra Rb op r) {f g : EM D} {σ : L2.St} {H : Hp} {Q : VK} (h : tG K mg RepV (e2 op f g) W σ H Q) : tOp r (tG K mg Ra f W) (tG K mg Rb g W) σ H Q := by
  obtain ⟨c, P, env, S, st, q⟩ := h
  refine gbind st q fun c1 S1 H1 a b x1 st1 r1 q1 => ?_
  refine gbind st1 q1 fun c2 S2 H2 a2 b2 x2 st2 r2 q2 => ?_
  obtain ⟨z, e, q3⟩ := GPost.lift q2
  exact hS mg c2 P env S2 σ H2 W Q a a2 b b2 z st2 (RX.ext x2 r1) r2 e q3
end
section
variable {X : Cx} {a b e o i : Expr} {es rest : List Expr} {f g h : EM D} {t u : EM Bool} {pos : Pos} {Ra Rb : RR D V} {x : Str}
theorem se_bin [RX Ra] {op : Operator} {r : L2.R2} {od : D → D → Option D} (ho : ∀ pn xe, OpR (X.tr pn xe) (binaryOp op) r) (hS : OpS X.K Ra Rb od r) (ha : SG Ra X a f) (hb : SG Rb X b g) : SE X (.BinOp a op b pos) (e2 od f g) :=
  ⟨fun pn xe W hp tk => wE (pe_op (ho pn xe) (ha.run pn xe W hp tk) (hb.run pn xe W hp tk)) fun σ H Q q => tOp_of hS q⟩
theorem se_cmp [RX Ra] {op : CmpOp} {r : L2.R2} {od : D → D → Option D} (ho : ∀ pn xe, OpR (X.tr pn xe) (compareOp op) r) (hS : OpS X.K Ra Rb od r) (ha : SG Ra X a f) (hb : SG Rb X b g) (hm : behindInMarks op b = false) : SE X (.Compare a [op] [b] pos) (e2 od f g) :=
  ⟨fun pn xe W hp tk => wE (pe_cmpR (ho pn xe) (ha.run pn xe W hp tk) (hb.run pn xe W hp tk) hm) fun σ H Q q => tOp_of hS q⟩
theorem st_cmp [RX Ra] {op : CmpOp} {r : L2.R2} {od : D → D → Option D} (ho : ∀ pn xe, OpR (X.tr pn xe) (compareOp op) r) (hS : OpS X.K Ra Rb od r) (ha : SG Ra X a f) (hb : SG Rb X b g) (hm : behindInMarks op b = false) : ST X (.Compare a [op] [b] pos) (tB (e2 od f g)) :=
  ⟨fun pn xe W hp tk => wT (pt_cmpR (ho pn xe) (ha.run pn xe W hp tk) (hb.run pn xe W hp tk) hm) fun σ H Q q => by
    refine tOp_of hS ?_
    obtain ⟨c, P, env, S, st, q⟩ := q
    refine gbind st q fun c1 S1 H1 a b x1 st1 r1 q1 => ?_
    obtain ⟨k, e, q2⟩ := GPost.lift q1
    cases a with
    | bl k' =>
      have e2 : k' = k := by simpa [boolD] using e
      subst e2
      exact ⟨k', r1, q2.here st1 rfl⟩
    | _ => cases e⟩
/-! ### operators -/
theorem addS : OpS X.K RepB RepB addD (fun x y H Q => rI0 (fun i j => .int (i + j)) x y H Q ∨ (∃ i j, x = .str i ∧ y = .str j ∧ i.length + j.length ≤ sizeLine ∧ Q (.str (i ++ j)) H) ∨
    (∃ l b xs zs, x = .ref l ∧ y = .ref b ∧ Rd H l (.lst xs) ∧ Rd H b (.lst zs) ∧ xs.length + zs.length ≤ sizeLine ∧ ∀ p, H p = none → Q (.ref p) (upd H p (.lst (xs ++ zs)))) ∨ rCatA X.K x y H Q) := by
  intro mg c P env S σ H W Q x y v w z st rx ry e q
  cases x with
  | int i =>
    cases y with
    | int j =>
      cases e
      exact .inl ⟨i, j, rx.int, ry.int, q.here st rfl⟩
    | _ => cases e
  | str i =>
    cases y with
    | str j =>
      obtain ⟨hl, rfl⟩ := iteS (p := i.length + j.length ≤ LN) e
      exact .inr (.inl ⟨i, j, rx.str, ry.str, by rw [LN_eq] at hl; exact hl, q.here st rfl⟩)
    | _ => cases e
  | lst xs =>
    cases y with
    | lst ys =>
      obtain ⟨hl, rfl⟩ := iteS (p := xs.length + ys.length ≤ LN) e
      obtain ⟨l, us, rfl, h1, r1⟩ := rx.lst
      obtain ⟨b, ws, rfl, h2, r2⟩ := ry.lst
      exact .inr (.inr (.inl ⟨l, b, us, ws, rfl, rfl, h1, h2, by rw [r1.length, r2.length, ← LN_eq]; exact hl, fun p hp => q.newL st (r1.append r2) hp⟩))
    | _ => cases e
  | tup xs =>
    cases y with
    | tup ys =>
      obtain ⟨hl, rfl⟩ := iteS (p := xs.length + ys.length ≤ LN) e
      obtain ⟨l, us, rfl, h1, r1⟩ := rx.tup
      obtain ⟨b, ws, rfl, h2, r2⟩ := ry.tup
      rw [st.K] at h1 h2
      refine .inr (.inr (.inr ⟨l, b, us, ws, rfl, rfl, h1, h2, by rw [r1.length, r2.length, ← LN_eq]; exact hl, fun e => ?_, fun _ e => ?_, fun _ _ p hp => q.newT st (r1.append r2) hp⟩))
      · subst e
        have n1 : xs = [] := List.eq_nil_of_length_eq_zero r1.length.symm
        subst n1
        exact q.here st ⟨b, ws, rfl, by rw [st.K]; exact h2, r2⟩
      · subst e
        have n1 : ys = [] := List.eq_nil_of_length_eq_zero r2.length.symm
        subst n1
        exact q.here st ⟨l, us, rfl, by rw [st.K]; exact h1, by rw [List.append_nil]; exact r1⟩
    | _ => cases e
  | _ => cases e
theorem op_catR {X : Cx} : OpR X (binaryOp .Add) (fun x y H Q => ∃ aA aB dA dB, x = .ref aA ∧ y = .ref aB ∧ Rd H aA (.lst dA) ∧ Rd H aB (.lst dB) ∧ dA.length + dB.length ≤ sizeLine ∧ ∀ p, H p = none → Q (.ref p) (upd H p (.lst (dA ++ dB)))) := by
  intro pn sh ρ H x y v u Q inv rx ry h
  obtain ⟨aA, aB, dA, dB, rfl, rfl, hA, hB, hz, post⟩ := h
  cases rx
  cases ry
  obtain ⟨z, vA, nA, rA, oA⟩ := hA.ok inv.hok
  obtain ⟨z2, vB, nB, rB, oB⟩ := hB.ok inv.hok
  have lA := rA.length
  have lB := rB.length
  refine PySem.P.add_list oA oB ?_ (by rw [List.size_toArray, List.size_toArray]; omega)
  have ez : vA.toArray ++ vB.toArray = (vA ++ vB).toArray := by simp
  rw [ez]
  exact ⟨.ref _, _, inv.lnew (t' := sh.toks) (rA.append rB) (by rw [List.length_append]; omega), rfl, post _ inv.fresh⟩
theorem se_add (ha : SB X a f) (hb : SB X b g) : SE X (.BinOp a .Add b pos) (e2 addD f g) := se_bin (fun pn xe => op_add.or (op_add_str.or (op_catR.or op_catA))) addS ha hb
theorem intsS {od : D → D → Option D} {C : Int → Int → Prop} {r : Int → Int → Int} (hd : ∀ x y z, od x y = some z → ∃ i j, x = .int i ∧ y = .int j ∧ C i j ∧ z = .int (r i j)) : OpS X.K RepV RepV od (rI C fun i j => .int (r i j)) := by
  intro mg c P env S σ H W Q x y v w z st rx ry e q
  obtain ⟨i, j, rfl, rfl, hc, rfl⟩ := hd x y z e
  exact ⟨i, j, rx, ry, hc, q.here st rfl⟩
theorem intsB {od : D → D → Option D} {r : Int → Int → Bool} (hd : ∀ x y z, od x y = some z → ∃ i j, x = .int i ∧ y = .int j ∧ z = .bl (r i j)) : OpS X.K RepV RepV od (rI0 fun i j => .bl (r i j)) := by
  intro mg c P env S σ H W Q x y v w z st rx ry e q
  obtain ⟨i, j, rfl, rfl, rfl⟩ := hd x y z e
  exact ⟨i, j, rx, ry, q.here st rfl⟩
theorem subS : OpS X.K RepV RepV subD (rI0 fun i j => .int (i - j)) := by
  intro mg c P env S σ H W Q x y v w z st rx ry e q
  cases x with
  | int i =>
    cases y with
    | int j =>
      cases e
      exact ⟨i, j, rx, ry, q.here st rfl⟩
    | _ => cases e
  | _ => cases e
theorem se_sub (ha : SE X a f) (hb : SE X b g) : SE X (.BinOp a .Sub b pos) (e2 subD f g) := se_bin (fun _ _ => op_sub) subS ha hb
theorem op_repR {X : Cx} : OpR X (binaryOp .Mult) (fun x y H Q => ∃ l k xs, x = .ref l ∧ y = .int k ∧ H l = some (.lst xs) ∧ -(2 ^ 63) ≤ k ∧ k < 2 ^ 63 ∧ xs.length * k.toNat ≤ sizeLine ∧
  ∀ p, H p = none → Q (.ref p) (upd H p (.lst (List.replicate k.toNat xs).flatten))) := op_rep
/-- the bits of a product's factors -/
def CMulX (i j : Int) : Prop := i.natAbs.log2 + j.natAbs.log2 < 100000000
theorem CMulX.ok {i j : Int} (h : CMulX i j) : IntMulOk i j := by
  have b : ∀ x : Int, Builtin.Int.intBits x ≤ x.natAbs.log2 + 1 := fun x => by
    unfold Builtin.Int.intBits
    split <;> omega
  have hi := b i
  have hj := b j
  have ht : i.natAbs.log2 + j.natAbs.log2 < 100000000 := h
  have e : bitsLine = 134217728 := by decide
  unfold IntMulOk
  intro z
  rw [Bool.and_eq_true] at z
  have zz := z.2
  unfold Builtin.Int.intTooBig at zz
  have zs := of_decide_eq_true zz
  rw [e] at zs
  omega
theorem op_mulX {X : Cx} : OpR X (binaryOp .Mult) (rI CMulX fun i j => .int (i * j)) := opI fun _ _ _ _ _ _ _ hc q => mul_int q hc.ok
theorem mulS : OpS X.K RepV RepV (fun x y => match x, y with
  | .int i, .int j => if bit i + bit j < 100000000 then some (.int (i * j)) else none
  | _, _ => none) (rI CMulX fun i j => .int (i * j)) := by
  refine intsS fun x y z e => ?_
  cases x with
  | int i =>
    cases y with
    | int j =>
      simp only at e
      split at e
      · cases e
        rename_i hl
        exact ⟨i, j, rfl, rfl, hl, rfl⟩
      · cases e
    | _ => cases e
  | _ => cases e
/-- ints alone -/
theorem se_mul (ha : SE X a f) (hb : SE X b g) : SE X (.BinOp a .Mult b pos) (e2 mulI f g) := se_bin (fun _ _ => op_mulX) mulS ha hb
theorem se_fdiv (ha : SE X a f) (hb : SE X b g) : SE X (.BinOp a .FloorDiv b pos) (e2 fdivD f g) := se_bin (fun _ _ => op_fdivW) (intsS fun x y z e => by
  cases x with
  | int i =>
    cases y with
    | int j =>
      obtain ⟨hl, rfl⟩ := iteS (p := 0 < j ∧ bit j < 9000) e
      exact ⟨i, j, rfl, rfl, hl, rfl⟩
    | _ => cases e
  | _ => cases e) ha hb
theorem se_mod (ha : SE X a f) (hb : SE X b g) : SE X (.BinOp a .Mod b pos) (e2 modD f g) := se_bin (fun _ _ => op_mod) (intsS (C := fun _ j => 0 < j) fun x y z e => by
  cases x with
  | int i =>
    cases y with
    | int j =>
      obtain ⟨hl, rfl⟩ := iteS (p := 0 < j) e
      exact ⟨i, j, rfl, rfl, hl, rfl⟩
    | _ => cases e
  | _ => cases e) ha hb
theorem se_pow (ha : SE X a f) (hb : SE X b g) : SE X (.BinOp a .Pow b pos) (e2 powD f g) := se_bin (fun _ _ => op_pow) (intsS (r := fun i j => i ^ j.toNat) fun x y z e => by
  cases x with
  | int i =>
    cases y with
    | int j =>
      obtain ⟨hl, rfl⟩ := iteS (p := 0 ≤ j ∧ j ≤ 1000000 ∧ i.natAbs < 2 ^ 64) e
      exact ⟨i, j, rfl, rfl, hl, rfl⟩
    | _ => cases e
  | _ => cases e) ha hb
theorem cmpS {od : D → D → Option D} {r : Int → Int → Bool} (hd : ∀ x y z, od x y = some z → ∃ i j, x = .int i ∧ y = .int j ∧ z = .bl (r i j)) : OpS X.K RepV RepV od (rI0 fun i j => .bl (r i j)) := intsB hd
theorem ltS : OpS X.K RepV RepV ltD (rI0 fun i j => .bl (decide (i < j))) := intsB fun x y z e => by
  cases x with
  | int i =>
    cases y with
    | int j => cases e; exact ⟨i, j, rfl, rfl, rfl⟩
    | _ => cases e
  | _ => cases e
theorem leS : OpS X.K RepV RepV leD (rI0 fun i j => .bl (decide (i ≤ j))) := intsB fun x y z e => by
  cases x with
  | int i =>
    cases y with
    | int j => cases e; exact ⟨i, j, rfl, rfl, rfl⟩
    | _ => cases e
  | _ => cases e
theorem gtS : OpS X.K RepV RepV gtD (rI0 fun i j => .bl (decide (j < i))) := intsB fun x y z e => by
  cases x with
  | int i =>
    cases y with
    | int j => cases e; exact ⟨i, j, rfl, rfl, rfl⟩
    | _ => cases e
  | _ => cases e
theorem geS : OpS X.K RepV RepV geD (rI0 fun i j => .bl (decide (j ≤ i))) := intsB fun x y z e => by
  cases x with
  | int i =>
    cases y with
    | int j => cases e; exact ⟨i, j, rfl, rfl, rfl⟩
    | _ => cases e
  | _ => cases e
theorem se_lt (ha : SE X a f) (hb : SE X b g) : SE X (.Compare a [.Lt] [b] pos) (e2 ltD f g) := se_cmp (fun _ _ => op_lt) ltS ha hb (nomark _)
theorem se_le (ha : SE X a f) (hb : SE X b g) : SE X (.Compare a [.LtE] [b] pos) (e2 leD f g) := se_cmp (fun _ _ => op_le) leS ha hb (nomark _)
theorem se_gt (ha : SE X a f) (hb : SE X b g) : SE X (.Compare a [.Gt] [b] pos) (e2 gtD f g) := se_cmp (fun _ _ => op_gt) gtS ha hb (nomark _)
theorem se_ge (ha : SE X a f) (hb : SE X b g) : SE X (.Compare a [.GtE] [b] pos) (e2 geD f g) := se_cmp (fun _ _ => op_ge) geS ha hb (nomark _)
theorem st_lt (ha : SE X a f) (hb : SE X b g) : ST X (.Compare a [.Lt] [b] pos) (tB (e2 ltD f g)) := st_cmp (fun _ _ => op_lt) ltS ha hb (nomark _)
theorem st_le (ha : SE X a f) (hb : SE X b g) : ST X (.Compare a [.LtE] [b] pos) (tB (e2 leD f g)) := st_cmp (fun _ _ => op_le) leS ha hb (nomark _)
theorem st_gt (ha : SE X a f) (hb : SE X b g) : ST X (.Compare a [.Gt] [b] pos) (tB (e2 gtD f g)) := st_cmp (fun _ _ => op_gt) gtS ha hb (nomark _)
theorem st_ge (ha : SE X a f) (hb : SE X b g) : ST X (.Compare a [.GtE] [b] pos) (tB (e2 geD f g)) := st_cmp (fun _ _ => op_ge) geS ha hb (nomark _)
end
/-! ### equality -/
mutual
def py : D → PyData
  | .non => .none
  | .bl b => .bool b
  | .int i => .int i
  | .str x => .str x
  | .tup xs => .tuple (pys xs)
  | .lst xs => .list (pys xs)
  | .cell _ => .none
  | .glo _ => .none
  | .scr _ => .none
def pys : List D → List PyData
  | [] => []
  | x :: xs => py x :: pys xs
end
mutual
theorem eqv_py : ∀ (n m : Nat) (x y : D), okd n x = true → okd m y = true → PyData.eqv (py x) (py y) = eqv x y
  | n, m, x, y, hx, hy => by
    cases x with
    | tup xs =>
      cases n with
      | zero => cases hx
      | succ n =>
        cases y with
        | tup ys =>
          cases m with
          | zero => cases hy
          | succ m => simpa [py, eqv, PyData.eqv] using eqvs_py n m xs ys hx hy
        | cell k => cases m <;> cases hy
        | glo k => cases m <;> cases hy
        | scr k => cases m <;> cases hy
        | _ => simp [py, eqv, PyData.eqv]
    | lst xs =>
      cases n with
      | zero => cases hx
      | succ n =>
        cases y with
        | lst ys =>
          cases m with
          | zero => cases hy
          | succ m => simpa [py, eqv, PyData.eqv] using eqvs_py n m xs ys hx hy
        | cell k => cases m <;> cases hy
        | glo k => cases m <;> cases hy
        | scr k => cases m <;> cases hy
        | _ => simp [py, eqv, PyData.eqv]
    | cell k => cases n <;> cases hx
    | glo k => cases n <;> cases hx
    | scr k => cases n <;> cases hx
    | _ =>
      cases y with
      | cell k => cases m <;> cases hy
      | glo k => cases m <;> cases hy
      | scr k => cases m <;> cases hy
      | _ => simp [py, eqv, PyData.eqv]
theorem eqvs_py : ∀ (n m : Nat) (x y : List D), okds n x = true → okds m y = true → PyData.eqvAll (pys x) (pys y) = eqvs x y
  | n, m, [], [], _, _ => by simp [pys, eqvs, PyData.eqvAll]
  | n, m, [], y :: ys, _, _ => by simp [pys, eqvs, PyData.eqvAll]
  | n, m, x :: xs, [], _, _ => by simp [pys, eqvs, PyData.eqvAll]
  | n, m, x :: xs, y :: ys, hx, hy => by
    unfold okds at hx hy
    simp only [Bool.and_eq_true] at hx hy
    simp only [pys, eqvs, PyData.eqvAll, eqv_py n m x y hx.1 hy.1, eqvs_py n m xs ys hx.2 hy.2]
end
end Kb

set_option Elab.async false
set_option linter.all false
set_option maxRecDepth 100000
/-! Kb4: equality, is, tests, displays, items, slices, built-ins. -/
namespace Kb
open PySem PySem.Spec PyProof.Rows L2
mutual
theorem okd_lay : ∀ (n : Nat) (x : D), okd n x = true → PyData.canLay0 (py x) = true ∧ (py x).depth ≤ n
  | n, x, h => by
    cases x with
    | tup xs =>
      cases n with
      | zero => cases h
      | succ n =>
        obtain ⟨h1, h2⟩ := okds_lay n xs h
        exact ⟨h1, by show PyData.depthAll (pys xs) + 1 ≤ n + 1; omega⟩
    | lst xs =>
      cases n with
      | zero => cases h
      | succ n =>
        obtain ⟨h1, h2⟩ := okds_lay n xs h
        exact ⟨h1, by show PyData.depthAll (pys xs) + 1 ≤ n + 1; omega⟩
    | str x =>
      have h' : (x.cps.all fun c => decide (c < 1114112)) = true := by cases n <;> exact h
      exact ⟨h', by show (0 : Nat) ≤ n; omega⟩
    | cell k => cases n <;> cases h
    | glo k => cases n <;> cases h
    | scr k => cases n <;> cases h
    | non => exact ⟨rfl, by show (0 : Nat) ≤ n; omega⟩
    | bl b => exact ⟨rfl, by show (0 : Nat) ≤ n; omega⟩
    | int b => exact ⟨rfl, by show (0 : Nat) ≤ n; omega⟩
theorem okds_lay : ∀ (n : Nat) (x : List D), okds n x = true → PyData.canLayAll0 (pys x) = true ∧ PyData.depthAll (pys x) ≤ n
  | n, [], h => ⟨rfl, by show (0 : Nat) ≤ n; omega⟩
  | n, x :: xs, h => by
    have h' : (okd n x && okds n xs) = true := h
    rw [Bool.and_eq_true] at h'
    obtain ⟨a1, a2⟩ := okd_lay n x h'.1
    obtain ⟨b1, b2⟩ := okds_lay n xs h'.2
    refine ⟨?_, ?_⟩
    · show (PyData.canLay0 (py x) && PyData.canLayAll0 (pys xs)) = true
      rw [a1, b1]; rfl
    · show max (py x).depth (PyData.depthAll (pys xs)) ≤ n
      omega
end
theorem okd_shaped {x : D} (h : okd 60 x = true) : SeqAt.shaped (py x) = true := by
  obtain ⟨h1, h2⟩ := okd_lay 60 x h
  unfold SeqAt.shaped
  rw [h1, decide_eq_true (by omega : (py x).depth ≤ 64)]
  rfl
section
variable {K : PySem.W.Frag} {mg : MG} {c c1 c' : Cc} {P : List Addr} {env : Env} {S S1 S' : Store} {σ : L2.St} {H H1 H' : Hp} {W : WX} {a : Addr} {vs : List V} {ds : List D} {d x y z : D} {v w : V} {Q : VK}
mutual
theorem Rep.dp : ∀ (n : Nat) (x : D) (v : V), okd n x = true → Rep c H x v → Dp c.K H v (py x)
  | n, x, v, h, r => by
    cases x with
    | tup xs =>
      cases n with
      | zero => cases h
      | succ n =>
        obtain ⟨a, vs, rfl, h1, h2⟩ := r
        exact .tup h1 (Reps.dp n xs vs h h2)
    | lst xs =>
      cases n with
      | zero => cases h
      | succ n =>
        obtain ⟨a, vs, rfl, h1, h2⟩ := r
        exact .lst h1.seq (Reps.dp n xs vs h h2)
    | cell k => cases n <;> cases h
    | glo k => cases n <;> cases h
    | scr k => cases n <;> cases h
    | non => have e : v = .non := r; subst e; exact .non
    | bl b => have e : v = .bl b := r; subst e; exact .bl b
    | int b => have e : v = .int b := r; subst e; exact .int b
    | str b => have e : v = .str b := r; subst e; exact .str b
theorem Reps.dp : ∀ (n : Nat) (x : List D) (v : List V), okds n x = true → Reps c H x v → DpAll c.K H v (pys x)
  | n, [], v, h, r => by
    have e : v = [] := r
    subst e
    exact .nil
  | n, x :: xs, v, h, r => by
    have h' : (okd n x && okds n xs) = true := h
    rw [Bool.and_eq_true] at h'
    obtain ⟨u, s, rfl, r1, r2⟩ := r
    exact .cons (Rep.dp n x u h'.1 r1) (Reps.dp n xs s h'.2 r2)
end
theorem RepB.dp (h : okd 60 x = true) (r : RepB c P H x v) : Dp c.K H v (py x) := by
  rcases r with r | ⟨ds, a, vs, rfl, rfl, h1, h2, h3⟩
  · exact Rep.dp 60 x v h r
  · exact .lst (SqL.of h2) (Reps.dp 59 ds vs h h3)
end
section
variable {X : Cx} {a b e o i : Expr} {es rest : List Expr} {f g h : EM D} {t u : EM Bool} {pos : Pos} {Ra Rb : RR D V} {x : Str}
theorem eqS : OpS X.K RepB RepB eqD (rEqD X.K) := by
  intro mg c P env S σ H W Q x y v w z st rx ry e q
  obtain ⟨hl, rfl⟩ := iteS (p := (okd 60 x && okd 60 y) = true) e
  rw [Bool.and_eq_true] at hl
  obtain ⟨h1, h2⟩ := hl
  have d1 := rx.dp h1
  have d2 := ry.dp h2
  rw [st.K] at d1 d2
  exact ⟨py x, py y, d1, d2, okd_shaped h1, okd_shaped h2, by rw [eqv_py 60 60 x y h1 h2]; exact q.here st rfl⟩
theorem neS : OpS X.K RepB RepB neD (rNeD X.K) := by
  intro mg c P env S σ H W Q x y v w z st rx ry e q
  obtain ⟨hl, rfl⟩ := iteS (p := (okd 60 x && okd 60 y) = true) e
  rw [Bool.and_eq_true] at hl
  obtain ⟨h1, h2⟩ := hl
  have d1 := rx.dp h1
  have d2 := ry.dp h2
  rw [st.K] at d1 d2
  exact ⟨py x, py y, d1, d2, okd_shaped h1, okd_shaped h2, by rw [eqv_py 60 60 x y h1 h2]; exact q.here st rfl⟩
/-- room for a comparison of data -/
def Hu (X : Cx) : Prop := X.A.units + 64 < cLine
theorem hu_room {k : Nat} {X : Cx} (hr : Room k X.A) : Hu X := Nat.lt_of_le_of_lt (by omega) hr.un
theorem se_eq (hu : Hu X) (ha : SB X a f) (hb : SB X b g) : SE X (.Compare a [.Eq] [b] pos) (e2 eqD f g) := se_cmp (fun pn xe => op_eqD (X := X.tr pn xe) hu) eqS ha hb (nomark _)
theorem se_ne (hu : Hu X) (ha : SB X a f) (hb : SB X b g) : SE X (.Compare a [.NotEq] [b] pos) (e2 neD f g) := se_cmp (fun pn xe => op_neD (X := X.tr pn xe) hu) neS ha hb (nomark _)
theorem st_eq (hu : Hu X) (ha : SB X a f) (hb : SB X b g) : ST X (.Compare a [.Eq] [b] pos) (tB (e2 eqD f g)) := st_cmp (fun pn xe => op_eqD (X := X.tr pn xe) hu) eqS ha hb (nomark _)
theorem st_ne (hu : Hu X) (ha : SB X a f) (hb : SB X b g) : ST X (.Compare a [.NotEq] [b] pos) (tB (e2 neD f g)) := st_cmp (fun pn xe => op_neD (X := X.tr pn xe) hu) neS ha hb (nomark _)
/-! ### is None, is True -/
theorem isNon_rep {c : Cc} {P : List Addr} {H : Hp} {x : D} {v : V} {z : D} (r : RepB c P H x v) (e : isNonD x = some z) : z = .bl (decide (v = .non)) ∧ notNonD x = some (.bl (!decide (v = .non))) := by
  cases x with
  | non => cases e; rw [r.non]; exact ⟨rfl, rfl⟩
  | bl b => cases e; rw [r.bl]; exact ⟨rfl, rfl⟩
  | int b => cases e; rw [r.int]; exact ⟨rfl, rfl⟩
  | str b => cases e; rw [r.str]; exact ⟨rfl, rfl⟩
  | tup b => cases e; obtain ⟨a, vs, rfl, _⟩ := r.tup; exact ⟨rfl, rfl⟩
  | lst b => cases e; obtain ⟨a, vs, rfl, _⟩ := r.lst; exact ⟨rfl, rfl⟩
  | _ => cases e
theorem isS : OpS X.K RepB RepB isD (fun x y H Q => (y = .non ∧ Q (.bl (decide (x = .non))) H) ∨ rIsB x y H Q) := by
  intro mg c P env S σ H W Q x y v w z st rx ry e q
  cases y with
  | non =>
    have e' : isNonD x = some z := by cases x <;> exact e
    obtain ⟨rfl, _⟩ := isNon_rep rx e'
    exact .inl ⟨ry.non, q.here st rfl⟩
  | bl b =>
    cases x with
    | bl a => cases e; exact .inr ⟨a, b, rx.bl, ry.bl, q.here st rfl⟩
    | _ => cases e
  | _ => cases x <;> cases e
theorem notNon_rep {c : Cc} {P : List Addr} {H : Hp} {x : D} {v : V} {z : D} (r : RepB c P H x v) (e : notNonD x = some z) : z = .bl (!decide (v = .non)) := by
  cases x with
  | non => cases e; rw [r.non]; rfl
  | bl b => cases e; rw [r.bl]; rfl
  | int b => cases e; rw [r.int]; rfl
  | str b => cases e; rw [r.str]; rfl
  | tup b => cases e; obtain ⟨a, vs, rfl, _⟩ := r.tup; rfl
  | lst b => cases e; obtain ⟨a, vs, rfl, _⟩ := r.lst; rfl
  | _ => cases e
theorem isntNS : OpS X.K RepB RepB isntND (fun x y H Q => (y = .non ∧ Q (.bl (!decide (x = .non))) H) ∨ rNotB x y H Q) := by
  intro mg c P env S σ H W Q x y v w z st rx ry e q
  cases y with
  | non =>
    have e' : notNonD x = some z := by cases x <;> exact e
    have e1 := notNon_rep rx e'
    subst e1
    exact .inl ⟨ry.non, q.here st rfl⟩
  | bl b =>
    cases x with
    | bl a => cases e; exact .inr ⟨a, b, rx.bl, ry.bl, q.here st rfl⟩
    | _ => cases e
  | _ => cases x <;> cases e
theorem se_is (ha : SB X a f) (hb : SB X b g) : SE X (.Compare a [.Is] [b] pos) (e2 isD f g) := se_cmp (fun _ _ => op_isN.or op_isBl) isS ha hb (nomark _)
theorem st_is (ha : SB X a f) (hb : SB X b g) : ST X (.Compare a [.Is] [b] pos) (tB (e2 isD f g)) := st_cmp (fun _ _ => op_isN.or op_isBl) isS ha hb (nomark _)
theorem se_isnt (ha : SB X a f) (hb : SB X b g) : SE X (.Compare a [.IsNot] [b] pos) (e2 isntND f g) := se_cmp (fun _ _ => op_notN.or op_notBl) isntNS ha hb (nomark _)
theorem st_isnt (ha : SB X a f) (hb : SB X b g) : ST X (.Compare a [.IsNot] [b] pos) (tB (e2 isntND f g)) := st_cmp (fun _ _ => op_notN.or op_notBl) isntNS ha hb (nomark _)
/-! ### one operand -/
theorem se_neg (ha : SE X a f) : SE X (.UnaryOp .USub a pos) (e1 negD f) := ⟨fun pn xe W hp tk => wE (pe_un un_neg (ha.run pn xe W hp tk)) fun σ H Q ⟨c, P, env, S, st, q⟩ => by
  refine gbind st q fun c1 S1 H1 a b x1 st1 r1 q1 => ?_
  obtain ⟨z, e, q2⟩ := GPost.lift q1
  cases a with
  | int i => cases e; exact ⟨i, r1, q2.here st1 rfl⟩
  | _ => cases e⟩
/-! ### and, or, not -/
theorem gbool {c : Cc} {P : List Addr} {S : Store} {σ : L2.St} {H : Hp} {W : WX} {α β : Type} {R : RR α β} {Q : β → Hp → Prop} {x : D} {v : V} {k : Bool → Store → Out α} (r : Rep c H x v) (h : GPost c P H W σ R Q ((lift (boolD x) S).bind k)) :
    ∃ b, x = .bl b ∧ v = .bl b ∧ GPost c P H W σ R Q (k b S) := by
  cases x with
  | bl b => exact ⟨b, rfl, r, h⟩
  | _ => exact h.elim
theorem se_one {op} (ha : SE X a f) : SE X (.BoolOp op [a] pos) f := ⟨fun pn xe W hp tk => pe_one (ha.run pn xe W hp tk)⟩
theorem se_and (ha : SE X a f) (hb : SE X (.BoolOp .And (b :: rest) pos) g) : SE X (.BoolOp .And (a :: b :: rest) pos) (eAnd f g) := ⟨fun pn xe W hp tk => wE (pe_and (ha.run pn xe W hp tk) (hb.run pn xe W hp tk)) fun σ H Q ⟨c, P, env, S, st, q⟩ => by
  refine gbind st q fun c1 S1 H1 a b x1 st1 r1 q1 => ?_
  obtain ⟨k, rfl, rfl, q2⟩ := gbool r1 q1
  refine ⟨k, rfl, ?_⟩
  cases k with
  | true => exact iteT ⟨c1, P, env, S1, st1, q2⟩
  | false => exact iteF (q2.here st1 rfl)⟩
theorem se_or (ha : SE X a f) (hb : SE X (.BoolOp .Or (b :: rest) pos) g) : SE X (.BoolOp .Or (a :: b :: rest) pos) (eOr f g) := ⟨fun pn xe W hp tk => wE (pe_or (ha.run pn xe W hp tk) (hb.run pn xe W hp tk)) fun σ H Q ⟨c, P, env, S, st, q⟩ => by
  refine gbind st q fun c1 S1 H1 a b x1 st1 r1 q1 => ?_
  obtain ⟨k, rfl, rfl, q2⟩ := gbool r1 q1
  refine ⟨k, rfl, ?_⟩
  cases k with
  | true => exact iteT (q2.here st1 rfl)
  | false => exact iteF ⟨c1, P, env, S1, st1, q2⟩⟩
theorem se_not (ha : SE X a f) : SE X (.UnaryOp .Not a pos) (eNot f) := ⟨fun pn xe W hp tk => wE (pe_not (ha.run pn xe W hp tk)) fun σ H Q ⟨c, P, env, S, st, q⟩ => by
  refine gbind st q fun c1 S1 H1 a b x1 st1 r1 q1 => ?_
  obtain ⟨k, rfl, rfl, q2⟩ := gbool r1 q1
  exact ⟨k, rfl, q2.here st1 rfl⟩⟩
/-! ### tests -/
theorem sw_and1 (ha : ST X a t) : SW X (.BoolOp .And [a] pos) t := ⟨fun pn xe W hp tk => pw_and1 (ha.run pn xe W hp tk)⟩
theorem sw_or1 (ha : ST X a t) : SW X (.BoolOp .Or [a] pos) t := ⟨fun pn xe W hp tk => pw_or1 (ha.run pn xe W hp tk)⟩
theorem sw_and (ha : ST X a t) (hb : SW X (.BoolOp .And (b :: rest) pos) u) : SW X (.BoolOp .And (a :: b :: rest) pos) (tAnd t u) := ⟨fun pn xe W hp tk => wW (pw_and (ha.run pn xe W hp tk) (hb.run pn xe W hp tk)) fun σ H Q ⟨c, P, env, S, st, q⟩ => by
  refine gbind st q fun c1 S1 H1 a b x1 st1 r1 q1 => ?_
  have e : b = a := r1
  subst e
  cases b with
  | true => exact iteT ⟨c1, P, env, S1, st1, q1⟩
  | false => exact iteF (q1.here st1 rfl)⟩
theorem sw_or (ha : ST X a t) (hb : SW X (.BoolOp .Or (b :: rest) pos) u) : SW X (.BoolOp .Or (a :: b :: rest) pos) (tOr t u) := ⟨fun pn xe W hp tk => wW (pw_or (ha.run pn xe W hp tk) (hb.run pn xe W hp tk)) fun σ H Q ⟨c, P, env, S, st, q⟩ => by
  refine gbind st q fun c1 S1 H1 a b x1 st1 r1 q1 => ?_
  have e : b = a := r1
  subst e
  cases b with
  | true => exact iteT (q1.here st1 rfl)
  | false => exact iteF ⟨c1, P, env, S1, st1, q1⟩⟩
theorem st_not (ha : ST X a t) : ST X (.UnaryOp .Not a pos) (tNot t) := ⟨fun pn xe W hp tk => wT (pt_not (ha.run pn xe W hp tk)) fun σ H Q ⟨c, P, env, S, st, q⟩ => by
  refine gbind st q fun c1 S1 H1 a b x1 st1 r1 q1 => ?_
  have e : b = a := r1
  subst e
  exact q1.here st1 rfl⟩
/-- a value's truth -/
theorem tru_rep {K : PySem.W.Frag} {c : Cc} {P : List Addr} {H : Hp} {x : D} {v : V} {k : Bool} (hK : c.K = K) (r : RepB c P H x v) (e : truD x = some k) : TruV K v H k := by
  subst hK
  cases x with
  | non => cases e; rw [r.non]; exact rfl
  | bl b => cases e; rw [r.bl]; exact rfl
  | int b => cases e; rw [r.int]; exact rfl
  | str b =>
    obtain ⟨hl, rfl⟩ := iteS (p := b.length ≤ LN) e
    rw [r.str]
    exact ⟨by rw [← LN_eq]; exact hl, rfl⟩
  | tup b =>
    cases e
    obtain ⟨a, vs, rfl, h1, h2⟩ := r.tup
    have hl := h2.length
    refine .inr (.inl ⟨vs, h1, ?_⟩)
    cases b <;> cases vs <;> first | rfl | simp at hl
  | lst b =>
    cases e
    obtain ⟨a, vs, rfl, h1, h2⟩ := r.lst
    have hl := h2.length
    refine .inl ⟨vs, .inl h1, ?_⟩
    cases b <;> cases vs <;> first | rfl | simp at hl
  | _ => cases e
theorem st_tru (ha : SB X a f) (he : ∀ (X' : Cx) whole, isTrue a X'.env whole = (do let v ← whole; standAt a.pos; holding [v] (truthy v)) := by intro _ _; rfl) : ST X a (tV f) := ⟨fun pn xe W hp tk => wT (pt_truth (ha.run pn xe W hp tk) (he (X.tr pn xe))) fun σ H Q ⟨c, P, env, S, st, q⟩ => by
  refine gbind st q fun c1 S1 H1 a b x1 st1 r1 q1 => ?_
  obtain ⟨k, e, q2⟩ := GPost.lift q1
  exact ⟨k, tru_rep st1.K r1 e, q2.here st1 rfl⟩⟩
theorem se_if {cnd : Expr} (hc : ST X cnd t) (ha : SE X a f) (hb : SE X b g) : SE X (.IfExp cnd a b pos) (eIf t f g) := ⟨fun pn xe W hp tk => wE (pe_ifExp (hc.run pn xe W hp tk) (ha.run pn xe W hp tk) (hb.run pn xe W hp tk)) fun σ H Q ⟨c, P, env, S, st, q⟩ => by
  refine gbind st q fun c1 S1 H1 a b x1 st1 r1 q1 => ?_
  have e : b = a := r1
  subst e
  cases b with
  | true => exact iteT ⟨c1, P, env, S1, st1, q1⟩
  | false => exact iteF ⟨c1, P, env, S1, st1, q1⟩⟩
/-! ### a op b op' c -/
theorem chain_of {K : PySem.W.Frag} {mg : MG} {W : WX} {r r' : L2.R2} {od od' : D → D → Option D} {σ : L2.St} {H : Hp} {Q : VK} (hS : OpS K RepV RepV od r) (hS' : OpS K RepV RepV od' r') (h0 : tG K mg RepV (eCh od od' f g h) W σ H Q) : tChain r r' (tG K mg RepV f W) (tG K mg RepV g W) (tG K mg RepV h W) σ H Q := by
  obtain ⟨c, P, env, S, st, q⟩ := h0
  refine gbind st q fun c1 S1 H1 a b x1 st1 r1 q1 => ?_
  refine gbind st1 q1 fun c2 S2 H2 a2 b2 x2 st2 r2 q2 => ?_
  have r1' := x2.rep _ _ r1
  cases e : od a a2 with
  | none =>
    rw [e] at q2
    exact q2.elim
  | some z =>
    rw [e] at q2
    refine hS mg c2 P env S2 σ H2 W _ a a2 b b2 z st2 r1' r2 e fun c3 H3 v3 x3 w3 r3 => ?_
    have st3 := st2.ext x3 w3
    have q3 : GPost c2 P H2 W σ RepV Q ((lift (boolD z) S2).bind fun b S4 => if b = true then (h env S4).bind fun w S5 => lift (od' a2 w) S5 else .ok (.bl false) S4) := q2
    obtain ⟨k, rfl, rfl, q4⟩ := gbool r3 (q3.ext x3)
    refine ⟨k, rfl, ?_⟩
    cases k with
    | false => exact iteF (q4.here st3 rfl)
    | true =>
      refine iteT ?_
      refine gbind st3 q4 fun c4 S4 H4 a4 b4 x4 st4 r4 q5 => ?_
      obtain ⟨z', e', q6⟩ := GPost.lift q5
      exact hS' mg c4 P env S4 σ H4 W Q a2 a4 b2 b4 z' st4 (x4.rep _ _ (x3.rep _ _ r2)) r4 e' q6
theorem se_chain {op op' : CmpOp} {r r' : L2.R2} {od od' : D → D → Option D} {d : Expr} (ho : ∀ pn xe, OpR (X.tr pn xe) (compareOp op) r) (ho' : ∀ pn xe, OpR (X.tr pn xe) (compareOp op') r') (hS : OpS X.K RepV RepV od r) (hS' : OpS X.K RepV RepV od' r') (ha : SE X a f) (hb : SE X b g) (hd : SE X d h)
    (hm : lastMarks [op, op'] [b, d] = false) : SE X (.Compare a [op, op'] [b, d] pos) (eCh od od' f g h) := ⟨fun pn xe W hp tk => wE (pe_chain (ho pn xe) (ho' pn xe) (ha.run pn xe W hp tk) (hb.run pn xe W hp tk) (hd.run pn xe W hp tk) hm) fun σ H Q q => chain_of hS hS' q⟩
theorem st_chain {op op' : CmpOp} {r r' : L2.R2} {od od' : D → D → Option D} {d : Expr} (ho : ∀ pn xe, OpR (X.tr pn xe) (compareOp op) r) (ho' : ∀ pn xe, OpR (X.tr pn xe) (compareOp op') r') (hS : OpS X.K RepV RepV od r) (hS' : OpS X.K RepV RepV od' r') (ha : SE X a f) (hb : SE X b g) (hd : SE X d h)
    (hm : lastMarks [op, op'] [b, d] = false) : ST X (.Compare a [op, op'] [b, d] pos) (tB (eCh od od' f g h)) := ⟨fun pn xe W hp tk => wT (pt_chain (ho pn xe) (ho' pn xe) (ha.run pn xe W hp tk) (hb.run pn xe W hp tk) (hd.run pn xe W hp tk) hm) fun σ H Q q => by
  refine chain_of hS hS' ?_
  obtain ⟨c, P, env, S, st, q⟩ := q
  refine gbind st q fun c1 S1 H1 a b x1 st1 r1 q1 => ?_
  obtain ⟨k, e, q2⟩ := GPost.lift q1
  cases a with
  | bl k' =>
    have e2 : k' = k := by simpa [boolD] using e
    subst e2
    exact ⟨k', r1, q2.here st1 rfl⟩
  | _ => cases e⟩
/-! ### arguments, displays -/
theorem sa_nil : SA RepL X [] aNil := ⟨fun pn xe W hp tk => wA pa_nil fun σ H Q ⟨c, P, env, S, st, q⟩ => q.here st rfl⟩
theorem sa_cons {g : EM (List D)} (ha : SE X e f) (hr : SA RepL X es g) (hs : ∀ X' : Cx, starEach (e :: es) X'.env = (false, eval e X'.env) :: starEach es X'.env := by intro _; rfl) : SA RepL X (e :: es) (aCons f g) :=
  ⟨fun pn xe W hp tk => wA (pa_cons (ha.run pn xe W hp tk) (hr.run pn xe W hp tk) (hs (X.tr pn xe))) fun σ H Q ⟨c, P, env, S, st, q⟩ => by
    refine gbind st q fun c1 S1 H1 a b x1 st1 r1 q1 => ?_
    refine gbind st1 q1 fun c2 S2 H2 a2 b2 x2 st2 r2 q2 => ?_
    exact q2.here st2 ⟨b, b2, rfl, x2.rep _ _ r1, r2⟩⟩
theorem sab_nil : SA RepsB X [] aNil := ⟨fun pn xe W hp tk => wA pa_nil fun σ H Q ⟨c, P, env, S, st, q⟩ => q.here st rfl⟩
theorem sab_cons {g : EM (List D)} (ha : SB X e f) (hr : SA RepsB X es g) (hs : ∀ X' : Cx, starEach (e :: es) X'.env = (false, eval e X'.env) :: starEach es X'.env := by intro _; rfl) : SA RepsB X (e :: es) (aCons f g) :=
  ⟨fun pn xe W hp tk => wA (pa_cons (ha.run pn xe W hp tk) (hr.run pn xe W hp tk) (hs (X.tr pn xe))) fun σ H Q ⟨c, P, env, S, st, q⟩ => by
    refine gbind st q fun c1 S1 H1 a b x1 st1 r1 q1 => ?_
    refine gbind st1 q1 fun c2 S2 H2 a2 b2 x2 st2 r2 q2 => ?_
    exact q2.here st2 ⟨b, b2, rfl, x2.repB r1, r2⟩⟩
theorem se_tup {x1} {g : EM (List D)} (ha : SA RepL X es g) : SE X (.Tuple es x1 pos) (eA tupD g) := ⟨fun pn xe W hp tk => wE (pe_tup (ha.run pn xe W hp tk)) fun σ H Q ⟨c, P, env, S, st, q⟩ => by
  refine gbind st q fun c1 S1 H1 a b x1 st1 r1 q1 => ?_
  obtain ⟨z, e, q2⟩ := GPost.lift q1
  obtain ⟨hl, rfl⟩ := iteS (p := a.length ≤ LN) e
  exact ⟨by rw [Reps.length r1, ← LN_eq]; exact hl, fun p hp => q2.newT st1 r1 hp⟩⟩
theorem se_lst {g : EM (List D)} (ha : SA RepL X es g) : SE X (.List es pos) (eA lstD g) := ⟨fun pn xe W hp tk => wE (pe_lst (ha.run pn xe W hp tk)) fun σ H Q ⟨c, P, env, S, st, q⟩ => by
  refine gbind st q fun c1 S1 H1 a b x1 st1 r1 q1 => ?_
  obtain ⟨z, e, q2⟩ := GPost.lift q1
  obtain ⟨hl, rfl⟩ := iteS (p := a.length ≤ LN) e
  exact ⟨by rw [Reps.length r1, ← LN_eq]; exact hl, fun p hp => q2.newL st1 r1 hp⟩⟩
/-! ### items -/
theorem atD_rep {c : Cc} {H : Hp} {ds : List D} {vs : List V} {i : Int} {d : D} (r : Reps c H ds vs) (e : atD ds i = some d) : ∃ v, atI vs i = some v ∧ Rep c H d v := by
  have hl := r.length
  unfold atD at e
  cases q : ixN ds.length i with
  | none => rw [q] at e; cases e
  | some j =>
    rw [q] at e
    obtain ⟨v, h1, h2⟩ := r.get (show ds[j]? = some d from e)
    refine ⟨v, ?_, h2⟩
    unfold atI
    rw [hl]
    have q2 : L2.ixN ds.length i = some j := q
    rw [q2]
    exact h1
theorem ixS : OpS X.K RepB RepV ixD (rIx X.K) := by
  intro mg c P env S σ H W Q x y v w z st rx ry e q
  cases x with
  | lst xs =>
    cases y with
    | int i =>
      obtain ⟨a, vs, rfl, h1, h2⟩ := rx.lst
      obtain ⟨v, e1, r⟩ := atD_rep h2 e
      exact .inl ⟨a, vs, i, v, rfl, ry, .inl h1, e1, q.here st r⟩
    | _ => cases e
  | tup xs =>
    cases y with
    | int i =>
      obtain ⟨a, vs, rfl, h1, h2⟩ := rx.tup
      rw [st.K] at h1
      obtain ⟨v, e1, r⟩ := atD_rep h2 e
      exact .inr (.inl ⟨a, vs, i, v, rfl, ry, h1, e1, q.here st r⟩)
    | _ => cases e
  | scr xs =>
    cases y with
    | int i =>
      rcases rx with ⟨a, vs, rfl, h1, h2⟩ | ⟨_, _, _, z, _⟩
      · obtain ⟨v, e1, r⟩ := atD_rep h2 e
        rw [st.K] at h1
        exact .inl ⟨a, vs, i, v, rfl, ry, h1.seq, e1, q.here st r⟩
      · cases z
    | _ => cases e
  | str s =>
    cases y with
    | int i =>
      have e' : (if s.length ≤ LN then (ixN s.cps.toList.length i).bind fun j => (s.cps.toList[j]?).map fun c => D.str ⟨#[c]⟩ else none) = some z := e
      by_cases hl : s.length ≤ LN
      · rw [if_pos hl] at e'
        cases q1 : ixN s.cps.toList.length i with
        | none => rw [q1] at e'; cases e'
        | some j =>
          rw [q1] at e'
          cases q2 : s.cps.toList[j]? with
          | none =>
            have e2 : (s.cps.toList[j]?).map (fun c => D.str ⟨#[c]⟩) = some z := e'
            rw [q2] at e2; cases e2
          | some cp =>
            have e2 : (s.cps.toList[j]?).map (fun c => D.str ⟨#[c]⟩) = some z := e'
            rw [q2] at e2
            cases e2
            refine .inr (.inr ⟨s, i, cp, rx.str, ry, by rw [← LN_eq]; exact hl, ?_, q.here st rfl⟩)
            unfold atI
            have q3 : L2.ixN s.cps.toList.length i = some j := q1
            rw [q3]
            exact q2
      · rw [if_neg hl] at e'; cases e'
    | _ => cases e
  | _ => cases y <;> cases e
theorem se_ix (ha : SB X a f) (hb : SE X b g) (hs : PlainIx b := by exact fun _ _ => rfl) : SE X (.Subscript a b pos) (e2 ixD f g) :=
  ⟨fun pn xe W hp tk => wE (pe_ix ix_seq (ha.run pn xe W hp tk) (hb.run pn xe W hp tk) hs) fun σ H Q q => tOp_of ixS q⟩
/-! ### slices -/
structure SP' (X : Cx) (e : Option Expr) (f : EM (Option Int)) : Prop where
  run : ∀ (pn : List (Addr × Obj)) (xe : Value → Shared → Prop) (W : WX), (∀ p ∈ X.pn, p ∈ pn) → Takes (X.tr pn xe) W → PO (X.tr pn xe) e (tG X.K (xm X) (fun _ _ _ a b => b = a) f W)
theorem wO {X : Cx} {e : Option Expr} {t t' : TO} (h : PO X e t) (w : ∀ σ H Q, t' σ H Q → t σ H Q) : PO X e t' := ⟨fun pins s σ H Q I q => h.run pins s σ H Q I (w σ H Q q)⟩
theorem sp_no : SP' X none pNo := ⟨fun pn xe W hp tk => wO po_none fun σ H Q ⟨c, P, env, S, st, q⟩ => q.here st rfl⟩
theorem sp_so (ha : SE X a f) : SP' X (some a) (pSo f) := ⟨fun pn xe W hp tk => wO (po_some (ha.run pn xe W hp tk)) fun σ H Q ⟨c, P, env, S, st, q⟩ => by
  refine gbind st q fun c1 S1 H1 a b x1 st1 r1 q1 => ?_
  cases a with
  | int i => exact ⟨i, r1, q1.here st1 rfl⟩
  | _ => exact q1.elim⟩
theorem sIx_eq (n d : Nat) (o : Option Int) : HT.sIx n d o = sIx n d o := by cases o <;> rfl
theorem cut_rep {c : Cc} {H : Hp} {ds : List D} {vs : List V} {lo hi : Option Int} (r : Reps c H ds vs) : Reps c H (cut ds lo hi) (cutV vs lo hi) := by
  unfold cut cutV
  rw [sIx_eq, sIx_eq, r.length]
  exact (r.drop _).take _
theorem se_sl {lo hi : Option Expr} {l u : EM (Option Int)} {p2 : Pos} (ha : SB X a f) (hl : SP' X lo l) (hh : SP' X hi u) : SE X (.Subscript a (.Slice lo hi none p2) pos) (eSl f l u) :=
  ⟨fun pn xe W hp tk => wE (pe_slice (sl_list.or (sl_tupA.or sl_str)) (ha.run pn xe W hp tk) (hl.run pn xe W hp tk) (hh.run pn xe W hp tk)) fun σ H Q ⟨c, P, env, S, st, q⟩ => by
    refine gbind st q fun c1 S1 H1 x v x1 st1 r1 q1 => ?_
    refine gbind st1 q1 fun c2 S2 H2 l' l2 x2 st2 r2 q2 => ?_
    refine gbind st2 q2 fun c3 S3 H3 u' u2 x3 st3 r3 q3 => ?_
    have e2 : l2 = l' := r2
    have e3 : u2 = u' := r3
    subst e2
    subst e3
    have r := x3.repB (x2.repB r1)
    obtain ⟨z, e, q4⟩ := GPost.lift q3
    cases x with
    | lst xs =>
      cases e
      obtain ⟨a, vs, rfl, h1, h2⟩ := r.lst
      exact .inl ⟨a, vs, rfl, .inl h1, fun p hp => q4.newL st3 (cut_rep h2) hp⟩
    | scr xs =>
      cases e
      rcases r with ⟨a, vs, rfl, h1, h2⟩ | ⟨_, _, _, z, _⟩
      · rw [st3.K] at h1
        exact .inl ⟨a, vs, rfl, h1.seq, fun p hp => q4.newL st3 (cut_rep h2) hp⟩
      · cases z
    | tup xs =>
      cases e
      obtain ⟨a, vs, rfl, h1, h2⟩ := r.tup
      have hlen := h2.length
      have h1' := h1
      rw [st3.K] at h1'
      refine .inr (.inl ⟨a, vs, rfl, h1', fun ⟨z1, z2⟩ => ?_, fun _ p hp => q4.newT st3 (cut_rep h2) hp⟩)
      have ec : cut xs l2 u2 = xs := by
        unfold cut
        rw [sIx_eq, hlen] at z1 z2
        rw [z1, z2]
        simp
      rw [ec] at q4
      exact q4.here st3 ⟨a, vs, rfl, h1, h2⟩
    | str s =>
      obtain ⟨hl, rfl⟩ := iteS (p := s.length ≤ LN) e
      refine .inr (.inr ⟨s, r.str, by rw [← LN_eq]; exact hl, ?_⟩)
      have es : cutS s l2 u2 = ⟨(cut s.cps.toList l2 u2).toArray⟩ := by
        unfold cutS cut
        have e1 : s.length = s.cps.toList.length := by simp [Str.length]
        rw [sIx_eq, sIx_eq, e1]
      rw [es]
      exact q4.here st3 rfl
    | _ => cases e⟩
end
end Kb

set_option Elab.async false
set_option linter.all false
set_option maxRecDepth 100000
/-! Kb5: built-in calls; what is walked; comprehensions. -/
namespace Kb
open PySem PySem.Spec PyProof.Rows L2
/-! ### built-in calls -/
def CallS (K : PySem.W.Frag) (op : List D → Option D) (r : List V → Hp → VK → Prop) : Prop := ∀ (mg : MG) (c : Cc) (P : List Addr) (env : Env) (S : Store) (σ : L2.St) (H : Hp) (W : WX) (Q : VK) (xs : List D) (vs : List V) (z : D),
  Sta K mg c P env S σ H → RepsB c P H xs vs → op xs = some z → GPost c P H W σ RepV Q (.ok z S) → r vs H Q
section
variable {X : Cx} {a b e o i : Expr} {es rest : List Expr} {f : EM D} {g : EM (List D)} {pos p : Pos} {x : Str}
theorem se_callB {id : String} {r : List V → Hp → VK → Prop} {op : List D → Option D} (hc : ∀ pn xe, CallR (X.tr pn xe) (.builtin id) r) (hS : CallS X.K op r) (hg : Gl X x) (hm : X.mg x = none) (hv : bootBuiltins x = some (.builtin id)) (ha : SA RepsB X (e :: es) g) (hn : x ≠ "__name__" := by decide) (hdb : (x == ("__debug__" : Str)) = false := by decide)
    (he : ∀ X' : Cx, starEach (e :: es) X'.env = (false, eval e X'.env) :: starEach es X'.env := by intro _; rfl) (hpl : ∀ X' : Cx, (backTo pos (starEach es X'.env)).any (·.1) = false := by intro _; rfl) : SE X (.Call (.Name x p) (e :: es) [] pos) (eA op g) :=
  ⟨fun pn xe W hp tk => wE (pe_callB (hc pn xe) hg hm hv (ha.run pn xe W hp tk) hn hdb (he (X.tr pn xe)) (hpl (X.tr pn xe))) fun σ H Q ⟨c, P, env, S, st, q⟩ => by
    refine gbind st q fun c1 S1 H1 a b x1 st1 r1 q1 => ?_
    obtain ⟨z, e, q2⟩ := GPost.lift q1
    exact hS (xm X) c1 P env S1 σ H1 W Q a b z st1 r1 e q2⟩
theorem se_callT {T : String} {r : List V → Hp → VK → Prop} {op : List D → Option D} (hc : ∀ pn xe, CallR (X.tr pn xe) (.type T) r) (hS : CallS X.K op r) (hg : Gl X x) (hm : X.mg x = none) (hv : bootBuiltins x = some (.type T)) (ha : SA RepsB X (e :: es) g) (hn : x ≠ "__name__" := by decide) (hdb : (x == ("__debug__" : Str)) = false := by decide)
    (he : ∀ X' : Cx, starEach (e :: es) X'.env = (false, eval e X'.env) :: starEach es X'.env := by intro _; rfl) (hpl : ∀ X' : Cx, (backTo pos (starEach es X'.env)).any (·.1) = false := by intro _; rfl) : SE X (.Call (.Name x p) (e :: es) [] pos) (eA op g) :=
  ⟨fun pn xe W hp tk => wE (pe_callTy (hc pn xe) hg hm hv (ha.run pn xe W hp tk) hn hdb (he (X.tr pn xe)) (hpl (X.tr pn xe))) fun σ H Q ⟨c, P, env, S, st, q⟩ => by
    refine gbind st q fun c1 S1 H1 a b x1 st1 r1 q1 => ?_
    obtain ⟨z, e, q2⟩ := GPost.lift q1
    exact hS (xm X) c1 P env S1 σ H1 W Q a b z st1 r1 e q2⟩
end
section
variable {K : PySem.W.Frag} {mg : MG} {c c1 c' : Cc} {P : List Addr} {env : Env} {S S1 S' : Store} {σ : L2.St} {H H1 H' : Hp} {W : WX} {a : Addr} {vs : List V} {ds : List D} {d x y z : D} {v w : V} {Q : VK}
theorem RepsB.one (r : RepsB c P H [x] vs) : ∃ v, vs = [v] ∧ RepB c P H x v := by
  obtain ⟨v, r, rfl, h1, h2⟩ := r
  have e : r = [] := h2
  subst e
  exact ⟨v, rfl, h1⟩
theorem RepsB.two (r : RepsB c P H [x, y] vs) : ∃ v w, vs = [v, w] ∧ RepB c P H x v ∧ RepB c P H y w := by
  obtain ⟨v, r, rfl, h1, h2⟩ := r
  obtain ⟨w, rfl, h3⟩ := RepsB.one h2
  exact ⟨v, w, rfl, h1, h3⟩
theorem bools_rep : ∀ {ds : List D} {vs : List V} {bs : List Bool}, boolsOf ds = some bs → Reps c H ds vs → vs = bs.map V.bl
  | [], vs, bs, e, r => by
    cases e
    exact r
  | d :: ds, vs, bs, e, r => by
    cases d with
    | bl b =>
      have e' : (boolsOf ds).map (b :: ·) = some bs := e
      cases q : boolsOf ds with
      | none => rw [q] at e'; cases e'
      | some cs =>
        rw [q] at e'
        cases e'
        obtain ⟨v, r, rfl, h1, h2⟩ := r
        have e1 : v = .bl b := h1
        rw [e1, bools_rep q h2]
        rfl
    | _ => cases e
theorem ints_rep : ∀ {ds : List D} {vs : List V} {bs : List Int}, intsOf ds = some bs → Reps c H ds vs → vs = bs.map V.int
  | [], vs, bs, e, r => by
    cases e
    exact r
  | d :: ds, vs, bs, e, r => by
    cases d with
    | int b =>
      have e' : (intsOf ds).map (b :: ·) = some bs := e
      cases q : intsOf ds with
      | none => rw [q] at e'; cases e'
      | some cs =>
        rw [q] at e'
        cases e'
        obtain ⟨v, r, rfl, h1, h2⟩ := r
        have e1 : v = .int b := h1
        rw [e1, ints_rep q h2]
        rfl
    | _ => cases e
end
section
variable {X : Cx}
theorem lenS : CallS X.K lenD (fun xs H Q => ∃ x n, xs = [x] ∧ LenV X.K x H n ∧ Q (.int n) H) := by
  intro mg c P env S σ H W Q xs vs z st r e q
  match xs, e with
  | [.lst ds], e =>
    cases e
    obtain ⟨v, rfl, r1⟩ := r.one
    obtain ⟨a, us, rfl, h1, h2⟩ := r1.lst
    exact ⟨_, ds.length, rfl, .inl ⟨us, .inl h1, h2.length.symm⟩, q.here st rfl⟩
  | [.tup ds], e =>
    cases e
    obtain ⟨v, rfl, r1⟩ := r.one
    obtain ⟨a, us, rfl, h1, h2⟩ := r1.tup
    rw [st.K] at h1
    exact ⟨_, ds.length, rfl, .inr ⟨us, h1, h2.length.symm⟩, q.here st rfl⟩
  | [.scr ds], e =>
    cases e
    obtain ⟨v, rfl, r1⟩ := r.one
    rcases r1 with ⟨a, us, rfl, h1, h2⟩ | ⟨_, _, _, z, _⟩
    · rw [st.K] at h1
      exact ⟨_, ds.length, rfl, .inl ⟨us, h1.seq, h2.length.symm⟩, q.here st rfl⟩
    · cases z
  | [.str s], e =>
    obtain ⟨hl, rfl⟩ := iteS (p := s.length ≤ LN) e
    obtain ⟨v, rfl, r1⟩ := r.one
    rw [r1.str]
    exact ⟨_, s.length, rfl, ⟨by rw [← LN_eq]; exact hl, rfl⟩, q.here st rfl⟩
theorem absS : CallS X.K absD (fun xs H Q => ∃ i, xs = [.int i] ∧ Q (.int (if i < 0 then -i else i)) H) := by
  intro mg c P env S σ H W Q xs vs z st r e q
  match xs, e with
  | [.int i], e =>
    cases e
    obtain ⟨v, rfl, r1⟩ := r.one
    exact ⟨i, by rw [r1.int], q.here st rfl⟩
theorem intS : CallS X.K intD (fun xs H Q => (∃ i, xs = [.int i] ∧ Q (.int i) H) ∨ ∃ k, xs = [.bl k] ∧ Q (.int (if k then 1 else 0)) H) := by
  intro mg c P env S σ H W Q xs vs z st r e q
  match xs, e with
  | [.int i], e =>
    cases e
    obtain ⟨v, rfl, r1⟩ := r.one
    exact .inl ⟨i, by rw [r1.int], q.here st rfl⟩
  | [.bl i], e =>
    cases e
    obtain ⟨v, rfl, r1⟩ := r.one
    exact .inr ⟨i, by rw [r1.bl], q.here st rfl⟩
theorem maxS : CallS X.K maxD (fun xs H Q => ∃ i j, xs = [.int i, .int j] ∧ Q (.int (if j > i then j else i)) H) := by
  intro mg c P env S σ H W Q xs vs z st r e q
  match xs, e with
  | [.int i, .int j], e =>
    cases e
    obtain ⟨v, w, rfl, r1, r2⟩ := r.two
    exact ⟨i, j, by rw [r1.int, r2.int], q.here st rfl⟩
theorem minS : CallS X.K minD (fun xs H Q => ∃ i j, xs = [.int i, .int j] ∧ Q (.int (if j < i then j else i)) H) := by
  intro mg c P env S σ H W Q xs vs z st r e q
  match xs, e with
  | [.int i, .int j], e =>
    cases e
    obtain ⟨v, w, rfl, r1, r2⟩ := r.two
    exact ⟨i, j, by rw [r1.int, r2.int], q.here st rfl⟩
theorem tupleS : CallS X.K tupleD (fun xs H Q => ∃ p ys, xs = [.ref p] ∧ ((SqL X.K H p ys ∧ ∀ l, H l = none → Q (.ref l) (upd H l (.tup ys))) ∨ (SqT X.K H p ys ∧ Q (.ref p) H))) := by
  intro mg c P env S σ H W Q xs vs z st r e q
  match xs, e with
  | [.lst ds], e =>
    cases e
    obtain ⟨v, rfl, r1⟩ := r.one
    obtain ⟨a, us, rfl, h1, h2⟩ := r1.lst
    exact ⟨a, us, rfl, .inl ⟨.inl h1, fun l hl => q.newT st h2 hl⟩⟩
  | [.tup ds], e =>
    cases e
    obtain ⟨v, rfl, r1⟩ := r.one
    obtain ⟨a, us, rfl, h1, h2⟩ := r1.tup
    exact ⟨a, us, rfl, .inr ⟨by rw [← st.K]; exact h1, q.here st ⟨a, us, rfl, h1, h2⟩⟩⟩
theorem listS : CallS X.K listD (fun xs H Q => ∃ p ys, xs = [.ref p] ∧ (SqL X.K H p ys ∨ SqT X.K H p ys) ∧ ∀ l, H l = none → Q (.ref l) (upd H l (.lst ys))) := by
  intro mg c P env S σ H W Q xs vs z st r e q
  match xs, e with
  | [.lst ds], e =>
    cases e
    obtain ⟨v, rfl, r1⟩ := r.one
    obtain ⟨a, us, rfl, h1, h2⟩ := r1.lst
    exact ⟨a, us, rfl, .inl (.inl h1), fun l hl => q.newL st h2 hl⟩
  | [.tup ds], e =>
    cases e
    obtain ⟨v, rfl, r1⟩ := r.one
    obtain ⟨a, us, rfl, h1, h2⟩ := r1.tup
    exact ⟨a, us, rfl, .inr (by rw [← st.K]; exact h1), fun l hl => q.newL st h2 hl⟩
theorem allS : CallS X.K allD (rAll X.K) := by
  intro mg c P env S σ H W Q xs vs z st r e q
  match xs, e with
  | [.lst ds], e =>
    have e' : (boolsOf ds).map (fun bs => D.bl (bs.all id)) = some z := e
    cases q1 : boolsOf ds with
    | none => rw [q1] at e'; cases e'
    | some bs =>
      rw [q1] at e'
      cases e'
      obtain ⟨v, rfl, r1⟩ := r.one
      obtain ⟨a, us, rfl, h1, h2⟩ := r1.lst
      have e1 := bools_rep q1 h2
      subst e1
      exact ⟨a, bs, rfl, .inl h1, q.here st rfl⟩
theorem anyS : CallS X.K anyD (rAny X.K) := by
  intro mg c P env S σ H W Q xs vs z st r e q
  match xs, e with
  | [.lst ds], e =>
    have e' : (boolsOf ds).map (fun bs => D.bl (bs.any id)) = some z := e
    cases q1 : boolsOf ds with
    | none => rw [q1] at e'; cases e'
    | some bs =>
      rw [q1] at e'
      cases e'
      obtain ⟨v, rfl, r1⟩ := r.one
      obtain ⟨a, us, rfl, h1, h2⟩ := r1.lst
      have e1 := bools_rep q1 h2
      subst e1
      exact ⟨a, bs, rfl, .inl h1, q.here st rfl⟩
theorem sumS : CallS X.K sumD (rSum X.K) := by
  intro mg c P env S σ H W Q xs vs z st r e q
  match xs, e with
  | [.lst ds], e =>
    have e' : (intsOf ds).map (fun bs => D.int bs.sum) = some z := e
    cases q1 : intsOf ds with
    | none => rw [q1] at e'; cases e'
    | some bs =>
      rw [q1] at e'
      cases e'
      obtain ⟨v, rfl, r1⟩ := r.one
      obtain ⟨a, us, rfl, h1, h2⟩ := r1.lst
      have e1 := ints_rep q1 h2
      subst e1
      exact ⟨a, bs, rfl, .inl h1, q.here st rfl⟩
end
/-! ### what is walked -/
/-- J walks ds, whatever grows or changes outside P -/
def ItOk (c : Cc) (P : List Addr) (H : Hp) (ds : List D) (J : It) : Prop := ∀ c1 H1, Ext c P H c1 H1 →
  (∀ i, i < ds.length → J.go i H1 ∧ ∀ x H2, J.yld i H1 x H2 → (∀ a u, H1 a = some u → H2 a = some u) ∧ ∃ d, ds[i]? = some d ∧ Rep c1 H2 d x) ∧ J.stop ds.length H1
def RepI : RR (List D) It := fun c _ H ds J => ItOk c [] H ds J
def RepJ : RR (List D) It := fun c P H ds J => ItOk c P H ds J
structure SI (R : RR (List D) It) (X : Cx) (tg iter : Expr) (f : EM (List D)) : Prop where
  run : ∀ (pn : List (Addr × Obj)) (xe : Value → Shared → Prop) (W : WX), (∀ p ∈ X.pn, p ∈ pn) → Takes (X.tr pn xe) W → PI (X.tr pn xe) tg iter (tG X.K (xm X) R f W)
theorem wI {X : Cx} {tg e : Expr} {t t' : TI} (h : PI X tg e t) (w : ∀ σ H Q, t' σ H Q → t σ H Q) : PI X tg e t' := ⟨fun pins s σ H Q I q => h.run pins s σ H Q I (w σ H Q q)⟩
/-- a list, a tuple, a text -/
def iSeq (K : PySem.W.Frag) (tl : TE) : TI := fun σ H R => tl σ H fun v H1 => (∃ a, v = .ref a ∧ (∃ xs, SqL K H1 a xs) ∧ R (Itl K a) H1) ∨ (∃ a, v = .ref a ∧ (∃ xs, SqT K H1 a xs) ∧ R (Itt K a) H1) ∨ ∃ x, v = .str x ∧ R (Its x) H1
theorem pi_seq {X : Cx} {tg l : Expr} {tl : TE} (hl : PE X l tl) : PI X tg l (iSeq X.K tl) := by
  refine ⟨fun pn sh ρ H Rst inv hh => ?_⟩
  refine thn (hl.run pn sh ρ H _ inv hh) fun v sh1 ⟨txt, Hn, iv1, r1, post1⟩ => ?_
  rcases post1 with ⟨a, ej, ⟨xs, hsq⟩, post⟩ | ⟨a, ej, ⟨xs, hsq⟩, post⟩ | ⟨txt, ej, post⟩
  · subst ej
    cases r1
    obtain ⟨vs, rr, p, hsz⟩ := iv1.list hsq
    refine wpAny_pyIter_list p.isList ?_
    refine ⟨sh1.heap.objs.size, [sh1.heap.objs.size], _, _, Hn, rfl, iv1.kept (t' := sh1.toks) fun j o ej => Heap.get?_push_of_some _ ej, turn_list a _, ⟨_, Heap.get?_push_size _ rfl, rfl, rfl⟩, fun j hb => ?_, post⟩
    have ej : j = sh1.heap.objs.size := by simpa using hb
    subst ej
    exact iv1.fpOk (Nat.le_refl _) (iv1.hok.fresh (Nat.le_refl _))
  · subst ej
    cases r1
    obtain ⟨vs, rr, p, hsz⟩ := iv1.tuple hsq
    refine wpAny_pyIter_tuple (show sh1.heap.IsTuple a vs.toArray from p) ?_
    refine ⟨sh1.heap.objs.size, [sh1.heap.objs.size], _, _, Hn, rfl, iv1.kept (t' := sh1.toks) fun j o ej => Heap.get?_push_of_some _ ej, turn_tuple a _, ⟨_, Heap.get?_push_size _ rfl, rfl, rfl⟩, fun j hb => ?_, post⟩
    have ej : j = sh1.heap.objs.size := by simpa using hb
    subst ej
    exact iv1.fpOk (Nat.le_refl _) (iv1.hok.fresh (Nat.le_refl _))
  · subst ej
    obtain ⟨t, rfl⟩ := r1
    cases asc : txt.cps.all (· < 128)
    · exact wpAny_pyIter_wide asc (pi_one (tk := sh1.toks) iv1 _ (turn_str _ txt t "str_iterator" (.inr rfl)) ⟨_, Heap.get?_push_size _ rfl, rfl, rfl⟩ post)
    · exact wpAny_pyIter_ascii asc (pi_one (tk := sh1.toks) iv1 _ (turn_str _ txt t "str_ascii_iterator" (.inl rfl)) ⟨_, Heap.get?_push_size _ rfl, rfl, rfl⟩ post)
section
variable {K : PySem.W.Frag} {mg : MG} {c c1 c' : Cc} {P : List Addr} {env : Env} {S S1 S' : Store} {σ : L2.St} {H H1 H' : Hp} {W : WX} {a b : Addr} {vs ws : List V} {ds es : List D} {d x y z : D} {v w : V} {Q : VK}
/-- a list of ds at a, to stay under what grows outside P -/
def Stay (c : Cc) (P : List Addr) (H : Hp) (a : Addr) (vs : List V) (ds : List D) : Prop := Rd H a (.lst vs) ∧ (a ∉ c.lv ∨ a ∈ P) ∧ Reps c H ds vs
theorem Stay.ext (s : Stay c P H a vs ds) (e : Ext c P H c1 H1) : Rd H1 a (.lst vs) ∧ Reps c1 H1 ds vs := by
  obtain ⟨h, n, r⟩ := s
  refine ⟨e.rd h fun w1 w2 => ?_, e.reps _ _ r⟩
  rcases n with n | n
  · exact absurd w1 n
  · exact absurd n w2
theorem itl_ok (s : Stay c P H a vs ds) : ItOk c P H ds (Itl c.K a) := by
  intro c1 H1 e
  obtain ⟨h, r⟩ := s.ext e
  have hl := r.length
  refine ⟨fun i hi => ?_, ⟨vs, .inl h, by omega⟩⟩
  obtain ⟨v, e1, r1⟩ := r.get (List.getElem?_eq_getElem hi)
  refine ⟨⟨vs, v, .inl h, e1⟩, fun x H2 q => ?_⟩
  obtain ⟨rfl, q⟩ := q
  have e2 := (q vs (.inl h)).symm.trans e1
  cases e2
  exact ⟨fun _ _ z => z, _, List.getElem?_eq_getElem hi, r1⟩
theorem itt_ok (h0 : SqT c.K H a vs) (r0 : Reps c H ds vs) : ItOk c P H ds (Itt c.K a) := by
  intro c1 H1 e
  have h := e.sqT h0
  have r := e.reps _ _ r0
  have hl := r.length
  rw [e.K] at h
  refine ⟨fun i hi => ?_, ⟨vs, h, by omega⟩⟩
  obtain ⟨v, e1, r1⟩ := r.get (List.getElem?_eq_getElem hi)
  refine ⟨⟨vs, v, h, e1⟩, fun x H2 q => ?_⟩
  obtain ⟨rfl, q⟩ := q
  have e2 := (q vs h).symm.trans e1
  cases e2
  exact ⟨fun _ _ z => z, _, List.getElem?_eq_getElem hi, r1⟩
theorem its_ok {s : Str} : ItOk c P H (s.cps.toList.map fun c => .str ⟨#[c]⟩) (Its s) := by
  intro c1 H1 e
  refine ⟨fun i hi => ?_, ?_⟩
  · rw [List.length_map, Array.length_toList] at hi
    refine ⟨hi, fun x H2 q => ?_⟩
    obtain ⟨rfl, k, e1, rfl⟩ := q
    refine ⟨fun _ _ z => z, .str ⟨#[k]⟩, ?_, rfl⟩
    rw [List.getElem?_map, Array.getElem?_toList, e1]
    rfl
  · rw [List.length_map, Array.length_toList]
    exact Nat.le_refl _
theorem rngI_len {lo : Int} {n : Nat} : (rngI lo n).length = n := by
  unfold rngI
  rw [List.length_map, List.length_range]
theorem rngI_get {lo : Int} {n i : Nat} (h : i < n) : (rngI lo n)[i]? = some (.int (lo + (i : Nat))) := by
  unfold rngI
  rw [List.getElem?_map, List.getElem?_range h]
  rfl
theorem itr_ok {lo : Int} {n : Nat} : ItOk c P H (rngI lo n) (Itr lo n) := by
  intro c1 H1 e
  refine ⟨fun i hi => ?_, ?_⟩
  · rw [rngI_len] at hi
    refine ⟨hi, fun x H2 q => ?_⟩
    obtain ⟨rfl, rfl⟩ := q
    exact ⟨fun _ _ z => z, _, rngI_get hi, rfl⟩
  · rw [rngI_len]
    exact Nat.le_refl _
end
section
variable {X : Cx} {a b e o i l : Expr} {es rest : List Expr} {f : EM D} {g : EM (List D)} {pos p : Pos} {x : Str} {tg : Expr}
theorem si_seq (ha : SE X l f) : SI RepI X tg l (iS f) := ⟨fun pn xe W hp tk => wI (pi_seq (ha.run pn xe W hp tk)) fun σ H R ⟨c, P, env, S, st, q⟩ => by
  refine gbind st q fun c1 S1 H1 d v x1 st1 r1 q1 => ?_
  obtain ⟨ds, e, q2⟩ := GPost.lift q1
  cases d with
  | lst xs =>
    cases e
    obtain ⟨a, vs, rfl, h1, h2⟩ := r1
    refine .inl ⟨a, rfl, ⟨vs, .inl h1.1⟩, q2.here st1 ?_⟩
    have z := itl_ok (P := []) (show Stay c1 [] H1 a vs _ from ⟨h1.1, .inl h1.2, h2⟩)
    rw [st1.K] at z
    exact z
  | tup xs =>
    cases e
    obtain ⟨a, vs, rfl, h1, h2⟩ := r1
    refine .inr (.inl ⟨a, rfl, ⟨vs, by rw [← show c1.K = (X.tr pn xe).K from st1.K]; exact h1⟩, q2.here st1 ?_⟩)
    have z := itt_ok (P := []) h1 h2
    rw [st1.K] at z
    exact z
  | str s =>
    cases e
    have e1 : v = .str s := r1
    subst e1
    exact .inr (.inr ⟨s, rfl, q2.here st1 its_ok⟩)
  | _ => cases e⟩
/-- the frame's own list may be walked where nothing but an expression comes between -/
theorem sj_seq (ha : SB X l f) : SI RepJ X tg l (iS f) := ⟨fun pn xe W hp tk => wI (pi_seq (ha.run pn xe W hp tk)) fun σ H R ⟨c, P, env, S, st, q⟩ => by
  refine gbind st q fun c1 S1 H1 d v x1 st1 r1 q1 => ?_
  obtain ⟨ds, e, q2⟩ := GPost.lift q1
  cases d with
  | lst xs =>
    cases e
    have z : ∃ a vs, v = .ref a ∧ Stay c1 P H1 a vs ds := by
      rcases r1 with ⟨a, vs, rfl, h1, h2⟩ | ⟨ds', a, vs, e, rfl, h1, h2, h3⟩
      · exact ⟨a, vs, rfl, h1.1, .inl h1.2, h2⟩
      · cases e
        exact ⟨a, vs, rfl, .inl h2, .inr h1, h3⟩
    obtain ⟨a, vs, rfl, h⟩ := z
    refine .inl ⟨a, rfl, ⟨vs, .inl h.1⟩, q2.here st1 ?_⟩
    have z := itl_ok h
    rw [st1.K] at z
    exact z
  | tup xs =>
    cases e
    obtain ⟨a, vs, rfl, h1, h2⟩ := r1.tup
    refine .inr (.inl ⟨a, rfl, ⟨vs, by rw [← show c1.K = (X.tr pn xe).K from st1.K]; exact h1⟩, q2.here st1 ?_⟩)
    have z := itt_ok (P := P) h1 h2
    rw [st1.K] at z
    exact z
  | str s =>
    cases e
    have e1 : v = .str s := r1.str
    subst e1
    exact .inr (.inr ⟨s, rfl, q2.here st1 its_ok⟩)
  | _ => cases e⟩
theorem si_j (h : SI RepI X tg l g) : SI RepJ X tg l g := ⟨fun pn xe W hp tk => wI (h.run pn xe W hp tk) fun σ H Q ⟨c, P, env, S, st, q⟩ => ⟨c, P, env, S, st, by
  cases o : g env S with
  | ok a S' =>
    rw [o] at q
    exact fun c' H' b e w r => q c' H' b e w fun c1 H1 e1 => r c1 H1 (e1.mono fun _ z => nomatch z)
  | exc n S' =>
    rw [o] at q
    exact q
  | stuck =>
    rw [o] at q
    exact q⟩⟩
end
end Kb

set_option Elab.async false
set_option linter.all false
set_option maxRecDepth 100000
/-! Kb5b: range, enumerate, zip; comprehensions. -/
namespace Kb
open PySem PySem.Spec PyProof.Rows L2 RZ
section
variable {K : PySem.W.Frag} {mg : MG} {c c1 c' : Cc} {P : List Addr} {env : Env} {S S1 S' : Store} {σ : L2.St} {H H1 H' : Hp} {W : WX} {a b : Addr} {vs ws : List V} {ds es : List D} {d x y z : D} {v w : V} {Q : VK}
theorem ite_ok (s : Stay c P H a vs ds) : ItOk c P H (enumL ds) (Ite c.K a) := by
  intro c1 H1 e
  obtain ⟨h, r⟩ := s.ext e
  have hl := r.length
  refine ⟨fun i hi => ?_, ⟨vs, .inl h, by unfold enumL; rw [List.length_mapIdx]; omega⟩⟩
  have hi' : i < ds.length := by
    unfold enumL at hi
    rw [List.length_mapIdx] at hi
    exact hi
  obtain ⟨v, e1, r1⟩ := r.get (List.getElem?_eq_getElem hi')
  refine ⟨⟨vs, v, .inl h, e1⟩, fun x H2 q => ?_⟩
  obtain ⟨T, x1, rfl, nT, rfl, q⟩ := q
  have e2 := (q vs (.inl h)).symm.trans e1
  cases e2
  refine ⟨grow_new nT, .tup [.int (i : Nat), ds[i]], ?_, T, _, rfl, SqT.of upd_same, _, _, rfl, rfl, _, _, rfl, (ext_new (P := P) nT).rep _ _ r1, rfl⟩
  unfold enumL
  rw [List.getElem?_mapIdx, List.getElem?_eq_getElem hi']
  rfl
theorem zipL_len : (zipL ds es).length = min ds.length es.length := by
  unfold zipL
  rw [List.length_zipWith]
theorem itz_ok (s : Stay c P H a vs ds) (s2 : Stay c P H b ws es) : ItOk c P H (zipL ds es) (Itz c.K a b) := by
  intro c1 H1 e
  obtain ⟨h, r⟩ := s.ext e
  obtain ⟨h2, r2⟩ := s2.ext e
  have hl := r.length
  have hl2 := r2.length
  refine ⟨fun i hi => ?_, ⟨vs, ws, .inl h, .inl h2, by rw [zipL_len]; omega⟩⟩
  rw [zipL_len] at hi
  obtain ⟨v, e1, r1⟩ := r.get (List.getElem?_eq_getElem (show i < ds.length by omega))
  obtain ⟨w, f1, t1⟩ := r2.get (List.getElem?_eq_getElem (show i < es.length by omega))
  refine ⟨⟨vs, ws, v, w, .inl h, .inl h2, e1, f1⟩, fun x H2 q => ?_⟩
  obtain ⟨T, x1, x2, rfl, nT, rfl, q, q2⟩ := q
  have e2 := (q vs (.inl h)).symm.trans e1
  cases e2
  have f2 := (q2 ws (.inl h2)).symm.trans f1
  cases f2
  refine ⟨grow_new nT, .tup [ds[i], es[i]], ?_, T, _, rfl, SqT.of upd_same, _, _, rfl, (ext_new (P := P) nT).rep _ _ r1, _, _, rfl, (ext_new (P := P) nT).rep _ _ t1, rfl⟩
  unfold zipL
  rw [List.getElem?_zipWith, List.getElem?_eq_getElem (show i < ds.length by omega), List.getElem?_eq_getElem (show i < es.length by omega)]
theorem itzT_ok (s0 : SqT c.K H a vs) (r0 : Reps c H ds vs) (t0 : SqT c.K H b ws) (q0 : Reps c H es ws) : ItOk c P H (zipL ds es) (ItzT c.K a b) := by
  intro c1 H1 e
  have h := e.sqT s0
  have h2 := e.sqT t0
  rw [e.K] at h h2
  have r := e.reps _ _ r0
  have r2 := e.reps _ _ q0
  have hl := r.length
  have hl2 := r2.length
  refine ⟨fun i hi => ?_, ⟨vs, ws, h, h2, by rw [zipL_len]; omega⟩⟩
  rw [zipL_len] at hi
  obtain ⟨v, e1, r1⟩ := r.get (List.getElem?_eq_getElem (show i < ds.length by omega))
  obtain ⟨w, f1, t1⟩ := r2.get (List.getElem?_eq_getElem (show i < es.length by omega))
  refine ⟨⟨vs, ws, v, w, h, h2, e1, f1⟩, fun x H2 q => ?_⟩
  obtain ⟨T, x1, x2, rfl, nT, rfl, q, q2⟩ := q
  have e2 := (q vs h).symm.trans e1
  cases e2
  have f2 := (q2 ws h2).symm.trans f1
  cases f2
  refine ⟨grow_new nT, .tup [ds[i], es[i]], ?_, T, _, rfl, SqT.of upd_same, _, _, rfl, (ext_new (P := P) nT).rep _ _ r1, _, _, rfl, (ext_new (P := P) nT).rep _ _ t1, rfl⟩
  unfold zipL
  rw [List.getElem?_zipWith, List.getElem?_eq_getElem (show i < ds.length by omega), List.getElem?_eq_getElem (show i < es.length by omega)]
theorem RepB.stay (r1 : RepB c P H (.lst ds) v) : ∃ a vs, v = .ref a ∧ Stay c P H a vs ds := by
  rcases r1 with ⟨a, vs, rfl, h1, h2⟩ | ⟨ds', a, vs, e, rfl, h1, h2, h3⟩
  · exact ⟨a, vs, rfl, h1.1, .inl h1.2, h2⟩
  · cases e
    exact ⟨a, vs, rfl, .inl h2, .inr h1, h3⟩
theorem Rep.stay (r1 : Rep c H (.lst ds) v) : ∃ a vs, v = .ref a ∧ Stay c [] H a vs ds := by
  obtain ⟨a, vs, rfl, h1, h2⟩ := r1
  exact ⟨a, vs, rfl, h1.1, .inl h1.2, h2⟩
end
section
variable {X : Cx} {a b e o i l : Expr} {es rest : List Expr} {f : EM D} {g : EM (List D)} {pos p tpos : Pos} {x : Str} {tg : Expr} {elts : List Expr} {kk : Nat}
theorem si_range1 (hg : Gl X "range") (hm : X.mg "range" = none) (ha : SA RepL X [a] g) (hs : ∀ X' : Cx, starEach [a] X'.env = [(false, eval a X'.env)] := by intro _; rfl) : SI RepI X tg (.Call (.Name "range" p) [a] [] pos) (iA rng1D g) :=
  ⟨fun pn xe W hp tk => wI (pi_range1 (X := X.tr pn xe) hg hm (ha.run pn xe W hp tk) (hs (X.tr pn xe))) fun σ H R ⟨c, P, env, S, st, q⟩ => by
    refine gbind st q fun c1 S1 H1 d v x1 st1 r1 q1 => ?_
    obtain ⟨ds, e, q2⟩ := GPost.lift q1
    match d, e with
    | [.int j], e =>
      obtain ⟨hl, rfl⟩ := iteS (p := -lim62 ≤ j ∧ j < lim62) e
      rw [lim62_eq] at hl
      obtain ⟨v1, r, rfl, h1, h2⟩ := r1
      have e1 : v1 = .int j := h1
      have e2 : r = [] := h2
      subst e1
      subst e2
      exact ⟨j, rfl, hl.1, hl.2, q2.here st1 itr_ok⟩⟩
theorem si_range2 (hg : Gl X "range") (hm : X.mg "range" = none) (ha : SA RepL X [a, b] g) (hs : ∀ X' : Cx, starEach [a, b] X'.env = [(false, eval a X'.env), (false, eval b X'.env)] := by intro _; rfl) (hs2 : ∀ X' : Cx, starEach [b] X'.env = [(false, eval b X'.env)] := by intro _; rfl) : SI RepI X tg (.Call (.Name "range" p) [a, b] [] pos) (iA rng2D g) :=
  ⟨fun pn xe W hp tk => wI (pi_range2 (X := X.tr pn xe) hg hm (ha.run pn xe W hp tk) (hs (X.tr pn xe)) (hs2 (X.tr pn xe))) fun σ H R ⟨c, P, env, S, st, q⟩ => by
    refine gbind st q fun c1 S1 H1 d v x1 st1 r1 q1 => ?_
    obtain ⟨ds, e, q2⟩ := GPost.lift q1
    match d, e with
    | [.int i, .int j], e =>
      obtain ⟨hl, rfl⟩ := iteS (p := -lim62 ≤ i ∧ i < lim62 ∧ -lim62 ≤ j ∧ j < lim62) e
      rw [lim62_eq] at hl
      obtain ⟨v1, r, rfl, h1, w1, r', rfl, h2, h3⟩ := r1
      have e1 : v1 = .int i := h1
      have e2 : w1 = .int j := h2
      have e3 : r' = [] := h3
      subst e1
      subst e2
      subst e3
      exact ⟨i, j, rfl, hl, q2.here st1 itr_ok⟩⟩
theorem si_zip (hg : Gl X "zip") (hm : X.mg "zip" = none) (ha : SA RepL X [a, b] g) (hs : ∀ X' : Cx, starEach [a, b] X'.env = (false, eval a X'.env) :: starEach [b] X'.env := by intro _; rfl) (hpl : ∀ X' : Cx, (backTo pos (starEach [b] X'.env)).any (·.1) = false := by intro _; rfl) : SI RepI X (.Tuple elts kk tpos) (.Call (.Name "zip" p) [a, b] [] pos) (iA zipD g) :=
  ⟨fun pn xe W hp tk => wI (pi_zipA (X := X.tr pn xe) hg hm (ha.run pn xe W hp tk) (hs (X.tr pn xe)) (hpl (X.tr pn xe))) fun σ H R ⟨c, P, env, S, st, q⟩ => by
    refine gbind st q fun c1 S1 H1 d v x1 st1 r1 q1 => ?_
    obtain ⟨ds, e, q2⟩ := GPost.lift q1
    match d, e with
    | [.lst xs, .lst ys], e =>
      cases e
      obtain ⟨v1, r, rfl, h1, w1, r', rfl, h2, h3⟩ := r1
      have e3 : r' = [] := h3
      subst e3
      obtain ⟨a, vs, rfl, s⟩ := Rep.stay h1
      obtain ⟨b, ws, rfl, s2⟩ := Rep.stay h2
      refine ⟨a, b, vs, ws, rfl, .inl ⟨.inl s.1, .inl s2.1, q2.here st1 ?_⟩⟩
      have z := itz_ok s s2
      rw [st1.K] at z
      exact z
    | [.tup xs, .tup ys], e =>
      cases e
      obtain ⟨v1, r, rfl, h1, w1, r', rfl, h2, h3⟩ := r1
      have e3 : r' = [] := h3
      subst e3
      obtain ⟨a, vs, rfl, s, t⟩ := h1
      obtain ⟨b, ws, rfl, s2, t2⟩ := h2
      refine ⟨a, b, vs, ws, rfl, .inr ⟨by rw [← show c1.K = (X.tr pn xe).K from st1.K]; exact s, by rw [← show c1.K = (X.tr pn xe).K from st1.K]; exact s2, q2.here st1 ?_⟩⟩
      have z := itzT_ok (P := []) s t s2 t2
      rw [st1.K] at z
      exact z⟩
theorem sj_zip (hg : Gl X "zip") (hm : X.mg "zip" = none) (ha : SA RepsB X [a, b] g) (hs : ∀ X' : Cx, starEach [a, b] X'.env = (false, eval a X'.env) :: starEach [b] X'.env := by intro _; rfl) (hpl : ∀ X' : Cx, (backTo pos (starEach [b] X'.env)).any (·.1) = false := by intro _; rfl) : SI RepJ X (.Tuple elts kk tpos) (.Call (.Name "zip" p) [a, b] [] pos) (iA zipD g) :=
  ⟨fun pn xe W hp tk => wI (pi_zipA (X := X.tr pn xe) hg hm (ha.run pn xe W hp tk) (hs (X.tr pn xe)) (hpl (X.tr pn xe))) fun σ H R ⟨c, P, env, S, st, q⟩ => by
    refine gbind st q fun c1 S1 H1 d v x1 st1 r1 q1 => ?_
    obtain ⟨ds, e, q2⟩ := GPost.lift q1
    match d, e with
    | [.lst xs, .lst ys], e =>
      cases e
      obtain ⟨v1, w1, rfl, h1, h2⟩ := RepsB.two r1
      obtain ⟨a, vs, rfl, s⟩ := h1.stay
      obtain ⟨b, ws, rfl, s2⟩ := h2.stay
      refine ⟨a, b, vs, ws, rfl, .inl ⟨.inl s.1, .inl s2.1, q2.here st1 ?_⟩⟩
      have z := itz_ok s s2
      rw [st1.K] at z
      exact z
    | [.tup xs, .tup ys], e =>
      cases e
      obtain ⟨v1, w1, rfl, h1, h2⟩ := RepsB.two r1
      obtain ⟨a, vs, rfl, s, t⟩ := h1.tup
      obtain ⟨b, ws, rfl, s2, t2⟩ := h2.tup
      refine ⟨a, b, vs, ws, rfl, .inr ⟨by rw [← show c1.K = (X.tr pn xe).K from st1.K]; exact s, by rw [← show c1.K = (X.tr pn xe).K from st1.K]; exact s2, q2.here st1 ?_⟩⟩
      have z := itzT_ok (P := P) s t s2 t2
      rw [st1.K] at z
      exact z⟩
end
/-! ### targets -/
def tT (K : PySem.W.Frag) (mg : MG) (tg : Tg) : TG := fun v σ H Q => ∃ c P env S d env', Sta K mg c P env S σ H ∧ Rep c H d v ∧ tg.put d env = some env' ∧
  ∀ σ', σ'.length = σ.length → (∀ j, j ∉ tg.idx → σ'[j]? = σ[j]?) → ER c P env' S σ' H → Q σ' H
def tTs (K : PySem.W.Frag) (mg : MG) (ts : List Tg) : TGs := fun vs σ H Q => ∃ c P env S ds env', Sta K mg c P env S σ H ∧ Reps c H ds vs ∧ Tg.puts ts ds env = some env' ∧
  ∀ σ', σ'.length = σ.length → (∀ j, j ∉ Tg.idxs ts → σ'[j]? = σ[j]?) → ER c P env' S σ' H → Q σ' H
structure STg (X : Cx) (e : Expr) (tg : Tg) : Prop where
  run : ∀ pn xe, PG (X.tr pn xe) e (tT X.K (xm X) tg)
structure STgs (X : Cx) (es : List Expr) (ts : List Tg) : Prop where
  run : ∀ pn xe, PGs (X.tr pn xe) es (tTs X.K (xm X) ts)
theorem wG {X : Cx} {e : Expr} {t t' : TG} (h : PG X e t) (w : ∀ v σ H Q, t' v σ H Q → t v σ H Q) : PG X e t' := ⟨fun pins s σ H v u Q I r q => h.run pins s σ H v u Q I r (w v σ H Q q)⟩
theorem wGs {X : Cx} {e : List Expr} {t t' : TGs} (h : PGs X e t) (w : ∀ v σ H Q, t' v σ H Q → t v σ H Q) : PGs X e t' := ⟨fun pins s σ H v u Q I r q => h.run pins s σ H v u Q I r (w v σ H Q q)⟩
theorem pg_or {X : Cx} {e : Expr} {t t' : TG} (h : PG X e t) (h' : PG X e t') : PG X e (fun v σ H Q => t v σ H Q ∨ t' v σ H Q) := ⟨fun pins s σ H v u Q I r q => by
  rcases q with q | q
  · exact h.run pins s σ H v u Q I r q
  · exact h'.run pins s σ H v u Q I r q⟩
theorem ER.put {c : Cc} {P : List Addr} {env : Env} {S : Store} {σ : L2.St} {H : Hp} {i : Nat} {d : D} {v : V} (er : ER c P env S σ H) (r : Rep c H d v) : ER c P (env.set i (.val d)) S (σ.set i (some v)) H := by
  refine ⟨by simp [er.len], er.w, fun j s e => ?_⟩
  by_cases hj : j = i
  · subst hj
    have hl : j < env.length := by
      have := (List.getElem?_eq_some_iff.mp e).1
      simpa using this
    rw [List.getElem?_set_self hl] at e
    cases e
    have hl2 : j < σ.length := by rw [← er.len]; exact hl
    rw [List.getElem?_set_self hl2]
    exact ⟨v, rfl, r⟩
  · rw [List.getElem?_set_ne (Ne.symm hj)] at e
    rw [List.getElem?_set_ne (Ne.symm hj)]
    exact er.slots j s e
section
variable {X : Cx} {e : Expr} {es : List Expr} {t : Tg} {ts : List Tg} {x : Str} {pos : Pos} {k : Nat}
theorem stg_name (i : Nat) (hN : X.N.Nodup) (hi : X.N[i]? = some x := by rfl) (hx : Loc X.env.scope x := by first | exact Or.inl rfl | exact Or.inr rfl) (hf : X.fn x = true ∨ X.env.scope.names.lookup x = some .local := by first | exact .inl rfl | exact .inr rfl) : STg X (.Name x pos) (.nm i) := ⟨fun pn xe => wG (pg_name (X := X.tr pn xe) (i := i) hN hi hx hf) fun v σ H Q ⟨c, P, env, S, d, env', st, r, e, q⟩ => by
  cases e
  refine q _ (by simp) (fun j hj => ?_) (st.er.put r)
  rw [List.getElem?_set_ne]
  intro z
  exact hj (by rw [← z]; exact List.mem_singleton.mpr rfl)⟩
theorem stgs_nil : STgs X [] [] := ⟨fun pn xe => wGs pgs_nil fun v σ H Q ⟨c, P, env, S, ds, env', st, r, e, q⟩ => by
  cases ds with
  | nil =>
    have e' : some env = some env' := e
    cases e'
    exact ⟨r, q σ rfl (fun _ _ => rfl) st.er⟩
  | cons d ds => cases e⟩
theorem stgs_cons (h1 : STg X e t) (h2 : STgs X es ts) (ha : ∀ X' : Cx, (assignEach (e :: es) X'.env).map (·.2) = assign e X'.env :: (assignEach es X'.env).map (·.2) := by intro _; rfl) : STgs X (e :: es) (t :: ts) := ⟨fun pn xe => wGs (pgs_cons (h1.run pn xe) (h2.run pn xe) (ha (X.tr pn xe))) fun v σ H Q ⟨c, P, env, S, ds, env', st, r, e, q⟩ => by
  cases ds with
  | nil => cases e
  | cons d ds =>
    obtain ⟨v1, vr, rfl, r1, r2⟩ := r
    have e' : (t.put d env).bind (fun env2 => Tg.puts ts ds env2) = some env' := e
    cases q1 : t.put d env with
    | none => rw [q1] at e'; cases e'
    | some env2 =>
      rw [q1] at e'
      refine ⟨v1, vr, rfl, c, P, env, S, d, env2, st, r1, q1, fun σ2 l2 o2 er2 => ?_⟩
      refine ⟨c, P, env2, S, ds, env', ⟨st.K, st.mg, er2⟩, r2, e', fun σ3 l3 o3 er3 => q σ3 (l3.trans l2) (fun j hj => ?_) er3⟩
      have hj' : j ∉ t.idx ++ Tg.idxs ts := hj
      rw [List.mem_append] at hj'
      rw [o3 j fun z => hj' (.inr z), o2 j fun z => hj' (.inl z)]⟩
theorem puts_len : ∀ {ts : List Tg} {ds : List D} {env env' : Env}, Tg.puts ts ds env = some env' → ds.length = ts.length
  | [], [], _, _, _ => rfl
  | [], _ :: _, _, _, h => nomatch h
  | _ :: _, [], _, _, h => nomatch h
  | t :: ts, d :: ds, env, env', h => by
    have e' : (t.put d env).bind (fun env2 => Tg.puts ts ds env2) = some env' := h
    cases q1 : t.put d env with
    | none => rw [q1] at e'; cases e'
    | some env2 =>
      rw [q1] at e'
      rw [List.length_cons, List.length_cons, puts_len e']
theorem stg_tup (hc : X.calm = true) (h : STgs X es ts) (hn : ∀ X' : Cx, (assignEach es X'.env).length = ts.length := by intro _; rfl) (hst : ∀ X' : Cx, (assignEach es X'.env).findIdx? (·.1) = none := by intro _; rfl) : STg X (.Tuple es k pos) (.tp ts) := ⟨fun pn xe =>
  wG (pg_or (pg_tup (X := X.tr pn xe) hc (h.run pn xe) (hn (X.tr pn xe)) (hst (X.tr pn xe))) (pg_lst (X := X.tr pn xe) hc (h.run pn xe) (hn (X.tr pn xe)) (hst (X.tr pn xe)))) fun v σ H Q ⟨c, P, env, S, d, env', st, r, e, q⟩ => by
    cases d with
    | tup ds =>
      have e' : Tg.puts ts ds env = some env' := e
      obtain ⟨a, vs, rfl, h1, h2⟩ := r
      exact .inl ⟨a, vs, rfl, by rw [← show c.K = (X.tr pn xe).K from st.K]; exact h1, by rw [h2.length, puts_len e'], c, P, env, S, ds, env', st, h2, e', q⟩
    | lst ds =>
      have e' : Tg.puts ts ds env = some env' := e
      obtain ⟨a, vs, rfl, h1, h2⟩ := r
      exact .inr ⟨a, vs, rfl, .inl h1.1, by rw [h2.length, puts_len e'], c, P, env, S, ds, env', st, h2, e', q⟩
    | _ => cases e⟩
end
/-! ### comprehensions -/
theorem ER.wipe {c : Cc} {P : List Addr} {env : Env} {S : Store} {σ : L2.St} {H : Hp} (er : ER c P env S σ H) : ∀ vs : List Nat, ER c P (Kb.wipe env vs) S (L2.wipe σ vs) H
  | [] => er
  | v :: vs => by
    have ih := ER.wipe er vs
    refine ⟨by show ((Kb.wipe env vs).set v .no).length = ((L2.wipe σ vs).set v none).length; simp [ih.len], ih.w, fun j s e => ?_⟩
    have e' : ((Kb.wipe env vs).set v .no)[j]? = some s := e
    show SlotOk c P H s ((((L2.wipe σ vs).set v none)[j]?).getD none)
    by_cases hj : j = v
    · subst hj
      have hl : j < (Kb.wipe env vs).length := by
        have := (List.getElem?_eq_some_iff.mp e').1
        simpa using this
      rw [List.getElem?_set_self hl] at e'
      cases e'
      trivial
    · rw [List.getElem?_set_ne (Ne.symm hj)] at e'
      rw [List.getElem?_set_ne (Ne.symm hj)]
      exact ih.slots j s e'
theorem wipe_get {σ : L2.St} : ∀ {vs : List Nat} {j : Nat}, j ∈ vs → j < σ.length → (L2.wipe σ vs)[j]? = some none
  | [], _, h, _ => nomatch h
  | v :: vs, j, h, hl => by
    show ((L2.wipe σ vs).set v none)[j]? = some none
    by_cases hj : j = v
    · subst hj
      rw [List.getElem?_set_self (by rw [wipe_length]; exact hl)]
    · rw [List.getElem?_set_ne (Ne.symm hj)]
      refine wipe_get ?_ hl
      rcases List.mem_cons.mp h with z | z
      · exact absurd z hj
      · exact z
theorem wipe_eq {σ σ' : L2.St} {vs : List Nat} (hl : σ'.length = σ.length) (h : ∀ j, j ∉ vs → σ'[j]? = σ[j]?) : L2.wipe σ' vs = L2.wipe σ vs := by
  refine List.ext_getElem? fun j => ?_
  by_cases hj : j ∈ vs
  · by_cases hlt : j < σ.length
    · rw [wipe_get hj hlt, wipe_get hj (by omega)]
    · rw [List.getElem?_eq_none (by rw [wipe_length]; omega), List.getElem?_eq_none (by rw [wipe_length]; omega)]
  · rw [wipe_out hj, wipe_out hj, h j hj]
theorem wipe_wipe {σ : L2.St} {vs : List Nat} : L2.wipe (L2.wipe σ vs) vs = L2.wipe σ vs := wipe_eq (wipe_length _ _) fun j hj => wipe_out hj
/-- the tests of a comprehension: none or one -/
structure STs (X : Cx) (ifs : List Expr) (t : EM Bool) : Prop where
  run : ∀ (pn : List (Addr × Obj)) (xe : Value → Shared → Prop) (W : WX), (∀ p ∈ X.pn, p ∈ pn) → Takes (X.tr pn xe) W → PTs (X.tr pn xe) ifs (tG X.K (xm X) RepT t W)
theorem sts_nil {X : Cx} : STs X [] tYes := ⟨fun pn xe W hp tk => ⟨fun pins s σ H Q I ⟨c, P, env, S, st, q⟩ => pts_nil.run pins s σ H Q I (q.here st rfl)⟩⟩
theorem sts_one {X : Cx} {e : Expr} {t : EM Bool} (h : ST X e t) : STs X [e] t := ⟨fun pn xe W hp tk => pts_one (h.run pn xe W hp tk)⟩
abbrev W0 : WX := fun _ _ _ _ => False
/-- a new list, nobody else's yet -/
def FPost (c : Cc) (P : List Addr) (H : Hp) (W : WX) (σ : L2.St) (Q : VK) : Out (List D) → Prop
  | .ok ds S' => ∀ c' H' L vs, Ext c P H c' H' → H L = none → H' L = some (.lst vs) → WOk c' (L :: P) S' H' → Reps c' H' ds vs → Q (.ref L) H'
  | .exc n S' => ∀ c' H' C, Ext c P H c' H' → WOk c' P S' H' → c.mg.1 (Str.ofString n) = some (.ref C) → W (.ref C) none σ H'
  | .stuck => False
def tFr (K : PySem.W.Frag) (mg : MG) (f : EM (List D)) (W : WX) : TE := fun σ H Q => ∃ c P env S, Sta K mg c P env S σ H ∧ FPost c P H W σ Q (f env S)
structure SF (X : Cx) (e : Expr) (f : EM (List D)) : Prop where
  run : ∀ (pn : List (Addr × Obj)) (xe : Value → Shared → Prop) (W : WX), (∀ p ∈ X.pn, p ∈ pn) → Takes (X.tr pn xe) W → PE (X.tr pn xe) e (tFr X.K (xm X) f W)
section
variable {K : PySem.W.Frag} {mg : MG} {c c1 c' : Cc} {P : List Addr} {env : Env} {S S1 S' : Store} {σ : L2.St} {H H1 H' : Hp} {W : WX} {a b L : Addr} {vs ws : List V} {ds es : List D} {d x y z : D} {v w : V} {Q : VK}
theorem FPost.ext {o : Out (List D)} (h : FPost c P H W σ Q o) (e : Ext c P H c' H') : FPost c' P H' W σ Q o := by
  cases o with
  | ok a S' =>
    refine fun c2 H2 L vs e2 n h2 w r => h c2 H2 L vs (e.trans e2) ?_ h2 w r
    cases z : H L with
    | none => rfl
    | some u =>
      obtain ⟨u', q⟩ := e.there L u z
      rw [n] at q
      cases q
  | exc n S' => exact fun c2 H2 C e2 w m => h c2 H2 C (e.trans e2) w (by rw [← e.mg]; exact m)
  | stuck => exact h
/-- first f, then k, that makes a new list -/
theorem fbind {α β : Type} {R : RR α β} {Q1 : β → Hp → Prop} {f : EM α} {k : α → Store → Out (List D)} (st : Sta K mg c P env S σ H) (h : FPost c P H W σ Q ((f env S).bind k))
    (step : ∀ c1 S1 H1 a b, Ext c P H c1 H1 → Sta K mg c1 P env S1 σ H1 → R c1 P H1 a b → FPost c1 P H1 W σ Q (k a S1) → Q1 b H1) : tG K mg R f W σ H Q1 := by
  refine ⟨c, P, env, S, st, ?_⟩
  cases o : f env S with
  | ok a S1 =>
    rw [o] at h
    exact fun c1 H1 b e w r => step c1 S1 H1 a b e (st.ext e w) r (h.ext e)
  | exc n S1 =>
    rw [o] at h
    exact h
  | stuck =>
    rw [o] at h
    exact h
/-- the list at L is nobody's any more, or no longer one of the frame's own -/
def less (c : Cc) (P : List Addr) : Cc := ⟨c.K, c.mg, P ++ c.cm, c.ca, c.cm⟩
theorem WOk.less (w : WOk c (L :: P) S H) : WOk (Kb.less c P) P S H := by
  have hl : ∀ a u, H a = some u → a ∉ c.lv → a ∉ P ++ c.cm := fun a u _ n q => n ((w.lv a).mpr (by
    rcases List.mem_append.mp q with q | q
    · exact .inl (List.mem_cons_of_mem _ q)
    · exact .inr q))
  refine ⟨fun a => List.mem_append, fun a h q => w.disj a h (List.mem_cons_of_mem _ q), w.nd, fun a h => w.there a (List.mem_cons_of_mem _ h), w.len, fun n ds a e1 e2 => ?_⟩
  obtain ⟨vs, z, r⟩ := w.cells n ds a e1 e2
  exact ⟨vs, z, Reps.turn hl (fun _ _ z => z) r⟩
theorem Reps.less (w : WOk c (L :: P) S H) (r : Reps c H ds vs) : Reps (Kb.less c P) H ds vs := by
  refine Reps.turn (fun a u _ n q => n ((w.lv a).mpr ?_)) (fun _ _ z => z) r
  rcases List.mem_append.mp q with q | q
  · exact .inl (List.mem_cons_of_mem _ q)
  · exact .inr q
theorem Ext.less (e : Ext c P H c' H') (w : WOk c' (L :: P) S H') : Ext c P H (Kb.less c' P) H' :=
  ⟨e.K, e.mg, e.cm, fun a h => e.lv a ((w.lv a).mpr (by
    rcases List.mem_append.mp h with h | h
    · exact .inl (List.mem_cons_of_mem _ h)
    · exact .inr h)), e.there, e.keep⟩
theorem notin_less (st : Sta K mg c P env S σ H) (n : H L = none) (w : WOk c' (L :: P) S' H') : L ∉ (Kb.less c' P).lv := fun q => by
  rcases List.mem_append.mp q with q | q
  · obtain ⟨u, z⟩ := st.er.w.there L q
    rw [n] at z; cases z
  · exact w.disj L q List.mem_cons_self
/-- .. as a list that stays -/
theorem frs_of {f : EM (List D)} (h : tG K mg RepV (eLst f) W σ H Q) : tFr K mg f W σ H Q := by
  obtain ⟨c, P, env, S, st, q⟩ := h
  refine ⟨c, P, env, S, st, ?_⟩
  have q' : GPost c P H W σ RepV Q ((f env S).bind fun ds S1 => .ok (.lst ds) S1) := q
  cases o : f env S with
  | ok ds S1 =>
    rw [o] at q'
    intro c' H' L vs e n h2 w r
    exact q' (Kb.less c' P) H' (.ref L) (e.less w) w.less ⟨L, vs, rfl, ⟨.inl h2, notin_less st n w⟩, Reps.less w r⟩
  | exc n S1 =>
    rw [o] at q'
    exact q'
  | stuck =>
    rw [o] at q'
    exact q'
/-- a new list laid beside -/
theorem FPost.lay (st : Sta K mg c P env S σ H) (h : FPost c P H W σ Q (.ok ds S)) (r : Reps c H ds vs) {p : Addr} (hp : H p = none) : Q (.ref p) (upd H p (.lst vs)) := by
  have hl : ∀ a u, H a = some u → a ∉ c.lv → a ∉ p :: c.lv := fun a u z n q => by
    rcases List.mem_cons.mp q with q | q
    · rw [q, hp] at z; cases z
    · exact n q
  have g := grow_new (o := .lst vs) hp
  refine h ⟨c.K, c.mg, p :: c.lv, c.ca, c.cm⟩ _ p vs ⟨rfl, rfl, fun _ _ z => z, fun a q => ?_, fun a u z => ⟨u, g a u z⟩, fun a u z _ => g a u z⟩ hp upd_same ⟨fun a => ?_, fun a q z => ?_, st.er.w.nd, fun a q => ?_, st.er.w.len, fun n ds a e1 e2 => ?_⟩ ?_
  · rcases List.mem_cons.mp q with q | q
    · exact .inr (by rw [q]; exact hp)
    · exact .inl q
  · constructor
    · intro q
      rcases List.mem_cons.mp q with q | q
      · exact .inl (by rw [q]; exact List.mem_cons_self)
      · rcases (st.er.w.lv a).mp q with q | q
        · exact .inl (List.mem_cons_of_mem _ q)
        · exact .inr q
    · intro q
      rcases q with q | q
      · rcases List.mem_cons.mp q with q | q
        · rw [q]; exact List.mem_cons_self
        · exact List.mem_cons_of_mem _ ((st.er.w.lv a).mpr (.inl q))
      · exact List.mem_cons_of_mem _ ((st.er.w.lv a).mpr (.inr q))
  · rcases List.mem_cons.mp z with z | z
    · rw [z] at q
      exact st.new_lv hp ((st.er.w.lv p).mpr (.inr q))
    · exact st.er.w.disj a q z
  · rcases List.mem_cons.mp q with q | q
    · rw [q]; exact ⟨_, upd_same⟩
    · obtain ⟨u, z⟩ := st.er.w.there a q
      exact ⟨u, g a u z⟩
  · obtain ⟨vs', z, r'⟩ := st.er.w.cells n ds a e1 e2
    exact ⟨vs', g a _ z, (ext_grow (P := P) g).reps _ _ (Reps.turn hl (fun _ _ z => z) r')⟩
  · exact (ext_grow (P := P) g).reps _ _ (Reps.turn hl (fun _ _ z => z) r)
end
section
variable {X : Cx} {a b e o i l : Expr} {es rest : List Expr} {f g h : EM D} {pos p : Pos} {x : Str} {F : EM (List D)}
theorem se_fr (h : SF X e F) : SE X e (eLst F) := ⟨fun pn xe W hp tk => wE (h.run pn xe W hp tk) fun σ H Q q => frs_of q⟩
/-- [a, b, ..] -/
theorem sf_lst (ha : SA RepL X es F) : SF X (.List es pos) (fLst F) := ⟨fun pn xe W hp tk => wE (pe_lst (ha.run pn xe W hp tk)) fun σ H Q ⟨c, P, env, S, st, q⟩ => by
  refine fbind st q fun c1 S1 H1 a b x1 st1 r1 q1 => ?_
  by_cases hl : a.length ≤ LN
  · rw [if_pos hl] at q1
    exact ⟨by rw [Reps.length r1, ← LN_eq]; exact hl, fun p hp => q1.lay st1 r1 hp⟩
  · rw [if_neg hl] at q1
    exact q1.elim⟩
end
/-! ### [elt for target in iter if ..] -/
theorem tLc_of {K : PySem.W.Frag} {mg : MG} {W : WX} {σ : L2.St} {H : Hp} {Q : VK} {it : EM (List D)} {tg : Tg} {vs : List Nat} {t : EM Bool} {f : EM D} (hidx : ∀ j ∈ tg.idx, j ∈ vs)
    (h : tFr K mg (eLc it tg vs t f) W σ H Q) : tLc (tG K mg RepJ it W) (tT K mg tg) (tG K mg RepT t W0) (tG K mg RepV f W0) vs σ H Q := by
  obtain ⟨c, P, env, S, st, q⟩ := h
  refine fbind st q fun c1 S1 H1 ds J x1 st1 hJ q1 => ?_
  intro L hL
  -- the list at L among those that change
  have key : Q (.ref L) = Q (.ref L) := rfl
  obtain ⟨o, ho⟩ : ∃ o, lcGo tg t f (Kb.wipe env vs) ds [] S1 = o := ⟨_, rfl⟩
  rw [ho] at q1
  refine ⟨fun i m H2 => m = ds.length - i ∧ i ≤ ds.length ∧ ∃ c2 acc us S2, Ext c1 P H1 c2 H2 ∧ WOk c2 (L :: P) S2 H2 ∧ H2 L = some (.lst us) ∧ Reps c2 H2 acc us ∧ lcGo tg t f (Kb.wipe env vs) (ds.drop i) acc S2 = o, ⟨ds.length, by simp, Nat.zero_le _, ?_⟩, ?_⟩
  · -- the start
    have hl : ∀ a u, H1 a = some u → a ∉ c1.lv → a ∉ L :: c1.lv := fun a u z n q => by
      rcases List.mem_cons.mp q with q | q
      · rw [q, hL] at z; cases z
      · exact n q
    have g := grow_new (o := .lst []) hL
    refine ⟨⟨c1.K, c1.mg, L :: c1.lv, c1.ca, c1.cm⟩, [], [], S1, ⟨rfl, rfl, fun _ _ z => z, fun a q => ?_, fun a u z => ⟨u, g a u z⟩, fun a u z _ => g a u z⟩, ⟨fun a => ?_, fun a q z => ?_, st1.er.w.nd, fun a q => ?_, st1.er.w.len, fun n ds a e1 e2 => ?_⟩, upd_same, rfl, ho⟩
    · rcases List.mem_cons.mp q with q | q
      · exact .inr (by rw [q]; exact hL)
      · exact .inl q
    · constructor
      · intro q
        rcases List.mem_cons.mp q with q | q
        · exact .inl (by rw [q]; exact List.mem_cons_self)
        · rcases (st1.er.w.lv a).mp q with q | q
          · exact .inl (List.mem_cons_of_mem _ q)
          · exact .inr q
      · intro q
        rcases q with q | q
        · rcases List.mem_cons.mp q with q | q
          · rw [q]; exact List.mem_cons_self
          · exact List.mem_cons_of_mem _ ((st1.er.w.lv a).mpr (.inl q))
        · exact List.mem_cons_of_mem _ ((st1.er.w.lv a).mpr (.inr q))
    · rcases List.mem_cons.mp z with z | z
      · rw [z] at q
        exact st1.new_lv hL ((st1.er.w.lv L).mpr (.inr q))
      · exact st1.er.w.disj a q z
    · rcases List.mem_cons.mp q with q | q
      · rw [q]; exact ⟨_, upd_same⟩
      · obtain ⟨u, z⟩ := st1.er.w.there a q
        exact ⟨u, g a u z⟩
    · obtain ⟨vs', z, r'⟩ := st1.er.w.cells n ds a e1 e2
      exact ⟨vs', g a _ z, (ext_grow (P := P) g).reps _ _ (Reps.turn hl (fun _ _ z => z) r')⟩
  · -- a turn
    rintro i m H2 ⟨rfl, hi, c2, acc, us, S2, e2, w2, hLu, ra, hgo⟩
    obtain ⟨go, stop⟩ := hJ c2 H2 e2
    by_cases hlt : i < ds.length
    · obtain ⟨g1, g2⟩ := go i hlt
      refine .inr ⟨g1, fun H3 => ds.length - (i + 1) = ds.length - (i + 1) ∧ i + 1 ≤ ds.length ∧ ∃ c2 acc us S2, Ext c1 P H1 c2 H3 ∧ WOk c2 (L :: P) S2 H3 ∧ H3 L = some (.lst us) ∧ Reps c2 H3 acc us ∧ lcGo tg t f (Kb.wipe env vs) (ds.drop (i + 1)) acc S2 = o, fun H3 hN => ⟨ds.length - (i + 1), by omega, hN⟩, fun x H3 hy => ?_⟩
      obtain ⟨grow, d, hd, rd⟩ := g2 x H3 hy
      have hdrop : ds.drop i = d :: ds.drop (i + 1) := by
        rw [List.drop_eq_getElem_cons hlt]
        rw [List.getElem?_eq_getElem hlt] at hd
        rw [Option.some.inj hd]
      rw [hdrop] at hgo
      have e3 : Ext c2 (L :: P) H2 c2 H3 := ext_grow grow
      have w3 := w2.grow grow
      -- the state within the block
      have er3 : ER c2 (L :: P) (Kb.wipe env vs) S2 (L2.wipe σ vs) H3 := by
        have er : ER c2 (L :: P) env S2 σ H3 := ⟨st1.er.len, w3, fun j s es => by
          have z := (st1.er.slots j s es).ext (e2.trans (e3.mono fun a h => List.mem_cons_of_mem _ h)) fun a h => (w3.lv a).mpr (.inl (List.mem_cons_of_mem _ h))
          cases s with
          | no => trivial
          | ex c => trivial
          | val d => exact z
          | own xs =>
            obtain ⟨a, vs, h1, h2, h3, h4, h5⟩ := z
            exact ⟨a, vs, h1, List.mem_cons_of_mem _ h2, h3, h4, h5⟩⟩
        exact er.wipe vs
      have st3 : Sta K mg c2 (L :: P) (Kb.wipe env vs) S2 (L2.wipe σ vs) H3 := ⟨e2.K.trans st1.K, e2.mg.trans st1.mg, er3⟩
      cases hp : tg.put d (Kb.wipe env vs) with
      | none =>
        have z : Out.stuck = o := by
          rw [← hgo]
          show Out.stuck = (match tg.put d (Kb.wipe env vs) with | none => _ | some env' => _)
          rw [hp]
        rw [← z] at q1
        exact q1.elim
      | some env2 =>
        refine ⟨c2, L :: P, _, S2, d, env2, st3, rd, hp, fun σ2 l2 o2 er4 => ⟨?_, ?_⟩⟩
        · exact (wipe_eq l2 fun j hj => o2 j fun z => hj (hidx j z)).trans wipe_wipe
        · have hgo2 := hgo
          rw [lcGo, hp] at hgo2
          dsimp only at hgo2
          have st4 : Sta K mg c2 (L :: P) env2 S2 σ2 H3 := ⟨st3.K, st3.mg, er4⟩
          refine ⟨c2, L :: P, env2, S2, st4, ?_⟩
          cases ht : t env2 S2 with
          | stuck =>
            rw [ht] at hgo2
            rw [← hgo2] at q1
            exact q1.elim
          | exc n S3 =>
            rw [ht] at hgo2
            rw [← hgo2] at q1
            exact q1.elim
          | ok b S3 =>
            rw [ht] at hgo2
            intro c5 H5 b' e5 w5 eb
            have eb' : b' = b := eb
            subst eb'
            have e15 : Ext c1 P H1 c5 H5 := (e2.trans (e3.mono fun a h => List.mem_cons_of_mem _ h)).trans (e5.mono fun a h => List.mem_cons_of_mem _ h)
            have hL5 : H5 L = some (.lst us) := e5.keep L _ (grow L _ hLu) fun _ n => absurd List.mem_cons_self n
            have ra5 : Reps c5 H5 acc us := e5.reps _ _ (e3.reps _ _ ra)
            cases b' with
            | false => exact iteF ⟨rfl, hlt, c5, acc, us, S3, e15, w5, hL5, ra5, hgo2⟩
            | true =>
              refine iteT ⟨c5, L :: P, env2, S3, st4.ext e5 w5, ?_⟩
              cases hf : f env2 S3 with
              | stuck =>
                have hgo3 : (match f env2 S3 with
                  | .ok y S2 => if acc.length < LN then lcGo tg t f (Kb.wipe env vs) (ds.drop (i + 1)) (acc ++ [y]) S2 else .stuck
                  | _ => .stuck) = o := hgo2
                rw [hf] at hgo3
                rw [← hgo3] at q1
                exact q1.elim
              | exc n S4 =>
                have hgo3 : (match f env2 S3 with
                  | .ok y S2 => if acc.length < LN then lcGo tg t f (Kb.wipe env vs) (ds.drop (i + 1)) (acc ++ [y]) S2 else .stuck
                  | _ => .stuck) = o := hgo2
                rw [hf] at hgo3
                rw [← hgo3] at q1
                exact q1.elim
              | ok y S4 =>
                have hgo3 : (match f env2 S3 with
                  | .ok y S2 => if acc.length < LN then lcGo tg t f (Kb.wipe env vs) (ds.drop (i + 1)) (acc ++ [y]) S2 else .stuck
                  | _ => .stuck) = o := hgo2
                rw [hf] at hgo3
                intro c6 H6 v e6 w6 rv
                have hL6 : H6 L = some (.lst us) := e6.keep L _ hL5 fun _ n => absurd List.mem_cons_self n
                have ra6 : Reps c6 H6 acc us := e6.reps _ _ ra5
                have hlen := ra6.length
                have hgo4 : (if acc.length < LN then lcGo tg t f (Kb.wipe env vs) (ds.drop (i + 1)) (acc ++ [y]) S4 else .stuck) = o := hgo3
                by_cases hacc : acc.length < LN
                · rw [if_pos hacc] at hgo4
                  refine ⟨us, hL6, by rw [hlen, ← LN_eq]; exact hacc, rfl, hlt, ?_⟩
                  have hLl : L ∈ c6.lv := (w6.lv L).mpr (.inl List.mem_cons_self)
                  have e7 : Ext c6 P H6 c6 (upd H6 L (.lst (us ++ [v]))) := by
                    refine ⟨rfl, rfl, fun _ _ z => z, fun _ z => .inl z, fun a u z => ?_, fun a u z k => ?_⟩
                    · by_cases ha : a = L
                      · subst ha; exact ⟨_, upd_same⟩
                      · exact ⟨u, by rw [upd_ne ha]; exact z⟩
                    · have ha : a ≠ L := fun ha => by
                        subst ha
                        rw [hL6] at z
                        cases z
                        refine k hLl (fun hP => ?_) trivial
                        obtain ⟨u, zz⟩ := st1.er.w.there a hP
                        rw [hL] at zz; cases zz
                      rw [upd_ne ha]
                      exact z
                  have e16 := (e15.trans (e6.mono fun a h => List.mem_cons_of_mem _ h)).trans e7
                  refine ⟨c6, acc ++ [y], us ++ [v], S4, e16, ⟨w6.lv, w6.disj, w6.nd, fun a q => ?_, w6.len, fun n ds a z1 z2 => ?_⟩, upd_same, e7.reps _ _ (Reps.append ra6 ⟨v, [], rfl, rv, rfl⟩), hgo4⟩
                  · obtain ⟨u, z⟩ := w6.there a q
                    exact e7.there a u z
                  · obtain ⟨us', z, r⟩ := w6.cells n ds a z1 z2
                    have ha : a ≠ L := fun ha => w6.disj a (List.mem_of_getElem? z2) (by rw [ha]; exact List.mem_cons_self)
                    exact ⟨us', by rw [upd_ne ha]; exact z, e7.reps _ _ r⟩
                · rw [if_neg hacc] at hgo4
                  rw [← hgo4] at q1
                  exact q1.elim
    · have ei : i = ds.length := by omega
      subst ei
      refine .inl ⟨stop, ?_⟩
      rw [List.drop_length] at hgo
      have z : Out.ok acc S2 = o := hgo
      rw [← z] at q1
      exact q1 c2 H2 L us e2 hL hLu w2 ra
section
variable {X : Cx} {elt tgE iter : Expr} {ifs : List Expr} {scope : Scope} {own : List (Str × Nat)} {pos : Pos} {it : EM (List D)} {tg : Tg} {t : EM Bool} {f : EM D}
theorem sf_lc (own : List (Str × Nat)) (hc : X.calm = true) (hN : X.N.Nodup) (hi : SI RepJ X tgE iter it) (ok : BlkOk X.N X.env.scope scope own)
    (hg : ∀ (s : Shared) (H : Hp) (C : Addr) (cl : List (Str × Addr)) (fp : List Addr), STg (X.blk s H scope (compEnvC scope cl C X.env) fp) tgE tg)
    (ht : ∀ (s : Shared) (H : Hp) (C : Addr) (cl : List (Str × Addr)) (fp : List Addr), STs (X.blk s H scope (compEnvC scope cl C X.env) fp) ifs t)
    (he : ∀ (s : Shared) (H : Hp) (C : Addr) (cl : List (Str × Addr)) (fp : List Addr), SE (X.blk s H scope (compEnvC scope cl C X.env) fp) elt f)
    (hidx : ∀ j ∈ tg.idx, j ∈ own.map (·.2) := by decide) (hs : ∀ (X' : Cx) x, foldedSetIterable iter X'.env x = pure x := by intro _ _; rfl) :
    SF X (.ListComp elt [⟨tgE, iter, ifs, 0⟩] scope pos) (eLc it tg (own.map (·.2)) t f) := ⟨fun pn xe W hp tk =>
  wE (pe_lc (X := X.tr pn xe) hc hN (hi.run pn xe W hp tk) ok (fun s H C cl fp => (hg s H C cl fp).run [] _) (fun s H C cl fp => (ht s H C cl fp).run [] _ W0 (fun _ z => z) takes0)
    (fun s H C cl fp => (he s H C cl fp).run [] _ W0 (fun _ z => z) takes0) (hs (X.tr pn xe))) fun σ H Q q => tLc_of hidx q⟩
end
end Kb

set_option Elab.async false
set_option linter.all false
set_option maxRecDepth 100000
/-! Kb6: statements. -/
namespace Kb
open PySem PySem.Spec PyProof.Rows L2 RZ
/-- the frame: G the lists of its own slots (and what it has let go), P those of the frames around -/
structure Fr' (c : Cc) (P G : List Addr) (env : Env) (S : Store) (σ : L2.St) (H : Hp) : Prop where
  er : ER c (G ++ P) env S σ H
  own : ∀ (i : Nat) xs a, env[i]? = some (.own xs) → σ[i]? = some (some (.ref a)) → a ∈ G
  inj : ∀ (i j : Nat) xs ys a, env[i]? = some (.own xs) → env[j]? = some (.own ys) → σ[i]? = some (some (.ref a)) → σ[j]? = some (some (.ref a)) → i = j
  gp : ∀ a ∈ G, a ∉ P
def EndQ (D : Ends) (c : Cc) (P : List Addr) (H : Hp) (σ : L2.St) : Fl → Prop
  | .nx => D.nx σ H
  | .rt d => ∀ v, Rep c H d v → D.rt v H
  | .bk => D.bk σ H
  | .ct => D.ct σ H
def SPost (c : Cc) (P : List Addr) (H : Hp) (W : WX) (Q : Cc → List Addr → Env → Store → L2.St → Hp → Fl → Prop) : SO → Prop
  | .ok fl env' S' => ∀ c' G' σ' H', Ext c P H c' H' → Fr' c' P G' env' S' σ' H' → Q c' G' env' S' σ' H' fl
  | .exc n env' S' => ∀ c' G' σ' H' C, Ext c P H c' H' → Fr' c' P G' env' S' σ' H' → c.mg.1 (Str.ofString n) = some (.ref C) → W (.ref C) none σ' H'
  | .stuck => False
structure StS (K : PySem.W.Frag) (mg : MG) (c : Cc) (P G : List Addr) (env : Env) (S : Store) (σ : L2.St) (H : Hp) : Prop where
  K : c.K = K
  mg : c.mg = mg
  fr : Fr' c P G env S σ H
def tS (K : PySem.W.Frag) (mg : MG) (g : SM) (W : WX) : TS := fun D σ H => ∃ c P G env S, StS K mg c P G env S σ H ∧ SPost c P H W (fun c' _ _ _ σ' H' fl => EndQ D c' P H' σ' fl) (g env S)
structure SS (X : Cx) (st : Stmt) (g : SM) : Prop where
  run : ∀ (pn : List (Addr × Obj)) (xe : Value → Shared → Prop) (W : WX), (∀ p ∈ X.pn, p ∈ pn) → Takes (X.tr pn xe) W → PassesOwn (model X.prog X.w) X.A X.env xe → PS (X.tr pn xe) st (tS X.K (xm X) g W)
structure SSs (X : Cx) (st : List Stmt) (g : SM) : Prop where
  run : ∀ (pn : List (Addr × Obj)) (xe : Value → Shared → Prop) (W : WX), (∀ p ∈ X.pn, p ∈ pn) → Takes (X.tr pn xe) W → PassesOwn (model X.prog X.w) X.A X.env xe → PSs (X.tr pn xe) st (tS X.K (xm X) g W)
section
variable {K : PySem.W.Frag} {mg : MG} {c c1 c' : Cc} {P G G' : List Addr} {env env' : Env} {S S1 S' : Store} {σ σ' : L2.St} {H H1 H' : Hp} {W : WX} {a b L : Addr} {vs ws us : List V} {ds es xs ys : List D} {d x y z : D} {v w : V} {D0 : Ends}
theorem StS.sta (s : StS K mg c P G env S σ H) : Sta K mg c (G ++ P) env S σ H := ⟨s.K, s.mg, s.fr.er⟩
theorem SPost.ext {Q : Cc → List Addr → Env → Store → L2.St → Hp → Fl → Prop} {o : SO} (h : SPost c P H W Q o) (e : Ext c P H c' H') : SPost c' P H' W Q o := by
  cases o with
  | ok fl env' S' => exact fun c2 G2 σ2 H2 e2 f => h c2 G2 σ2 H2 (e.trans e2) f
  | exc n env' S' => exact fun c2 G2 σ2 H2 C e2 f m => h c2 G2 σ2 H2 C (e.trans e2) f (by rw [← e.mg]; exact m)
  | stuck => exact h
/-- behind an expression -/
theorem Fr'.expr (f : Fr' c P G env S σ H) (e : Ext c (G ++ P) H c' H') (w : WOk c' (G ++ P) S' H') : Fr' c' P G env S' σ H' := ⟨f.er.ext e w, f.own, f.inj, f.gp⟩
theorem Ext.out (e : Ext c (G ++ P) H c' H') : Ext c P H c' H' := e.mono fun _ h => List.mem_append_right _ h
theorem StS.expr (s : StS K mg c P G env S σ H) (e : Ext c (G ++ P) H c' H') (w : WOk c' (G ++ P) S' H') : StS K mg c' P G env S' σ H' := ⟨e.K.trans s.K, e.mg.trans s.mg, s.fr.expr e w⟩
/-- an expression ahead of what follows -/
theorem sbind {α β : Type} {R : RR α β} {Q1 : β → Hp → Prop} {f : EM α} {k : α → Store → SO} {Q : Cc → List Addr → Env → Store → L2.St → Hp → Fl → Prop} (st : StS K mg c P G env S σ H) (h : SPost c P H W Q (eS (f env S) env k))
    (step : ∀ c1 S1 H1 a b, Ext c P H c1 H1 → StS K mg c1 P G env S1 σ H1 → R c1 (G ++ P) H1 a b → SPost c1 P H1 W Q (k a S1) → Q1 b H1) : tG K mg R f W σ H Q1 := by
  refine ⟨c, G ++ P, env, S, st.sta, ?_⟩
  cases o : f env S with
  | ok a S1 =>
    rw [o] at h
    exact fun c1 H1 b e w r => step c1 S1 H1 a b e.out (st.expr e w) r (SPost.ext h e.out)
  | exc n S1 =>
    rw [o] at h
    exact fun c1 H1 C e w m => h c1 G σ H1 C e.out (st.fr.expr e w) m
  | stuck =>
    rw [o] at h
    exact h
/-- a slot gets a value that stays -/
theorem Fr'.put (f : Fr' c P G env S σ H) (i : Nat) (r : Rep c H d v) : Fr' c P G (env.set i (.val d)) S (σ.set i (some v)) H := by
  have ho : ∀ (j : Nat) xs, (env.set i (.val d))[j]? = some (.own xs) → j ≠ i ∧ env[j]? = some (.own xs) := fun j xs e => by
    by_cases hj : j = i
    · subst hj
      have hl : j < env.length := by
        have := (List.getElem?_eq_some_iff.mp e).1
        simpa using this
      rw [List.getElem?_set_self hl] at e
      cases e
    · rw [List.getElem?_set_ne (Ne.symm hj)] at e
      exact ⟨hj, e⟩
  refine ⟨f.er.put r, fun j xs a e1 e2 => ?_, fun j k xs ys a e1 e2 e3 e4 => ?_, f.gp⟩
  · obtain ⟨hj, e⟩ := ho j xs e1
    rw [List.getElem?_set_ne (Ne.symm hj)] at e2
    exact f.own j xs a e e2
  · obtain ⟨hj, e⟩ := ho j xs e1
    obtain ⟨hk, e'⟩ := ho k ys e2
    rw [List.getElem?_set_ne (Ne.symm hj)] at e3
    rw [List.getElem?_set_ne (Ne.symm hk)] at e4
    exact f.inj j k xs ys a e e' e3 e4
theorem mem_G {L a : Addr} (h : a ∈ G ++ P) : a ∈ (L :: G) ++ P := List.mem_cons_of_mem _ h
/-- more lists of the frame's own -/
theorem ER.wider {P2 : List Addr} (er : ER c P env S σ H) (w : WOk c' P2 S' H') (e : Ext c P H c' H') (hp : ∀ a ∈ P, a ∈ P2) : ER c' P2 env S' σ H' := ⟨er.len, w, fun j s es => by
  have z := (er.slots j s es).ext e fun a h => (w.lv a).mpr (.inl (hp a h))
  cases s with
  | no => trivial
  | ex c => trivial
  | val d => exact z
  | own xs =>
    obtain ⟨a, vs, h1, h2, h3, h4, h5⟩ := z
    exact ⟨a, vs, h1, hp a h2, h3, h4, h5⟩⟩
/-- a slot gets a new list of its own -/
theorem Fr'.new (f : Fr' c P G env S σ H) (i : Nat) (e : Ext c (G ++ P) H c' H') (n : H L = none) (h : H' L = some (.lst us)) (w : WOk c' (L :: (G ++ P)) S' H') (r : Reps c' H' ds us) : Fr' c' P (L :: G) (env.set i (.own ds)) S' (σ.set i (some (.ref L))) H' := by
  have er : ER c' ((L :: G) ++ P) env S' σ H' := f.er.wider w e fun a h => List.mem_cons_of_mem _ h
  have nL : ∀ a ∈ G ++ P, a ≠ L := fun a q z => by
    subst z
    obtain ⟨u, q⟩ := f.er.w.there a q
    rw [n] at q; cases q
  have ho : ∀ (j : Nat) xs, (env.set i (.own ds))[j]? = some (.own xs) → (j = i ∧ i < env.length) ∨ (j ≠ i ∧ env[j]? = some (.own xs)) := fun j xs e => by
    by_cases hj : j = i
    · subst hj
      have hl : j < env.length := by
        have := (List.getElem?_eq_some_iff.mp e).1
        simpa using this
      exact .inl ⟨rfl, hl⟩
    · rw [List.getElem?_set_ne (Ne.symm hj)] at e
      exact .inr ⟨hj, e⟩
  refine ⟨⟨by simp [er.len], w, fun j s es => ?_⟩, fun j xs a e1 e2 => ?_, fun j k xs ys a e1 e2 e3 e4 => ?_, fun a q => ?_⟩
  · by_cases hj : j = i
    · subst hj
      have hl : j < env.length := by
        have := (List.getElem?_eq_some_iff.mp es).1
        simpa using this
      rw [List.getElem?_set_self hl] at es
      cases es
      rw [List.getElem?_set_self (by rw [← er.len]; exact hl)]
      exact ⟨L, us, rfl, List.mem_cons_self, (w.lv L).mpr (.inl List.mem_cons_self), h, r⟩
    · rw [List.getElem?_set_ne (Ne.symm hj)] at es
      rw [List.getElem?_set_ne (Ne.symm hj)]
      exact er.slots j s es
  · rcases ho j xs e1 with ⟨rfl, hl⟩ | ⟨hj, e⟩
    · rw [List.getElem?_set_self (by rw [← er.len]; exact hl)] at e2
      cases e2
      exact List.mem_cons_self
    · rw [List.getElem?_set_ne (Ne.symm hj)] at e2
      exact List.mem_cons_of_mem _ (f.own j xs a e e2)
  · rcases ho j xs e1 with ⟨rfl, hl⟩ | ⟨hj, e⟩
    · rcases ho k ys e2 with ⟨rfl, _⟩ | ⟨hk, e'⟩
      · rfl
      · rw [List.getElem?_set_self (by rw [← er.len]; exact hl)] at e3
        cases e3
        rw [List.getElem?_set_ne (Ne.symm hk)] at e4
        exact absurd rfl (nL L (List.mem_append_left _ (f.own k ys L e' e4)))
    · rcases ho k ys e2 with ⟨rfl, hl⟩ | ⟨hk, e'⟩
      · rw [List.getElem?_set_self (by rw [← er.len]; exact hl)] at e4
        cases e4
        rw [List.getElem?_set_ne (Ne.symm hj)] at e3
        exact absurd rfl (nL L (List.mem_append_left _ (f.own j xs L e e3)))
      · rw [List.getElem?_set_ne (Ne.symm hj)] at e3
        rw [List.getElem?_set_ne (Ne.symm hk)] at e4
        exact f.inj j k xs ys a e e' e3 e4
  · rcases List.mem_cons.mp q with q | q
    · rw [q]
      exact fun z => nL L (List.mem_append_right _ z) rfl
    · exact f.gp a q
/-- a slot's own list turns -/
theorem Fr'.upd (f : Fr' c P G env S σ H) {i : Nat} (ei : env[i]? = some (.own xs)) (ea : σ[i]? = some (some (.ref a))) (ha : H a = some (.lst ws)) (r : Reps c H ys us) : Ext c P H c (L2.upd H a (.lst us)) ∧ Fr' c P G (env.set i (.own ys)) S σ (L2.upd H a (.lst us)) := by
  have aG := f.own i xs a ei ea
  have aP := f.gp a aG
  have alv : a ∈ c.lv := (f.er.w.lv a).mpr (.inl (List.mem_append_left _ aG))
  have e : Ext c P H c (L2.upd H a (.lst us)) := by
    refine ⟨rfl, rfl, fun _ _ z => z, fun _ z => .inl z, fun b u z => ?_, fun b u z k => ?_⟩
    · by_cases hb : b = a
      · subst hb; exact ⟨_, upd_same⟩
      · exact ⟨u, by rw [upd_ne hb]; exact z⟩
    · have hb : b ≠ a := fun hb => by
        subst hb
        rw [ha] at z
        cases z
        exact k alv aP trivial
      rw [upd_ne hb]
      exact z
  have il : i < env.length := (List.getElem?_eq_some_iff.mp ei).1
  have ho : ∀ (j : Nat) zs, (env.set i (.own ys))[j]? = some (.own zs) → ∃ zs', env[j]? = some (.own zs') := fun j zs e => by
    by_cases hj : j = i
    · subst hj; exact ⟨xs, ei⟩
    · rw [List.getElem?_set_ne (Ne.symm hj)] at e
      exact ⟨zs, e⟩
  refine ⟨e, ⟨⟨by simp [f.er.len], ⟨f.er.w.lv, f.er.w.disj, f.er.w.nd, fun b q => ?_, f.er.w.len, fun n ds b z1 z2 => ?_⟩, fun j s es => ?_⟩, fun j zs b e1 e2 => ?_, fun j k zs ys' b e1 e2 e3 e4 => ?_, f.gp⟩⟩
  · obtain ⟨u, z⟩ := f.er.w.there b q
    exact e.there b u z
  · obtain ⟨vs, z, r⟩ := f.er.w.cells n ds b z1 z2
    have hb : b ≠ a := fun hb => f.er.w.disj b (List.mem_of_getElem? z2) (by rw [hb]; exact List.mem_append_left _ aG)
    exact ⟨vs, by rw [upd_ne hb]; exact z, e.reps _ _ r⟩
  · by_cases hj : j = i
    · subst hj
      rw [List.getElem?_set_self il] at es
      cases es
      rw [ea]
      exact ⟨a, us, rfl, List.mem_append_left _ aG, alv, upd_same, e.reps _ _ r⟩
    · rw [List.getElem?_set_ne (Ne.symm hj)] at es
      have z := f.er.slots j s es
      cases s with
      | no => trivial
      | ex c => trivial
      | val d =>
        obtain ⟨v, e1, r1⟩ := z
        exact ⟨v, e1, e.rep _ _ r1⟩
      | own zs =>
        obtain ⟨b, vs, h1, h2, h3, h4, h5⟩ := z
        have hb : b ≠ a := fun hb => by
          subst hb
          refine hj (f.inj j i zs xs b es ei ?_ ea)
          cases q : σ[j]? with
          | none => rw [q] at h1; cases h1
          | some w => rw [q] at h1; rw [show w = some (.ref b) from h1]
        exact ⟨b, vs, h1, h2, h3, by rw [upd_ne hb]; exact h4, e.reps _ _ h5⟩
  · obtain ⟨zs', e⟩ := ho j zs e1
    exact f.own j zs' b e e2
  · obtain ⟨zs', e⟩ := ho j zs e1
    obtain ⟨ys'', e'⟩ := ho k ys' e2
    exact f.inj j k zs' ys'' b e e' e3 e4
/-- a slot's list is left alone from here on -/
theorem Fr'.frz (f : Fr' c P G env S σ H) (i : Nat) : ∃ c' G', Ext c P H c' H ∧ Fr' c' P G' (Kb.frz i env) S σ H := by
  cases ei : env[i]? with
  | none => exact ⟨c, G, Ext.refl, by unfold Kb.frz; rw [ei]; exact f⟩
  | some s =>
    cases s with
    | own xs =>
      obtain ⟨a, vs, h1, h2, h3, h4, h5⟩ := f.er.slots i _ ei
      have ea : σ[i]? = some (some (.ref a)) := by
        cases q : σ[i]? with
        | none => rw [q] at h1; cases h1
        | some w => rw [q] at h1; rw [show w = some (.ref a) from h1]
      have aG := f.own i xs a ei ea
      have aP := f.gp a aG
      have aC : a ∉ c.cm := fun q => f.er.w.disj a q h2
      refine ⟨⟨c.K, c.mg, (G.filter (fun b => decide (b ≠ a)) ++ P) ++ c.cm, c.ca, c.cm⟩, G.filter (fun b => decide (b ≠ a)), ?_, ?_⟩
      · refine ⟨rfl, rfl, fun _ _ z => z, fun b q => .inl ((f.er.w.lv b).mpr ?_), fun b u z => ⟨u, z⟩, fun b u z _ => z⟩
        rcases List.mem_append.mp q with q | q
        · rcases List.mem_append.mp q with q | q
          · exact .inl (List.mem_append_left _ (List.mem_filter.mp q).1)
          · exact .inl (List.mem_append_right _ q)
        · exact .inr q
      · have hl : ∀ b u, H b = some u → b ∉ c.lv → b ∉ (G.filter (fun b => decide (b ≠ a)) ++ P) ++ c.cm := fun b u _ n q => n ((f.er.w.lv b).mpr (by
          rcases List.mem_append.mp q with q | q
          · rcases List.mem_append.mp q with q | q
            · exact .inl (List.mem_append_left _ (List.mem_filter.mp q).1)
            · exact .inl (List.mem_append_right _ q)
          · exact .inr q))
        have na : a ∉ (G.filter (fun b => decide (b ≠ a)) ++ P) ++ c.cm := fun q => by
          rcases List.mem_append.mp q with q | q
          · rcases List.mem_append.mp q with q | q
            · have := (List.mem_filter.mp q).2
              simp at this
            · exact aP q
          · exact aC q
        have ef : Kb.frz i env = env.set i (.val (.lst xs)) := by unfold Kb.frz; rw [ei]
        rw [ef]
        have il : i < env.length := (List.getElem?_eq_some_iff.mp ei).1
        have ho : ∀ (j : Nat) zs, (env.set i (.val (.lst xs)))[j]? = some (.own zs) → j ≠ i ∧ env[j]? = some (.own zs) := fun j zs e => by
          by_cases hj : j = i
          · subst hj
            rw [List.getElem?_set_self il] at e
            cases e
          · rw [List.getElem?_set_ne (Ne.symm hj)] at e
            exact ⟨hj, e⟩
        refine ⟨⟨by simp [f.er.len], ⟨fun b => List.mem_append, fun b h q => ?_, f.er.w.nd, fun b h => ?_, f.er.w.len, fun n ds b z1 z2 => ?_⟩, fun j s es => ?_⟩, fun j zs b e1 e2 => ?_, fun j k zs ys b e1 e2 e3 e4 => ?_, fun b h => f.gp b (List.mem_filter.mp h).1⟩
        · rcases List.mem_append.mp q with q | q
          · exact f.er.w.disj b h (List.mem_append_left _ (List.mem_filter.mp q).1)
          · exact f.er.w.disj b h (List.mem_append_right _ q)
        · rcases List.mem_append.mp h with q | q
          · exact f.er.w.there b (List.mem_append_left _ (List.mem_filter.mp q).1)
          · exact f.er.w.there b (List.mem_append_right _ q)
        · obtain ⟨vs, z, r⟩ := f.er.w.cells n ds b z1 z2
          exact ⟨vs, z, Reps.turn hl (fun _ _ z => z) r⟩
        · by_cases hj : j = i
          · subst hj
            rw [List.getElem?_set_self il] at es
            cases es
            rw [ea]
            exact ⟨.ref a, rfl, a, vs, rfl, ⟨.inl h4, na⟩, Reps.turn hl (fun _ _ z => z) h5⟩
          · rw [List.getElem?_set_ne (Ne.symm hj)] at es
            have z := f.er.slots j s es
            cases s with
            | no => trivial
            | ex c => trivial
            | val d =>
              obtain ⟨v, e1, r1⟩ := z
              exact ⟨v, e1, Rep.turn hl (fun _ _ z => z) r1⟩
            | own zs =>
              obtain ⟨b, ws, g1, g2, g3, g4, g5⟩ := z
              have eb : σ[j]? = some (some (.ref b)) := by
                cases q : σ[j]? with
                | none => rw [q] at g1; cases g1
                | some w => rw [q] at g1; rw [show w = some (.ref b) from g1]
              have hb : b ≠ a := fun hb => by
                subst hb
                exact hj (f.inj j i zs xs b es ei eb ea)
              have bG : b ∈ G.filter (fun b => decide (b ≠ a)) := List.mem_filter.mpr ⟨f.own j zs b es eb, by simp [hb]⟩
              exact ⟨b, ws, g1, List.mem_append_left _ bG, List.mem_append_left _ (List.mem_append_left _ bG), g4, Reps.turn hl (fun _ _ z => z) g5⟩
        · obtain ⟨hj, e⟩ := ho j zs e1
          have bG := f.own j zs b e e2
          refine List.mem_filter.mpr ⟨bG, ?_⟩
          have hb : b ≠ a := fun hb => by
            subst hb
            exact hj (f.inj j i zs xs b e ei e2 ea)
          simp [hb]
        · obtain ⟨hj, e⟩ := ho j zs e1
          obtain ⟨hk, e'⟩ := ho k ys e2
          exact f.inj j k zs ys b e e' e3 e4
    | no => exact ⟨c, G, Ext.refl, by unfold Kb.frz; rw [ei]; exact f⟩
    | ex n => exact ⟨c, G, Ext.refl, by unfold Kb.frz; rw [ei]; exact f⟩
    | val d => exact ⟨c, G, Ext.refl, by unfold Kb.frz; rw [ei]; exact f⟩
/-- the end as it stands -/
theorem SPost.here {Q : Cc → List Addr → Env → Store → L2.St → Hp → Fl → Prop} (s : Fr' c P G env S σ H) {fl : Fl} (h : SPost c P H W Q (.ok fl env S)) : Q c G env S σ H fl := h c G σ H Ext.refl s
end
end Kb

set_option Elab.async false
set_option linter.all false
set_option maxRecDepth 100000
/-! Kb7: statements, one by one. -/
namespace Kb
open PySem PySem.Spec PyProof.Rows L2 RZ
mutual
theorem put_own : ∀ (t : Tg) {d : D} {env env' : Env}, t.put d env = some env' → ∀ (j : Nat) xs, env'[j]? = some (.own xs) → j ∉ t.idx ∧ env[j]? = some (.own xs)
  | .nm i, d, env, env', h, j, xs, e => by
    cases h
    by_cases hj : j = i
    · subst hj
      have hl : j < env.length := by
        have := (List.getElem?_eq_some_iff.mp e).1
        simpa using this
      rw [List.getElem?_set_self hl] at e
      cases e
    · rw [List.getElem?_set_ne (Ne.symm hj)] at e
      exact ⟨fun z => hj (by simpa [Tg.idx] using z), e⟩
  | .tp ts, d, env, env', h, j, xs, e => by
    cases d with
    | tup ds => exact puts_own ts (show Tg.puts ts ds env = some env' from h) j xs e
    | lst ds => exact puts_own ts (show Tg.puts ts ds env = some env' from h) j xs e
    | _ => cases h
theorem puts_own : ∀ (ts : List Tg) {ds : List D} {env env' : Env}, Tg.puts ts ds env = some env' → ∀ (j : Nat) xs, env'[j]? = some (.own xs) → j ∉ Tg.idxs ts ∧ env[j]? = some (.own xs)
  | [], [], env, env', h, j, xs, e => by
    have h' : some env = some env' := h
    cases h'
    exact ⟨(fun z => by cases z), e⟩
  | [], _ :: _, _, _, h, _, _, _ => nomatch h
  | _ :: _, [], _, _, h, _, _, _ => nomatch h
  | t :: ts, d :: ds, env, env', h, j, xs, e => by
    have h' : (t.put d env).bind (fun env2 => Tg.puts ts ds env2) = some env' := h
    cases q1 : t.put d env with
    | none => rw [q1] at h'; cases h'
    | some env2 =>
      rw [q1] at h'
      obtain ⟨h1, h2⟩ := puts_own ts h' j xs e
      obtain ⟨h3, h4⟩ := put_own t q1 j xs h2
      refine ⟨fun z => ?_, h4⟩
      have z' : j ∈ t.idx ++ Tg.idxs ts := z
      rcases List.mem_append.mp z' with z | z
      · exact h3 z
      · exact h1 z
end
theorem Fr'.tgt {c : Cc} {P G : List Addr} {env env' : Env} {S : Store} {σ σ' : L2.St} {H : Hp} {tg : Tg} {d : D} (f : Fr' c P G env S σ H) (hp : tg.put d env = some env') (o : ∀ j, j ∉ tg.idx → σ'[j]? = σ[j]?) (er : ER c (G ++ P) env' S σ' H) : Fr' c P G env' S σ' H := by
  refine ⟨er, fun j xs a e1 e2 => ?_, fun j k xs ys a e1 e2 e3 e4 => ?_, f.gp⟩
  · obtain ⟨h1, h2⟩ := put_own tg hp j xs e1
    rw [o j h1] at e2
    exact f.own j xs a h2 e2
  · obtain ⟨h1, h2⟩ := put_own tg hp j xs e1
    obtain ⟨h3, h4⟩ := put_own tg hp k ys e2
    rw [o j h1] at e3
    rw [o k h3] at e4
    exact f.inj j k xs ys a h2 h4 e3 e4
section
variable {X : Cx} {a b e o i : Expr} {es rest : List Expr} {f g h : EM D} {t : EM Bool} {pos p pos' : Pos} {x y : Str} {F : EM (List D)} {s1 s2 : SM} {st : Stmt} {sts sts2 : List Stmt}
theorem sss_nil : SSs X [] sNil := ⟨fun pn xe W hp tk po => wSs pss_nil fun D σ H ⟨c, P, G, env, S, st, q⟩ => SPost.here st.fr q⟩
theorem sss_cons (h1 : SS X st s1) (h2 : SSs X sts s2) : SSs X (st :: sts) (sSeq s1 s2) := ⟨fun pn xe W hp tk po => wSs (pss_cons (h1.run pn xe W hp tk po) (h2.run pn xe W hp tk po)) fun D σ H ⟨c, P, G, env, S, st, q⟩ => by
  refine ⟨c, P, G, env, S, st, ?_⟩
  have q' : SPost c P H W (fun c' _ _ _ σ' H' fl => EndQ D c' P H' σ' fl) ((s1 env S).bind s2) := q
  cases o : s1 env S with
  | ok fl env1 S1 =>
    rw [o] at q'
    cases fl with
    | nx => exact fun c1 G1 σ1 H1 e f => ⟨c1, P, G1, env1, S1, ⟨e.K.trans st.K, e.mg.trans st.mg, f⟩, SPost.ext q' e⟩
    | rt d => exact q'
    | bk => exact q'
    | ct => exact q'
  | exc n env1 S1 => rw [o] at q'; exact q'
  | stuck => rw [o] at q'; exact q'⟩
theorem sss_one (h1 : SS X st s1) : SSs X [st] s1 := ⟨fun pn xe W hp tk po => wSs (pss_one (h1.run pn xe W hp tk po)) fun D σ H q => q⟩
theorem ss_pass : SS X (.Pass pos) sNil := ⟨fun pn xe W hp tk po => wS ps_pass fun D σ H ⟨c, P, G, env, S, st, q⟩ => SPost.here st.fr q⟩
theorem ss_break : SS X (.Break pos) sBrk := ⟨fun pn xe W hp tk po => wS ps_break fun D σ H ⟨c, P, G, env, S, st, q⟩ => SPost.here st.fr q⟩
theorem ss_continue : SS X (.Continue pos) sCont := ⟨fun pn xe W hp tk po => wS ps_continue fun D σ H ⟨c, P, G, env, S, st, q⟩ => SPost.here st.fr q⟩
theorem ss_retN : SS X (.Return none pos) sRetN := ⟨fun pn xe W hp tk po => wS ps_retN fun D σ H ⟨c, P, G, env, S, st, q⟩ => SPost.here st.fr q .non rfl⟩
theorem ss_ret (ha : SE X e f) : SS X (.Return (some e) pos) (sRet f) := ⟨fun pn xe W hp tk po => wS (ps_ret (ha.run pn xe W hp tk)) fun D σ H ⟨c, P, G, env, S, st, q⟩ => by
  refine sbind st q fun c1 S1 H1 d v x1 st1 r1 q1 => ?_
  exact SPost.here st1.fr q1 v r1⟩
theorem ss_expr (ha : SE X e f) (hs : ∀ X' : Cx, swapsWith e none pos.line X'.env = pure false := by intro _; rfl) : SS X (.Expr e pos) (sExpr f) := ⟨fun pn xe W hp tk po => wS (ps_expr (ha.run pn xe W hp tk) (hs (X.tr pn xe))) fun D σ H ⟨c, P, G, env, S, st, q⟩ => by
  refine sbind st q fun c1 S1 H1 d v x1 st1 r1 q1 => ?_
  exact SPost.here st1.fr q1⟩
theorem ss_if {cnd : Expr} {A B : List Stmt} (hc : ST X cnd t) (ha : SSs X A s1) (hb : SSs X B s2) : SS X (.If cnd A B pos) (sIf t s1 s2) := ⟨fun pn xe W hp tk po => wS (ps_if (hc.run pn xe W hp tk) (ha.run pn xe W hp tk po) (hb.run pn xe W hp tk po)) fun D σ H ⟨c, P, G, env, S, st, q⟩ => by
  refine sbind st q fun c1 S1 H1 d v x1 st1 r1 q1 => ?_
  have e : v = d := r1
  subst e
  cases v with
  | true => exact iteT ⟨c1, P, G, env, S1, st1, q1⟩
  | false => exact iteF ⟨c1, P, G, env, S1, st1, q1⟩⟩
theorem ss_frz (k : Nat) (h1 : SS X st s1) : SS X st (sFrz k s1) := ⟨fun pn xe W hp tk po => wS (h1.run pn xe W hp tk po) fun D σ H ⟨c, P, G, env, S, st, q⟩ => by
  obtain ⟨c', G', e, f⟩ := st.fr.frz k
  exact ⟨c', P, G', frz k env, S, ⟨e.K.trans st.K, e.mg.trans st.mg, f⟩, SPost.ext q e⟩⟩
/-- name = value -/
theorem ss_set (k : Nat) (hN : X.N.Nodup) (ha : SE X e f) (hi : X.N[k]? = some x := by rfl) (hx : Loc X.env.scope x := by first | exact Or.inl rfl | exact Or.inr rfl) (hs : ∀ X' : Cx, swapsWith e (some (.Name x pos')) pos.line X'.env = pure false := by intro _; rfl) (hf : X.fn x = true ∨ X.env.scope.names.lookup x = some .local := by first | exact .inl rfl | exact .inr rfl) :
    SS X (.Assign [.Name x pos'] e pos) (sSet k f) := ⟨fun pn xe W hp tk po => wS (ps_set (X := X.tr pn xe) (i := k) hN hi hx (ha.run pn xe W hp tk) (hs (X.tr pn xe)) hf) fun D σ H ⟨c, P, G, env, S, st, q⟩ => by
  refine sbind st q fun c1 S1 H1 d v x1 st1 r1 q1 => ?_
  exact SPost.here (st1.fr.put k r1) (SPost.ext (c' := c1) (H' := H1) q1 Ext.refl)⟩
/-- name = a new list, to be the frame's own -/
theorem own_of {K : PySem.W.Frag} {mg : MG} {W : WX} {k : Nat} {D : Ends} {σ : L2.St} {H : Hp} (h : tS K mg (sOwn k F) W D σ H) : tFr K mg F W σ H (fun x H1 => gName k x σ H1 D.nx) := by
  obtain ⟨c, P, G, env, S, st, q⟩ := h
  refine ⟨c, G ++ P, env, S, st.sta, ?_⟩
  have q' : SPost c P H W (fun c' _ _ _ σ' H' fl => EndQ D c' P H' σ' fl) (eS (F env S) env fun ds S1 => .ok .nx (env.set k (.own ds)) S1) := q
  cases o : F env S with
  | ok ds S1 =>
    rw [o] at q'
    intro c' H' L vs e n hL w r
    exact q' c' (L :: G) (σ.set k (some (.ref L))) H' e.out (st.fr.new k e n hL w r)
  | exc n S1 =>
    rw [o] at q'
    exact fun c1 H1 C e w m => q' c1 G σ H1 C e.out (st.fr.expr e w) m
  | stuck =>
    rw [o] at q'
    exact q'
theorem ss_own (k : Nat) (hN : X.N.Nodup) (ha : SF X e F) (hi : X.N[k]? = some x := by rfl) (hx : Loc X.env.scope x := by first | exact Or.inl rfl | exact Or.inr rfl) (hs : ∀ X' : Cx, swapsWith e (some (.Name x pos')) pos.line X'.env = pure false := by intro _; rfl) (hf : X.fn x = true ∨ X.env.scope.names.lookup x = some .local := by first | exact .inl rfl | exact .inr rfl) :
    SS X (.Assign [.Name x pos'] e pos) (sOwn k F) := ⟨fun pn xe W hp tk po => wS (ps_set (X := X.tr pn xe) (i := k) hN hi hx (ha.run pn xe W hp tk) (hs (X.tr pn xe)) hf) fun D σ H q => own_of q⟩
/-- x.append(e) -/
theorem ss_app (k : Nat) {apos cpos : Pos} (ha : SE X e f) (hN : X.N[k]? = some x := by rfl) (hv : Vis X.env.scope x := by first | exact Or.inl rfl | exact Or.inr (Or.inl rfl) | exact Or.inr (Or.inr rfl)) (hd : (x == ("__debug__" : Str)) = false := by decide)
    (hcd : (x == ("__classdict__" : Str)) = false := by decide) (hb : ∀ X' : Cx, attributeBase (.Name x p) "append" X'.env (eval (.Name x p) X'.env) = eval (.Name x p) X'.env := by intro _; rfl)
    (hfew : ∀ X' : Cx, ((backTo cpos (starEach [e] X'.env)).all (fun x => !x.1) && (backToKw cpos (keywordEach [] X'.env)).all (fun x => x.1.isSome) && decide (([e] : List Expr).length + ([] : List Keyword).length + (if ([] : List Keyword).isEmpty then 0 else 1) < 30)) = true := by intro _; rfl)
    (hline : (apos.endLine == cpos.line) = true := by rfl) (he : ∀ X' : Cx, starEach [e] X'.env = (false, eval e X'.env) :: starEach [] X'.env := by intro _; rfl) (hpl : ∀ X' : Cx, (backTo cpos (starEach [] X'.env)).any (·.1) = false := by intro _; rfl)
    (hs : ∀ X' : Cx, swapsWith (.Call (.Attribute (.Name x p) "append" apos) [e] [] cpos) none pos.line X'.env = pure false := by intro _; rfl) :
    SS X (.Expr (.Call (.Attribute (.Name x p) "append" apos) [e] [] cpos) pos) (sApp k f) := ⟨fun pn xe W hp tk po =>
  wS (ps_expr (pe_bm (X := X.tr pn xe) PySem.F.plainAttrs_list PySem.F.slot_list_append PySem.F.type_list_append mt_append (pe_var (X := X.tr pn xe) hN hv hd hcd) (pa_cons (ha.run pn xe W hp tk) pa_nil (he (X.tr pn xe))) (hb (X.tr pn xe)) (hfew (X.tr pn xe)) hline (he (X.tr pn xe)) (hpl (X.tr pn xe))) (hs (X.tr pn xe))) fun D σ H ⟨c, P, G, env, S, st, q⟩ => by
    have q0 : SPost c P H W (fun c' _ _ _ σ' H' fl => EndQ D c' P H' σ' fl) (match env[k]? with
      | some (.own xs) => eS (f env S) env fun d S1 => if xs.length < LN then .ok .nx (env.set k (.own (xs ++ [d]))) S1 else .stuck
      | _ => .stuck) := q
    cases ek : env[k]? with
    | none => rw [ek] at q0; exact q0.elim
    | some s =>
      rw [ek] at q0
      cases s with
      | no => exact q0.elim
      | ex n => exact q0.elim
      | val d => exact q0.elim
      | own xs =>
        obtain ⟨a, us, h1, h2, h3, h4, h5⟩ := st.fr.er.slots k _ ek
        have ea : σ[k]? = some (some (.ref a)) := by
          cases q : σ[k]? with
          | none => rw [q] at h1; cases h1
          | some w => rw [q] at h1; rw [show w = some (.ref a) from h1]
        refine ⟨.ref a, ea, .inl ⟨rfl, us, SqL.of h4⟩, ?_⟩
        refine sbind st q0 fun c1 S1 H1 d v x1 st1 r1 q1 => ?_
        obtain ⟨a', us', h1', h2', h3', h4', h5'⟩ := st1.fr.er.slots k _ ek
        rw [ea] at h1'
        cases h1'
        have hl := h5'.length
        by_cases hlen : xs.length < LN
        · rw [if_pos hlen] at q1
          obtain ⟨e2, f2⟩ := st1.fr.upd ek ea h4' (Reps.append h5' (show Reps c1 H1 [d] [v] from ⟨v, [], rfl, r1, rfl⟩))
          refine ⟨a, us', v, rfl, rfl, h4', by rw [hl, ← LN_eq]; exact hlen, ?_⟩
          have z := q1 c1 G _ _ e2 f2
          exact z
        · rw [if_neg hlen] at q1
          exact q1.elim⟩
/-- x[k] = e -/
theorem ss_put (k : Nat) {ix : Expr} {spos : Pos} (ha : SE X e f) (hb : SE X ix g) (hN : X.N[k]? = some x := by rfl) (hv : Vis X.env.scope x := by first | exact Or.inl rfl | exact Or.inr (Or.inl rfl) | exact Or.inr (Or.inr rfl)) (hd : (x == ("__debug__" : Str)) = false := by decide)
    (hcd : (x == ("__classdict__" : Str)) = false := by decide) (hs : ∀ X' : Cx, swapsWithSole [.Subscript (.Name x p) ix spos] e pos.line X'.env = pure false := by intro _; rfl) (hw : ∀ X' : Cx, swappedStores [.Subscript (.Name x p) ix spos] e X'.env = pure none := by intro _; rfl)
    (h1 : ∀ X' : Cx, (assignEach [.Subscript (.Name x p) ix spos] X'.env).map (·.2) = [assign (.Subscript (.Name x p) ix spos) X'.env] := by intro _; rfl)
    (h2 : ∀ (X' : Cx) v, assign (.Subscript (.Name x p) ix spos) X'.env v = (do
      let ov ← holding [v] (eval (.Name x p) X'.env)
      let iv ← holding [v, ov] (eval ix X'.env)
      standAt spos
      holding [v, ov, iv] (setItem ov iv v)
      release [v, ov, iv] []) := by intro _ _; rfl) :
    SS X (.Assign [.Subscript (.Name x p) ix spos] e pos) (sPut k g f) := ⟨fun pn xe W hp tk po =>
  wS (ps_asg (X := X.tr pn xe) (ha.run pn xe W hp tk) (pg_sub (X := X.tr pn xe) (pe_var (X := X.tr pn xe) hN hv hd hcd) (hb.run pn xe W hp tk) set_list (h2 (X.tr pn xe))) (hs (X.tr pn xe)) (hw (X.tr pn xe)) (h1 (X.tr pn xe))) fun D σ H ⟨c, P, G, env, S, st, q⟩ => by
    refine sbind st q fun c1 S1 H1 d v x1 st1 r1 q1 => ?_
    have q0 : SPost c1 P H1 W (fun c' _ _ _ σ' H' fl => EndQ D c' P H' σ' fl) (match env[k]? with
      | some (.own xs) => eS (g env S1) env fun x S2 => match x with
        | .int j => (match ixN xs.length j with
          | some n => .ok .nx (env.set k (.own (xs.set n d))) S2
          | none => .stuck)
        | _ => .stuck
      | _ => .stuck) := q1
    cases ek : env[k]? with
    | none => rw [ek] at q0; exact q0.elim
    | some s =>
      rw [ek] at q0
      cases s with
      | no => exact q0.elim
      | ex n => exact q0.elim
      | val d => exact q0.elim
      | own xs =>
        obtain ⟨a, us, h1, h2, h3, h4, h5⟩ := st1.fr.er.slots k _ ek
        have ea : σ[k]? = some (some (.ref a)) := by
          cases q : σ[k]? with
          | none => rw [q] at h1; cases h1
          | some w => rw [q] at h1; rw [show w = some (.ref a) from h1]
        refine ⟨.ref a, ea, ?_⟩
        have aG := st1.fr.own k xs a ek ea
        refine ⟨c1, G ++ P, env, S1, st1.sta, ?_⟩
        cases o : g env S1 with
        | stuck => rw [o] at q0; exact q0.elim
        | exc n S2 =>
          rw [o] at q0
          exact fun c2 H2 C e w m => q0 c2 G σ H2 C e.out (st1.fr.expr e w) m
        | ok z S2 =>
          rw [o] at q0
          intro c2 H2 iv e w ri
          have st2 := st1.expr e w
          have q2 := SPost.ext q0 e.out
          cases z with
          | int j =>
            have q3 : SPost c2 P H2 W (fun c' _ _ _ σ' H' fl => EndQ D c' P H' σ' fl) (match ixN xs.length j with
              | some n => .ok .nx (env.set k (.own (xs.set n d))) S2
              | none => .stuck) := q2
            cases en : ixN xs.length j with
            | none => rw [en] at q3; exact q3.elim
            | some n =>
              rw [en] at q3
              obtain ⟨a', us', h1', h2', h3', h4', h5'⟩ := st2.fr.er.slots k _ ek
              rw [ea] at h1'
              cases h1'
              have hl := h5'.length
              have rd : Rep c2 H2 d v := e.rep _ _ r1
              obtain ⟨e3, f3⟩ := st2.fr.upd ek ea h4' (Reps.set n rd h5')
              exact ⟨a, us', j, n, rfl, ri, h4', by rw [hl]; exact en, q3 c2 G _ _ e3 f3⟩
          | _ => exact q2.elim⟩
/-- a, (b, c) = e -/
theorem ss_tg {tgE : Expr} {tg : Tg} (ha : SE X e f) (hg : STg X tgE tg) (hs : ∀ X' : Cx, swapsWithSole [tgE] e pos.line X'.env = pure false := by intro _; rfl) (hw : ∀ X' : Cx, swappedStores [tgE] e X'.env = pure none := by intro _; rfl)
    (h1 : ∀ X' : Cx, (assignEach [tgE] X'.env).map (·.2) = [assign tgE X'.env] := by intro _; rfl) : SS X (.Assign [tgE] e pos) (sTg tg f) := ⟨fun pn xe W hp tk po =>
  wS (ps_asg (X := X.tr pn xe) (ha.run pn xe W hp tk) (hg.run pn xe) (hs (X.tr pn xe)) (hw (X.tr pn xe)) (h1 (X.tr pn xe))) fun D σ H ⟨c, P, G, env, S, st, q⟩ => by
    refine sbind st q fun c1 S1 H1 d v x1 st1 r1 q1 => ?_
    cases hp : tg.put d env with
    | none => rw [hp] at q1; exact q1.elim
    | some env' =>
      rw [hp] at q1
      exact ⟨c1, G ++ P, env, S1, d, env', st1.sta, r1, hp, fun σ' l o er => q1 c1 G σ' H1 Ext.refl (st1.fr.tgt hp o er)⟩⟩
/-- a, b = e1, e2 -/
theorem ss_par {i j : Nat} {a b : Expr} {px py pt : Pos} {kt k2 pt2} (hc : X.calm = true) (hN : X.N.Nodup) (ha : SA RepL X [a, b] F) (hi : X.N[i]? = some x := by rfl) (hj : X.N[j]? = some y := by rfl) (hij : i ≠ j := by decide)
    (hx : X.env.scope.names.lookup x = some .local := by rfl) (hy : X.env.scope.names.lookup y = some .local := by rfl)
    (hw : ∀ X' : Cx, X'.env = X.env → swappedStores [.Tuple [.Name x px, .Name y py] kt pt] (.Tuple [a, b] k2 pt2) X'.env = pure (some [x, y]))
    (hs : ∀ X' : Cx, swapsWithSole [.Tuple [.Name x px, .Name y py] kt pt] (.Tuple [a, b] k2 pt2) pos.line X'.env = pure false := by intro _; rfl) :
    SS X (.Assign [.Tuple [.Name x px, .Name y py] kt pt] (.Tuple [a, b] k2 pt2) pos) (sPar i j F) := ⟨fun pn xe W hp tk po =>
  wS (ps_par (X := X.tr pn xe) hc hN hi hj hij hx hy (ha.run pn xe W hp tk) (hw (X.tr pn xe) rfl) (hs (X.tr pn xe))) fun D σ H ⟨c, P, G, env, S, st, q⟩ => by
    refine sbind st q fun c1 S1 H1 ds vs x1 st1 r1 q1 => ?_
    match ds, r1, q1 with
    | [d1, d2], r1, q1 =>
      obtain ⟨v1, r, rfl, h1, v2, r', rfl, h2, h3⟩ := r1
      have e3 : r' = [] := h3
      subst e3
      exact ⟨v1, v2, rfl, q1 c1 G _ H1 Ext.refl ((st1.fr.put i h1).put j h2)⟩
    | [], r1, q1 => exact q1.elim
    | [_], r1, q1 => exact q1.elim
    | _ :: _ :: _ :: _, r1, q1 => exact q1.elim⟩
/-- x op= e -/
theorem ss_aug (k : Nat) {op : Operator} {od : D → D → Option D} {r : L2.R2} (ho : ∀ pn xe, OpR (X.tr pn xe) (inplaceOp op) r) (hS : OpS X.K RepV RepV od r) (hN : X.N.Nodup) (ha : SE X e f) (hi : X.N[k]? = some x := by rfl) (hx : Loc X.env.scope x := by first | exact Or.inl rfl | exact Or.inr rfl) (hf : X.fn x = true ∨ X.env.scope.names.lookup x = some .local := by first | exact .inl rfl | exact .inr rfl) :
    SS X (.AugAssign (.Name x pos') op e pos) (sAug k od f) := ⟨fun pn xe W hp tk po => wS (ps_aug (X := X.tr pn xe) (i := k) hN hi hx (ha.run pn xe W hp tk) (fun pins s σ H x y v u Q I r1 r2 q => ho pn xe pins s σ H x y v u Q I r1 r2 q) hf) fun D σ H ⟨c, P, G, env, S, st, q⟩ => by
  have q0 : SPost c P H W (fun c' _ _ _ σ' H' fl => EndQ D c' P H' σ' fl) (match (env[k]?).bind slotV with
    | none => .stuck
    | some x => eS (f env S) env fun y S1 => match od x y with
      | some z => .ok .nx (env.set k (.val z)) S1
      | none => .stuck) := q
  cases e : (env[k]?).bind slotV with
  | none => rw [e] at q0; exact q0.elim
  | some x0 =>
    rw [e] at q0
    obtain ⟨v, e1, r0⟩ := slot_val st.fr.er e
    refine ⟨v, e1, ?_⟩
    refine sbind st q0 fun c1 S1 H1 d w x1 st1 r1 q1 => ?_
    obtain ⟨v', e1', r0'⟩ := slot_val st1.fr.er e
    rw [e1] at e1'
    cases e1'
    cases ez : od x0 d with
    | none => rw [ez] at q1; exact q1.elim
    | some z =>
      rw [ez] at q1
      exact hS (xm X) c1 (G ++ P) env S1 σ H1 W _ x0 d v w z st1.sta r0' r1 ez fun c2 H2 v2 e2 w2 r2 => q1 c2 G _ H2 e2.out ((st1.fr.expr e2 w2).put k r2)⟩
theorem iop_mulW {X : Cx} : OpR X (inplaceOp .Mult) (rI CMulX fun i j => .int (i * j)) := opI fun _ _ _ _ _ _ _ hc q => imul_int q hc.ok
theorem addIS : OpS X.K RepV RepV (fun x y => match x, y with | .int i, .int j => some (.int (i + j)) | _, _ => none) (rI0 fun i j => .int (i + j)) := by
  intro mg c P env S σ H W Q x y v w z st rx ry e q
  cases x with
  | int i =>
    cases y with
    | int j =>
      cases e
      exact ⟨i, j, rx, ry, q.here st rfl⟩
    | _ => cases e
  | _ => cases e
theorem ss_augAdd (k : Nat) (hN : X.N.Nodup) (ha : SE X e f) (hi : X.N[k]? = some x := by rfl) (hx : Loc X.env.scope x := by first | exact Or.inl rfl | exact Or.inr rfl) (hf : X.fn x = true ∨ X.env.scope.names.lookup x = some .local := by first | exact .inl rfl | exact .inr rfl) : SS X (.AugAssign (.Name x pos') .Add e pos) (sAug k addI f) := ss_aug k (fun _ _ => iop_add) addIS hN ha hi hx hf
theorem ss_augMul (k : Nat) (hN : X.N.Nodup) (ha : SE X e f) (hi : X.N[k]? = some x := by rfl) (hx : Loc X.env.scope x := by first | exact Or.inl rfl | exact Or.inr rfl) (hf : X.fn x = true ∨ X.env.scope.names.lookup x = some .local := by first | exact .inl rfl | exact .inr rfl) : SS X (.AugAssign (.Name x pos') .Mult e pos) (sAug k mulI f) := ss_aug k (fun _ _ => iop_mulW) mulS hN ha hi hx hf
/-! ### loops -/
theorem ss_for {tgE iter : Expr} {tg : Tg} {body : List Stmt} (hc : X.calm = true) (hi : SI RepI X tgE iter F) (hg : STg X tgE tg) (hb : SSs X body s1) (hs : ∀ (X' : Cx) x, foldedSetIterable iter X'.env x = pure x := by intro _ _; rfl) : SS X (.For tgE iter body [] pos) (sFor tg F s1) := ⟨fun pn xe W hp tk po =>
  wS (ps_for (X := X.tr pn xe) po hc (hi.run pn xe W hp tk) (hg.run pn xe) (hb.run pn xe W hp tk po) (hs (X.tr pn xe))) fun D σ H ⟨c, P, G, env, S, st, q⟩ => by
    refine sbind st q fun c1 S1 H1 ds J x1 st1 hJ q1 => ?_
    refine ⟨fun i m σ2 H2 => m = ds.length - i ∧ i ≤ ds.length ∧ ∃ c2 G2 env2 S2, Ext c1 P H1 c2 H2 ∧ StS X.K (xm X) c2 P G2 env2 S2 σ2 H2 ∧ SPost c2 P H2 W (fun c' _ _ _ σ' H' fl => EndQ D c' P H' σ' fl) (forGo tg s1 (ds.drop i) env2 S2), ⟨ds.length, by simp, Nat.zero_le _, c1, G, env, S1, Ext.refl, st1, q1⟩, ?_⟩
    rintro i m σ2 H2 ⟨rfl, hi, c2, G2, env2, S2, e2, st2, q2⟩
    obtain ⟨go, stop⟩ := hJ c2 H2 (e2.mono fun _ h => nomatch h)
    by_cases hlt : i < ds.length
    · obtain ⟨g1, g2⟩ := go i hlt
      refine .inr ⟨g1, fun σ3 H3 => ds.length - (i + 1) = ds.length - (i + 1) ∧ i + 1 ≤ ds.length ∧ ∃ c2 G2 env2 S2, Ext c1 P H1 c2 H3 ∧ StS X.K (xm X) c2 P G2 env2 S2 σ3 H3 ∧ SPost c2 P H3 W (fun c' _ _ _ σ' H' fl => EndQ D c' P H' σ' fl) (forGo tg s1 (ds.drop (i + 1)) env2 S2), fun σ3 H3 hN => ⟨ds.length - (i + 1), by omega, hN⟩, fun x H3 hy => ?_⟩
      obtain ⟨grow, d, hd, rd⟩ := g2 x H3 hy
      have hdrop : ds.drop i = d :: ds.drop (i + 1) := by
        rw [List.drop_eq_getElem_cons hlt]
        rw [List.getElem?_eq_getElem hlt] at hd
        rw [Option.some.inj hd]
      rw [hdrop, forGo] at q2
      have e3 : Ext c2 (G2 ++ P) H2 c2 H3 := ext_grow grow
      have st3 := st2.expr e3 (st2.fr.er.w.grow grow)
      have q3 := SPost.ext q2 e3.out
      cases hp : tg.put d env2 with
      | none => rw [hp] at q3; exact q3.elim
      | some env3 =>
        rw [hp] at q3
        dsimp only at q3
        refine ⟨c2, G2 ++ P, env2, S2, d, env3, st3.sta, rd, hp, fun σ4 l o er => ?_⟩
        have f4 := st3.fr.tgt hp o er
        refine ⟨c2, P, G2, env3, S2, ⟨st3.K, st3.mg, f4⟩, ?_⟩
        have e13 := e2.trans e3.out
        cases ob : s1 env3 S2 with
        | stuck => rw [ob] at q3; exact q3.elim
        | exc n env4 S4 => rw [ob] at q3; exact q3
        | ok fl env4 S4 =>
          rw [ob] at q3
          cases fl with
          | nx => exact fun c4 G4 σ4 H4 e4 f => ⟨rfl, hlt, c4, G4, env4, S4, e13.trans e4, ⟨e4.K.trans st3.K, e4.mg.trans st3.mg, f⟩, SPost.ext q3 e4⟩
          | ct => exact fun c4 G4 σ4 H4 e4 f => ⟨rfl, hlt, c4, G4, env4, S4, e13.trans e4, ⟨e4.K.trans st3.K, e4.mg.trans st3.mg, f⟩, SPost.ext q3 e4⟩
          | bk => exact fun c4 G4 σ4 H4 e4 f => q3 c4 G4 σ4 H4 e4 f
          | rt d => exact fun c4 G4 σ4 H4 e4 f => q3 c4 G4 σ4 H4 e4 f
    · have ei : i = ds.length := by omega
      subst ei
      rw [List.drop_length] at q2
      exact .inl ⟨stop, SPost.here st2.fr q2⟩⟩
theorem whGo_of {t : EM Bool} {b : SM} {env : Env} {S : Store} {o : SO} (h : sWhile t b env S = o) (ho : o ≠ .stuck) : ∃ n, whGo t b n env S = o := by
  unfold sWhile at h
  split at h
  · exact ⟨_, h⟩
  · exact absurd h.symm ho
theorem ss_while {test : Expr} {body : List Stmt} (hc : ST X test t) (hb : SSs X body s1) : SS X (.While test body [] pos) (sWhile t s1) := ⟨fun pn xe W hp tk po =>
  wS (ps_while (X := X.tr pn xe) po (hc.run pn xe W hp tk) (hb.run pn xe W hp tk po)) fun D σ H ⟨c, P, G, env, S, st, q⟩ => by
    have hne : sWhile t s1 env S ≠ .stuck := fun z => by rw [z] at q; exact q
    obtain ⟨n, hn⟩ := whGo_of rfl hne
    rw [← hn] at q
    refine ⟨fun m σ2 H2 => ∃ c2 G2 env2 S2, Ext c P H c2 H2 ∧ StS X.K (xm X) c2 P G2 env2 S2 σ2 H2 ∧ SPost c2 P H2 W (fun c' _ _ _ σ' H' fl => EndQ D c' P H' σ' fl) (whGo t s1 m env2 S2), ⟨n, c, G, env, S, Ext.refl, st, q⟩, ?_⟩
    rintro m σ2 H2 ⟨c2, G2, env2, S2, e2, st2, q2⟩
    cases m with
    | zero => exact q2.elim
    | succ m =>
      rw [whGo] at q2
      refine sbind st2 q2 fun c3 S3 H3 k k' x3 st3 r3 q3 => ?_
      have e : k' = k := r3
      subst e
      have e23 := e2.trans x3
      cases k' with
      | false => exact iteF (SPost.here st3.fr q3)
      | true =>
        rw [if_pos rfl] at q3
        refine iteT ⟨fun σ4 H4 => ∃ c2 G2 env2 S2, Ext c P H c2 H4 ∧ StS X.K (xm X) c2 P G2 env2 S2 σ4 H4 ∧ SPost c2 P H4 W (fun c' _ _ _ σ' H' fl => EndQ D c' P H' σ' fl) (whGo t s1 m env2 S2), fun σ4 H4 hN => ⟨m, Nat.lt_succ_self _, hN⟩, ?_⟩
        refine ⟨c3, P, G2, env2, S3, st3, ?_⟩
        cases ob : s1 env2 S3 with
        | stuck => rw [ob] at q3; exact q3.elim
        | exc n env4 S4 => rw [ob] at q3; exact q3
        | ok fl env4 S4 =>
          rw [ob] at q3
          cases fl with
          | nx => exact fun c4 G4 σ4 H4 e4 f => ⟨c4, G4, env4, S4, e23.trans e4, ⟨e4.K.trans st3.K, e4.mg.trans st3.mg, f⟩, SPost.ext q3 e4⟩
          | ct => exact fun c4 G4 σ4 H4 e4 f => ⟨c4, G4, env4, S4, e23.trans e4, ⟨e4.K.trans st3.K, e4.mg.trans st3.mg, f⟩, SPost.ext q3 e4⟩
          | bk => exact fun c4 G4 σ4 H4 e4 f => q3 c4 G4 σ4 H4 e4 f
          | rt d => exact fun c4 G4 σ4 H4 e4 f => q3 c4 G4 σ4 H4 e4 f⟩
end
end Kb

set_option Elab.async false
set_option linter.all false
set_option maxRecDepth 100000
/-! Kb8: calls of defs, defs, raise, try. -/
namespace Kb
open PySem PySem.Spec PyProof.Rows L2 RZ
/-- what a def does, as a promise -/
def spF (K : PySem.W.Frag) (mg : Str → Option Value) (F : List D → M D) : Sp := fun vs H Q E => ∃ c P S ds, c.K = K ∧ c.mg = (mg, 0) ∧ WOk c P S H ∧ Reps c H ds vs ∧ GPost c P H (fun cls d _ H' => E cls d H') [] RepV Q (F ds S)
/-- the def at f does F -/
abbrev FnS (P : Program) (w : World) (K : PySem.W.Frag) (mg : Str → Option Value) (base : Heap) (k : Nat) (f : Addr) (fd : FuncData) (ps : List Str) (F : List D → M D) : Prop := FnOk P w K mg base (L2.CX P w) k f fd ps (spF K mg F)
section
variable {X : Cx} {a b e o i : Expr} {es rest : List Expr} {f g h : EM D} {t : EM Bool} {pos p pos' : Pos} {x y : Str} {F : EM (List D)} {s1 s2 : SM} {st : Stmt} {sts sts2 : List Stmt}
theorem xm_room {k : Nat} (hr : Room k X.A) : xm X = (X.mg, 0) := by
  unfold xm xaOf
  rw [hr.hd]
theorem se_call {k : Nat} {fa : Addr} {fd : FuncData} {ps : List Str} {R : List D → M D} (G : FnS X.prog X.w X.K X.mg X.base k fa fd ps R) (hr : Room k X.A) (hg : Gl X x) (hm : X.mg x = some (.ref fa)) (hk : PySem.W.keepIn X.K (.ref fa) = true) (hb : Binds X.K fd ps [])
    (ha : SA RepL X (e :: es) F) (hdb : (x == ("__debug__" : Str)) = false := by decide) (he : ∀ X' : Cx, starEach (e :: es) X'.env = (false, eval e X'.env) :: starEach es X'.env := by intro _; rfl) (hpl : ∀ X' : Cx, (backTo pos (starEach es X'.env)).any (·.1) = false := by intro _; rfl) :
    SE X (.Call (.Name x p) (e :: es) [] pos) (eF R F) := ⟨fun pn xe W hp tk => wE (pe_callS (X := X.tr pn xe) G hr hg hm hk hb (fun σ => passAt tk σ) (ha.run pn xe W hp tk) hdb (he (X.tr pn xe)) (hpl (X.tr pn xe))) fun σ H Q ⟨c, P, env, S, st, q⟩ => by
  refine gbind st q fun c1 S1 H1 ds vs x1 st1 r1 q1 => ?_
  refine ⟨c1, P, S1, ds, st1.K, by rw [st1.mg, xm_room hr], st1.er.w, r1, ?_⟩
  cases o : R ds S1 with
  | ok d S2 => rw [o] at q1; exact q1
  | exc n S2 => rw [o] at q1; exact q1
  | stuck => rw [o] at q1; exact q1⟩
/-- nothing is promised of a call without arguments that raises -/
theorem se_call0 {k : Nat} {fa : Addr} {fd : FuncData} {R : List D → M D} (G : FnS X.prog X.w X.K X.mg X.base k fa fd [] R) (hr : Room k X.A) (hg : Gl X x) (hm : X.mg x = some (.ref fa)) (hk : PySem.W.keepIn X.K (.ref fa) = true) (hb : Binds X.K fd [] [])
    (hdb : (x == ("__debug__" : Str)) = false := by decide) : SE X (.Call (.Name x p) [] [] pos) (fun env S => calm0 (R [] S)) := ⟨fun pn xe W hp tk => wE (pe_call0 (X := X.tr pn xe) (E := E0) G hr hg hm hk hb .nil passL hdb) fun σ H Q ⟨c, P, env, S, st, q⟩ => by
  refine ⟨c, P, S, [], st.K, by rw [st.mg, xm_room hr], st.er.w, rfl, ?_⟩
  have q' : GPost c P H W σ RepV Q (calm0 (R [] S)) := q
  cases o : R [] S with
  | ok d S2 => rw [o] at q'; exact q'
  | exc n S2 => rw [o] at q'; exact q'.elim
  | stuck => rw [o] at q'; exact q'⟩
/-! ### raise X('..') -/
structure ExcF (K : PySem.W.Frag) (mg : Str → Option Value) (n : String) (C : Addr) : Prop where
  g : mg (Str.ofString n) = some (.ref C)
  x : PySem.W.excIn K C [.type "ValueError", .type "Exception", .type "BaseException", .type "object"] "ValueError.__new__" = true
  k : PySem.W.keepIn K (.ref C) = true
  s : PySem.W.subIn K (.ref C) (.type "BaseException") = some true
  t : PySem.W.typeIn K (.ref C) = some (.type "type")
theorem ss_raise {n : String} {C : Addr} {m : Str} {j : Nat} {p2 p3 : Pos} (E : ExcF X.K X.mg n C) (hc : X.calm = true) (hg : Gl X (Str.ofString n)) (hdb : (Str.ofString n == ("__debug__" : Str)) = false := by decide) :
    SS X (.Raise (some (.Call (.Name (Str.ofString n) p) [.Constant (.str m) j p2] [] p3)) none pos) (sRaise n) := ⟨fun pn xe W hp tk po =>
  wS (ps_raise (X := X.tr pn xe) hc tk (pmk_own (X := X.tr pn xe) PySem.F.excBase_ValueError E.x E.g E.k (raises_own (X := X.tr pn xe) E.s E.t) hg hdb)) fun D σ H ⟨c, P, G, env, S, st, q⟩ => by
    exact q c G σ H C Ext.refl st.fr (by rw [st.mg]; exact E.g)⟩
/-! ### try -/
theorem lookup_ex {env : Env} (h : env.all notEx = true) {i : Nat} {n : String} : env[i]? ≠ some (.ex n) := fun e => by
  have z := List.all_eq_true.mp h _ (List.mem_of_getElem? e)
  cases z
section
variable {c : Cc} {P G : List Addr} {env : Env} {S : Store} {σ : L2.St} {H : Hp} {m : Addr}
abbrev Cc.at_ (c : Cc) (m : Addr) : Cc := ⟨c.K, (c.mg.1, m), c.lv, c.ca, c.cm⟩
mutual
theorem Rep.at_ : ∀ (d : D) (v : V), Rep c H d v → Rep (c.at_ m) H d v
  | .non, v, h => h
  | .bl b, v, h => h
  | .int i, v, h => h
  | .str x, v, h => h
  | .tup ds, v, h => by
    obtain ⟨a, vs, rfl, h1, h2⟩ := h
    exact ⟨a, vs, rfl, h1, Reps.at_ ds vs h2⟩
  | .lst ds, v, h => by
    obtain ⟨a, vs, rfl, h1, h2⟩ := h
    exact ⟨a, vs, rfl, h1, Reps.at_ ds vs h2⟩
  | .cell n, v, h => h
  | .glo x, v, h => h
  | .scr ds, v, h => by
    obtain ⟨a, vs, rfl, h1, h2⟩ := h
    exact ⟨a, vs, rfl, h1, Reps.at_ ds vs h2⟩
theorem Reps.at_ : ∀ (ds : List D) (vs : List V), Reps c H ds vs → Reps (c.at_ m) H ds vs
  | [], vs, h => h
  | d :: ds, vs, h => by
    obtain ⟨v, r, rfl, h1, h2⟩ := h
    exact ⟨v, r, rfl, Rep.at_ d v h1, Reps.at_ ds r h2⟩
end
theorem WOk.at_ (w : WOk c P S H) : WOk (c.at_ m) P S H := ⟨w.lv, w.disj, w.nd, w.there, w.len, fun n ds a e1 e2 => by
  obtain ⟨vs, z, r⟩ := w.cells n ds a e1 e2
  exact ⟨vs, z, Reps.at_ _ _ r⟩⟩
theorem Fr'.at_ (f : Fr' c P G env S σ H) (h : env.all notEx = true) : Fr' (c.at_ m) P G env S σ H := ⟨⟨f.er.len, f.er.w.at_, fun i s e => by
  have z := f.er.slots i s e
  cases s with
  | no => trivial
  | ex n => exact absurd e (lookup_ex h)
  | val d =>
    obtain ⟨v, e1, r⟩ := z
    exact ⟨v, e1, Rep.at_ _ _ r⟩
  | own xs =>
    obtain ⟨a, vs, h1, h2, h3, h4, h5⟩ := z
    exact ⟨a, vs, h1, h2, h3, h4, Reps.at_ _ _ h5⟩⟩, f.own, f.inj, f.gp⟩
/-- a slot gets the exception -/
theorem Fr'.setEx (f : Fr' c P G env S σ H) (i : Nat) (n : String) : Fr' c P G (env.set i (.ex n)) S (σ.set i (some (.ref c.mg.2))) H := by
  have ho : ∀ (j : Nat) xs, (env.set i (.ex n))[j]? = some (.own xs) → j ≠ i ∧ env[j]? = some (.own xs) := fun j xs e => by
    by_cases hj : j = i
    · subst hj
      have hl : j < env.length := by
        have := (List.getElem?_eq_some_iff.mp e).1
        simpa using this
      rw [List.getElem?_set_self hl] at e
      cases e
    · rw [List.getElem?_set_ne (Ne.symm hj)] at e
      exact ⟨hj, e⟩
  refine ⟨⟨by simp [f.er.len], f.er.w, fun j s e => ?_⟩, fun j xs a e1 e2 => ?_, fun j k xs ys a e1 e2 e3 e4 => ?_, f.gp⟩
  · by_cases hj : j = i
    · subst hj
      have hl : j < env.length := by
        have := (List.getElem?_eq_some_iff.mp e).1
        simpa using this
      rw [List.getElem?_set_self hl] at e
      cases e
      rw [List.getElem?_set_self (by rw [← f.er.len]; exact hl)]
      rfl
    · rw [List.getElem?_set_ne (Ne.symm hj)] at e
      rw [List.getElem?_set_ne (Ne.symm hj)]
      exact f.er.slots j s e
  · obtain ⟨hj, e⟩ := ho j xs e1
    rw [List.getElem?_set_ne (Ne.symm hj)] at e2
    exact f.own j xs a e e2
  · obtain ⟨hj, e⟩ := ho j xs e1
    obtain ⟨hk, e'⟩ := ho k ys e2
    rw [List.getElem?_set_ne (Ne.symm hj)] at e3
    rw [List.getElem?_set_ne (Ne.symm hk)] at e4
    exact f.inj j k xs ys a e e' e3 e4
/-- a slot is let go -/
theorem Fr'.setNo (f : Fr' c P G env S σ H) (i : Nat) : Fr' c P G (env.set i .no) S (σ.set i none) H := by
  have ho : ∀ (j : Nat) xs, (env.set i .no)[j]? = some (.own xs) → j ≠ i ∧ env[j]? = some (.own xs) := fun j xs e => by
    by_cases hj : j = i
    · subst hj
      have hl : j < env.length := by
        have := (List.getElem?_eq_some_iff.mp e).1
        simpa using this
      rw [List.getElem?_set_self hl] at e
      cases e
    · rw [List.getElem?_set_ne (Ne.symm hj)] at e
      exact ⟨hj, e⟩
  refine ⟨⟨by simp [f.er.len], f.er.w, fun j s e => ?_⟩, fun j xs a e1 e2 => ?_, fun j k xs ys a e1 e2 e3 e4 => ?_, f.gp⟩
  · by_cases hj : j = i
    · subst hj
      have hl : j < env.length := by
        have := (List.getElem?_eq_some_iff.mp e).1
        simpa using this
      rw [List.getElem?_set_self hl] at e
      cases e
      trivial
    · rw [List.getElem?_set_ne (Ne.symm hj)] at e
      rw [List.getElem?_set_ne (Ne.symm hj)]
      exact f.er.slots j s e
  · obtain ⟨hj, e⟩ := ho j xs e1
    rw [List.getElem?_set_ne (Ne.symm hj)] at e2
    exact f.own j xs a e e2
  · obtain ⟨hj, e⟩ := ho j xs e1
    obtain ⟨hk, e'⟩ := ho k ys e2
    rw [List.getElem?_set_ne (Ne.symm hj)] at e3
    rw [List.getElem?_set_ne (Ne.symm hk)] at e4
    exact f.inj j k xs ys a e e' e3 e4
theorem Ext.at_ {c' c2 : Cc} {H' H2 : Hp} (e : Ext c P H c' H') (e2 : Ext (c'.at_ m) P H' c2 H2) : Ext c P H ⟨c2.K, c'.mg, c2.lv, c2.ca, c2.cm⟩ H2 := by
  have z : Ext c' P H' ⟨c2.K, c'.mg, c2.lv, c2.ca, c2.cm⟩ H2 := ⟨e2.K, rfl, e2.cm, e2.lv, e2.there, e2.keep⟩
  exact e.trans z
theorem back {c2 : Cc} {mg : MG} (h : c2.mg.1 = mg.1) : (⟨c2.K, mg, c2.lv, c2.ca, c2.cm⟩ : Cc) = c2.at_ mg.2 := by
  obtain ⟨m1, m2⟩ := mg
  have h' : c2.mg.1 = m1 := h
  subst h'
  rfl
end
/-- the suites of an except clause: one for each class that it takes -/
def tEx (K : PySem.W.Frag) (mg : Str → Option Value) (cs : List (String × Bool)) (h : String → SM) (a : Addr) (cls : Value) (d : Option Addr) : TS := fun D σ H => ∃ n C, cls = .ref C ∧ d = none ∧ cs.lookup n = some true ∧ mg (Str.ofString n) = some (.ref C) ∧ tS K (mg, a) (h n) W0 D σ H
theorem suite_of {body : List Stmt} {cs : List (String × Bool)} {hh : String → SM}
    (hsu : ∀ n C, cs.lookup n = some true → X.mg (Str.ofString n) = some (.ref C) → ∀ (a : Addr) (oe : Obj) (pn : List (Addr × Obj)), Zc (.ref C) none oe → (∃ vs, oe.data = .fields vs) → SSs (X.suite a ((a, oe) :: pn)) body (hh n))
    (a : Addr) (oe : Obj) (cls : Value) (d : Option Addr) (pn : List (Addr × Obj)) (hz : Zc cls d oe) (hf : ∃ vs, oe.data = .fields vs) : PSs (X.suite a ((a, oe) :: pn)) body (tEx X.K X.mg cs hh a cls d) := ⟨fun pins s σ H D I ⟨n, C, e1, e2, e3, e4, q⟩ => by
  subst e1
  subst e2
  exact ((hsu n C e3 e4 a oe pn hz hf).run ((a, oe) :: pn) (fun _ _ => False) W0 (fun _ z => z) takes0 PassesOwn.never).run pins s σ H D I q⟩
theorem ss_try {b₀ : Stmt} {suite body : List Stmt} {np pos2 : Pos} {cv : Value} {cs : List (String × Bool)} {hh : String → SM} (hs : X.stack = X.env :: X.outer) (hf : X.env.frame = some X.env.locals) (hpn : X.pn = []) (hc : Names X x cv) (hh0 : X.A.handled = none)
    (hex : ∀ n b, cs.lookup n = some b → ∀ C, X.mg (Str.ofString n) = some (.ref C) → PySem.W.exmOne X.K (.ref C) cv = some b)
    (hb : SSs X body s1)
    (hsu : ∀ n C, cs.lookup n = some true → X.mg (Str.ofString n) = some (.ref C) → ∀ (a : Addr) (oe : Obj) (pn : List (Addr × Obj)), Zc (.ref C) none oe → (∃ vs, oe.data = .fields vs) → SSs (X.suite a ((a, oe) :: pn)) (b₀ :: suite) (hh n)) :
    SS X (.Try body [.ExceptHandler (some (.Name x np)) none (b₀ :: suite) pos2] [] [] pos) (sTry s1 cs hh) := ⟨fun pn xe W hp tk po =>
  wS (ps_try_only (X := X.tr pn xe) (tb := fun W => tS X.K (xm X) s1 W) (ts := tEx X.K X.mg cs hh) hs hf hc tk (fun W pn2 xe2 tk2 po2 => hb.run pn2 xe2 W (by rw [hpn]; exact fun _ z => nomatch z) tk2 po2)
    (fun a oe cls d pn2 hz hfl => suite_of hsu a oe cls d pn2 hz hfl)) fun D σ H ⟨c, P, G, env, S, st, q⟩ => by
    have hm : c.mg.1 = X.mg := congrArg Prod.fst st.mg
    refine ⟨c, P, G, env, S, st, ?_⟩
    have q0 : SPost c P H W (fun c' _ _ _ σ' H' fl => EndQ D c' P H' σ' fl) (sTry s1 cs hh env S) := q
    unfold sTry at q0
    cases o : s1 env S with
    | ok fl e1 S1 => rw [o] at q0; exact q0
    | stuck => rw [o] at q0; exact q0
    | exc n e1 S1 =>
      rw [o] at q0
      dsimp only at q0
      intro c1 G1 σ1 H1 C x1 f1 hC
      cases hl : cs.lookup n with
      | none => rw [hl] at q0; exact q0.elim
      | some b =>
        rw [hl] at q0
        refine ⟨b, hex n b hl C (by rw [← hm]; exact hC), fun hb => ?_, fun hb => ?_⟩
        · subst hb
          dsimp only at q0
          by_cases hne : e1.all notEx = true
          · rw [if_pos hne] at q0
            intro a na
            refine ⟨n, C, rfl, rfl, hl, by rw [← hm]; exact hC, c1.at_ a, P, G1, e1, S1, ⟨x1.K.trans st.K, ?_, f1.at_ hne⟩, ?_⟩
            · show (c1.mg.1, a) = (X.mg, a)
              rw [x1.mg, hm]
            · cases oh : hh n e1 S1 with
              | stuck => rw [oh] at q0; exact q0
              | exc m e2 S2 => rw [oh] at q0; exact q0.elim
              | ok fl e2 S2 =>
                rw [oh] at q0
                dsimp only at q0
                by_cases hne2 : e2.all notEx = true
                · rw [if_pos hne2] at q0
                  intro c2 G2 σ2 H2 x2 f2
                  have hm2 : c2.mg.1 = c1.mg.1 := by rw [x2.mg]
                  have z := q0 ⟨c2.K, c1.mg, c2.lv, c2.ca, c2.cm⟩ G2 σ2 H2 (Ext.at_ x1 x2) (by rw [back hm2]; exact f2.at_ hne2)
                  cases fl with
                  | nx => exact z
                  | bk => exact z
                  | ct => exact z
                  | rt d => exact fun v r => z v (by rw [back hm2]; exact Rep.at_ d v r)
                · rw [if_neg hne2] at q0
                  exact q0.elim
          · rw [if_neg hne] at q0
            exact q0.elim
        · subst hb
          exact q0 c1 G1 σ1 H1 C x1 f1 hC⟩
theorem ss_tryAs (i : Nat) {n₀ : Str} {b₀ : Stmt} {suite body : List Stmt} {np pos2 : Pos} {cv : Value} {cs : List (String × Bool)} {hh : String → SM} (hs : X.stack = X.env :: X.outer) (hf : X.env.frame = some X.env.locals) (hpn : X.pn = []) (hN : X.N.Nodup) (hc : Names X x cv) (hh0 : X.A.handled = none)
    (hex : ∀ n b, cs.lookup n = some b → ∀ C, X.mg (Str.ofString n) = some (.ref C) → PySem.W.exmOne X.K (.ref C) cv = some b)
    (hb : SSs X body s1)
    (hsu : ∀ n C, cs.lookup n = some true → X.mg (Str.ofString n) = some (.ref C) → ∀ (a : Addr) (oe : Obj) (pn : List (Addr × Obj)), Zc (.ref C) none oe → (∃ vs, oe.data = .fields vs) → SSs (X.suite a ((a, oe) :: pn)) (b₀ :: suite) (hh n))
    (hi : X.N[i]? = some n₀ := by rfl) (hln : X.env.kindOf n₀ = some .local := by rfl) :
    SS X (.Try body [.ExceptHandler (some (.Name x np)) (some n₀) (b₀ :: suite) pos2] [] [] pos) (sTryAs i s1 cs hh) := ⟨fun pn xe W hp tk po =>
  wS (ps_try_as (X := X.tr pn xe) (i := i) (tb := fun W => tS X.K (xm X) s1 W) (ts := tEx X.K X.mg cs hh) hs hf hN hi hln hc tk (fun W pn2 xe2 tk2 po2 => hb.run pn2 xe2 W (by rw [hpn]; exact fun _ z => nomatch z) tk2 po2)
    (fun a oe cls d pn2 hz hfl => suite_of hsu a oe cls d pn2 hz hfl)) fun D σ H ⟨c, P, G, env, S, st, q⟩ => by
    have hm : c.mg.1 = X.mg := congrArg Prod.fst st.mg
    refine ⟨c, P, G, env, S, st, ?_⟩
    have q0 : SPost c P H W (fun c' _ _ _ σ' H' fl => EndQ D c' P H' σ' fl) (sTryAs i s1 cs hh env S) := q
    unfold sTryAs at q0
    cases o : s1 env S with
    | ok fl e1 S1 => rw [o] at q0; exact q0
    | stuck => rw [o] at q0; exact q0
    | exc n e1 S1 =>
      rw [o] at q0
      dsimp only at q0
      intro c1 G1 σ1 H1 C x1 f1 hC
      cases hl : cs.lookup n with
      | none => rw [hl] at q0; exact q0.elim
      | some b =>
        rw [hl] at q0
        refine ⟨b, hex n b hl C (by rw [← hm]; exact hC), fun hb => ?_, fun hb => ?_⟩
        · subst hb
          dsimp only at q0
          by_cases hne : e1.all notEx = true
          · rw [if_pos hne] at q0
            intro a na
            refine ⟨n, C, rfl, rfl, hl, by rw [← hm]; exact hC, c1.at_ a, P, G1, e1.set i (.ex n), S1, ⟨x1.K.trans st.K, ?_, (f1.at_ (m := a) hne).setEx i n⟩, ?_⟩
            · show (c1.mg.1, a) = (X.mg, a)
              rw [x1.mg, hm]
            · cases oh : hh n (e1.set i (.ex n)) S1 with
              | stuck => rw [oh] at q0; exact q0
              | exc m e2 S2 => rw [oh] at q0; exact q0.elim
              | ok fl e2 S2 =>
                rw [oh] at q0
                dsimp only at q0
                by_cases hne2 : (e2.set i .no).all notEx = true
                · rw [if_pos hne2] at q0
                  intro c2 G2 σ2 H2 x2 f2
                  have hm2 : c2.mg.1 = c1.mg.1 := by rw [x2.mg]
                  have z := q0 ⟨c2.K, c1.mg, c2.lv, c2.ca, c2.cm⟩ G2 (σ2.set i none) H2 (Ext.at_ x1 x2) (by rw [back hm2]; exact (f2.setNo i).at_ hne2)
                  cases fl with
                  | nx => exact z
                  | bk => exact z
                  | ct => exact z
                  | rt d => exact fun v r => z v (by rw [back hm2]; exact Rep.at_ d v r)
                · rw [if_neg hne2] at q0
                  exact q0.elim
          · rw [if_neg hne] at q0
            exact q0.elim
        · subst hb
          exact q0 c1 G1 σ1 H1 C x1 f1 hC⟩
end
end Kb

set_option Elab.async false
set_option linter.all false
set_option maxRecDepth 100000
/-! Kb9: defs; names of the module; isinstance; name = [..]. -/
namespace Kb
open PySem PySem.Spec PyProof.Rows L2 RZ
section
variable {P : Program} {w : World} {K : PySem.W.Frag} {mg : Str → Option Value} {base : Heap} {k : Nat} {f : Addr} {fd : FuncData} {N ps : List Str} {x qual : Str} {params : Arguments} {body : List Stmt} {scope : Scope} {g : SM}
theorem GPost.ne {c : Cc} {P : List Addr} {H : Hp} {W : WX} {σ : L2.St} {Q : VK} {n k : Nat} {ds : List D} {S : Store} (h : GPost c P H W σ RepV Q (fnD n k g ds S)) : ds.length = n := by
  by_cases e : ds.length = n
  · exact e
  · unfold fnD at h
    rw [if_neg e] at h
    exact h.elim
theorem slots_start {c : Cc} {P : List Addr} {H : Hp} : ∀ {ds : List D} {vs : List V} (m : Nat), Reps c H ds vs → ∀ (i : Nat) s, (ds.map Slot.val ++ List.replicate m .no)[i]? = some s → SlotOk c P H s (((vs.map some ++ List.replicate m (none : Option V))[i]?).getD none)
  | [], vs, m, r, i, s, e => by
    have e' : (List.replicate m Slot.no)[i]? = some s := e
    have z := List.mem_of_getElem? e'
    rw [List.eq_of_mem_replicate z]
    trivial
  | d :: ds, vs, m, r, 0, s, e => by
    obtain ⟨v, r, rfl, h1, h2⟩ := r
    have e' : some (Slot.val d) = some s := e
    cases e'
    exact ⟨v, rfl, h1⟩
  | d :: ds, vs, m, r, i + 1, s, e => by
    obtain ⟨v, r, rfl, h1, h2⟩ := r
    exact slots_start m h2 i s e
theorem not_own {ds : List D} {m i : Nat} {xs : List D} (e : (ds.map Slot.val ++ List.replicate m .no)[i]? = some (.own xs)) : False := by
  have z := List.mem_of_getElem? e
  rcases List.mem_append.mp z with z | z
  · obtain ⟨d, _, q⟩ := List.mem_map.mp z
    cases q
  · have q := List.eq_of_mem_replicate z
    cases q
theorem WOk.lessG {c : Cc} {P G : List Addr} {S : Store} {H : Hp} (w : WOk c (G ++ P) S H) : WOk (Kb.less c P) P S H := by
  have hl : ∀ a u, H a = some u → a ∉ c.lv → a ∉ P ++ c.cm := fun a u _ n q => n ((w.lv a).mpr (by
    rcases List.mem_append.mp q with q | q
    · exact .inl (List.mem_append_right _ q)
    · exact .inr q))
  refine ⟨fun a => List.mem_append, fun a h q => w.disj a h (List.mem_append_right _ q), w.nd, fun a h => w.there a (List.mem_append_right _ h), w.len, fun n ds a e1 e2 => ?_⟩
  obtain ⟨vs, z, r⟩ := w.cells n ds a e1 e2
  exact ⟨vs, z, Reps.turn hl (fun _ _ z => z) r⟩
theorem Ext.lessG {c c' : Cc} {P G : List Addr} {S : Store} {H H' : Hp} (e : Ext c P H c' H') (w : WOk c' (G ++ P) S H') : Ext c P H (Kb.less c' P) H' :=
  ⟨e.K, e.mg, e.cm, fun a h => e.lv a ((w.lv a).mpr (by
    rcases List.mem_append.mp h with h | h
    · exact .inl (List.mem_append_right _ h)
    · exact .inr h)), e.there, e.keep⟩
theorem Rep.lessG {c : Cc} {P G : List Addr} {S : Store} {H : Hp} {d : D} {v : V} (w : WOk c (G ++ P) S H) (r : Rep c H d v) : Rep (Kb.less c P) H d v := by
  refine Rep.turn (fun a u _ n q => n ((w.lv a).mpr ?_)) (fun _ _ z => z) r
  rcases List.mem_append.mp q with q | q
  · exact .inl (List.mem_append_right _ q)
  · exact .inr q
/-- THE RULE for a def -/
theorem fns_ok {n m : Nat} (F : FunD K x qual params body scope [] [] f fd) (S : FnScope N ps scope) (hn : ps.length = n) (hm : N.length - ps.length = m)
    (hb : ∀ (cdv : Value) (A : Around) (outer : List PySem.Env) (s : Shared) (H : Hp) (E : XK), Room k (A.deeper (envOfC qual scope s.heap.objs.size f cdv)) → SSs (cxOf (L2.CX P w) P w K mg base N qual scope f cdv A outer s H E) body g) :
    FnS P w K mg base (k + 1) f fd ps (fnD n m g) := by
  subst hn
  subst hm
  refine F.ok S (fun vs H Q E h => ?_) (fun cdv A outer s H vs Q E hr h => ?_)
  · obtain ⟨c, P', S', ds, hK, hm, hw, r, q⟩ := h
    rw [r.length, q.ne]
  · obtain ⟨c, P', S', ds, hK, hm, hw, r, q⟩ := h
    refine ⟨_, (hb cdv A outer s H E hr).run [] _ (fun cls d _ H' => E cls d H') (fun _ z => z) (takes_of (X := cxOf (L2.CX P w) P w K mg base N qual scope f cdv A outer s H E) rfl rfl rfl rfl) (passes_of (X := cxOf (L2.CX P w) P w K mg base N qual scope f cdv A outer s H E) rfl), ?_⟩
    have hl := q.ne
    have hv : vs.length = ps.length := r.length.trans hl
    unfold fnD at q
    rw [if_pos hl] at q
    refine ⟨c, P', [], ds.map .val ++ List.replicate (N.length - ps.length) .no, S', ⟨hK, ?_, ⟨⟨?_, hw, fun i s e => ?_⟩, fun i xs a e _ => (not_own e).elim, fun i j xs ys a e _ _ _ => (not_own e).elim, fun _ z => nomatch z⟩⟩, ?_⟩
    · show c.mg = (mg, xaOf (A.deeper (envOfC qual scope s.heap.objs.size f cdv)).handled)
      rw [hr.hd]
      exact hm
    · show _ = (vs.map some ++ List.replicate (N.length - vs.length) none).length
      rw [List.length_append, List.length_append, List.length_map, List.length_map, List.length_replicate, List.length_replicate, hv, hl]
    · show SlotOk c P' H s (((vs.map some ++ List.replicate (N.length - vs.length) none)[i]?).getD none)
      rw [hv]
      exact slots_start _ r i s e
    · cases o : g (ds.map .val ++ List.replicate (N.length - ps.length) .no) S' with
      | stuck => rw [o] at q; exact q.elim
      | exc n e1 S1 =>
        rw [o] at q
        exact fun c' G' σ' H' C e f m => q (Kb.less c' P') H' C (e.lessG f.er.w) f.er.w.lessG m
      | ok fl e1 S1 =>
        rw [o] at q
        cases fl with
        | nx => exact fun c' G' σ' H' e f => q (Kb.less c' P') H' .non (e.lessG f.er.w) f.er.w.lessG rfl
        | rt d => exact fun c' G' σ' H' e f v r => q (Kb.less c' P') H' v (e.lessG f.er.w) f.er.w.lessG (r.lessG f.er.w)
        | bk => exact q.elim
        | ct => exact q.elim
end
section
variable {X : Cx} {a b e o i : Expr} {es rest : List Expr} {f g h : EM D} {t : EM Bool} {pos p pos' : Pos} {x y : Str} {F : EM (List D)}
/-! ### a name of the module that stands for data -/
theorem se_glob {d : D} {v : V} {u : Value} (hg : Gl X x) (hm : X.mg x = some u) (r : RelV v u) (hr : ∀ (c : Cc) (H : Hp), c.K = X.K → Rep c H d v) (hd : (x == ("__debug__" : Str)) = false := by decide) : SE X (.Name x pos) (eC d) :=
  ⟨fun pn xe W hp tk => wE (pe_glob (X := X.tr pn xe) hg hm r hd) fun σ H Q ⟨c, P, env, S, st, q⟩ => q.here st (hr c H st.K)⟩
/-! ### name = [..] -/
theorem set_fr {K : PySem.W.Frag} {mg : MG} {W : WX} {k : Nat} {D : Ends} {σ : L2.St} {H : Hp} (h : tS K mg (sSet k (eLst F)) W D σ H) : tFr K mg F W σ H (fun x H1 => gName k x σ H1 D.nx) := by
  refine frs_of ?_
  obtain ⟨c, P, G, env, S, st, q⟩ := h
  refine sbind st q fun c1 S1 H1 d v x1 st1 r1 q1 => ?_
  exact SPost.here (st1.fr.put k r1) (SPost.ext (c' := c1) (H' := H1) q1 Ext.refl)
variable {elt tgE iter : Expr} {ifs : List Expr} {scope : Scope} {spos : Pos} {it : EM (List D)} {tg : Tg}
theorem ss_lc (k : Nat) {s : SM} {tt : EM Bool} {fe : EM D} (own : List (Str × Nat)) (hfr : ∀ {W D σ H}, tS X.K (xm X) s W D σ H → tFr X.K (xm X) (eLc it tg (own.map (·.2)) tt fe) W σ H (fun x H1 => gName k x σ H1 D.nx)) (hc : X.calm = true) (hN : X.N.Nodup) (hi : SI RepJ X tgE iter it) (ok : BlkOk X.N X.env.scope scope own)
    (hg : ∀ (s : Shared) (H : Hp) (C : Addr) (cl : List (Str × Addr)) (fp : List Addr), STg (X.blk s H scope (compEnvC scope cl C X.env) fp) tgE tg)
    (ht : ∀ (s : Shared) (H : Hp) (C : Addr) (cl : List (Str × Addr)) (fp : List Addr), STs (X.blk s H scope (compEnvC scope cl C X.env) fp) ifs tt)
    (he : ∀ (s : Shared) (H : Hp) (C : Addr) (cl : List (Str × Addr)) (fp : List Addr), SE (X.blk s H scope (compEnvC scope cl C X.env) fp) elt fe)
    (hidx : ∀ j ∈ tg.idx, j ∈ own.map (·.2) := by decide) (hy : X.N[k]? = some x := by rfl) (hyl : X.env.scope.names.lookup x = some .local := by rfl)
    (hsw : ∀ X' : Cx, X'.env = X.env → swapsWith (.ListComp elt [⟨tgE, iter, ifs, 0⟩] scope pos) (some (.Name x pos')) spos.line X'.env = pure true) (hs : ∀ (X' : Cx) x, foldedSetIterable iter X'.env x = pure x := by intro _ _; rfl) :
    SS X (.Assign [.Name x pos'] (.ListComp elt [⟨tgE, iter, ifs, 0⟩] scope pos) spos) s := ⟨fun pn xe W hp tk po =>
  wS (ps_setLc (X := X.tr pn xe) (i := k) hc hN hy hyl (hsw (X.tr pn xe) rfl) (hi.run pn xe W hp tk) ok (fun s H C cl fp => (hg s H C cl fp).run [] _) (fun s H C cl fp => (ht s H C cl fp).run [] _ W0 (fun _ z => z) takes0)
    (fun s H C cl fp => (he s H C cl fp).run [] _ W0 (fun _ z => z) takes0) (hs (X.tr pn xe))) fun D σ H q => tLc_of hidx (hfr q)⟩
/-! ### isinstance of the exception that the suite holds -/
theorem call_isE' {Y : Cx} {a D : Addr} {oe : Obj} (hp : (a, oe) ∈ Y.pn) (C : ExcC Y.K D) (hz : Zc (.ref D) none oe) (hf : ∃ vs, oe.data = .fields vs) : CallR Y (.builtin "isinstance") (rIsE Y.K D a) := by
  intro pn sh ρ Hn ds vv Q inv rel hh
  obtain ⟨c, kv, ans, rfl, hkv, ee, post⟩ := hh
  cases rel with
  | cons rx rr =>
    cases rr with
    | cons rt rr =>
      cases rr
      cases rx
      have ec := hkv _ rt
      subst ec
      obtain ⟨hat, _⟩ := inv.pin (a, oe) (List.mem_append.mpr (.inl hp))
      obtain ⟨vs, hv⟩ := hf
      have at1 : PySem.W.InstAt sh.heap a oe D none := by
        obtain ⟨kc, kd, ka, ks⟩ := oe
        obtain ⟨h1, h2⟩ := hz
        dsimp only at h1 h2 hv
        subst h1 h2 hv
        exact ⟨hat, rfl, rfl, trivial⟩
      exact PySem.W.kia_one (PySem.W.handS_kitx_exc C.hg C.hk C.hs C.hd C.ha C.hn C.ht C.hm) inv.kIn at1 ee (fun z => nomatch z) fun tt => ⟨.bl ans, Hn, inv.kept (t' := tt) fun _ _ z => z, rfl, post⟩
/-- isinstance(e, C) in the suite: e in slot k, its class stands at D and is called n; b by kitOne -/
theorem se_isE (k : Nat) {n : String} {a D : Addr} {oe : Obj} {b : Bool} {cls : Expr} {cv : V} {cu : Value} {p1 : Pos} (hx : xaOf X.A.handled = a) (hp : (a, oe) ∈ X.pn) (C : ExcC X.K D) (hz : Zc (.ref D) none oe) (hf : ∃ vs, oe.data = .fields vs)
    (hcls : ∀ X' : Cx, X'.env = X.env → X'.mg = X.mg → PE X' cls (tC cv)) (hcv : ∀ u, RelV cv u → u = cu) (hkit : PySem.W.kitOne X.K (.ref D) cu = some b) (hg : Gl X "isinstance") (hm : X.mg "isinstance" = none)
    (hN : X.N[k]? = some x := by rfl) (hv : Vis X.env.scope x := by first | exact Or.inl rfl | exact Or.inr (Or.inl rfl) | exact Or.inr (Or.inr rfl)) (hd : (x == ("__debug__" : Str)) = false := by decide) (hcd : (x == ("__classdict__" : Str)) = false := by decide)
    (he : ∀ X' : Cx, starEach [.Name x p1, cls] X'.env = (false, eval (.Name x p1) X'.env) :: starEach [cls] X'.env := by intro _; rfl) (he2 : ∀ X' : Cx, starEach [cls] X'.env = (false, eval cls X'.env) :: starEach [] X'.env := by intro _; rfl) (hpl : ∀ X' : Cx, (backTo pos (starEach [cls] X'.env)).any (·.1) = false := by intro _; rfl) :
    SE X (.Call (.Name "isinstance" p) [.Name x p1, cls] [] pos) (eIsE k n b) := ⟨fun pn xe W hpn tk => wE (pe_callB (X := X.tr pn xe) (call_isE' (Y := X.tr pn xe) (hpn _ hp) C hz hf) hg hm (by decide +kernel) (pa_cons (pe_var (X := X.tr pn xe) hN hv hd hcd) (pa_cons (hcls (X.tr pn xe) rfl rfl) pa_nil (he2 (X.tr pn xe))) (he (X.tr pn xe))) (by decide) (by decide) (he (X.tr pn xe)) (hpl (X.tr pn xe))) fun σ H Q ⟨c, P, env, S, st, q⟩ => by
  have q0 : GPost c P H W σ RepV Q (match env[k]? with
    | some (.ex m) => if m = n then .ok (.bl b) S else .stuck
    | _ => .stuck) := q
  cases ek : env[k]? with
  | none => rw [ek] at q0; exact q0.elim
  | some s =>
    rw [ek] at q0
    cases s with
    | ex m =>
      by_cases hmn : m = n
      · have q1 : GPost c P H W σ RepV Q (if m = n then .ok (.bl b) S else .stuck) := q0
        rw [if_pos hmn] at q1
        have z : (σ[k]?).getD none = some (.ref c.mg.2) := st.er.slots k _ ek
        have ea : σ[k]? = some (some (.ref a)) := by
          have hma : c.mg.2 = a := by rw [st.mg]; exact hx
          rw [hma] at z
          cases q : σ[k]? with
          | none => rw [q] at z; cases z
          | some w => rw [q] at z; rw [show w = some (.ref a) from z]
        exact ⟨.ref a, ea, cv, cu, b, rfl, hcv, hkit, q1.here st rfl⟩
      · have q1 : GPost c P H W σ RepV Q (if m = n then .ok (.bl b) S else .stuck) := q0
        rw [if_neg hmn] at q1
        exact q1.elim
    | no => exact q0.elim
    | val d => exact q0.elim
    | own d => exact q0.elim⟩
/-- isinstance(e, (A, B, ..)) -/
def rIsET (K : PySem.W.Frag) (D a : Addr) : List V → Hp → VK → Prop := fun xs H Q => ∃ (tp : Addr) (cs : List V) (us : List Value) (b : Bool), xs = [.ref a, .ref tp] ∧ H tp = some (.tup cs) ∧ Paired ClsV cs us ∧ PySem.W.kitAny K (.ref D) us = some b ∧ Q (.bl b) H
theorem call_isET' {Y : Cx} {a D : Addr} {oe : Obj} (hp : (a, oe) ∈ Y.pn) (C : ExcC Y.K D) (hz : Zc (.ref D) none oe) (hf : ∃ vs, oe.data = .fields vs) : CallR Y (.builtin "isinstance") (rIsET Y.K D a) := by
  intro pn sh ρ Hn ds vv Q inv rel hh
  obtain ⟨tp, cs, ws, ans, rfl, hT, k, ee, post⟩ := hh
  obtain ⟨w1, w2, rfl, r1, r2⟩ := vals2 rel
  cases (show w2 = Value.ref tp from r2)
  cases (show w1 = Value.ref a from r1)
  obtain ⟨hat, _⟩ := inv.pin (a, oe) (List.mem_append.mpr (.inl hp))
  obtain ⟨vs, hv⟩ := hf
  have at1 : PySem.W.InstAt sh.heap a oe D none := by
    obtain ⟨kc, kd, ka, ks⟩ := oe
    obtain ⟨h1, h2⟩ := hz
    dsimp only at h1 h2 hv
    subst h1 h2 hv
    exact ⟨hat, rfl, rfl, trivial⟩
  obtain ⟨_, its, rv, o, h1, h2, n, h3⟩ := (show ObjOk Y.prog Y.w Hn sh.heap tp (.tup cs) from inv.hok tp _ hT)
  have e3 := ClsV.all k rv
  subst e3
  obtain ⟨kc, kd, dt, sl⟩ := o
  simp only at h2 h3
  subst h2 h3
  exact PySem.W.kia_tup (PySem.W.handS_kitx_exc C.hg C.hk C.hs C.hd C.ha C.hn C.ht C.hm) inv.kIn at1 h1 ee (fun z => nomatch z) fun tt => ⟨.bl ans, Hn, inv.kept (t' := tt) fun _ _ z => z, rfl, post⟩
def tCs (cs : List V) : TA := fun _ H Q => Q cs H
theorem se_isET (k : Nat) {n : String} {a D : Addr} {oe : Obj} {b : Bool} {cvs : List V} {us : List Value} {p1 tpos : Pos} {kk : Nat} {es : List Expr} (hx : xaOf X.A.handled = a) (hp : (a, oe) ∈ X.pn) (C : ExcC X.K D) (hz : Zc (.ref D) none oe) (hf : ∃ vs, oe.data = .fields vs)
    (hcls : ∀ X' : Cx, X'.env = X.env → X'.mg = X.mg → PA X' es (tCs cvs)) (hlen : cvs.length ≤ sizeLine) (hcv : Paired ClsV cvs us) (hkit : PySem.W.kitAny X.K (.ref D) us = some b) (hg : Gl X "isinstance") (hm : X.mg "isinstance" = none)
    (hN : X.N[k]? = some x := by rfl) (hv : Vis X.env.scope x := by first | exact Or.inl rfl | exact Or.inr (Or.inl rfl) | exact Or.inr (Or.inr rfl)) (hd : (x == ("__debug__" : Str)) = false := by decide) (hcd : (x == ("__classdict__" : Str)) = false := by decide)
    (he : ∀ X' : Cx, starEach [.Name x p1, .Tuple es kk tpos] X'.env = (false, eval (.Name x p1) X'.env) :: starEach [.Tuple es kk tpos] X'.env := by intro _; rfl) (he2 : ∀ X' : Cx, starEach [.Tuple es kk tpos] X'.env = (false, eval (.Tuple es kk tpos) X'.env) :: starEach [] X'.env := by intro _; rfl) (hpl : ∀ X' : Cx, (backTo pos (starEach [.Tuple es kk tpos] X'.env)).any (·.1) = false := by intro _; rfl) :
    SE X (.Call (.Name "isinstance" p) [.Name x p1, .Tuple es kk tpos] [] pos) (eIsE k n b) := ⟨fun pn xe W hpn tk => wE (pe_callB (X := X.tr pn xe) (call_isET' (Y := X.tr pn xe) (hpn _ hp) C hz hf) hg hm (by decide +kernel) (pa_cons (pe_var (X := X.tr pn xe) hN hv hd hcd) (pa_cons (pe_tup (hcls (X.tr pn xe) rfl rfl)) pa_nil (he2 (X.tr pn xe))) (he (X.tr pn xe))) (by decide) (by decide) (he (X.tr pn xe)) (hpl (X.tr pn xe))) fun σ H Q ⟨c, P, env, S, st, q⟩ => by
  have q0 : GPost c P H W σ RepV Q (match env[k]? with
    | some (.ex m) => if m = n then .ok (.bl b) S else .stuck
    | _ => .stuck) := q
  cases ek : env[k]? with
  | none => rw [ek] at q0; exact q0.elim
  | some s =>
    rw [ek] at q0
    cases s with
    | ex m =>
      by_cases hmn : m = n
      · have q1 : GPost c P H W σ RepV Q (if m = n then .ok (.bl b) S else .stuck) := q0
        rw [if_pos hmn] at q1
        have z : (σ[k]?).getD none = some (.ref c.mg.2) := st.er.slots k _ ek
        have ea : σ[k]? = some (some (.ref a)) := by
          have hma : c.mg.2 = a := by rw [st.mg]; exact hx
          rw [hma] at z
          cases q : σ[k]? with
          | none => rw [q] at z; cases z
          | some w => rw [q] at z; rw [show w = some (.ref a) from z]
        exact ⟨.ref a, ea, hlen, fun tp htp => ⟨tp, cvs, us, b, rfl, upd_same, hcv, hkit, q1.grow st (grow_new htp) rfl⟩⟩
      · have q1 : GPost c P H W σ RepV Q (if m = n then .ok (.bl b) S else .stuck) := q0
        rw [if_neg hmn] at q1
        exact q1.elim
    | no => exact q0.elim
    | val d => exact q0.elim
    | own d => exact q0.elim⟩
/-! ### isinstance of data: a built-in type -/
theorem ty_rep {c : Cc} {P : List Addr} {H : Hp} {d : D} {v : V} {u : String} (r : RepB c P H d v) (e : tyD d = some u) : TyX c.K H v (.type u) := by
  cases d with
  | non => cases e; rw [r.non]; exact .base .non
  | bl b => cases e; rw [r.bl]; exact .base (.bl b)
  | int b => cases e; rw [r.int]; exact .base (.int b)
  | str b => cases e; rw [r.str]; exact .base (.str b)
  | tup ds =>
    cases e
    obtain ⟨a, vs, rfl, h, _⟩ := r.tup
    rcases h with (h | ⟨o, h⟩) | ⟨o, its, n, h1, h2, _⟩
    · exact .base (.tup h)
    · exact .fTuple h
    · exact .kTuple h1 h2
  | lst ds =>
    cases e
    obtain ⟨a, vs, rfl, h, _⟩ := r.lst
    rcases h with h | ⟨o, h⟩
    · exact .base (.lst h)
    · exact .base (.frz h)
  | _ => cases e
/-- the types that data have -/
def tyNames : List String := ["NoneType", "bool", "int", "str", "tuple", "list"]
theorem tyD_mem {d : D} {u : String} (e : tyD d = some u) : u ∈ tyNames := by
  cases d <;> first
    | (cases e; decide)
    | cases e
theorem se_isTy {tn : String} {p1 : Pos} (ha : SB X e f) (ht : ∀ u ∈ tyNames, kitB u tn = some (u == tn || (u == "bool" && tn == "int"))) (hg : Gl X "isinstance") (hm : X.mg "isinstance" = none) (hgt : Gl X x) (hmt : X.mg x = none) (hvt : bootBuiltins x = some (.type tn)) (hn : x ≠ "__name__" := by decide) (hd : (x == ("__debug__" : Str)) = false := by decide)
    (he : ∀ X' : Cx, starEach [e, .Name x p1] X'.env = (false, eval e X'.env) :: starEach [.Name x p1] X'.env := by intro _; rfl) (he2 : ∀ X' : Cx, starEach [.Name x p1] X'.env = (false, eval (.Name x p1) X'.env) :: starEach [] X'.env := by intro _; rfl) (hpl : ∀ X' : Cx, (backTo pos (starEach [.Name x p1] X'.env)).any (·.1) = false := by intro _; rfl) :
    SE X (.Call (.Name "isinstance" p) [e, .Name x p1] [] pos) (e1 (isTyD tn) f) := ⟨fun pn xe W hpn tk => wE (pe_callB (X := X.tr pn xe) call_isi hg hm (by decide +kernel) (pa_cons (ha.run pn xe W hpn tk) (pa_cons (pe_bltn (X := X.tr pn xe) (v := .ty tn) hgt hmt hvt rfl hn hd) pa_nil (he2 (X.tr pn xe))) (he (X.tr pn xe))) (by decide) (by decide) (he (X.tr pn xe)) (hpl (X.tr pn xe))) fun σ H Q ⟨c, P, env, S, st, q⟩ => by
  refine gbind st q fun c1 S1 H1 d v x1 st1 r1 q1 => ?_
  obtain ⟨z, e, q2⟩ := GPost.lift q1
  cases eu : tyD d with
  | none => unfold isTyD at e; rw [eu] at e; cases e
  | some u =>
    unfold isTyD at e
    rw [eu] at e
    cases e
    have ty := ty_rep r1 eu
    rw [st1.K] at ty
    exact ⟨v, .ty tn, .type u, .type tn, _, rfl, .ty tn, ty, kit_ty (ht u (tyD_mem eu)), q2.here st1 rfl⟩⟩
end
end Kb

set_option Elab.async false
set_option linter.all false
set_option maxRecDepth 100000
/-! Kb10: the end of a law; what the head tells. -/
namespace Kb
open PySem PySem.Spec PyProof.Rows L2 RZ
theorem ints_reps {c : Cc} {H : Hp} : ∀ ns : List Int, Reps c H (ns.map D.int) (ns.map V.int)
  | [] => rfl
  | n :: ns => ⟨.int n, ns.map V.int, rfl, rfl, ints_reps ns⟩
theorem law_hsp {K : PySem.W.Frag} {mg : Str → Option Value} {F : List D → M D} {H : Hp} {a : Addr} {ns : List Int} (hO : Only H) (hS : SqL K H a (ns.map V.int)) (h : ∃ S', F [.scr (ns.map D.int)] [] = .ok (.bl true) S') :
    spF K mg F [.ref a] H (fun v _ => v = .bl true) fun _ _ _ => False := by
  obtain ⟨S', e⟩ := h
  refine ⟨⟨K, (mg, 0), [], [], []⟩, [], [], [.scr (ns.map D.int)], rfl, rfl, ⟨fun a => by simp, (fun a z => by cases z), List.nodup_nil, (fun a z => by cases z), rfl, (fun n ds a e1 e2 => by cases e1)⟩, ⟨.ref a, [], rfl, ⟨a, ns.map V.int, rfl, ?_, ints_reps ns⟩, rfl⟩, ?_⟩
  · rcases hS with (h | ⟨o, h⟩) | h
    · rcases hO a with z | ⟨o, xs, z⟩
      · rw [z] at h; cases h
      · rw [z] at h; cases h
    · exact .inl ⟨o, h⟩
    · exact .inr h
  · rw [e]
    exact fun c' H' b _ _ r => r
theorem law_cx {P : Program} {w : World} (H : Hp) (s : Shared) (e : Value) (s' : Shared) (h : L2.CX P w [] H s (fun _ _ _ => False) e s') : False := by
  obtain ⟨_, _, _, _, _, _, _, _, _, _, _, _, none⟩ := h
  exact none.elim
theorem bit_bits (z : Int) : bit z ≤ Builtin.Int.intBits z := by
  unfold bit Builtin.Int.intBits
  split
  · rename_i h
    have : z.natAbs = 0 := by first | omega | simpa using h
    rw [this]
    decide
  · omega
/-- a law's end: the wish may hang on the world -/
theorem walk_ofY {l : PySem.W.OpenLaw} {n k : Nat} {qq : Program} {lo : List Str} {XP : (Str → Option Value) → Heap → Prop} {YP : World → Heap → Prop} {d : DefRec} {CX : World → CXT} {x : Str}
    (hmost : l.most = some n) (hsz : n ≤ sizeLine) (hnod : d.params.defaults = []) (room : Room k callerA)
    (law : ∀ (wd : World) (mg : Str → Option Value) (la : Addr) (h : Heap), YP wd h → h.Ns mainGlobals mg → mg d.name = some (.ref la) →
      ∃ (K : PySem.W.Frag) (ld : FuncData) (lsp : Sp), K.In h ∧ (∀ (s : Shared) (u : Value), BindsTo s ld ⟨[u], []⟩ [(x, u)]) ∧
        (∀ (H : Hp) (a : Addr) (ns : List Int), ns.length ≤ n → (∀ z ∈ ns, bit z ≤ 1048576) → Only H → SqL K H a (ns.map V.int) → lsp [.ref a] H (fun v _ => v = .bl true) fun _ _ _ => False) ∧
        ∀ base : Heap, K.In base → base.Ns mainGlobals mg → FnOk l.prog wd K mg base (CX wd) k la ld [x] lsp)
    (noX : ∀ (wd : World) (H : Hp) (s : Shared) (e : Value) (s' : Shared), CX wd [] H s (fun _ _ _ => False) e s' → False) :
    PySem.W.WalkO qq lo XP YP l.row.toRowW d [] (fun f vs => PySem.call f vs) := by
  refine Att.attach_callB hmost hnod fun wd sa sb mg mb la o pm cd doc a vs ns G Y ho hd hcd hmg hobj hints hlen hbits hg => ?_
  obtain ⟨K, ld, lsp, KX, hbd, hls, hlaw⟩ := law wd mg la _ Y G.T.g hmg
  exact law_call KX G.T.g G.T.b G.T.builtins G.T.nolimit hg hobj hints (Nat.le_trans hlen hsz) room hlaw hbd (fun H hO hS => hls H a ns hlen (fun z hz => Nat.le_trans (bit_bits z) (hbits z hz)) hO hS) fun H e s' => noX wd H sb e s'
/-- the function data of a def of the top -/
def fdOf (K : PySem.W.Frag) (p : Str × Option Str) : FuncData := match K.lookup (He.fAd K p) with
  | some ⟨_, _, .func fd, _⟩ => fd
  | _ => PySem.W.fnOf Str.empty Str.empty { posonlyargs := [], args := [], vararg := none, kwonlyargs := [], kw_defaults := [], kwarg := none, defaults := [] } [] { kind := .function, names := [], isGenerator := false, isCoroutine := false } .none .none .none .none none .none .none
theorem fd_of {K : PySem.W.Frag} {x qual : Str} {params : Arguments} {body : List Stmt} {scope : Scope} {dvs : List V} {kws : List (Str × V)} {p : Str × Option Str} (h : ∃ fd, FunD K x qual params body scope dvs kws (He.fAd K p) fd) : FunD K x qual params body scope dvs kws (He.fAd K p) (fdOf K p) := by
  obtain ⟨fd, F⟩ := h
  obtain ⟨oc, od, dV, kV, doc, pm, an, cdv, ct, osl, e, lk, _⟩ := F.ex
  have z : fdOf K p = fd := by
    unfold fdOf
    rw [lk]
  rw [z]
  exact F
section
variable {h : Heap} {mg : Str → Option Value} {K : PySem.W.Frag}
/-- a tuple of the top -/
def tupF (x : Str) (vs : List He.Dv) (K : PySem.W.Frag) : Bool := He.eqO (PySem.W.nsIn K mainGlobals x) (some (some (.ref (He.ga K x)))) && He.tupB K x vs
/-- the Hook: facts, defs, one more Bool -/
abbrev AlY : Type := He.AlD × Bool
def obsY (n : Nat) (fa : List He.Fa) (fn : List He.DefD) (ex : PySem.W.Frag → Bool) (g : Addr → Option Obj) : AlY := (He.obsD fa fn (He.frG g (He.asD g n)), ex (He.frG g (He.asD g n)))
def hookY (n : Nat) (fa : List He.Fa) (fn : List He.DefD) (ex : PySem.W.Frag → Bool) : PySem.W.Hook where
  α := AlY
  obs := fun s => obsY n fa fn ex s.heap.get?
  val := fun _ => (He.valD fn, true)
  says := fun _ h => ∃ Fr : PySem.W.Frag, Fr.In h ∧ He.SaysD fa fn Fr ∧ ex Fr = true
  of := fun _ _ e => ⟨_, He.frG_in, congrArg (fun z : AlY => z.1) e, congrArg (fun z : AlY => z.2) e⟩
  keeps := fun _ _ _ ⟨Fr, hF, cc⟩ kp => ⟨Fr, PySem.W.Frag.In.keeps hF kp, cc⟩
theorem obsY_eq {n : Nat} {fa : List He.Fa} {fn : List He.DefD} {ex : PySem.W.Frag → Bool} {g : Addr → Option Obj} {s : Shared} (h : ∀ a, g a = s.heap.get? a) : obsY n fa fn ex g = (hookY n fa fn ex).obs s := by
  have eg : g = s.heap.get? := funext h
  rw [eg] <;> rfl
/-- an exception class of the top -/
theorem exc_of (X : K.In h) (G : h.Ns mainGlobals mg) {n : String} (c1 : (He.Fa.glo (Str.ofString n)).ok K = true) (c2 : (He.Fa.exc (Str.ofString n)).ok K = true) : ExcF K mg n (He.ga K (Str.ofString n)) := by
  obtain ⟨h1, h2, h3, h4⟩ := He.exc_ok c2
  exact ⟨He.glo_ok X G c1, h1, h2, h3, h4⟩
/-- .. so that isinstance asks its errors rightly -/
def excCB (K : PySem.W.Frag) (n : String) : Bool := He.eqO (PySem.W.findIn K (.ref (He.ga K (Str.ofString n))) "__getattribute__") (some (some (.builtin "BaseException.__getattribute__"))) && (He.eqO (PySem.W.findIn K (.ref (He.ga K (Str.ofString n))) "__getattr__") (some none) &&
  (decide (PySem.W.subIn K (.ref (He.ga K (Str.ofString n))) (.type "BaseException") = some true) && (PySem.W.hasDictIn K (He.ga K (Str.ofString n)) && (He.eqO (PySem.W.findIn K (.ref (He.ga K (Str.ofString n))) "__class__") (some (some (.builtin "object.__class__"))) &&
  (He.eqO (PySem.W.specialIn K (.builtin "object.__class__") "__get__") (some (some (.builtin "getset_descriptor.__get__"))) && (decide (PySem.W.takesIn K (.builtin "object.__class__") = some true) && decide (PySem.W.mroIn K (He.ga K (Str.ofString n)) (.type "object") = some true)))))))
theorem excCB_ok {n : String} (h : excCB K n = true) : ExcC K (He.ga K (Str.ofString n)) := by
  unfold excCB at h
  obtain ⟨h1, h⟩ := He.ba h
  obtain ⟨h2, h⟩ := He.ba h
  obtain ⟨h3, h⟩ := He.ba h
  obtain ⟨h4, h⟩ := He.ba h
  obtain ⟨h5, h⟩ := He.ba h
  obtain ⟨h6, h⟩ := He.ba h
  obtain ⟨h7, h8⟩ := He.ba h
  exact ⟨He.eqO_ok h1, He.eqO_ok h2, of_decide_eq_true h3, h4, He.eqO_ok h5, He.eqO_ok h6, of_decide_eq_true h7, of_decide_eq_true h8⟩
/-- isinstance of an error of the class n against the class m -/
def kitF (K : PySem.W.Frag) (n m : String) (b : Bool) : Bool := decide (PySem.W.kitOne K (.ref (He.ga K (Str.ofString n))) (.ref (He.ga K (Str.ofString m))) = some b)
theorem kitF_ok {n m : String} {b : Bool} (h : kitF K n m b = true) : PySem.W.kitOne K (.ref (He.ga K (Str.ofString n))) (.ref (He.ga K (Str.ofString m))) = some b := of_decide_eq_true h
def exB (fs : List (PySem.W.Frag → Bool)) (K : PySem.W.Frag) : Bool := fs.all fun f => f K
theorem exB_at {fs : List (PySem.W.Frag → Bool)} (h : exB fs K = true) (i : Nat) {f : PySem.W.Frag → Bool} (e : fs[i]? = some f := by rfl) : f K = true := List.all_eq_true.mp h f (List.mem_of_getElem? e)
end
section
variable {X : Cx} {e : Expr} {f : EM D} {pos p : Pos} {g : EM (List D)}
/-- list(e), a new one -/
theorem sf_list (hg : Gl X "list") (hm : X.mg "list" = none) (ha : SA RepsB X [e] g) (he : ∀ X' : Cx, starEach [e] X'.env = (false, eval e X'.env) :: starEach [] X'.env := by intro _; rfl) (hpl : ∀ X' : Cx, (backTo pos (starEach [] X'.env)).any (·.1) = false := by intro _; rfl) : SF X (.Call (.Name "list" p) [e] [] pos) (fList g) :=
  ⟨fun pn xe W hp tk => wE (pe_callTy (X := X.tr pn xe) call_list_of hg hm (by decide +kernel) (ha.run pn xe W hp tk) (by decide) (by decide) (he (X.tr pn xe)) (hpl (X.tr pn xe))) fun σ H Q ⟨c, P, env, S, st, q⟩ => by
    refine fbind st q fun c1 S1 H1 a b x1 st1 r1 q1 => ?_
    match a, q1 with
    | [.lst ds], q1 =>
      obtain ⟨v, rfl, r⟩ := r1.one
      obtain ⟨a, us, rfl, h1, h2⟩ := r.lst
      exact ⟨a, us, rfl, .inl (.inl h1), fun l hl => q1.lay st1 h2 hl⟩
    | [.tup ds], q1 =>
      obtain ⟨v, rfl, r⟩ := r1.one
      obtain ⟨a, us, rfl, h1, h2⟩ := r.tup
      exact ⟨a, us, rfl, .inr (by rw [← show c1.K = (X.tr pn xe).K from st1.K]; exact h1), fun l hl => q1.lay st1 h2 hl⟩⟩
end
end Kb

set_option linter.all false
set_option maxRecDepth 100000
set_option Elab.async false
set_option maxHeartbeats 4000000
/-! Kb11: a row times an int. -/
namespace Kb
open L2 PySem PySem.Spec PyProof.Rows
theorem tmul_one (l : Addr) (items : Array Value) (n : Nat) (dd : Option Addr) (sl : Array (Option Value)) (x : Int) (u : Tok) (h1 : x = 1) :
    Meets (Builtin.«tuple.__mul__» ⟨[.ref l, .int x u], []⟩) (fun _ R s => s.heap.get? l = some { cls := .type "tuple", dict := dd, data := .seq items n, slots := sl } ∧ R (.ok (.ret (Value.ref l))) s) :=
  .of_wp fun prog w A R s h => by
    obtain ⟨hp, g, d, tk, os⟩ := s
    obtain ⟨hl, h⟩ := h
    have f1 := AutoSeq1.idx_int
    subst h1
    wp_walk using wpAny_loadPart' hl
    exact ⟨_, rfl, h⟩
theorem tmul_none (l : Addr) (items : Array Value) (n : Nat) (dd : Option Addr) (sl : Array (Option Value)) (x : Int) (u : Tok) (c0 : (decide (x < -(2 ^ 63)) || decide (x ≥ 2 ^ 63)) = false) (c1 : (items.isEmpty || x == 1) = false) (c2 : (decide (x ≤ 0) || items.isEmpty) = true) :
    Meets (Builtin.«tuple.__mul__» ⟨[.ref l, .int x u], []⟩) (fun _ R s => s.heap.get? l = some { cls := .type "tuple", dict := dd, data := .seq items n, slots := sl } ∧
      R (.ok (.ret (Value.ref s.heap.objs.size))) { s with heap := s.heap.push { cls := Value.type "tuple", data := Data.seq #[] }, toks := s.toks }) :=
  .of_wp fun prog w A R s h => by
    obtain ⟨hp, g, d, tk, os⟩ := s
    obtain ⟨hl, h⟩ := h
    have f1 := AutoSeq1.idx_int
    wp_walk using wpAny_loadPart' hl
    repeat (first
      | (refine wpAny_ite_false (decide_eq_false (by rw [c0]; exact Bool.false_ne_true)) ?_; wp_walk using wpAny_loadPart' hl)
      | (refine wpAny_ite_false (decide_eq_false (by rw [c1]; exact Bool.false_ne_true)) ?_; wp_walk using wpAny_loadPart' hl)
      | (refine wpAny_ite_true (decide_eq_true c2) ?_; wp_walk using wpAny_loadPart' hl))
    exact ⟨_, rfl, h⟩
end Kb
namespace Kb
open L2 PySem PySem.Spec PyProof.Rows
section
variable {X : Cx} {a b : Expr} {f g : EM D} {pos : Pos}
/-- a row times an int, whatever the int -/
theorem op_tmul : OpR X (binaryOp .Mult) (fun x y H Q => ∃ l k xs, x = .ref l ∧ y = .int k ∧ SqT X.K H l xs ∧ xs ≠ [] ∧ -1000 ≤ k ∧ k ≤ 1000 ∧ xs.length ≤ 1000 ∧ (k = 1 → Q (.ref l) H) ∧ (k ≠ 1 → ∀ p, H p = none → Q (.ref p) (upd H p (.tup (List.replicate k.toNat xs).flatten)))) := by
  intro pn sh ρ H x y v u Q inv rx ry h
  obtain ⟨l, k, xs, rfl, rfl, hT, hne, h0, h1, hz, q1, q2⟩ := h
  by_cases h2 : 2 ≤ k
  · exact op_repT _ _ _ _ _ _ _ _ _ inv rx ry ⟨l, k, xs, rfl, rfl, hT, hne, h2, h1, hz, q2 (by omega)⟩
  · cases rx
    obtain ⟨t, rfl⟩ := ry
    obtain ⟨its, r, ⟨⟨cls, dd, data, sl⟩, ho, hc, n, hd⟩, hs⟩ := inv.tuple hT
    simp only at hc hd
    subst hc hd
    have hi : its.toArray.isEmpty = false := by
      cases its with
      | nil => exact absurd (List.eq_nil_of_length_eq_zero r.length) hne
      | cons _ _ => rfl
    have c0 : (decide (k < -(2 ^ 63)) || decide (k ≥ 2 ^ 63)) = false := by
      rw [decide_eq_false (by omega), decide_eq_false (by omega)] <;> rfl
    refine wpAny_binaryOp_repeat_ref (T := "tuple") (U := "int") (by decide) ⟨_, ho, rfl⟩ (fun s' => typeIs_int s' k t) noFill_tuple_mul F.fills_int_mul F.slot_int_rmul repeat_tuple F.slot_int_index.lookup
      (call_meets F.slot_int_rmul (typeIs_int sh k t) F.entry_int_rmul (F.args_int_rmul_2 _ _) (int_rmul_tuple k t l its.toArray n dd sl)
        ⟨ho, rfl, ⟨_, ho, rfl⟩, ?_⟩)
    by_cases h3 : k = 1
    · exact call_meets F.slot_tuple_mul ⟨_, ho, rfl⟩ F.entry_tuple_mul (F.args_tuple_mul_2 _ _) (tmul_one l its.toArray n dd sl k t h3) ⟨ho, .ref l, H, inv, rfl, q1 h3⟩
    · refine call_meets F.slot_tuple_mul ⟨_, ho, rfl⟩ F.entry_tuple_mul (F.args_tuple_mul_2 _ _) (tmul_none l its.toArray n dd sl k t c0 (by rw [hi, Bool.false_or]; exact beq_eq_false_iff_ne.mpr h3) (by rw [hi, Bool.or_false]; exact decide_eq_true (by omega))) ⟨ho, ?_⟩
      have e0 : k.toNat = 0 := by omega
      have q3 := q2 h3 sh.heap.objs.size (inv.hok.fresh (Nat.le_refl _))
      rw [e0] at q3
      refine ⟨.ref sh.heap.objs.size, _, inv.laid (t' := sh.toks) (o := .tup []) (fun b ob q => Heap.get?_push_of_some _ q) (Nat.le_refl _) ?_, rfl, q3⟩
      exact ⟨Nat.zero_le _, _, .nil, IsTup.new _ _⟩
theorem tmulS : OpS X.K RepB RepV mulTD (fun x y H Q => ∃ l k xs, x = .ref l ∧ y = .int k ∧ SqT X.K H l xs ∧ xs ≠ [] ∧ -1000 ≤ k ∧ k ≤ 1000 ∧ xs.length ≤ 1000 ∧ (k = 1 → Q (.ref l) H) ∧ (k ≠ 1 → ∀ p, H p = none → Q (.ref p) (upd H p (.tup (List.replicate k.toNat xs).flatten)))) := by
  intro mg c P env S σ H W Q x y v w z st rx ry e q
  cases x with
  | tup ds =>
    cases y with
    | int k =>
      obtain ⟨⟨hne, h0, h1, h2⟩, rfl⟩ := iteS (p := ds ≠ [] ∧ -1000 ≤ k ∧ k ≤ 1000 ∧ ds.length ≤ 1000) e
      obtain ⟨l, us, rfl, hT, r⟩ := rx.tup
      have ey : w = .int k := ry
      subst ey
      rw [st.K] at hT
      refine ⟨l, k, us, rfl, rfl, hT, fun e0 => hne ?_, h0, h1, by rw [r.length]; exact h2, fun e1 => ?_, fun _ p hp => q.newT st (Reps.rep k.toNat r) hp⟩
      · subst e0; exact List.eq_nil_of_length_eq_zero r.length.symm
      · subst e1
        have e2 : (List.replicate (1 : Int).toNat ds).flatten = ds := by simp
        rw [e2] at q
        exact q.here st ⟨l, us, rfl, by rw [st.K]; exact hT, r⟩
    | _ => cases e
  | _ => cases e
theorem se_mulT (ha : SB X a f) (hb : SE X b g) : SE X (.BinOp a .Mult b pos) (e2 mulTD f g) := se_bin (fun _ _ => op_tmul) tmulS ha hb
theorem lmulS : OpS X.K RepB RepV mulLD (fun x y H Q => ∃ l k xs, x = .ref l ∧ y = .int k ∧ Rd H l (.lst xs) ∧ -(2 ^ 63) ≤ k ∧ k < 2 ^ 63 ∧ xs.length * k.toNat ≤ sizeLine ∧ ∀ p, H p = none → Q (.ref p) (upd H p (.lst (List.replicate k.toNat xs).flatten))) := by
  intro mg c P env S σ H W Q x y v w z st rx ry e q
  cases x with
  | lst ds =>
    cases y with
    | int k =>
      obtain ⟨⟨h0, h1, h2⟩, rfl⟩ := iteS (p := -100000 ≤ k ∧ k ≤ 100000 ∧ ds.length * k.toNat ≤ LN) e
      obtain ⟨l, us, rfl, hT, r⟩ := rx.lst
      have ey : w = .int k := ry
      subst ey
      exact ⟨l, k, us, rfl, rfl, hT, by omega, by omega, by rw [r.length, ← LN_eq]; exact h2, fun p hp => q.newL st (Reps.rep k.toNat r) hp⟩
    | _ => cases e
  | _ => cases e
end
end Kb

set_option Elab.async false
set_option linter.all false
set_option maxRecDepth 100000
/-! Kb12: constants of the top, in, not in, a list comprehension to a name that is a cell, isinstance of an error and a built-in class. -/
namespace Kb
open L2 PySem PyProof.Rows PySem.Spec
/-- the value v stands for the datum d, whatever happens -/
def datB (K : PySem.W.Frag) : Nat → D → Value → Bool
  | 0, _, _ => false
  | n + 1, d, v => match d, v with
    | .non, .none => true
    | .bl b, .bool c => b == c
    | .int i, .int k _ => decide (i = k)
    | .str x, .str z _ => decide (x = z)
    | .tup ds, .ref a => match K.lookup a with
      | some ⟨.type c, _, .seq its _, _⟩ => decide (c = "tuple") && (decide (its.size ≤ sizeLine) && (decide (ds.length = its.toList.length) && (List.zipWith (datB K n) ds its.toList).all id))
      | _ => false
    | _, _ => false
def conB (x : Str) (d : D) (K : PySem.W.Frag) : Bool := match PySem.W.nsIn K mainGlobals x with
  | some (some v) => datB K 8 d v
  | _ => false
/-- a name of the top that stands for data -/
def ConF (K : PySem.W.Frag) (mg : Str → Option Value) (x : Str) (d : D) : Prop := ∃ u v, mg x = some u ∧ RelV v u ∧ ∀ (c : Cc) (H : Hp), c.K = K → Rep c H d v
theorem ConF.se {X : Cx} {x : Str} {d : D} {pos : Pos} (h : ConF X.K X.mg x d) (hg : Gl X x) (hd : (x == ("__debug__" : Str)) = false) : SE X (.Name x pos) (eC d) := let ⟨_, _, hm, r, hr⟩ := h; se_glob hg hm r hr hd
theorem datB_ok {K : PySem.W.Frag} : ∀ (n : Nat) (d : D) (v : Value), datB K n d v = true → ∃ u : V, RelV u v ∧ ∀ (c : Cc) (H : Hp), c.K = K → Rep c H d u
  | 0, _, _, h => by cases h
  | n + 1, d, v, h => by
    unfold datB at h
    split at h
    · exact ⟨.non, rfl, fun _ _ _ => rfl⟩
    · rename_i b c
      exact ⟨.bl c, rfl, fun _ _ _ => by rw [beq_iff_eq.mp h]; rfl⟩
    · rename_i i j t
      exact ⟨.int j, ⟨t, rfl⟩, fun _ _ _ => by rw [of_decide_eq_true h]; rfl⟩
    · rename_i x y t
      exact ⟨.str y, ⟨t, rfl⟩, fun _ _ _ => by rw [of_decide_eq_true h]; rfl⟩
    · rename_i ds a
      split at h
      · rename_i cl dd its m sl q
        obtain ⟨h1, h⟩ := He.ba h
        obtain ⟨h2, h⟩ := He.ba h
        obtain ⟨h3, h4⟩ := He.ba h
        have go : ∀ (ds : List D) (vs : List Value), ds.length = vs.length → (List.zipWith (datB K n) ds vs).all id = true → ∃ us : List V, Vals us vs ∧ ∀ (c : Cc) (H : Hp), c.K = K → Reps c H ds us := by
          intro ds
          induction ds with
          | nil =>
            intro vs hl _
            cases vs with
            | nil => exact ⟨[], .nil, fun _ _ _ => rfl⟩
            | cons _ _ => cases hl
          | cons d ds ih =>
            intro vs hl ha
            cases vs with
            | nil => cases hl
            | cons v vs =>
              rw [List.zipWith_cons_cons, List.all_cons, Bool.and_eq_true] at ha
              obtain ⟨u, r1, r2⟩ := datB_ok n d v ha.1
              obtain ⟨us, r3, r4⟩ := ih vs (by simpa using hl) ha.2
              exact ⟨u :: us, .cons r1 r3, fun c H e => ⟨u, us, rfl, r2 c H e, r4 c H e⟩⟩
        obtain ⟨us, r1, r2⟩ := go ds its.toList (of_decide_eq_true h3) h4
        refine ⟨.ref a, rfl, fun c H e => ⟨a, us, rfl, ?_, r2 c H e⟩⟩
        subst e
        exact .inr ⟨_, its, m, q, congrArg Value.type (of_decide_eq_true h1), rfl, of_decide_eq_true h2, r1⟩
      · cases h
    · cases h
theorem con_ok {K : PySem.W.Frag} {h : Heap} {mg : Str → Option Value} {x : Str} {d : D} (X : K.In h) (G : h.Ns mainGlobals mg) (e : conB x d K = true) : ConF K mg x d := by
  unfold conB at e
  split at e
  · rename_i v q
    obtain ⟨u, r1, r2⟩ := datB_ok 8 d v e
    exact ⟨v, u, PySem.W.mg_of X G q, r1, r2⟩
  · cases e
theorem gl_ {X X' : Cx} {x : Str} (e : X'.env = X.env) (h : Gl X x) : Gl X' x := by unfold Gl; rw [e]; exact h
theorem lk_ : ∀ (cs : List (String × Bool)) {n : String}, cs.lookup n = some true → (n, true) ∈ cs := fun cs n h => by
  induction cs with
  | nil => cases h
  | cons p r ih =>
    obtain ⟨m, b⟩ := p
    rw [List.lookup_cons] at h
    cases q : (n == m) with
    | true => rw [q] at h; cases h; rw [beq_iff_eq.mp q]; exact List.mem_cons_self
    | false => rw [q] at h; exact List.mem_cons_of_mem _ (ih h)
/-- isinstance of an error of the class n against a built-in one -/
def kitT (K : PySem.W.Frag) (n T : String) (b : Bool) : Bool := decide (PySem.W.kitOne K (.ref (He.ga K (Str.ofString n))) (.type T) = some b)
theorem kitT_ok {K : PySem.W.Frag} {n T : String} {b : Bool} (h : kitT K n T b = true) : PySem.W.kitOne K (.ref (He.ga K (Str.ofString n))) (.type T) = some b := of_decide_eq_true h
section
variable {X : Cx} {a b e : Expr} {f g : EM D} {pos pos' : Pos} {x : Str}
theorem sw_cell {elt : Expr} {gs : List Comprehension} {scope : Scope} {p py : Pos} {y : Str} {l : Nat} {env : PySem.Env} (h : (env.kindOf y == some .local) = false) : swapsWith (.ListComp elt gs scope p) (some (.Name y py)) l env = pure false := by
  unfold swapsWith
  simp only [h, Bool.and_false, Bool.false_and]
theorem ss_setC (k : Nat) (hN : X.N.Nodup) (ha : SE X e f) (hs : ∀ X' : Cx, X'.env = X.env → swapsWith e (some (.Name x pos')) pos.line X'.env = pure false) (hi : X.N[k]? = some x := by rfl) (hx : Loc X.env.scope x := by first | exact Or.inl rfl | exact Or.inr rfl) (hf : X.fn x = true ∨ X.env.scope.names.lookup x = some .local := by first | exact .inl rfl | exact .inr rfl) :
    SS X (.Assign [.Name x pos'] e pos) (sSet k f) := ⟨fun pn xe W hp tk po => wS (ps_set (X := X.tr pn xe) (i := k) hN hi hx (ha.run pn xe W hp tk) (hs (X.tr pn xe) rfl) hf) fun D σ H ⟨c, P, G, env, S, st, q⟩ => by
  refine sbind st q fun c1 S1 H1 d v x1 st1 r1 q1 => ?_
  exact SPost.here (st1.fr.put k r1) (SPost.ext (c' := c1) (H' := H1) q1 Ext.refl)⟩
/-! ### in -/
def rInX (K : PySem.W.Frag) (k : Bool) : R2 := fun x y H Q =>
  (∃ d ds, Dp K H x d ∧ (Dp K H y (.list ds) ∨ Dp K H y (.tuple ds)) ∧ SeqAt.shaped d = true ∧ SeqAt.shaped (.list ds) = true ∧ Q (.bl (k != ds.any fun z => PyData.eqv z d)) H) ∨
  (∃ (c : Nat) (z : Str), x = .str ⟨#[c]⟩ ∧ y = .str z ∧ Q (.bl (k != decide (c ∈ z.cps.toList))) H)
theorem op_inX (hu : X.A.units + 65 < cLine) : OpR X (compareOp .In) (rInX X.K false) := by
  intro pn z σ H x y v u Q I rx ry h
  rcases h with ⟨d, ds, hd, he, sd, se, q⟩ | h
  · obtain ⟨as, r1⟩ := Dp.reads I d x v hd rx
    rw [Bool.false_bne] at q
    rcases he with he | he
    · obtain ⟨bs, r2⟩ := Dp.reads I (.list ds) y u he ry
      exact SeqAt.in_list_reads r2 r1 (SeqAt.canLay_of_shaped se) (SeqAt.canLay_of_shaped sd) (room_in_shaped sd hu) (by exact ⟨.bl _, H, I, rfl, q⟩)
    · obtain ⟨bs, r2⟩ := Dp.reads I (.tuple ds) y u he ry
      exact SeqAt.in_tuple_reads r2 r1 (SeqAt.canLay_of_shaped se) (SeqAt.canLay_of_shaped sd) (room_in_shaped sd hu) ⟨.bl _, H, I, rfl, q⟩
  · obtain ⟨c, z, rfl, rfl, q⟩ := h
    rw [Bool.false_bne] at q
    exact op_in_sign _ _ _ _ _ _ _ _ _ I rx ry ⟨c, z, rfl, rfl, q⟩
theorem op_ninX (hu : X.A.units + 65 < cLine) : OpR X (compareOp .NotIn) (rInX X.K true) := by
  intro pn z σ H x y v u Q I rx ry h
  rcases h with ⟨d, ds, hd, he, sd, se, q⟩ | h
  · obtain ⟨as, r1⟩ := Dp.reads I d x v hd rx
    rw [Bool.true_bne] at q
    rcases he with he | he
    · obtain ⟨bs, r2⟩ := Dp.reads I (.list ds) y u he ry
      exact SeqAt.notIn_list_reads r2 r1 (SeqAt.canLay_of_shaped se) (SeqAt.canLay_of_shaped sd) (room_in_shaped sd hu) (by exact ⟨.bl _, H, I, rfl, q⟩)
    · obtain ⟨bs, r2⟩ := Dp.reads I (.tuple ds) y u he ry
      exact SeqAt.notIn_tuple_reads r2 r1 (SeqAt.canLay_of_shaped se) (SeqAt.canLay_of_shaped sd) (room_in_shaped sd hu) ⟨.bl _, H, I, rfl, q⟩
  · obtain ⟨c, z, rfl, rfl, q⟩ := h
    rw [Bool.true_bne] at q
    exact op_notIn_sign _ _ _ _ _ _ _ _ _ I rx ry ⟨c, z, rfl, rfl, q⟩
theorem any_py {x : D} : ∀ {ys : List D}, okd 60 x = true → okds 59 ys = true → ((pys ys).any fun z => PyData.eqv z (py x)) = ys.any fun z => eqv z x
  | [], _, _ => rfl
  | y :: ys, h, h2 => by
    have h' : (okd 59 y && okds 59 ys) = true := h2
    rw [Bool.and_eq_true] at h'
    show (PyData.eqv (py y) (py x) || (pys ys).any fun z => PyData.eqv z (py x)) = _
    rw [any_py h h'.2, eqv_py 59 60 y x h'.1 h]
    rfl
theorem inS {k : Bool} {od : D → D → Option D} (hod : ∀ x y, od x y = match y with
  | .lst ys => if (okd 60 x && okd 60 (.lst ys)) = true then some (.bl (k != ys.any fun z => eqv z x)) else none
  | .tup ys => if (okd 60 x && okd 60 (.tup ys)) = true then some (.bl (k != ys.any fun z => eqv z x)) else none
  | .str z => match x with
    | .str ⟨⟨[c]⟩⟩ => some (.bl (k != decide (c ∈ z.cps.toList)))
    | _ => none
  | _ => none) : OpS X.K RepB RepB od (rInX X.K k) := by
  intro mg c P env S σ H W Q x y v w z st rx ry e q
  rw [hod] at e
  split at e
  · rename_i ys
    obtain ⟨hl, rfl⟩ := iteS (p := (okd 60 x && okd 60 (.lst ys)) = true) e
    rw [Bool.and_eq_true] at hl
    obtain ⟨h1, h2⟩ := hl
    have d1 := rx.dp h1
    have d2 := ry.dp h2
    rw [st.K] at d1 d2
    exact .inl ⟨py x, pys ys, d1, .inl d2, okd_shaped h1, okd_shaped h2, by rw [any_py h1 h2]; exact q.here st rfl⟩
  · rename_i ys
    obtain ⟨hl, rfl⟩ := iteS (p := (okd 60 x && okd 60 (.tup ys)) = true) e
    rw [Bool.and_eq_true] at hl
    obtain ⟨h1, h2⟩ := hl
    have d1 := rx.dp h1
    have d2 := ry.dp h2
    rw [st.K] at d1 d2
    exact .inl ⟨py x, pys ys, d1, .inr d2, okd_shaped h1, okd_shaped (x := .lst ys) h2, by rw [any_py h1 h2]; exact q.here st rfl⟩
  · rename_i z
    split at e
    · rename_i c
      cases e
      exact .inr ⟨c, z, rx.str, ry.str, q.here st rfl⟩
    · cases e
  · cases e
def Hu5 (X : Cx) : Prop := X.A.units + 65 < cLine
theorem hu5_room {k : Nat} {X : Cx} (hr : Room k X.A) : Hu5 X := Nat.lt_of_le_of_lt (by omega) hr.un
theorem se_in (hu : Hu5 X) (ha : SB X a f) (hb : SB X b g) (hm : behindInMarks .In b = false := by rfl) : SE X (.Compare a [.In] [b] pos) (e2 inD f g) := se_cmp (fun pn xe => op_inX (X := X.tr pn xe) hu) (inS fun x y => by unfold inD; simp only [Bool.false_bne] <;> rfl) ha hb hm
theorem se_nin (hu : Hu5 X) (ha : SB X a f) (hb : SB X b g) (hm : behindInMarks .NotIn b = false := by rfl) : SE X (.Compare a [.NotIn] [b] pos) (e2 ninD f g) := se_cmp (fun pn xe => op_ninX (X := X.tr pn xe) hu) (inS fun x y => by unfold ninD; simp only [Bool.true_bne] <;> rfl) ha hb hm
theorem st_in (hu : Hu5 X) (ha : SB X a f) (hb : SB X b g) (hm : behindInMarks .In b = false := by rfl) : ST X (.Compare a [.In] [b] pos) (tB (e2 inD f g)) := st_cmp (fun pn xe => op_inX (X := X.tr pn xe) hu) (inS fun x y => by unfold inD; simp only [Bool.false_bne] <;> rfl) ha hb hm
theorem st_nin (hu : Hu5 X) (ha : SB X a f) (hb : SB X b g) (hm : behindInMarks .NotIn b = false := by rfl) : ST X (.Compare a [.NotIn] [b] pos) (tB (e2 ninD f g)) := st_cmp (fun pn xe => op_ninX (X := X.tr pn xe) hu) (inS fun x y => by unfold ninD; simp only [Bool.true_bne] <;> rfl) ha hb hm
end
end Kb

set_option Elab.async false
set_option linter.all false
set_option maxRecDepth 100000
/-! Kb13: sorted. -/
namespace Kb
open L2 PySem PyProof.Rows PySem.Spec
theorem sort_one : ∀ {xs ys : List Int}, xs.Perm ys → xs.Pairwise (· ≤ ·) → ys.Pairwise (· ≤ ·) → xs = ys
  | [], ys, h, _, _ => (List.Perm.nil_eq h)
  | x :: xs, [], h, _, _ => absurd (List.Perm.eq_nil h) (by intro z; cases z)
  | x :: xs, y :: ys, h, h1, h2 => by
    have h3 := List.pairwise_cons.mp h1
    have h4 := List.pairwise_cons.mp h2
    have e : x = y := by
      have a1 : y ∈ x :: xs := h.symm.subset List.mem_cons_self
      have a2 : x ∈ y :: ys := h.subset List.mem_cons_self
      have b1 : x ≤ y := by
        rcases List.mem_cons.mp a1 with z | z
        · omega
        · exact h3.1 y z
      have b2 : y ≤ x := by
        rcases List.mem_cons.mp a2 with z | z
        · omega
        · exact h4.1 x z
      omega
    subst e
    rw [sort_one (List.perm_cons x |>.mp h) h3.2 h4.2]
theorem sortI_is {ns ns' : List Int} (h : ns'.Perm ns) (h2 : ns'.Pairwise (· ≤ ·)) : ns' = sortI ns := by
  have p : (sortI ns).Perm ns := List.mergeSort_perm _ _
  have q : (sortI ns).Pairwise fun a b => decide (a ≤ b) = true := List.pairwise_mergeSort (fun a b c h1 h2 => decide_eq_true (by have := of_decide_eq_true h1; have := of_decide_eq_true h2; omega)) (fun a b => by
    by_cases h : a ≤ b
    · rw [decide_eq_true h]; rfl
    · rw [decide_eq_true (by omega : b ≤ a), Bool.or_true]) _
  exact sort_one (h.trans p.symm) h2 (q.imp fun h => of_decide_eq_true h)
section
variable {X : Cx}
theorem sortS : CallS X.K sortD (rSortedI X.K) := by
  intro mg c P env S σ H W Q xs vs z st r e q
  match xs, e with
  | [.lst ds], e =>
    have e' : (intsOf ds).map (fun ns => D.lst ((sortI ns).map .int)) = some z := e
    cases q1 : intsOf ds with
    | none => rw [q1] at e'; cases e'
    | some bs =>
      rw [q1] at e'
      cases e'
      obtain ⟨v, rfl, r1⟩ := r.one
      obtain ⟨a, us, rfl, h1, h2⟩ := r1.lst
      have e1 := ints_rep q1 h2
      subst e1
      refine ⟨a, bs, rfl, .inl h1, fun ns' p hp hs hf => ?_⟩
      rw [sortI_is hp hs]
      refine q.newL st ?_ hf
      have go : ∀ ns : List Int, Reps c H (ns.map .int) (ns.map V.int) := by
        intro ns
        induction ns with
        | nil => rfl
        | cons n ns ih => exact ⟨.int n, ns.map V.int, rfl, rfl, ih⟩
      exact go _
end
end Kb

set_option Elab.async false
set_option linter.all false
set_option maxRecDepth 100000
/-! Kb14: enumerate of a tuple. -/
namespace Kb
open PySem PySem.Spec PyProof.Rows L2 RZ
open Sem (wp)
/-- a new enumerate over the tuple at l -/
theorem enum_newT (l : Addr) (xs : Array Value) (n : Nat) (dc : Option Addr) (sl : Array (Option Value)) :
    Meets (Builtin.«enumerate.__new__» ⟨[.type "enumerate", .ref l], []⟩) (fun _ R z => z.heap.get? l = some { cls := .type "tuple", dict := dc, data := .seq xs n, slots := sl } ∧
      R (.ok (.ret (.ref (z.heap.push { cls := .type "tuple_iterator", data := .fields #[.ref l, .int 0 0] }).objs.size)))
        { z with heap := (z.heap.push { cls := .type "tuple_iterator", data := .fields #[.ref l, .int 0 0] }).push { cls := .type "enumerate", data := .fields #[.none, .bool false, .ref z.heap.objs.size, rawInt 0, .none, .none] } }) :=
  .of_wp fun prog w A R z h => by
    obtain ⟨hp, g, d, tk, os⟩ := z
    obtain ⟨hT, h⟩ := h
    have hsub := sub_enumerate
    have hI : Heap.IsTuple (Shared.heap ⟨hp, g, d, tk, os⟩) l xs := ⟨_, hT, rfl, n, rfl⟩
    wp_walk using AutoSeq1.wpAny_loadPart' hT
    refine wpAny_stack_any fun top => wpAny_pure ?_
    split
    · rename_i c _ _ _ _ _
      cases (c == Value.type "enumerate") <;>
      · wp_walk using AutoSeq1.wpAny_loadPart' hT, wpAny_pyIter_tuple hI
        exact ⟨_, rfl, h⟩
    · wp_walk using AutoSeq1.wpAny_loadPart' hT, wpAny_pyIter_tuple hI
      exact ⟨_, rfl, h⟩
section
variable {prog : Program} {w : World} {A : Around} {E : Value → Shared → Prop} {z : Shared}
theorem call_enumT {l : Addr} {xs : Array Value} {Q : Value → Shared → Prop} (ht : z.heap.IsTuple l xs)
    (k : ∀ g, IsEnum g (z.heap.objs.size + 1) z.heap.objs.size 0 .none → g.IsTupleIter z.heap.objs.size l 0 → g.objs.size = z.heap.objs.size + 2 →
      (∀ b o, z.heap.get? b = some o → g.get? b = some o) → Q (.ref (z.heap.objs.size + 1)) { z with heap := g }) :
    wpAny (model prog w) A (call (.type "enumerate") [.ref l]) Q E z := by
  obtain ⟨⟨c, dc, dt, sl⟩, hl, e1, n, e2⟩ := ht
  have e1' : c = .type "tuple" := e1
  have e2' : dt = .seq xs n := e2
  subst e1' e2'
  refine callType_new F.called_enumerate (by decide) (F.typeCall_enumerate_1 _) (F.newCall_enumerate_1 _) (fun q => F.args_object_init_2 q _) F.entry_enumerate_new (enum_newT l xs n dc sl) ⟨hl, ?_⟩
  have sz : (z.heap.push { cls := .type "tuple_iterator", data := .fields #[.ref l, .int 0 0] }).objs.size = z.heap.objs.size + 1 := Heap.size_push ..
  show _ ∧ _
  rw [sz]
  have en : IsEnum ((z.heap.push { cls := .type "tuple_iterator", data := .fields #[.ref l, .int 0 0] }).push { cls := .type "enumerate", data := .fields #[.none, .bool false, .ref z.heap.objs.size, rawInt 0, .none, .none] }) (z.heap.objs.size + 1) z.heap.objs.size 0 .none := by
    have q := Heap.get?_push_size (z.heap.push { cls := .type "tuple_iterator", data := .fields #[.ref l, .int 0 0] }) (o := { cls := .type "enumerate", data := .fields #[.none, .bool false, .ref z.heap.objs.size, rawInt 0, .none, .none] }) rfl
    rw [sz] at q
    exact q
  exact ⟨⟨_, en, rfl⟩, k _ en ⟨_, Heap.get?_push_of_some _ (Heap.get?_push_size _ rfl), rfl, rfl⟩ (by rw [Heap.size_push, sz]) fun b o q => Heap.get?_push_of_some _ (Heap.get?_push_of_some _ q)⟩
end
/-- the tuple at a, its items in new pairs -/
def IteT (K : PySem.W.Frag) (a : Addr) : It :=
  ⟨fun i H => ∃ (ys : List V) (y : V), SqT K H a ys ∧ ys[i]? = some y,
    fun i H v H' => ∃ T y, v = .ref T ∧ H T = none ∧ H' = upd H T (.tup [.int (i : Nat), y]) ∧ ∀ ys, SqT K H a ys → ys[i]? = some y,
    fun i H => ∃ ys : List V, SqT K H a ys ∧ ys.length ≤ i⟩
theorem turn_enumT {P : Program} {w : World} {K : PySem.W.Frag} {elts : List Expr} {kk : Nat} {tpos : Pos} (a e it : Addr) (hae : a ≠ e) (hai : a ≠ it) :
    Turn P w K (.Tuple elts kk tpos) (IteT K a) [e, it] e (fun i g => (∃ old, IsEnum g e it ((i : Nat) : Int) old) ∧ g.IsTupleIter it a i ∧ e ≠ it) where
  mem := by simp
  obj := fun i g st b hb => by
    obtain ⟨⟨old, he⟩, ⟨o, ho, _, hd⟩, _⟩ := st
    have q : b = e ∨ b = it := by simpa using hb
    rcases q with rfl | rfl
    · exact ⟨_, he, fun v q => nomatch q⟩
    · exact ⟨o, ho, fun v q => by rw [hd] at q; cases q⟩
  keep := fun i g g' st k => by
    obtain ⟨⟨old, he⟩, hi, hn⟩ := st
    exact ⟨⟨old, k e (by simp) _ he⟩, hi.at fun o q => k it (by simp) o q, hn⟩
  item := by
    intro X hP hw hK hc j pins s σ H E I hf st hg
    subst hP hw hK
    obtain ⟨⟨old, he⟩, hit, hn⟩ := st
    obtain ⟨ys, y, hq, hy⟩ := hg
    obtain ⟨its, rv, p, _⟩ := I.tuple hq
    obtain ⟨u, hu, ru⟩ := rv.get hy
    have le : e < s.heap.objs.size := Heap.lt_size he
    have li : it < s.heap.objs.size := by obtain ⟨_, q, _⟩ := hit; exact Heap.lt_size q
    have hlt : j < its.toArray.size := by
      obtain ⟨q, _⟩ := List.getElem?_eq_some_iff.mp hu
      simpa using q
    refine wpAny_pyNext_enum_itemD (Draws.tuple (A := X.A.in1) (show X.A.in1.handled = none from I.ok.hd hc) it a hai its.toArray) he ⟨hit, p⟩ hlt hn (by simp [hn]; exact fun q => hae q.symm) fun x g tk hPx ho hst hT hsz hk => ?_
    have hxu : x = u := by
      have q : its.toArray[j]? = some u := by simpa using hu
      rw [q] at hPx
      exact (Option.some.inj hPx).symm
    subst hxu
    refine ⟨_, rfl, wpAny_letOwnedTupleGo_enum (s := { s with heap := g, toks := tk + 1 }) ho fun g2 he' sb => ?_⟩
    have hTT : g2.get? s.heap.objs.size = some { cls := .type "tuple", data := .seq #[.int j tk, x] } := (sb.2 _ (Nat.ne_of_gt le)).trans hT
    have nw : ObjOk X.prog X.w (upd H s.heap.objs.size (.tup [.int (j : Nat), y])) g2 s.heap.objs.size (.tup [.int (j : Nat), y]) :=
      ⟨by show 2 ≤ sizeLine; decide, [.int j tk, x], .cons ⟨_, rfl⟩ (.cons ru .nil), ⟨_, hTT, rfl, _, rfl⟩⟩
    have II : Inv X pins σ (upd H s.heap.objs.size (.tup [.int (j : Nat), y])) { s with heap := g2, toks := tk + 1 } :=
      I.turnedNew (ch := [e, it]) (fun b ob hb q => (sb.2 b (fun zz => hb (by simp [zz]))).trans (hk b ob (fun zz => hb (by simp [zz])) (fun zz => hb (by simp [zz])) q)) hf (Nat.le_refl _) nw
    refine ⟨.ref s.heap.objs.size, _, II, rfl, ⟨_, y, rfl, I.hok.fresh (Nat.le_refl _), rfl, fun zs hz => by rw [I.tuple_inj hz hq]; exact hy⟩, ⟨⟨x, ?_⟩, hst.1.at fun o q => (sb.2 it (Ne.symm hn)).trans q, hn⟩, fun b hb => ?_⟩
    · have ei : ((j + 1 : Nat) : Int) = (j : Int) + 1 := by omega
      rw [ei]
      exact he'
    · have lb : b < s.heap.objs.size := by
        have q : b = e ∨ b = it := by simpa using hb
        rcases q with rfl | rfl
        · exact le
        · exact li
      rw [upd_ne (Nat.ne_of_lt lb)]
      exact (hf b hb).1
  done := by
    intro X hP hw hK hc j pins s σ H E I hf st hg
    subst hP hw hK
    obtain ⟨⟨old, he⟩, hit, hn⟩ := st
    obtain ⟨ys, hq, hy⟩ := hg
    obtain ⟨its, rv, p, _⟩ := I.tuple hq
    obtain ⟨y0, y1, y2, y3, y4, y5⟩ := hf it (by simp)
    have hl := rv.length
    have T : s.TypeIs (.ref e) "enumerate" := ⟨_, he, rfl⟩
    unfold pyNext
    refine wpAny_bind (wpAny_attempt (wpAny_callSpecial?_slot (name := Str.ofString "__next__") T F.slot_enumerate_next (wpAny_call_entry F.slot_enumerate_next T F.entry_enumerate_next ?_ (F.args_enumerate_next_1 _))))
    refine wpAny_bind (m := field (.ref e) 2) (wpAny_field he rfl (x := .ref it) rfl ?_)
    refine wpAny_bind (wpAny_nextOf_tuple_end (I.ok.hd hc) hit p (by simp; omega) fun g x eb hx => ?_)
    obtain ⟨o, ho, ec⟩ := hx
    refine wpAny_bind (wpAny_isInstance (T := "StopIteration") (b := true) ⟨o, ho, ec⟩ isSubtype_stop ?_)
    exact wpAny_pure ⟨rfl, I.turned (t' := s.toks) (fun b o hb q => eb b o hb q) y0 y1 y3 y4 y5⟩
  self := fun _ _ _ _ _ st h => let ⟨⟨_, he⟩, _⟩ := st; wpAny_pyIter_enum he h
/-- of a list | of a tuple -/
def iEnumA (K : PySem.W.Frag) (ta : TA) : TI := fun σ H R => ta σ H fun vs H1 => ∃ a ys, vs = [.ref a] ∧ ((SqL K H1 a ys ∧ R (Ite K a) H1) ∨ (SqT K H1 a ys ∧ R (IteT K a) H1))
theorem pi_enumA {X : Cx} {e : Expr} {ta : TA} {p pos tpos : Pos} {elts : List Expr} {kk : Nat} (hg : Gl X "enumerate") (hm : X.mg "enumerate" = none) (ha : PA X [e] ta) (hs : starEach [e] X.env = [(false, eval e X.env)] := by rfl) :
    PI X (.Tuple elts kk tpos) (.Call (.Name "enumerate" p) [e] [] pos) (iEnumA X.K ta) := by
  refine ⟨fun pins y σ H R I h => ?_⟩
  refine Call_ (ld_blt I hg hm boot_enumerate (PyProof.Rows.callWith_type1 (thn (ha.run pos pins y σ H _ I h) fun us z ⟨vs, H1, I1, r1, q1⟩ => ?_) hs rfl))
  obtain ⟨a, ys, ex, q⟩ := q1
  subst ex
  cases r1 with
  | cons r rr =>
    cases rr
    cases r
    have fr : ∀ b, b ∈ [z.heap.objs.size + 1, z.heap.objs.size] → FpOk X pins H1 b := fun b hb => by
      have e' : b = z.heap.objs.size + 1 ∨ b = z.heap.objs.size := by simpa using hb
      have hle : z.heap.objs.size ≤ b := by omega
      have ff := I1.hok.fresh hle
      exact I1.fpOk hle ff
    rcases q with ⟨hL, q⟩ | ⟨hL, q⟩
    · obtain ⟨its, rv, p', _⟩ := I1.list hL
      refine call_enumerate_list p'.isList fun g he hit hsz hk => wpAny_pyIter_enum he ?_
      exact ⟨z.heap.objs.size + 1, [z.heap.objs.size + 1, z.heap.objs.size], _, _, H1, rfl, I1.kept (t' := z.toks) hk, turn_enum a (z.heap.objs.size + 1) z.heap.objs.size, ⟨⟨.none, he⟩, hit, Nat.succ_ne_self _⟩, fr, q⟩
    · obtain ⟨its, rv, p', _⟩ := I1.tuple hL
      have la : a < z.heap.objs.size := by obtain ⟨o, q, _⟩ := id p'; exact Heap.lt_size q
      refine call_enumT (show z.heap.IsTuple a its.toArray from p') fun g he hit hsz hk => wpAny_pyIter_enum he ?_
      exact ⟨z.heap.objs.size + 1, [z.heap.objs.size + 1, z.heap.objs.size], _, _, H1, rfl, I1.kept (t' := z.toks) hk, turn_enumT a (z.heap.objs.size + 1) z.heap.objs.size (Nat.ne_of_lt (Nat.lt_succ_of_lt la)) (Nat.ne_of_lt la), ⟨⟨.none, he⟩, hit, Nat.succ_ne_self _⟩, fr, q⟩
section
variable {K : PySem.W.Frag} {mg : MG} {c c1 c' : Cc} {P : List Addr} {H : Hp} {a : Addr} {vs : List V} {ds : List D}
theorem iteT_ok (h0 : SqT c.K H a vs) (r0 : Reps c H ds vs) : ItOk c P H (enumL ds) (IteT c.K a) := by
  intro c1 H1 e
  have h := e.sqT h0
  have r := e.reps _ _ r0
  have hl := r.length
  rw [e.K] at h
  refine ⟨fun i hi => ?_, ⟨vs, h, by unfold enumL; rw [List.length_mapIdx]; omega⟩⟩
  have hi' : i < ds.length := by
    unfold enumL at hi
    rw [List.length_mapIdx] at hi
    exact hi
  obtain ⟨v, e1, r1⟩ := r.get (List.getElem?_eq_getElem hi')
  refine ⟨⟨vs, v, h, e1⟩, fun x H2 q => ?_⟩
  obtain ⟨T, x1, rfl, nT, rfl, q⟩ := q
  have e2 := (q vs h).symm.trans e1
  cases e2
  refine ⟨grow_new nT, .tup [.int (i : Nat), ds[i]], ?_, T, _, rfl, SqT.of upd_same, _, _, rfl, rfl, _, _, rfl, (ext_new (P := P) nT).rep _ _ r1, rfl⟩
  unfold enumL
  rw [List.getElem?_mapIdx, List.getElem?_eq_getElem hi']
  rfl
end
section
variable {X : Cx} {a : Expr} {g : EM (List D)} {p pos tpos : Pos} {elts : List Expr} {kk : Nat}
theorem si_enum (hg : Gl X "enumerate") (hm : X.mg "enumerate" = none) (ha : SA RepL X [a] g) (hs : ∀ X' : Cx, starEach [a] X'.env = [(false, eval a X'.env)] := by intro _; rfl) : SI RepI X (.Tuple elts kk tpos) (.Call (.Name "enumerate" p) [a] [] pos) (iA enumD g) :=
  ⟨fun pn xe W hp tk => wI (pi_enumA (X := X.tr pn xe) hg hm (ha.run pn xe W hp tk) (hs (X.tr pn xe))) fun σ H R ⟨c, P, env, S, st, q⟩ => by
    refine gbind st q fun c1 S1 H1 d v x1 st1 r1 q1 => ?_
    obtain ⟨ds, e, q2⟩ := GPost.lift q1
    match d, e with
    | [.lst xs], e =>
      cases e
      obtain ⟨v1, r, rfl, h1, h2⟩ := r1
      have e2 : r = [] := h2
      subst e2
      obtain ⟨a, vs, rfl, s⟩ := Rep.stay h1
      refine ⟨a, vs, rfl, .inl ⟨.inl s.1, q2.here st1 ?_⟩⟩
      have z := ite_ok s
      rw [st1.K] at z
      exact z
    | [.tup xs], e =>
      cases e
      obtain ⟨v1, r, rfl, h1, h2⟩ := r1
      have e2 : r = [] := h2
      subst e2
      obtain ⟨a, vs, rfl, h3, h4⟩ := h1
      refine ⟨a, vs, rfl, .inr ⟨by rw [← show c1.K = (X.tr pn xe).K from st1.K]; exact h3, q2.here st1 ?_⟩⟩
      have z := iteT_ok (P := []) h3 h4
      rw [st1.K] at z
      exact z⟩
theorem sj_enum (hg : Gl X "enumerate") (hm : X.mg "enumerate" = none) (ha : SA RepsB X [a] g) (hs : ∀ X' : Cx, starEach [a] X'.env = [(false, eval a X'.env)] := by intro _; rfl) : SI RepJ X (.Tuple elts kk tpos) (.Call (.Name "enumerate" p) [a] [] pos) (iA enumD g) :=
  ⟨fun pn xe W hp tk => wI (pi_enumA (X := X.tr pn xe) hg hm (ha.run pn xe W hp tk) (hs (X.tr pn xe))) fun σ H R ⟨c, P, env, S, st, q⟩ => by
    refine gbind st q fun c1 S1 H1 d v x1 st1 r1 q1 => ?_
    obtain ⟨ds, e, q2⟩ := GPost.lift q1
    match d, e with
    | [.lst xs], e =>
      cases e
      obtain ⟨v1, rfl, h1⟩ := RepsB.one r1
      obtain ⟨a, vs, rfl, s⟩ := h1.stay
      refine ⟨a, vs, rfl, .inl ⟨.inl s.1, q2.here st1 ?_⟩⟩
      have z := ite_ok s
      rw [st1.K] at z
      exact z
    | [.tup xs], e =>
      cases e
      obtain ⟨v1, rfl, h1⟩ := RepsB.one r1
      obtain ⟨a, vs, rfl, h3, h4⟩ := h1.tup
      refine ⟨a, vs, rfl, .inr ⟨by rw [← show c1.K = (X.tr pn xe).K from st1.K]; exact h3, q2.here st1 ?_⟩⟩
      have z := iteT_ok (P := P) h3 h4
      rw [st1.K] at z
      exact z⟩
end
section
variable {X : Cx} {a b : Expr} {f g : EM D} {pos : Pos}
/-- a + b, to be the frame's own -/
theorem sf_cat (ha : SB X a f) (hb : SB X b g) : SF X (.BinOp a .Add b pos) (fCat f g) :=
  ⟨fun pn xe W hp tk => wE (pe_op op_catR (ha.run pn xe W hp tk) (hb.run pn xe W hp tk)) fun σ H Q ⟨c, P, env, S, st, q⟩ => by
    refine fbind st q fun c1 S1 H1 x v x1 st1 r1 q1 => ?_
    refine fbind st1 q1 fun c2 S2 H2 y w x2 st2 r2 q2 => ?_
    have rx := RX.ext x2 r1
    cases x with
    | lst xs =>
      cases y with
      | lst ys =>
        by_cases hl : xs.length + ys.length ≤ LN
        · have q3 : FPost c2 P H2 W σ Q (if xs.length + ys.length ≤ LN then .ok (xs ++ ys) S2 else .stuck) := q2
          rw [if_pos hl] at q3
          obtain ⟨l, us, rfl, h1, t1⟩ := rx.lst
          obtain ⟨b, ws, rfl, h2, t2⟩ := r2.lst
          exact ⟨l, b, us, ws, rfl, rfl, h1, h2, by rw [t1.length, t2.length, ← LN_eq]; exact hl, fun p hp => q3.lay st2 (t1.append t2) hp⟩
        · have q3 : FPost c2 P H2 W σ Q (if xs.length + ys.length ≤ LN then .ok (xs ++ ys) S2 else .stuck) := q2
          rw [if_neg hl] at q3
          exact q3.elim
      | _ => exact (show False from q2).elim
    | _ => exact (show False from q2).elim⟩
end
theorem op_lmul {X : Cx} : OpR X (binaryOp .Mult) (fun x y H Q => ∃ l k xs, x = .ref l ∧ y = .int k ∧ Rd H l (.lst xs) ∧ -(2 ^ 63) ≤ k ∧ k < 2 ^ 63 ∧ xs.length * k.toNat ≤ sizeLine ∧ ∀ p, H p = none → Q (.ref p) (upd H p (.lst (List.replicate k.toNat xs).flatten))) := by
  intro pn z ρ H x y v u Q inv rx ry h
  obtain ⟨l, k, xs, rfl, rfl, hR, g1, g2, hz, q⟩ := h
  cases rx
  obtain ⟨t, rfl⟩ := ry
  obtain ⟨_, us, n, r, e⟩ := hR.ok inv.hok
  have hl := r.length
  have len : us.toArray.size * k.toNat ≤ sizeLine := by rw [List.size_toArray, ← hl]; exact hz
  have cap : ¬ us.toArray.size * k.toNat > (2 ^ 63 - 1) / 8 := by
    have zz : (sizeLine : Nat) ≤ (2 ^ 63 - 1) / 8 := by decide
    omega
  have fit : ¬ (!Builtin.List.listFitsIndex k) = true := by rw [fitsIndex_both g1 g2]; exact Bool.false_ne_true
  have long : ¬ Builtin.List.listTooLong (us.toArray.size * k.toNat) = true := by rw [notLongL len]; exact Bool.false_ne_true
  have mk : List.foldl (fun x1 x2 => x1 ++ x2) #[] (List.replicate (if us.toArray.isEmpty = true then 0 else k.toNat) us.toArray) = (List.replicate k.toNat us).flatten.toArray := by
    have go : ∀ m : Nat, List.foldl (fun x1 x2 => x1 ++ x2) #[] (List.replicate m us.toArray) = (List.replicate m us).flatten.toArray := fun m => by
      have q := foldl_rep us m []
      rw [List.nil_append] at q
      exact q
    rw [go]
    cases us with
    | nil => simp
    | cons a b => rw [if_neg (by simp)]
  refine wpAny_binaryOp_repeat_ref (T := "list") (U := "int") (by decide) ⟨_, e, rfl⟩ (fun y => typeIs_int y k t) noFill_list_mul F.fills_int_mul F.slot_int_rmul repeat_list F.slot_int_index.lookup
    (call_meets F.slot_int_rmul (typeIs_int z k t) F.entry_int_rmul (F.args_int_rmul_2 _ _) (int___rmul___int_list k t l us.toArray n)
      ⟨e, rfl, ⟨_, e, rfl⟩, call_meets F.slot_list_mul ⟨_, e, rfl⟩ F.entry_list_mul (F.args_list_mul_2 _ _) (AutoListH.list___mul___list_int_3 l us.toArray n k t fit cap long) ⟨e, ?_⟩⟩)
  rw [mk]
  exact ⟨.ref _, _, inv.lnew (t' := z.toks) (r.rep k.toNat) (by rw [PyProof.Rows.lm_len_rep_flat, Nat.mul_comm]; exact hz), rfl, q _ inv.fresh⟩
section
variable {X : Cx} {a b : Expr} {f g : EM D} {pos : Pos}
theorem se_mulL (ha : SB X a f) (hb : SE X b g) : SE X (.BinOp a .Mult b pos) (e2 mulLD f g) := se_bin (fun _ _ => op_lmul) lmulS ha hb
theorem sf_mul (ha : SB X a f) (hb : SE X b g) : SF X (.BinOp a .Mult b pos) (fMul f g) :=
  ⟨fun pn xe W hp tk => wE (pe_op op_lmul (ha.run pn xe W hp tk) (hb.run pn xe W hp tk)) fun σ H Q ⟨c, P, env, S, st, q⟩ => by
    refine fbind st q fun c1 S1 H1 x v x1 st1 r1 q1 => ?_
    refine fbind st1 q1 fun c2 S2 H2 y w x2 st2 r2 q2 => ?_
    have rx := RX.ext x2 r1
    cases x with
    | lst xs =>
      cases y with
      | int k =>
        have q3 : FPost c2 P H2 W σ Q (if -100000 ≤ k ∧ k ≤ 100000 ∧ xs.length * k.toNat ≤ LN then .ok (List.replicate k.toNat xs).flatten S2 else .stuck) := q2
        by_cases hl : -100000 ≤ k ∧ k ≤ 100000 ∧ xs.length * k.toNat ≤ LN
        · rw [if_pos hl] at q3
          obtain ⟨l, us, rfl, h1, t1⟩ := rx.lst
          have ey : w = .int k := r2
          subst ey
          exact ⟨l, k, us, rfl, rfl, h1, by omega, by omega, by rw [t1.length, ← LN_eq]; exact hl.2.2, fun p hp => q3.lay st2 (Reps.rep k.toNat t1) hp⟩
        · rw [if_neg hl] at q3
          exact q3.elim
      | _ => exact (show False from q2).elim
    | _ => exact (show False from q2).elim⟩
/-! ### len(set(..)) of ints -/
theorem met_ded (ns : List Int) : PyProof.Rows.firstMet (fun i => ns.getD i 0) ns.length = ded ns := by
  have all : (List.range ns.length).map (fun i => ns.getD i 0) = ns := by
    apply List.ext_getElem?
    intro i
    rw [List.getElem?_map]
    by_cases h : i < ns.length
    · rw [List.getElem?_range h, List.getElem?_eq_getElem h, Option.map_some, List.getD_eq_getElem?_getD, List.getElem?_eq_getElem h]
      rfl
    · rw [List.getElem?_eq_none (by rw [List.length_range]; omega), List.getElem?_eq_none (by omega)]
      rfl
  unfold PyProof.Rows.firstMet ded
  rw [all]
  rfl
theorem ded_le (ns : List Int) : (ded ns).length ≤ ns.length := by
  rw [← met_ded]
  exact PyProof.Rows.firstMet_length_le _ _
def tLenSet (K : PySem.W.Frag) (ta : TE) : TE := fun σ H Q => ta σ H fun x H1 => ∃ (l : Addr) (ns : List Int), x = .ref l ∧ SqL K H1 l (ns.map V.int) ∧ ns.length ≤ 4000 ∧ Q (.int ((ded ns).length : Nat)) H1
theorem pe_lenSetA {X : Cx} {a : Expr} {ta : TE} {p p2 q pos : Pos} (hg : Gl X "len") (nLen : X.mg "len" = none) (gSet : Gl X "set") (nSet : X.mg "set" = none) (ha : PE X a ta) (hc : X.calm = true := by rfl)
    (na : starEach [a] X.env = (false, eval a X.env) :: starEach [] X.env := by rfl) :
    PE X (.Call (.Name "len" p) [.Call (.Name "set" p2) [a] [] q] [] pos) (tLenSet X.K ta) := by
  refine ⟨fun pins z σ H Q I h => ?_⟩
  refine Call_ (ld_blt I hg nLen boot_len ?_)
  refine PyProof.Rows.callWith_builtin1 (PyProof.Rows.args_cons ?_ (by rfl)) rfl rfl
  refine Call_ (ld_blt I gSet nSet boot_set ?_)
  refine PyProof.Rows.callWith_type1 (PyProof.Rows.args_cons (thn (ha.run pins z σ H _ I h) fun v y ⟨x, H1, I1, r1, q1⟩ => PyProof.Rows.args_nil ?_) na) na rfl
  obtain ⟨l, ns, rfl, hq, hl, q1⟩ := q1
  cases r1
  obtain ⟨us, r, pl, hz⟩ := I1.list hq
  have lenU : us.toArray.size = ns.length := by rw [List.size_toArray, ← r.length, List.length_map]
  refine call_set_list (I1.ok.hd hc) pl.isList (by simpa using RZ.intsAre_vals r) (by rw [lenU]; unfold scanBound; omega) fun g tk hS hk => ?_
  refine PyProof.Rows.args_nil (?_)
  rw [lenU, met_ded] at hS
  obtain ⟨o, es, ep, t, ho, hex, hd, _, _, _, hf, cnt⟩ := hS
  have dl := ded_le ns
  have I2 : Inv X pins σ H1 { y with heap := g, toks := tk } := I1.kept fun b o e => hk b o (Heap.lt_size e) e
  exact call_len_set ho hex hd hf (by rw [cnt] <;> omega) ⟨.int (ded ns).length, H1, I2.tok _, ⟨_, by rw [cnt]⟩, q1⟩
theorem se_lenSet {p p2 q : Pos} (ha : SB X a f) (hg : Gl X "len") (hm : X.mg "len" = none) (hg2 : Gl X "set") (hm2 : X.mg "set" = none) (hc : X.calm = true := by rfl) (na : ∀ X' : Cx, starEach [a] X'.env = (false, eval a X'.env) :: starEach [] X'.env := by intro _; rfl) : SE X (.Call (.Name "len" p) [.Call (.Name "set" p2) [a] [] q] [] pos) (e1 lenSetD f) :=
  ⟨fun pn xe W hp tk => wE (pe_lenSetA (X := X.tr pn xe) hg hm hg2 hm2 (ha.run pn xe W hp tk) (hc := hc) (na := na (X.tr pn xe))) fun σ H Q ⟨c, P, env, S, st, q⟩ => by
    refine gbind st q fun c1 S1 H1 d v x1 st1 r1 q1 => ?_
    obtain ⟨z, e, q2⟩ := GPost.lift q1
    cases d with
    | lst ds =>
      have e' : ((intsOf ds).bind fun ns => if ns.length ≤ 4000 then some (D.int (ded ns).length) else none) = some z := e
      cases hi : intsOf ds with
      | none => rw [hi] at e'; cases e'
      | some ns =>
        rw [hi, Option.bind_some] at e'
        obtain ⟨hl, rfl⟩ := iteS (p := ns.length ≤ 4000) e'
        obtain ⟨l, us, rfl, h1, t1⟩ := r1.lst
        have eu := ints_rep hi t1
        subst eu
        exact ⟨l, ns, rfl, .inl h1, hl, q2.here st1 rfl⟩
    | _ => cases e⟩
end
end Kb

set_option Elab.async false
set_option linter.all false
set_option maxRecDepth 100000
/-! Kb15: chains of any length, defs as values and calls of them, methods of texts, str, int(text), f-strings. -/
namespace Kb
open L2 PySem PyProof.Rows PySem.Spec
section
variable {X : Cx} {a b e o : Expr} {es : List Expr} {f g : EM D} {F : EM (List D)} {pos p apos : Pos} {x : Str}
/-! ### chains -/
structure CK (X : Cx) (ops : List CmpOp) (rs : List Expr) (l : List ((D → D → Option D) × EM D)) : Prop where
  run : ∀ (pn : List (Addr × Obj)) (xe : Value → Shared → Prop) (W : WX), (∀ q ∈ X.pn, q ∈ pn) → Takes (X.tr pn xe) W → ∀ (pos : Pos) (pins : List (Addr × Obj)) (s : Shared) (σ : L2.St) (H : Hp) (Q : VK) (v : V) (u : Value) (c : Cc) (P : List Addr) (env : Env) (S : Store) (d : D),
    Inv (X.tr pn xe) pins σ H s → RelV v u → Sta X.K (xm X) c P env S σ H → Rep c H d v → GPost c P H W σ RepV Q (eChK l d env S) →
    wpAny (model X.prog X.w) X.A (compareChain pos u ops (evalEach rs X.env)) (EP (X.tr pn xe) pins σ Q) xe s
structure CT (X : Cx) (ops : List CmpOp) (rs : List Expr) (l : List ((D → D → Option D) × EM D)) : Prop where
  run : ∀ (pn : List (Addr × Obj)) (xe : Value → Shared → Prop) (W : WX), (∀ q ∈ X.pn, q ∈ pn) → Takes (X.tr pn xe) W → ∀ (pos : Pos) (pins : List (Addr × Obj)) (s : Shared) (σ : L2.St) (H : Hp) (Q : Bool → Hp → Prop) (v : V) (u : Value) (c : Cc) (P : List Addr) (env : Env) (S : Store) (d : D),
    Inv (X.tr pn xe) pins σ H s → RelV v u → Sta X.K (xm X) c P env S σ H → Rep c H d v → GPost c P H W σ RepT Q ((eChK l d env S).bind fun x S1 => lift (boolD x) S1) →
    wpAny (model X.prog X.w) X.A (testChain pos u ops (evalEach rs X.env)) (TP (X.tr pn xe) pins σ Q) xe s
theorem Out.bind_bind {α β γ : Type} (o : Out α) (f : α → Store → Out β) (g : β → Store → Out γ) : (o.bind f).bind g = o.bind fun x S => (f x S).bind g := by
  cases o <;> rfl
theorem ck_one {op : CmpOp} {r : R2} {od : D → D → Option D} (ho : ∀ pn xe, OpR (X.tr pn xe) (compareOp op) r) (hS : OpS X.K RepV RepV od r) (hb : SE X b g) : CK X [op] [b] [(od, g)] := ⟨fun pn xe W hp tk pos pins s σ H Q v u c P env S d I rv st ra q => by
  refine chain_last (thn ((hb.run pn xe W hp tk).run pins s σ H (fun y H1 => r v y H1 Q) I (gbind st q fun c1 S1 H1 a1 b1 x1 st1 r1 q1 => ?_)) fun w s1 ⟨y, H1, I1, r1, q1⟩ => ho pn xe pins s1 σ H1 v y u w Q I1 rv r1 q1)
  obtain ⟨z, e, q2⟩ := GPost.lift q1
  exact hS (xm X) c1 P env S1 σ H1 W Q d a1 v b1 z st1 (x1.rep _ _ ra) r1 e q2⟩
theorem ck_cons {op op' : CmpOp} {ops : List CmpOp} {b' : Expr} {rs : List Expr} {r : R2} {od : D → D → Option D} {q0 : (D → D → Option D) × EM D} {l : List ((D → D → Option D) × EM D)} (ho : ∀ pn xe, OpR (X.tr pn xe) (compareOp op) r) (hS : OpS X.K RepV RepV od r) (hb : SE X b g)
    (t : CK X (op' :: ops) (b' :: rs) (q0 :: l)) : CK X (op :: op' :: ops) (b :: b' :: rs) ((od, g) :: q0 :: l) := ⟨fun pn xe W hp tk pos pins s σ H Q v u c P env S d I rv st ra q => by
  refine chain_link (thn ((hb.run pn xe W hp tk).run pins s σ H (fun y H1 => r v y H1 fun z H3 => ∃ k, z = .bl k ∧ (if k = true then ∃ (c : Cc) (P : List Addr) (env : Env) (S : Store) (d : D), Sta X.K (xm X) c P env S σ H3 ∧ Rep c H3 d y ∧ GPost c P H3 W σ RepV Q (eChK (q0 :: l) d env S) else Q (.bl false) H3)) I
    (gbind st q fun c1 S1 H1 a1 b1 x1 st1 r1 q1 => ?_)) fun w s1 ⟨y, H1, I1, r1, q1⟩ => thn (ho pn xe pins s1 σ H1 v y u w _ I1 rv r1 q1) fun z' s2 ⟨z, H2, I2, r2, k, ez, q2⟩ => ?_)
  · cases e : od d a1 with
    | none =>
      rw [show lift (od d a1) S1 = .stuck by rw [e]; rfl] at q1
      exact q1.elim
    | some z =>
      rw [show lift (od d a1) S1 = .ok z S1 by rw [e]; rfl] at q1
      refine hS (xm X) c1 P env S1 σ H1 W _ d a1 v b1 z st1 (x1.rep _ _ ra) r1 e fun c3 H3 v3 x3 w3 r3 => ?_
      have st3 := st1.ext x3 w3
      have q3 : GPost c1 P H1 W σ RepV Q ((lift (boolD z) S1).bind fun b S3 => if b = true then eChK (q0 :: l) a1 env S3 else .ok (.bl false) S3) := q1
      obtain ⟨k, rfl, rfl, q4⟩ := gbool r3 (q3.ext x3)
      refine ⟨k, rfl, ?_⟩
      cases k with
      | false => exact iteF (q4.here st3 rfl)
      | true => exact iteT ⟨c3, P, env, S1, a1, st3, x3.rep _ _ r1, q4⟩
  · subst ez
    cases r2
    refine wpAny_truthy_bool ?_
    cases k with
    | false => exact ite_ff ⟨.bl false, H2, I2, rfl, q2⟩
    | true =>
      obtain ⟨c', P', env', S', d', st', rd, q'⟩ := q2
      exact ite_tt (t.run pn xe W hp tk pos pins s2 σ H2 Q y w c' P' env' S' d' I2 r1 st' rd q')⟩
theorem ct_one {op : CmpOp} {r : R2} {od : D → D → Option D} (ho : ∀ pn xe, OpR (X.tr pn xe) (compareOp op) r) (hS : OpS X.K RepV RepV od r) (hb : SE X b g) : CT X [op] [b] [(od, g)] := ⟨fun pn xe W hp tk pos pins s σ H Q v u c P env S d I rv st ra q => by
  have q' : GPost c P H W σ RepT Q ((g env S).bind fun y S1 => (lift (od d y) S1).bind fun x S1 => lift (boolD x) S1) := by
    rw [← Out.bind_bind]
    exact q
  refine test_last (thn ((hb.run pn xe W hp tk).run pins s σ H (fun y H1 => r v y H1 fun z H3 => ∃ k, z = .bl k ∧ Q k H3) I (gbind st q' fun c1 S1 H1 a1 b1 x1 st1 r1 q1 => ?_)) fun w s1 ⟨y, H1, I1, r1, q1⟩ => thn (ho pn xe pins s1 σ H1 v y u w _ I1 rv r1 q1) fun z' s2 ⟨z, H2, I2, r2, k, ez, q2⟩ => ?_)
  · cases e : od d a1 with
    | none =>
      rw [show lift (od d a1) S1 = .stuck by rw [e]; rfl] at q1
      exact q1.elim
    | some z =>
      rw [show lift (od d a1) S1 = .ok z S1 by rw [e]; rfl] at q1
      refine hS (xm X) c1 P env S1 σ H1 W _ d a1 v b1 z st1 (x1.rep _ _ ra) r1 e fun c3 H3 v3 x3 w3 r3 => ?_
      have q3 : GPost c1 P H1 W σ RepT Q (lift (boolD z) S1) := q1
      obtain ⟨k, ek, q4⟩ := GPost.lift q3
      cases z with
      | bl k' =>
        have e2 : k' = k := by simpa [boolD] using ek
        subst e2
        exact ⟨k', r3, q4 c3 H3 k' x3 w3 rfl⟩
      | _ => cases ek
  · subst ez
    cases r2
    exact wpAny_truthy_bool ⟨H2, I2, q2⟩⟩
theorem ct_cons {op op' : CmpOp} {ops : List CmpOp} {b' : Expr} {rs : List Expr} {r : R2} {od : D → D → Option D} {q0 : (D → D → Option D) × EM D} {l : List ((D → D → Option D) × EM D)} (ho : ∀ pn xe, OpR (X.tr pn xe) (compareOp op) r) (hS : OpS X.K RepV RepV od r) (hb : SE X b g)
    (t : CT X (op' :: ops) (b' :: rs) (q0 :: l)) : CT X (op :: op' :: ops) (b :: b' :: rs) ((od, g) :: q0 :: l) := ⟨fun pn xe W hp tk pos pins s σ H Q v u c P env S d I rv st ra q => by
  have q' : GPost c P H W σ RepT Q ((g env S).bind fun y S1 => ((lift (od d y) S1).bind fun z S2 => (lift (boolD z) S2).bind fun b S3 => if b = true then eChK (q0 :: l) y env S3 else .ok (.bl false) S3).bind fun x S1 => lift (boolD x) S1) := by
    rw [← Out.bind_bind]
    exact q
  refine test_link (thn ((hb.run pn xe W hp tk).run pins s σ H (fun y H1 => r v y H1 fun z H3 => ∃ k, z = .bl k ∧ (if k = true then ∃ (c : Cc) (P : List Addr) (env : Env) (S : Store) (d : D), Sta X.K (xm X) c P env S σ H3 ∧ Rep c H3 d y ∧ GPost c P H3 W σ RepT Q ((eChK (q0 :: l) d env S).bind fun x S1 => lift (boolD x) S1) else Q false H3)) I
    (gbind st q' fun c1 S1 H1 a1 b1 x1 st1 r1 q1 => ?_)) fun w s1 ⟨y, H1, I1, r1, q1⟩ => thn (ho pn xe pins s1 σ H1 v y u w _ I1 rv r1 q1) fun z' s2 ⟨z, H2, I2, r2, k, ez, q2⟩ => ?_)
  · cases e : od d a1 with
    | none =>
      rw [show lift (od d a1) S1 = .stuck by rw [e]; rfl] at q1
      exact q1.elim
    | some z =>
      rw [show lift (od d a1) S1 = .ok z S1 by rw [e]; rfl] at q1
      refine hS (xm X) c1 P env S1 σ H1 W _ d a1 v b1 z st1 (x1.rep _ _ ra) r1 e fun c3 H3 v3 x3 w3 r3 => ?_
      have st3 := st1.ext x3 w3
      have q3 : GPost c1 P H1 W σ RepT Q ((lift (boolD z) S1).bind fun b S3 => (if b = true then eChK (q0 :: l) a1 env S3 else .ok (.bl false) S3).bind fun x S1 => lift (boolD x) S1) := by
        rw [← Out.bind_bind]
        exact q1
      obtain ⟨k, rfl, rfl, q4⟩ := gbool r3 (q3.ext x3)
      refine ⟨k, rfl, ?_⟩
      cases k with
      | false => exact iteF (GPost.here (R2 := RepT) (a := false) st3 q4 rfl)
      | true => exact iteT ⟨c3, P, env, S1, a1, st3, x3.rep _ _ r1, q4⟩
  · subst ez
    cases r2
    refine wpAny_truthy_bool ?_
    cases k with
    | false => exact ite_ff ⟨H2, I2, q2⟩
    | true =>
      obtain ⟨c', P', env', S', d', st', rd, q'⟩ := q2
      exact ite_tt (t.run pn xe W hp tk pos pins s2 σ H2 Q y w c' P' env' S' d' I2 r1 st' rd q')⟩
theorem se_chn {op op' : CmpOp} {ops : List CmpOp} {b b' : Expr} {rs : List Expr} {l : List ((D → D → Option D) × EM D)} (ha : SE X a f) (t : CK X (op :: op' :: ops) (b :: b' :: rs) l) (hm : lastMarks (op :: op' :: ops) (b :: b' :: rs) = false) : SE X (.Compare a (op :: op' :: ops) (b :: b' :: rs) pos) (eChn f l) :=
  ⟨fun pn xe W hp tk => ⟨fun pins s σ H Q I ⟨c, P, env, S, st, q⟩ => by
    refine Compare_chain (thn ((ha.run pn xe W hp tk).run pins s σ H (fun y H1 => ∃ (c : Cc) (P : List Addr) (env : Env) (S : Store) (d : D), Sta X.K (xm X) c P env S σ H1 ∧ Rep c H1 d y ∧ GPost c P H1 W σ RepV Q (eChK l d env S)) I (gbind st q fun c1 S1 H1 a1 b1 x1 st1 r1 q1 => ⟨c1, P, env, S1, a1, st1, r1, q1⟩))
      fun w s1 ⟨y, H1, I1, r1, c', P', env', S', d', st', rd, q'⟩ => ?_) hm
    exact t.run pn xe W hp tk pos pins s1 σ H1 Q y w c' P' env' S' d' I1 r1 st' rd q'⟩⟩
theorem st_chn {op op' : CmpOp} {ops : List CmpOp} {b b' : Expr} {rs : List Expr} {l : List ((D → D → Option D) × EM D)} (ha : SE X a f) (t : CT X (op :: op' :: ops) (b :: b' :: rs) l) (hm : lastMarks (op :: op' :: ops) (b :: b' :: rs) = false) : ST X (.Compare a (op :: op' :: ops) (b :: b' :: rs) pos) (tB (eChn f l)) :=
  ⟨fun pn xe W hp tk => ⟨fun pins s σ H Q I ⟨c, P, env, S, st, q⟩ => by
    have q' : GPost c P H W σ RepT Q ((f env S).bind fun x S1 => (eChK l x env S1).bind fun x S1 => lift (boolD x) S1) := by
      rw [← Out.bind_bind]
      exact q
    refine isTrue_chain (thn ((ha.run pn xe W hp tk).run pins s σ H (fun y H1 => ∃ (c : Cc) (P : List Addr) (env : Env) (S : Store) (d : D), Sta X.K (xm X) c P env S σ H1 ∧ Rep c H1 d y ∧ GPost c P H1 W σ RepT Q ((eChK l d env S).bind fun x S1 => lift (boolD x) S1)) I (gbind st q' fun c1 S1 H1 a1 b1 x1 st1 r1 q1 => ⟨c1, P, env, S1, a1, st1, r1, q1⟩))
      fun w s1 ⟨y, H1, I1, r1, c', P', env', S', d', st', rd, q'⟩ => ?_) hm
    exact t.run pn xe W hp tk pos pins s1 σ H1 Q y w c' P' env' S' d' I1 r1 st' rd q'⟩⟩
end
end Kb
namespace Kb
open L2 PySem PyProof.Rows PySem.Spec
section
variable {X : Cx} {a b e o : Expr} {es : List Expr} {f g : EM D} {F : EM (List D)} {pos p apos : Pos} {x : Str}
/-! ### defs as values -/
theorem se_glo {k : Nat} {fa : Addr} (hr : Room k X.A) (hg : Gl X x) (hm : X.mg x = some (.ref fa)) (hd : (x == ("__debug__" : Str)) = false := by decide) : SE X (.Name x pos) (eC (.glo x)) :=
  ⟨fun pn xe W hp tk => wE (pe_glob (X := X.tr pn xe) (v := .ref fa) hg hm rfl hd) fun σ H Q ⟨c, P, env, S, st, q⟩ => q.here st ⟨fa, rfl, by rw [st.mg, xm_room hr]; exact hm⟩⟩
/-- what a def as a value is known to do -/
structure DspR (X : Cx) (n : String) (R : List D → M D) : Prop where
  h : ∃ (k : Nat) (fa : Addr) (fd : FuncData) (ps : List Str), Room k X.A ∧ FnS X.prog X.w X.K X.mg X.base k fa fd ps R ∧ X.mg (Str.ofString n) = some (.ref fa) ∧ PySem.W.keepIn X.K (.ref fa) = true ∧ Binds X.K fd ps []
theorem dsp_in {l : List (String × (List D → M D))} {y : D} {R : List D → M D} (h : dsp l y = some R) : ∃ n, (n, R) ∈ l ∧ y = .glo (Str.ofString n) := by
  cases y with
  | glo x =>
    have h : (l.find? (fun p => Str.ofString p.1 == x)).map (·.2) = some R := h
    cases q : l.find? (fun p => Str.ofString p.1 == x) with
    | none => rw [q] at h; cases h
    | some p =>
      rw [q] at h
      cases h
      have e := List.find?_some q
      exact ⟨p.1, List.mem_of_find?_eq_some q, by rw [eq_of_beq e]⟩
  | _ => cases h
theorem se_callV {k : Nat} {l : List (String × (List D → M D))} (hr : Room k X.A) (G : ∀ n R, (n, R) ∈ l → DspR X n R) (hf : SE X (.Name x p) f) (ha : SA RepL X (e :: es) F)
    (he : ∀ X' : Cx, starEach (e :: es) X'.env = (false, eval e X'.env) :: starEach es X'.env := by intro _; rfl) (hpl : ∀ X' : Cx, (backTo pos (starEach es X'.env)).any (·.1) = false := by intro _; rfl) :
    SE X (.Call (.Name x p) (e :: es) [] pos) (eFv l f F) := ⟨fun pn xe W hp tk => ⟨fun pins s σ H Q I ⟨c, P, env, S, st, q⟩ => by
  refine wpAny_Call_Name_kw (thn ((hf.run pn xe W hp tk).run pins s σ H (fun v H1 => ∃ (c : Cc) (P : List Addr) (env : Env) (S : Store) (y : D) (R : List D → M D), Sta X.K (xm X) c P env S σ H1 ∧ Rep c H1 y v ∧ dsp l y = some R ∧ GPost c P H1 W σ RepV Q ((F env S).bind fun xs S2 => R xs S2)) I (gbind st q fun c1 S1 H1 a1 b1 x1 st1 r1 q1 => ?_)) fun w s1 ⟨v, H1, I1, rv, c1, P1, env1, S1, y, R, st1, ry, e1, q1⟩ => ?_)
  · cases e1 : dsp l a1 with
    | none => rw [e1] at q1; exact q1.elim
    | some R => rw [e1] at q1; exact ⟨c1, P, env, S1, a1, R, st1, r1, e1, q1⟩
  · obtain ⟨n, hn, rfl⟩ := dsp_in e1
    obtain ⟨k1, fa, fd, ps, G0, G1, G2, G3, G4⟩ := (G n R hn).h
    obtain ⟨fa', rfl, e2⟩ := ry
    rw [st1.mg, xm_room hr] at e2
    have e3 : fa' = fa := by
      have z : some (Value.ref fa') = some (.ref fa) := e2.symm.trans G2
      cases z
      rfl
    subst e3
    obtain rfl : w = Value.ref fa' := rv
    refine PySem.W.callWith_K (h₀ := X.base) I1.ok.mod.kin G3 (thn ((ha.run pn xe W hp tk).run pos pins s1 σ H1 (fun vs H2 => spF X.K X.mg R vs H2 Q (WE W σ)) I1 (gbind st1 q1 fun c2 S2 H2 ds vs x2 st2 r2 q2 => ?_)) fun us s2 ⟨vs, H2, I2, r, q2⟩ => ⟨I2.kIn, ?_⟩) (he (X.tr pn xe)) (hpl (X.tr pn xe))
    · refine ⟨c2, P1, S2, ds, st2.K, by rw [st2.mg, xm_room hr], st2.er.w, r2, ?_⟩
      cases o : R ds S2 with
      | ok d S2 => rw [o] at q2; exact q2
      | exc n S2 => rw [o] at q2; exact q2
      | stuck => rw [o] at q2; exact q2
    · exact run_fnS (X := X.tr pn xe) G1 G0 G4 (passAt tk σ) I2 r q2⟩⟩
end
end Kb
namespace Kb
open L2 PySem PyProof.Rows PySem.Spec TL
/-! ### the kit's functions of texts are these -/
theorem fnd_none {c : Nat} : ∀ {l : List Nat} {k : Nat}, (∀ i : Nat, l[i]? ≠ some c) → fnd c l k = -1
  | [], _, _ => rfl
  | x :: r, k, h => by
    have e : ¬ x = c := fun e => h 0 (by rw [e]; rfl)
    show (if x = c then (k : Int) else fnd c r (k + 1)) = -1
    rw [if_neg e]
    exact fnd_none fun i => h (i + 1)
theorem fnd_some {c : Nat} : ∀ {l : List Nat} {k i : Nat}, l[i]? = some c → (∀ j, j < i → l[j]? ≠ some c) → fnd c l k = ((k + i : Nat) : Int)
  | [], _, _, h, _ => by cases h
  | x :: r, k, 0, h, _ => by
    have e : x = c := by simpa using h
    show (if x = c then (k : Int) else fnd c r (k + 1)) = _
    rw [if_pos e]
    rfl
  | x :: r, k, i + 1, h, hn => by
    have e : ¬ x = c := fun e => hn 0 (by omega) (by rw [e]; rfl)
    show (if x = c then (k : Int) else fnd c r (k + 1)) = _
    rw [if_neg e, fnd_some (i := i) (by simpa using h) fun j hj => by have z := hn (j + 1) (by omega); simpa using z]
    congr 1
    omega
theorem find_fnd (z : Str) (c : Nat) : Txt.find z ⟨#[c]⟩ = fnd c z.cps.toList 0 := by
  rcases PyProof.Rows.find_whole z ⟨#[c]⟩ with ⟨e, hn⟩ | ⟨i, e, hi, hn⟩
  · rw [e, fnd_none fun i h => hn i ((StrLaws.subAt_one z c i).mpr h)]
  · rw [e, fnd_some ((StrLaws.subAt_one z c i).mp hi) fun j hj h => hn j hj ((StrLaws.subAt_one z c j).mpr h), Nat.zero_add]
theorem pre_one {c x : Nat} {r : List Nat} : pre [c] (x :: r) = (x == c) := by
  unfold pre
  simp
theorem par_par1 (c : Nat) : ∀ (l acc : List Nat), par [c] acc l = (par1 c l).map fun p => (acc ++ p.1, p.2)
  | [], acc => rfl
  | x :: r, acc => by
    by_cases e : x = c
    · subst e
      rw [par_hit (by rw [pre_one]; simp)]
      show _ = (if x = x then some ([], r) else (par1 x r).map fun p => (x :: p.1, p.2)).map _
      rw [if_pos rfl]
      simp
    · rw [par_miss (by rw [pre_one]; simpa using e), par_par1 c r]
      show _ = (if x = c then some ([], r) else (par1 c r).map fun p => (x :: p.1, p.2)).map _
      rw [if_neg e]
      cases par1 c r <;> simp
theorem spl_spl1 (c : Nat) : ∀ (l acc : List Nat), spl [c] 0 acc l = spl1 c acc l
  | [], acc => rfl
  | x :: r, acc => by
    by_cases e : x = c
    · subst e
      rw [spl_hit (by rw [pre_one]; simp)]
      show acc :: spl [x] 0 [] r = if x = x then acc :: spl1 x [] r else spl1 x (acc ++ [x]) r
      rw [if_pos rfl, spl_spl1 x r]
    · rw [spl_miss (by rw [pre_one]; simpa using e), spl_spl1 c r]
      show _ = if x = c then acc :: spl1 c [] r else spl1 c (acc ++ [x]) r
      rw [if_neg e]
theorem glue_joinL (s : List Nat) : ∀ ls : List (List Nat), joinL s ls = glue s ls
  | [] => by rfl
  | [l] => by simp [joinL, glue]
  | l :: m :: r => by
    have ih := glue_joinL s (m :: r)
    simp only [joinL, glue] at ih ⊢
    rw [ih] <;> simp
theorem digs_num : ∀ n : Nat, digs n = numL n := fun n => by
  induction n using Nat.strongRecOn with
  | _ n ih =>
    unfold digs
    by_cases h : n < 10
    · rw [if_pos h, numL_lt h]
    · rw [if_neg h, numL_step (by omega), ih _ (by omega)]
theorem numS_num (i : Int) : (toString i : Str) = numS i := by
  refine ext_tl ?_
  unfold numS
  by_cases h : i < 0
  · rw [if_pos h, PyProof.Rows.toString_neg h]
    have e : (0 - i) = ((i.natAbs : Nat) : Int) := by omega
    rw [e, digs_num, ← tl_num, tl_ofString, tl_ofString, String.toList_append, List.map_append]
    rfl
  · rw [if_neg h, digs_num, ← tl_num]
    have e : i = ((i.natAbs : Nat) : Int) := by omega
    rw [← e]
    rfl
theorem par_part (z : Str) (c : Nat) : Txt.partition z ⟨#[c]⟩ = match par1 c z.cps.toList with
    | some p => (txS p.1, ⟨#[c]⟩, txS p.2)
    | none => (z, ⟨#[]⟩, ⟨#[]⟩) := by
  rw [partition_par z ⟨#[c]⟩ (by simp)]
  show (match par [c] [] z.cps.toList with | some (a, b) => ((⟨a.toArray⟩ : Str), (⟨#[c]⟩ : Str), (⟨b.toArray⟩ : Str)) | none => (z, Str.empty, Str.empty)) = _
  rw [par_par1]
  cases par1 c z.cps.toList with
  | none => rfl
  | some p => rfl
theorem split_spl1 (z : Str) (c : Nat) (hc : c < 256) : Txt.split z ⟨#[c]⟩ = (spl1 c [] z.cps.toList).map txS := by
  refine map_tl_inj ?_
  rw [split_spl z ⟨#[c]⟩ (by simp) (kind_ok (by simpa using hc))]
  show spl [c] 0 [] z.cps.toList = _
  rw [spl_spl1, List.map_map]
  have e : (tl ∘ txS) = id := by funext l; rfl
  rw [e, List.map_id]
theorem join_glue (z : Str) (ys : List Str) : Txt.join z ys = txS (glue z.cps.toList (ys.map (·.cps.toList))) := by
  rw [join_eq]
  refine ext_tl ?_
  rw [tl_join, glue_joinL]
  rfl
theorem dval_is (l : List Nat) : dval l = PySem.NumText.digitsVal l := rfl
theorem strs_rep {c : Cc} {H : Hp} : ∀ {ds : List D} {ys : List Str} {vs : List V}, strsOf ds = some ys → Reps c H ds vs → vs = ys.map V.str
  | [], ys, vs, e, r => by
    cases e
    rw [show vs = [] from r]
    rfl
  | d :: ds, ys, vs, e, r => by
    obtain ⟨v, t, rfl, h1, h2⟩ := r
    cases d with
    | str b =>
      have e' : (strsOf ds).map (b :: ·) = some ys := e
      cases q : strsOf ds with
      | none => rw [q] at e'; cases e'
      | some zs =>
        rw [q] at e'
        cases e'
        rw [strs_rep q h2, show v = .str b from h1]
        rfl
    | _ => cases e
theorem reps_strs {c : Cc} {H : Hp} : ∀ ys : List (List Nat), Reps c H (ys.map fun l => .str (txS l)) ((ys.map txS).map V.str)
  | [] => rfl
  | y :: ys => ⟨.str (txS y), (ys.map txS).map V.str, rfl, rfl, reps_strs ys⟩
section
variable {X : Cx} {a b e o : Expr} {es : List Expr} {f g : EM D} {F : EM (List D)} {pos p apos : Pos} {x : Str}
def Met1 (K : PySem.W.Frag) (op : Str → D → Option D) (r : V → List V → Hp → VK → Prop) : Prop := ∀ (mg : MG) (c : Cc) (P : List Addr) (env : Env) (S : Store) (σ : L2.St) (H : Hp) (W : WX) (Q : VK) (z : Str) (y : D) (w : V) (d : D),
  Sta K mg c P env S σ H → Rep c H y w → op z y = some d → GPost c P H W σ RepV Q (.ok d S) → r (.str z) [w] H Q
theorem se_m1 {id : String} {name : Str} {r : V → List V → Hp → VK → Prop} {op : Str → D → Option D} (slot : PySem.Slot "str" name id) (ty : typeOf (.builtin id) = pure (.type "method_descriptor")) (rule : ∀ pn xe, MtR (X.tr pn xe) id r) (hS : Met1 X.K op r) (ho : SE X o f) (he : SE X e g)
    (hs : ∀ X' : Cx, starEach [e] X'.env = [(false, eval e X'.env)] := by intro _; rfl) (hbase : ∀ X' : Cx, X'.env = X.env → attributeBase o name X'.env (eval o X'.env) = eval o X'.env := by intro _ _; rfl) (hline : (apos.endLine == pos.line) = true := by rfl) :
    SE X (.Call (.Attribute o name apos) [e] [] pos) (eM1 op f g) := ⟨fun pn xe W hp tk => wE (pe_m1 (X := X.tr pn xe) slot ty (rule pn xe) (ho.run pn xe W hp tk) (he.run pn xe W hp tk) (hs (X.tr pn xe)) (hbase (X.tr pn xe) rfl) hline) fun σ H Q ⟨c, P, env, S, st, q⟩ => by
  refine gbind st q fun c1 S1 H1 a1 b1 x1 st1 r1 q1 => ?_
  cases a1 with
  | str z =>
    obtain rfl : b1 = .str z := r1
    refine ⟨⟨z, rfl⟩, gbind st1 q1 fun c2 S2 H2 a2 b2 x2 st2 r2 q2 => ?_⟩
    obtain ⟨d, e2, q3⟩ := GPost.lift q2
    exact hS (xm X) c2 P env S2 σ H2 W Q z a2 b2 d st2 r2 e2 q3
  | _ => exact q1.elim⟩
def Met0 (K : PySem.W.Frag) (op : Str → Option D) (r : V → List V → Hp → VK → Prop) : Prop := ∀ (mg : MG) (c : Cc) (P : List Addr) (env : Env) (S : Store) (σ : L2.St) (H : Hp) (W : WX) (Q : VK) (z : Str) (d : D),
  Sta K mg c P env S σ H → op z = some d → GPost c P H W σ RepV Q (.ok d S) → r (.str z) [] H Q
theorem se_m0 {id : String} {name : Str} {r : V → List V → Hp → VK → Prop} {op : Str → Option D} (slot : PySem.Slot "str" name id) (ty : typeOf (.builtin id) = pure (.type "method_descriptor")) (rule : ∀ pn xe, MtR (X.tr pn xe) id r) (hS : Met0 X.K op r) (ho : SE X o f)
    (hbase : ∀ X' : Cx, X'.env = X.env → attributeBase o name X'.env (eval o X'.env) = eval o X'.env := by intro _ _; rfl) (hline : (apos.endLine == pos.line) = true := by rfl) :
    SE X (.Call (.Attribute o name apos) [] [] pos) (eM0 op f) := ⟨fun pn xe W hp tk => wE (pe_m0 (X := X.tr pn xe) slot ty (rule pn xe) (ho.run pn xe W hp tk) (hbase (X.tr pn xe) rfl) hline) fun σ H Q ⟨c, P, env, S, st, q⟩ => by
  refine gbind st q fun c1 S1 H1 a1 b1 x1 st1 r1 q1 => ?_
  cases a1 with
  | str z =>
    obtain rfl : b1 = .str z := r1
    refine ⟨⟨z, rfl⟩, ?_⟩
    obtain ⟨d, e2, q3⟩ := GPost.lift q1
    exact hS (xm X) c1 P env S1 σ H1 W Q z d st1 e2 q3
  | _ => exact q1.elim⟩
theorem sign_of {K : PySem.W.Frag} {c : Cc} {H : Hp} {y : D} {w : V} {k : Nat} (h : y = .str ⟨⟨[k]⟩⟩) (r : Rep c H y w) : w = .str ⟨#[k]⟩ := by subst h; exact r
theorem findS : Met1 X.K findD (fun x xs H Q => ∃ a b, x = .str a ∧ xs = [.str b] ∧ Q (.int (Txt.find a b)) H) := by
  intro mg c P env S σ H W Q z y w d st r e q
  unfold findD at e
  split at e
  · rename_i k
    cases e
    exact ⟨z, ⟨#[k]⟩, rfl, by rw [show w = .str ⟨#[k]⟩ from r], by rw [find_fnd]; exact q.here st rfl⟩
  · cases e
theorem partS : Met1 X.K partD (fun x xs H Q => ∃ a b, x = .str a ∧ xs = [.str b] ∧ (b.length == 0) = false ∧ a.length ≤ sizeLine ∧
    ∀ p, H p = none → Q (.ref p) (upd H p (.tup [.str (Txt.partition a b).1, .str (Txt.partition a b).2.1, .str (Txt.partition a b).2.2]))) := by
  intro mg c P env S σ H W Q z y w d st r e q
  unfold partD at e
  split at e
  · rename_i k
    obtain ⟨hl, rfl⟩ := iteS (p := z.length ≤ LN) e
    refine ⟨z, ⟨#[k]⟩, rfl, by rw [show w = .str ⟨#[k]⟩ from r], rfl, by rw [← LN_eq]; exact hl, fun p hp => ?_⟩
    rw [par_part]
    cases h : par1 k z.cps.toList with
    | none =>
      rw [h] at q
      exact q.newT st ⟨_, _, rfl, rfl, _, _, rfl, rfl, _, _, rfl, rfl, rfl⟩ hp
    | some p1 =>
      rw [h] at q
      exact q.newT st ⟨_, _, rfl, rfl, _, _, rfl, rfl, _, _, rfl, rfl, rfl⟩ hp
  · cases e
theorem splitS : Met1 X.K splitD (fun x xs H Q => ∃ a b, x = .str a ∧ xs = [.str b] ∧ (b.length == 0) = false ∧ a.length + 2 ≤ sizeLine ∧ rNewStrs (Txt.split a b) H Q) := by
  intro mg c P env S σ H W Q z y w d st r e q
  unfold splitD at e
  split at e
  · rename_i k
    obtain ⟨hl, rfl⟩ := iteS (p := z.length + 2 ≤ LN ∧ k < 256) e
    refine ⟨z, ⟨#[k]⟩, rfl, by rw [show w = .str ⟨#[k]⟩ from r], rfl, by rw [← LN_eq]; exact hl.1, fun p hp => ?_⟩
    rw [split_spl1 z k hl.2]
    exact q.newL st (reps_strs _) hp
  · cases e
theorem joinS_ok : Met1 X.K joinD (fun x xs H Q => ∃ a p, ∃ ys : List Str, x = .str a ∧ xs = [.ref p] ∧ (SqL X.K H p (ys.map V.str) ∨ SqT X.K H p (ys.map V.str)) ∧
    (ys.map (·.length)).sum + ys.length * a.length ≤ 16777216 ∧ Q (.str (Txt.join a ys)) H) := by
  intro mg c P env S σ H W Q z y w d st r e q
  cases y with
  | lst ds =>
    have e : (strsOf ds).bind (joinS z) = some d := e
    cases h : strsOf ds with
    | none => rw [h] at e; cases e
    | some ys =>
      rw [h] at e
      have e : joinS z ys = some d := e
      unfold joinS at e
      obtain ⟨hl, rfl⟩ := iteS (p := (ys.map (·.length)).sum + ys.length * z.length ≤ LN) e
      obtain ⟨a, vs, rfl, h1, h2⟩ := r
      rw [strs_rep h h2] at h1
      exact ⟨z, a, ys, rfl, rfl, .inl (by rw [← st.K]; exact h1.seq), hl, by rw [join_glue]; exact q.here st rfl⟩
  | tup ds =>
    have e : (strsOf ds).bind (joinS z) = some d := e
    cases h : strsOf ds with
    | none => rw [h] at e; cases e
    | some ys =>
      rw [h] at e
      have e : joinS z ys = some d := e
      unfold joinS at e
      obtain ⟨hl, rfl⟩ := iteS (p := (ys.map (·.length)).sum + ys.length * z.length ≤ LN) e
      obtain ⟨a, vs, rfl, h1, h2⟩ := r
      rw [strs_rep h h2] at h1
      exact ⟨z, a, ys, rfl, rfl, .inr (by rw [← st.K]; exact h1), hl, by rw [join_glue]; exact q.here st rfl⟩
  | _ => cases e
/-! ### str(..), int(..) -/
theorem cr_str : CallR X (.type "str") (fun xs H Q => (∃ i, xs = [.int i] ∧ i.natAbs.log2 < 1920 ∧ Q (.str (toString i)) H) ∨ ∃ a, xs = [.str a] ∧ Q (.str a) H) := by
  intro pins s σ H xs us Q I r h
  rcases h with h | h
  · exact call_str_int pins s σ H xs us Q I r h
  · exact SkE.call_str_str pins s σ H xs us Q I r h
theorem strS : CallS X.K strD (fun xs H Q => (∃ i, xs = [.int i] ∧ i.natAbs.log2 < 1920 ∧ Q (.str (toString i)) H) ∨ ∃ a, xs = [.str a] ∧ Q (.str a) H) := by
  intro mg c P env S σ H W Q xs vs z st r e q
  match xs, e with
  | [.int i], e =>
    obtain ⟨hl, rfl⟩ := iteS (p := bit i < 1920) e
    obtain ⟨v, rfl, r1⟩ := r.one
    exact .inl ⟨i, by rw [r1.int], hl, by rw [numS_num]; exact q.here st rfl⟩
  | [.str i], e =>
    cases e
    obtain ⟨v, rfl, r1⟩ := r.one
    exact .inr ⟨i, by rw [r1.str], q.here st rfl⟩
theorem cr_int : CallR X (.type "int") (fun xs H Q => (∃ a n, xs = [.str a] ∧ PySem.intText? a = some n ∧ a.length ≤ 640 ∧ Q (.int n) H) ∨ (∃ i, xs = [.int i] ∧ Q (.int i) H) ∨ ∃ k, xs = [.bl k] ∧ Q (.int (if k then 1 else 0)) H) := by
  intro pins s σ H xs us Q I r h
  rcases h with h | h
  · exact call_int_str pins s σ H xs us Q I r h
  · exact call_int1 pins s σ H xs us Q I r h
theorem intTS : CallS X.K intTD (fun xs H Q => (∃ a n, xs = [.str a] ∧ PySem.intText? a = some n ∧ a.length ≤ 640 ∧ Q (.int n) H) ∨ (∃ i, xs = [.int i] ∧ Q (.int i) H) ∨ ∃ k, xs = [.bl k] ∧ Q (.int (if k then 1 else 0)) H) := by
  intro mg c P env S σ H W Q xs vs z st r e q
  match xs, e with
  | [.int i], e =>
    cases e
    obtain ⟨v, rfl, r1⟩ := r.one
    exact .inr (.inl ⟨i, by rw [r1.int], q.here st rfl⟩)
  | [.bl i], e =>
    cases e
    obtain ⟨v, rfl, r1⟩ := r.one
    exact .inr (.inr ⟨i, by rw [r1.bl], q.here st rfl⟩)
  | [.str i], e =>
    obtain ⟨hl, rfl⟩ := iteS (p := i.cps.toList ≠ [] ∧ i.length ≤ 640 ∧ (i.cps.toList.all fun c => decide (48 ≤ c ∧ c ≤ 57)) = true) e
    obtain ⟨v, rfl, r1⟩ := r.one
    refine .inl ⟨i, _, by rw [r1.str], intText_digits (fun c hc => ?_) hl.1 (by have := hl.2.1; omega), hl.2.1, q.here st rfl⟩
    have z := List.all_eq_true.mp hl.2.2 c hc
    simpa using z
/-! ### f-strings -/
theorem se_fmt (he : SE X e f) : SE X (.FormattedValue e (-1) none pos) (e1 fmtD f) := ⟨fun pn xe W hp tk => wE (pe_fmt (X := X.tr pn xe) (he.run pn xe W hp tk)) fun σ H Q ⟨c, P, env, S, st, q⟩ => by
  refine gbind st q fun c1 S1 H1 a1 b1 x1 st1 r1 q1 => ?_
  obtain ⟨d, e2, q3⟩ := GPost.lift q1
  cases a1 with
  | str z =>
    obtain ⟨hl, rfl⟩ := iteS (p := z.length ≤ LN) e2
    exact .inl ⟨z, r1, by rw [← LN_eq]; exact hl, q3.here st1 rfl⟩
  | int i =>
    obtain ⟨hl, rfl⟩ := iteS (p := bit i < 1920) e2
    exact .inr ⟨i, r1, hl, by rw [numS_num]; exact q3.here st1 rfl⟩
  | _ => cases e2⟩
inductive SJ (X : Cx) : List Expr → List (EM D) → Prop where
  | nil : SJ X [] []
  | cons {e : Expr} {f : EM D} {es : List Expr} {fs : List (EM D)} (h : SE X e f) (r : SJ X es fs) : SJ X (e :: es) (f :: fs)
theorem sj_pj {W : WX} {pn : List (Addr × Obj)} {xe : Value → Shared → Prop} (hp : ∀ q ∈ X.pn, q ∈ pn) (tk : Takes (X.tr pn xe) W) {es : List Expr} {fs : List (EM D)} (h : SJ X es fs) : PJ (X.tr pn xe) es (fs.map fun f => tG X.K (xm X) RepV f W) := by
  induction h with
  | nil => exact .nil
  | cons h r ih => exact .cons (h.run pn xe W hp tk) ih
theorem tjs_of {K : PySem.W.Frag} {mg : MG} {W : WX} {Q : VK} : ∀ (fs : List (EM D)) (acc : List Nat) (A : Str) (c : Cc) (P : List Addr) (env : Env) (S : Store) (σ : L2.St) (H : Hp), tl A = acc → Sta K mg c P env S σ H → GPost c P H W σ RepV Q (eJ fs acc env S) →
    tJs (fs.map fun f => tG K mg RepV f W) A σ H fun out H1 => Q (.str out) H1
  | [], acc, A, c, P, env, S, σ, H, eA, st, q => by
    have e : A = txS acc := ext_tl (by rw [eA]; rfl)
    subst e
    exact q.here st rfl
  | f :: fs, acc, A, c, P, env, S, σ, H, eA, st, q => by
    refine gbind st q fun c1 S1 H1 a1 b1 x1 st1 r1 q1 => ?_
    cases a1 with
    | str z =>
      have q2 : GPost c1 P H1 W σ RepV Q (if (acc ++ z.cps.toList).length ≤ LN then eJ fs (acc ++ z.cps.toList) env S1 else .stuck) := q1
      by_cases hl : (acc ++ z.cps.toList).length ≤ LN
      · rw [if_pos hl] at q2
        have e2 : tl (A ++ z) = acc ++ z.cps.toList := by rw [tl_append, eA]
        exact ⟨z, r1, by rw [len_tl, e2, ← LN_eq]; exact hl, tjs_of fs (acc ++ z.cps.toList) (A ++ z) c1 P env S1 σ H1 e2 st1 q2⟩
      · rw [if_neg hl] at q2
        exact q2.elim
    | _ => exact q1.elim
theorem se_joined {v1 v2 : Expr} {rest : List Expr} {fs : List (EM D)} (h : SJ X (v1 :: v2 :: rest) fs) : SE X (.JoinedStr (v1 :: v2 :: rest) pos) (eJ fs []) := ⟨fun pn xe W hp tk => wE (pe_joined (X := X.tr pn xe) (sj_pj hp tk h)) fun σ H Q ⟨c, P, env, S, st, q⟩ =>
  tjs_of fs [] Str.empty c P env S σ H rfl st q⟩
end
end Kb

set_option linter.all false
set_option maxRecDepth 100000
/-! printed by gen.py: the defs that many laws share, as plain functions. -/
namespace Ks
open Kb PySem
noncomputable def b_common_1 : SM :=
  ((sPar 0 1 (aCons (eN 1) (aCons (e2 modD (eN 0) (eN 1)) aNil))))
noncomputable def b_common : SM :=
  (sSeq ((sSet 0 (eA absD (aCons (eB 0) aNil)))) (sSeq ((sSet 1 (eA absD (aCons (eB 1) aNil)))) (sSeq ((sWhile (tB (e2 neD (eB 1) (eC (.int 0)))) b_common_1)) ((sRet (eN 0))))))
noncomputable def d_common : List D → M D := fnD 2 0 b_common

noncomputable def b_ratio : SM :=
  (sSeq ((sIf (tB (e2 eqD (eB 1) (eC (.int 0)))) ((sRaise "NotAllowed")) sNil)) (sSeq ((sIf (tB (e2 ltD (eN 1) (eC (.int 0)))) (sSeq ((sSet 0 (e1 negD (eN 0)))) ((sSet 1 (e1 negD (eN 1))))) sNil)) (sSeq ((sSet 2 (eF Ks.d_common (aCons (eN 0) (aCons (eN 1) aNil))))) ((sRet (eA tupD (aCons (e2 fdivD (eN 0) (eN 2)) (aCons (e2 fdivD (eN 1) (eN 2)) aNil))))))))
noncomputable def d_ratio : List D → M D := fnD 2 1 b_ratio

noncomputable def b_is_ratio : SM :=
  ((sRet (eAnd (e2 eqD (eA lenD (aCons (eB 0) aNil)) (eC (.int 2))) (eAnd (e2 geD (e2 ixD (eB 0) (eC (.int 1))) (eC (.int 1))) (e2 eqD (eF Ks.d_common (aCons (e2 ixD (eB 0) (eC (.int 0))) (aCons (e2 ixD (eB 0) (eC (.int 1))) aNil))) (eC (.int 1)))))))
noncomputable def d_is_ratio : List D → M D := fnD 1 0 b_is_ratio

noncomputable def b_of_int : SM :=
  ((sRet (eA tupD (aCons (eN 0) (aCons (eC (.int 1)) aNil)))))
noncomputable def d_of_int : List D → M D := fnD 1 0 b_of_int

noncomputable def b__law_stream_1 : SM :=
  (sSeq ((sApp 1 (e2 modD (eA intD (aCons (eB 3) aNil)) (eC (.int 1009))))) (sSeq ((sSet 3 (e2 fdivD (eN 3) (eC (.int 1009))))) ((sIf (tB (e2 eqD (eB 3) (eC (.int 0)))) ((sBrk)) sNil))))
noncomputable def b__law_stream_2 : SM :=
  (sSeq ((sSet 5 (e2 modD (eA intD (aCons (e2 addD (e2 addD (e2 mulI (eN 5) (eC (.int 48271))) (e2 mulI (eC (.int 7)) (eN 4))) (eC (.int 11))) aNil)) (eC (.int 2147483647))))) ((sApp 1 (e2 modD (e2 modD (eA intD (aCons (e2 addD (e2 mulI (eN 5) (eC (.int 69621))) (eB 4)) aNil)) (eC (.int 2147483629))) (eC (.int 1009))))))
noncomputable def b__law_stream_3 : SM :=
  (sSeq ((sSet 3 (eA intD (aCons (eB 2) aNil)))) ((sIf (tB (e2 geD (eN 3) (e2 powD (eC (.int 10)) (eC (.int 18))))) ((sFor (.nm 4) (iA rng1D (aCons (eC (.int 60)) aNil)) b__law_stream_1)) (sSeq ((sSet 5 (e2 modD (eA intD (aCons (eB 3) aNil)) (eC (.int 2147483647))))) ((sFor (.nm 4) (iA rng1D (aCons (eC (.int 10)) aNil)) b__law_stream_2))))))
noncomputable def b__law_stream : SM :=
  (sSeq ((sOwn 1 (fLst aNil))) (sSeq ((sFor (.nm 2) (iS (eSl (eB 0) pNo (pSo (eC (.int 63))))) b__law_stream_3)) (sSeq ((sIf (tB (e2 eqD (eA lenD (aCons (eB 1) aNil)) (eC (.int 0)))) ((sApp 1 (eC (.int 0)))) sNil)) ((sFrz 1 (sRet (eN 1)))))))
noncomputable def d__law_stream : List D → M D := fnD 1 5 b__law_stream

noncomputable def b__law_pick : SM :=
  ((sRet (e2 modD (eA intD (aCons (e2 ixD (eB 0) (e2 modD (eN 1) (eA lenD (aCons (eB 0) aNil)))) aNil)) (eN 2))))
noncomputable def d__law_pick : List D → M D := fnD 3 0 b__law_pick

noncomputable def b__law_gcd_1 : SM :=
  (sSeq ((sIf (tB (e2 eqD (eB 1) (eC (.int 0)))) ((sBrk)) sNil)) ((sPar 0 1 (aCons (eN 1) (aCons (e2 modD (eA intD (aCons (eB 0) aNil)) (eN 1)) aNil)))))
noncomputable def b__law_gcd : SM :=
  (sSeq ((sSet 0 (eA absD (aCons (eB 0) aNil)))) (sSeq ((sSet 1 (eA absD (aCons (eB 1) aNil)))) (sSeq ((sFor (.nm 2) (iA rng1D (aCons (eC (.int 40000)) aNil)) b__law_gcd_1)) ((sRet (eN 0))))))
noncomputable def d__law_gcd : List D → M D := fnD 2 1 b__law_gcd

noncomputable def b__law_int_1 : SM :=
  ((sSet 4 (e2 addD (e2 mulI (eN 4) (eC (.int 1009))) (eF Ks.d__law_pick (aCons (eN 0) (aCons (e2 addD (e2 addD (eB 1) (eC (.int 3))) (eB 5)) (aCons (eC (.int 1009)) aNil)))))))
noncomputable def b__law_int : SM :=
  (sSeq ((sSet 2 (eF Ks.d__law_pick (aCons (eN 0) (aCons (eN 1) (aCons (eC (.int 6)) aNil)))))) (sSeq ((sSet 3 (e2 ixD (eA lstD (aCons (eC (.int 1)) (aCons (e1 negD (eC (.int 1))) aNil))) (eF Ks.d__law_pick (aCons (eN 0) (aCons (e2 addD (eB 1) (eC (.int 1))) (aCons (eC (.int 2)) aNil))))))) (sSeq ((sIf (tB (e2 eqD (eB 2) (eC (.int 0)))) ((sRet (e2 ixD (eA lstD (aCons (eC (.int 0)) (aCons (eC (.int 1)) (aCons (e1 negD (eC (.int 1))) (aCons (eC (.int 2)) aNil))))) (eF Ks.d__law_pick (aCons (eN 0) (aCons (e2 addD (eB 1) (eC (.int 2))) (aCons (eC (.int 4)) aNil))))))) sNil)) (sSeq ((sIf (tB (e2 ltD (eN 2) (eC (.int 4)))) ((sRet (e2 mulI (eN 3) (eF Ks.d__law_pick (aCons (eN 0) (aCons (e2 addD (eB 1) (eC (.int 2))) (aCons (e2 ixD (eA lstD (aCons (eC (.int 12)) (aCons (eC (.int 60)) (aCons (eC (.int 1009)) aNil)))) (e2 subD (eN 2) (eC (.int 1)))) aNil))))))) sNil)) (sSeq ((sSet 4 (eC (.int 0)))) (sSeq ((sFor (.nm 5) (iA rng1D (aCons (e2 addD (eC (.int 1)) (eF Ks.d__law_pick (aCons (eN 0) (aCons (e2 addD (eB 1) (eC (.int 2))) (aCons (eC (.int 12)) aNil))))) aNil)) b__law_int_1)) ((sRet (e2 mulI (eN 3) (eN 4))))))))))
noncomputable def d__law_int : List D → M D := fnD 2 4 b__law_int

noncomputable def b__law_ratio : SM :=
  (sSeq ((sIf (tB (e2 ltD (eN 1) (eC (.int 0)))) (sSeq ((sSet 0 (e2 subD (eC (.int 0)) (eN 0)))) ((sSet 1 (e2 subD (eC (.int 0)) (eN 1))))) sNil)) (sSeq ((sSet 2 (eF Ks.d__law_gcd (aCons (eN 0) (aCons (eN 1) aNil))))) ((sRet (eA tupD (aCons (e2 fdivD (eN 0) (eN 2)) (aCons (e2 fdivD (eN 1) (eN 2)) aNil)))))))
noncomputable def d__law_ratio : List D → M D := fnD 2 1 b__law_ratio

noncomputable def b__law_plus : SM :=
  ((sRet (eF Ks.d__law_ratio (aCons (e2 addD (e2 mulI (e2 ixD (eB 0) (eC (.int 0))) (e2 ixD (eB 1) (eC (.int 1)))) (e2 mulI (e2 ixD (eB 1) (eC (.int 0))) (e2 ixD (eB 0) (eC (.int 1))))) (aCons (e2 mulI (e2 ixD (eB 0) (eC (.int 1))) (e2 ixD (eB 1) (eC (.int 1)))) aNil)))))
noncomputable def d__law_plus : List D → M D := fnD 2 0 b__law_plus

noncomputable def b__law_times : SM :=
  ((sRet (eF Ks.d__law_ratio (aCons (e2 mulI (e2 ixD (eB 0) (eC (.int 0))) (e2 ixD (eB 1) (eC (.int 0)))) (aCons (e2 mulI (e2 ixD (eB 0) (eC (.int 1))) (e2 ixD (eB 1) (eC (.int 1)))) aNil)))))
noncomputable def d__law_times : List D → M D := fnD 2 0 b__law_times

noncomputable def b_plus : SM :=
  ((sRet (eF Ks.d_ratio (aCons (e2 addD (e2 mulI (e2 ixD (eB 0) (eC (.int 0))) (e2 ixD (eB 1) (eC (.int 1)))) (e2 mulI (e2 ixD (eB 1) (eC (.int 0))) (e2 ixD (eB 0) (eC (.int 1))))) (aCons (e2 mulI (e2 ixD (eB 0) (eC (.int 1))) (e2 ixD (eB 1) (eC (.int 1)))) aNil)))))
noncomputable def d_plus : List D → M D := fnD 2 0 b_plus

noncomputable def b_negated : SM :=
  ((sRet (eA tupD (aCons (e1 negD (e2 ixD (eB 0) (eC (.int 0)))) (aCons (e2 ixD (eB 0) (eC (.int 1))) aNil)))))
noncomputable def d_negated : List D → M D := fnD 1 0 b_negated

noncomputable def b_minus : SM :=
  ((sRet (eF Ks.d_plus (aCons (eN 0) (aCons (eF Ks.d_negated (aCons (eN 1) aNil)) aNil)))))
noncomputable def d_minus : List D → M D := fnD 2 0 b_minus

noncomputable def b_times : SM :=
  ((sRet (eF Ks.d_ratio (aCons (e2 mulI (e2 ixD (eB 0) (eC (.int 0))) (e2 ixD (eB 1) (eC (.int 0)))) (aCons (e2 mulI (e2 ixD (eB 0) (eC (.int 1))) (e2 ixD (eB 1) (eC (.int 1)))) aNil)))))
noncomputable def d_times : List D → M D := fnD 2 0 b_times

noncomputable def b_over : SM :=
  ((sRet (eF Ks.d_ratio (aCons (e2 mulI (e2 ixD (eB 0) (eC (.int 0))) (e2 ixD (eB 1) (eC (.int 1)))) (aCons (e2 mulI (e2 ixD (eB 0) (eC (.int 1))) (e2 ixD (eB 1) (eC (.int 0)))) aNil)))))
noncomputable def d_over : List D → M D := fnD 2 0 b_over

noncomputable def b_sign_of : SM :=
  (sSeq ((sIf (tB (e2 eqD (e2 ixD (eB 0) (eC (.int 0))) (eC (.int 0)))) ((sRet (eC (.int 0)))) sNil)) ((sRet (eIf (tB (e2 gtD (e2 ixD (eB 0) (eC (.int 0))) (eC (.int 0)))) (eC (.int 1)) (e1 negD (eC (.int 1)))))))
noncomputable def d_sign_of : List D → M D := fnD 1 0 b_sign_of

noncomputable def b_compare : SM :=
  ((sRet (eF Ks.d_sign_of (aCons (eA tupD (aCons (e2 subD (e2 mulI (e2 ixD (eB 0) (eC (.int 0))) (e2 ixD (eB 1) (eC (.int 1)))) (e2 mulI (e2 ixD (eB 1) (eC (.int 0))) (e2 ixD (eB 0) (eC (.int 1))))) (aCons (eC (.int 1)) aNil))) aNil))))
noncomputable def d_compare : List D → M D := fnD 2 0 b_compare

noncomputable def b_floor_of : SM :=
  ((sRet (e2 fdivD (e2 ixD (eB 0) (eC (.int 0))) (e2 ixD (eB 0) (eC (.int 1))))))
noncomputable def d_floor_of : List D → M D := fnD 1 0 b_floor_of

noncomputable def b_check_widths : SM :=
  ((sIf (tB (e2 neD (eA lenD (aCons (eB 0) aNil)) (eA lenD (aCons (eB 1) aNil)))) ((sRaise "NotAllowed")) sNil))
noncomputable def d_check_widths : List D → M D := fnD 2 0 b_check_widths

noncomputable def l_add_rows_1 : EM (List D) :=
  (eLc (iA zipD (aCons (eB 0) (aCons (eB 1) aNil))) (.tp [(.nm 2), (.nm 3)]) [2, 3] tYes (eF Ks.d_plus (aCons (eN 2) (aCons (eN 3) aNil))))
noncomputable def b_add_rows : SM :=
  (sSeq ((sExpr (eF Ks.d_check_widths (aCons (eN 0) (aCons (eN 1) aNil))))) ((sRet (eA tupleD (aCons (eLst l_add_rows_1) aNil)))))
noncomputable def d_add_rows : List D → M D := fnD 2 2 b_add_rows

noncomputable def l_scale_row_1 : EM (List D) :=
  (eLc (iS (eB 1)) (.nm 2) [2] tYes (eF Ks.d_times (aCons (eN 0) (aCons (eN 2) aNil))))
noncomputable def b_scale_row : SM :=
  ((sRet (eA tupleD (aCons (eLst l_scale_row_1) aNil))))
noncomputable def d_scale_row : List D → M D := fnD 2 1 b_scale_row

noncomputable def b_product_1 : SM :=
  ((sSet 2 (eF Ks.d_plus (aCons (eN 2) (aCons (eF Ks.d_times (aCons (eN 3) (aCons (eN 4) aNil))) aNil)))))
noncomputable def b_product : SM :=
  (sSeq ((sExpr (eF Ks.d_check_widths (aCons (eN 0) (aCons (eN 1) aNil))))) (sSeq ((sSet 2 (eF Ks.d_of_int (aCons (eC (.int 0)) aNil)))) (sSeq ((sFor (.tp [(.nm 3), (.nm 4)]) (iA zipD (aCons (eN 0) (aCons (eN 1) aNil))) b_product_1)) ((sRet (eN 2))))))
noncomputable def d_product : List D → M D := fnD 2 3 b_product

noncomputable def b_value_at : SM :=
  ((sRet (eF Ks.d_plus (aCons (eF Ks.d_product (aCons (e2 ixD (eB 0) (eC (.int 0))) (aCons (eN 1) aNil))) (aCons (e2 ixD (eB 0) (eC (.int 1))) aNil)))))
noncomputable def d_value_at : List D → M D := fnD 2 0 b_value_at

noncomputable def b_add_forms : SM :=
  ((sRet (eA tupD (aCons (eF Ks.d_add_rows (aCons (e2 ixD (eB 0) (eC (.int 0))) (aCons (e2 ixD (eB 1) (eC (.int 0))) aNil))) (aCons (eF Ks.d_plus (aCons (e2 ixD (eB 0) (eC (.int 1))) (aCons (e2 ixD (eB 1) (eC (.int 1))) aNil))) aNil)))))
noncomputable def d_add_forms : List D → M D := fnD 2 0 b_add_forms

noncomputable def b_scale_form : SM :=
  ((sRet (eA tupD (aCons (eF Ks.d_scale_row (aCons (eN 0) (aCons (e2 ixD (eB 1) (eC (.int 0))) aNil))) (aCons (eF Ks.d_times (aCons (eN 0) (aCons (e2 ixD (eB 1) (eC (.int 1))) aNil))) aNil)))))
noncomputable def d_scale_form : List D → M D := fnD 2 0 b_scale_form

def c_MAX_WIDTH : D := .int 24
noncomputable def l_check_row_1 : EM (List D) :=
  (eLc (iS (eB 0)) (.nm 1) [1] tYes (eF Ks.d_is_ratio (aCons (eN 1) aNil)))
noncomputable def b_check_row : SM :=
  ((sIf (tOr (tB (e2 ltD (eA lenD (aCons (eB 0) aNil)) (eC (.int 1)))) (tOr (tB (e2 gtD (eA lenD (aCons (eB 0) aNil)) (eC c_MAX_WIDTH))) (tNot (tV (eA allD (aCons (eLst l_check_row_1) aNil)))))) ((sRaise "NotAllowed")) sNil))
noncomputable def d_check_row : List D → M D := fnD 1 1 b_check_row

noncomputable def l_zero_row_1 : EM (List D) :=
  (eLc (iA rng1D (aCons (eN 0) aNil)) (.nm 1) [1] tYes (eF Ks.d_of_int (aCons (eC (.int 0)) aNil)))
noncomputable def b_zero_row : SM :=
  (sSeq ((sIf (tOr (tB (e2 ltD (eN 0) (eC (.int 1)))) (tB (e2 gtD (eN 0) (eC Ks.c_MAX_WIDTH)))) ((sRaise "NotAllowed")) sNil)) ((sRet (eA tupleD (aCons (eLst l_zero_row_1) aNil)))))
noncomputable def d_zero_row : List D → M D := fnD 1 1 b_zero_row

noncomputable def b_unit_row : SM :=
  (sSeq ((sSet 2 (eF Ks.d_zero_row (aCons (eN 0) aNil)))) (sSeq ((sIf (tOr (tB (e2 ltD (eN 1) (eC (.int 0)))) (tB (e2 geD (eN 1) (eN 0)))) ((sRaise "NotAllowed")) sNil)) ((sRet (e2 addD (e2 addD (eSl (eB 2) pNo (pSo (eN 1))) (eA tupD (aCons (eF Ks.d_of_int (aCons (eC (.int 1)) aNil)) aNil))) (eSl (eB 2) (pSo (e2 addD (eB 1) (eC (.int 1)))) pNo))))))
noncomputable def d_unit_row : List D → M D := fnD 2 1 b_unit_row

noncomputable def l_row_of_ints_1 : EM (List D) :=
  (eLc (iS (eB 0)) (.nm 1) [1] tYes (eF Ks.d_of_int (aCons (eN 1) aNil)))
noncomputable def b_row_of_ints : SM :=
  (sSeq ((sIf (tOr (tB (e2 ltD (eA lenD (aCons (eB 0) aNil)) (eC (.int 1)))) (tB (e2 gtD (eA lenD (aCons (eB 0) aNil)) (eC Ks.c_MAX_WIDTH)))) ((sRaise "NotAllowed")) sNil)) ((sRet (eA tupleD (aCons (eLst l_row_of_ints_1) aNil)))))
noncomputable def d_row_of_ints : List D → M D := fnD 1 1 b_row_of_ints

noncomputable def b__law_numbersN_1 : SM :=
  ((sIf (tAnd (tB (e2 gtD (eN 4) (eC (.int 0)))) (tB (e2 ltD (eA lenD (aCons (eB 2) aNil)) (eN 1)))) (sSeq ((sApp 2 (e2 modD (eN 4) (eC (.int 10007))))) ((sSet 4 (e2 fdivD (eN 4) (eC (.int 10007)))))) sNil))
noncomputable def b__law_numbersN_2 : SM :=
  (sSeq ((sSet 4 (eA absD (aCons (eA intD (aCons (e2 ixD (eB 0) (eN 3)) aNil)) aNil)))) ((sIf (tB (e2 geD (eN 4) (e2 powD (eC (.int 10)) (eC (.int 18))))) ((sFor (.nm 5) (iA rng1D (aCons (eC (.int 60)) aNil)) b__law_numbersN_1)) ((sIf (tB (e2 ltD (eA lenD (aCons (eB 2) aNil)) (eN 1))) (sSeq ((sSet 6 (e2 modD (eA intD (aCons (e2 addD (e2 addD (e2 mulI (eN 4) (eC (.int 48271))) (e2 mulI (eN 3) (eC (.int 69621)))) (eC (.int 11))) aNil)) (eC (.int 2147483647))))) ((sApp 2 (e2 fdivD (e2 modD (eA intD (aCons (e2 addD (e2 addD (e2 mulI (eN 6) (eC (.int 16807))) (e2 mulI (eC (.int 7)) (eN 3))) (eC (.int 3))) aNil)) (eC (.int 2147483647))) (eC (.int 3)))))) sNil)))))
noncomputable def b__law_numbersN_3 : SM :=
  (sSeq ((sIf (tB (e2 gtD (eN 7) (eC (.int 0)))) ((sSet 8 (e2 addD (eB 8) (e2 ixD (eB 2) (e2 modD (eN 3) (eN 7)))))) sNil)) (sSeq ((sSet 8 (e2 modD (eA intD (aCons (e2 addD (e2 mulI (eN 8) (eC (.int 48271))) (eB 3)) aNil)) (eC (.int 2147483647))))) ((sApp 2 (e2 fdivD (eN 8) (eC (.int 7)))))))
noncomputable def b__law_numbersN : SM :=
  (sSeq ((sOwn 2 (fLst aNil))) (sSeq ((sFor (.nm 3) (iA rng1D (aCons (eA lenD (aCons (eB 0) aNil)) aNil)) b__law_numbersN_2)) (sSeq ((sSet 7 (eA lenD (aCons (eB 2) aNil)))) (sSeq ((sSet 8 (e2 addD (eC (.int 5381)) (eA lenD (aCons (eB 0) aNil))))) (sSeq ((sFor (.nm 3) (iA rng1D (aCons (eA maxD (aCons (eC (.int 0)) (aCons (e2 subD (eN 1) (eN 7)) aNil))) aNil)) b__law_numbersN_3)) ((sRet (eSl (eB 2) pNo (pSo (eN 1))))))))))
noncomputable def d__law_numbersN : List D → M D := fnD 2 7 b__law_numbersN

noncomputable def b__law_ratioN_1 : SM :=
  (sSeq ((sIf (tB (e2 eqD (eB 3) (eC (.int 0)))) ((sBrk)) sNil)) (sSeq ((sSet 5 (e2 modD (eA intD (aCons (eB 2) aNil)) (eN 3)))) (sSeq ((sSet 2 (eN 3))) ((sSet 3 (eN 5))))))
noncomputable def b__law_ratioN : SM :=
  (sSeq ((sSet 2 (eA absD (aCons (eB 0) aNil)))) (sSeq ((sSet 3 (eA absD (aCons (eB 1) aNil)))) (sSeq ((sFor (.nm 4) (iA rng1D (aCons (eC (.int 4000)) aNil)) b__law_ratioN_1)) (sSeq ((sIf (tB (e2 ltD (eN 1) (eC (.int 0)))) ((sSet 2 (e2 subD (eC (.int 0)) (eN 2)))) sNil)) ((sRet (eA tupD (aCons (e2 fdivD (eN 0) (eN 2)) (aCons (e2 fdivD (eN 1) (eN 2)) aNil)))))))))
noncomputable def d__law_ratioN : List D → M D := fnD 2 4 b__law_ratioN

noncomputable def b__law_plusN : SM :=
  ((sRet (eF Ks.d__law_ratioN (aCons (e2 addD (e2 mulI (e2 ixD (eB 0) (eC (.int 0))) (e2 ixD (eB 1) (eC (.int 1)))) (e2 mulI (e2 ixD (eB 1) (eC (.int 0))) (e2 ixD (eB 0) (eC (.int 1))))) (aCons (e2 mulI (e2 ixD (eB 0) (eC (.int 1))) (e2 ixD (eB 1) (eC (.int 1)))) aNil)))))
noncomputable def d__law_plusN : List D → M D := fnD 2 0 b__law_plusN

noncomputable def b__law_timesN : SM :=
  ((sRet (eF Ks.d__law_ratioN (aCons (e2 mulI (e2 ixD (eB 0) (eC (.int 0))) (e2 ixD (eB 1) (eC (.int 0)))) (aCons (e2 mulI (e2 ixD (eB 0) (eC (.int 1))) (e2 ixD (eB 1) (eC (.int 1)))) aNil)))))
noncomputable def d__law_timesN : List D → M D := fnD 2 0 b__law_timesN

noncomputable def b__law_less : SM :=
  ((sRet (e2 ltD (e2 mulI (e2 ixD (eB 0) (eC (.int 0))) (e2 ixD (eB 1) (eC (.int 1)))) (e2 mulI (e2 ixD (eB 1) (eC (.int 0))) (e2 ixD (eB 0) (eC (.int 1)))))))
noncomputable def d__law_less : List D → M D := fnD 2 0 b__law_less

noncomputable def b__law_product_1 : SM :=
  ((sIf (tAnd (tB (e2 neD (e2 ixD (e2 ixD (eB 0) (eN 3)) (eC (.int 0))) (eC (.int 0)))) (tB (e2 neD (e2 ixD (e2 ixD (eB 1) (eN 3)) (eC (.int 0))) (eC (.int 0))))) ((sSet 2 (eF Ks.d__law_plusN (aCons (eN 2) (aCons (eF Ks.d__law_timesN (aCons (e2 ixD (eB 0) (eN 3)) (aCons (e2 ixD (eB 1) (eN 3)) aNil))) aNil))))) sNil))
noncomputable def b__law_product : SM :=
  (sSeq ((sSet 2 (eA tupD (aCons (eC (.int 0)) (aCons (eC (.int 1)) aNil))))) (sSeq ((sFor (.nm 3) (iA rng1D (aCons (eA lenD (aCons (eB 0) aNil)) aNil)) b__law_product_1)) ((sRet (eN 2)))))
noncomputable def d__law_product : List D → M D := fnD 2 2 b__law_product

noncomputable def b_is_kept : SM :=
  (sSeq ((sSet 3 (eF Ks.d_compare (aCons (eN 0) (aCons (eN 2) aNil))))) ((sRet (eOr (e2 eqD (eB 3) (eC (.int 0))) (eAnd (e2 ltD (eN 3) (eC (.int 0))) (e2 eqD (eB 1) (eC (.str "<="))))))))
noncomputable def d_is_kept : List D → M D := fnD 3 1 b_is_kept

noncomputable def b_keeps : SM :=
  ((sRet (eF Ks.d_is_kept (aCons (eF Ks.d_product (aCons (e2 ixD (eB 0) (eC (.int 0))) (aCons (eN 1) aNil))) (aCons (e2 ixD (eB 0) (eC (.int 1))) (aCons (e2 ixD (eB 0) (eC (.int 2))) aNil))))))
noncomputable def d_keeps : List D → M D := fnD 2 0 b_keeps

noncomputable def l_is_positive_1 : EM (List D) :=
  (eLc (iS (eB 0)) (.nm 2) [2] tYes (e2 geD (eF Ks.d_sign_of (aCons (eN 2) aNil)) (eC (.int 0))))
noncomputable def b_is_positive : SM :=
  ((sRet (eAnd (e2 eqD (eA lenD (aCons (eB 0) aNil)) (eB 1)) (eA allD (aCons (eLst l_is_positive_1) aNil)))))
noncomputable def d_is_positive : List D → M D := fnD 2 1 b_is_positive

noncomputable def l_is_history_1 : EM (List D) :=
  (eLc (iS (e2 ixD (eB 0) (eC (.int 1)))) (.nm 2) [2] tYes (eF Ks.d_keeps (aCons (eN 2) (aCons (eN 1) aNil))))
noncomputable def b_is_history : SM :=
  (sSeq ((sIf (tNot (tV (eF Ks.d_is_positive (aCons (eN 1) (aCons (e2 ixD (eB 0) (eC (.int 0))) aNil))))) ((sRet (eC (.bl false)))) sNil)) ((sRet (eA allD (aCons (eLst l_is_history_1) aNil)))))
noncomputable def d_is_history : List D → M D := fnD 2 1 b_is_history

noncomputable def b__law_keeps : SM :=
  (sSeq ((sSet 2 (eF Ks.d__law_product (aCons (e2 ixD (eB 0) (eC (.int 0))) (aCons (eN 1) aNil))))) ((sRet (eOr (e2 eqD (eB 2) (e2 ixD (eB 0) (eC (.int 2)))) (eAnd (e2 eqD (e2 ixD (eB 0) (eC (.int 1))) (eC (.str "<="))) (eF Ks.d__law_less (aCons (eN 2) (aCons (e2 ixD (eB 0) (eC (.int 2))) aNil))))))))
noncomputable def d__law_keeps : List D → M D := fnD 2 1 b__law_keeps

noncomputable def l__law_is_history_1 : EM (List D) :=
  (eLc (iS (eB 1)) (.nm 3) [3] tYes (e2 geD (e2 ixD (eB 3) (eC (.int 0))) (eC (.int 0))))
noncomputable def l__law_is_history_2 : EM (List D) :=
  (eLc (iS (e2 ixD (eB 0) (eC (.int 1)))) (.nm 2) [2] tYes (eF Ks.d__law_keeps (aCons (eN 2) (aCons (eN 1) aNil))))
noncomputable def b__law_is_history : SM :=
  (sSeq ((sIf (tOr (tB (e2 neD (eA lenD (aCons (eB 1) aNil)) (e2 ixD (eB 0) (eC (.int 0))))) (tNot (tV (eA allD (aCons (eLst l__law_is_history_1) aNil))))) ((sRet (eC (.bl false)))) sNil)) ((sRet (eA allD (aCons (eLst l__law_is_history_2) aNil)))))
noncomputable def d__law_is_history : List D → M D := fnD 2 2 b__law_is_history

noncomputable def b__law_part : SM :=
  (sSeq ((sSet 1 (e2 modD (eN 0) (eC (.int 7))))) (sSeq ((sIf (tB (e2 ltD (eN 1) (eC (.int 2)))) ((sRet (eA tupD (aCons (eC (.int 0)) (aCons (eC (.int 1)) aNil))))) sNil)) (sSeq ((sIf (tB (e2 ltD (eN 1) (eC (.int 5)))) ((sRet (eA tupD (aCons (e2 subD (e2 modD (e2 fdivD (eN 0) (eC (.int 7))) (eC (.int 7))) (eC (.int 3))) (aCons (eC (.int 1)) aNil))))) sNil)) ((sRet (eF Ks.d__law_ratioN (aCons (e2 subD (e2 modD (e2 fdivD (eN 0) (eC (.int 7))) (eC (.int 11))) (eC (.int 5))) (aCons (e2 addD (eC (.int 1)) (e2 modD (e2 fdivD (eN 0) (eC (.int 77))) (eC (.int 4)))) aNil))))))))
noncomputable def d__law_part : List D → M D := fnD 1 1 b__law_part

noncomputable def l__law_rowN_1 : EM (List D) :=
  (eLc (iA rng1D (aCons (eN 2) aNil)) (.nm 3) [3] tYes (eF Ks.d__law_part (aCons (e2 ixD (eB 0) (e2 modD (eA intD (aCons (e2 addD (eB 1) (e2 mulI (eC (.int 3)) (eN 3))) aNil)) (eA lenD (aCons (eB 0) aNil)))) aNil)))
noncomputable def b__law_rowN : SM :=
  ((sRet (eA tupleD (aCons (eLst l__law_rowN_1) aNil))))
noncomputable def d__law_rowN : List D → M D := fnD 3 1 b__law_rowN

noncomputable def b__law_bound : SM :=
  ((sRet (eF Ks.d__law_ratioN (aCons (e2 subD (e2 modD (eN 0) (eC (.int 25))) (eN 1)) (aCons (e2 addD (eC (.int 1)) (e2 modD (e2 fdivD (eN 0) (eC (.int 25))) (eC (.int 3)))) aNil)))))
noncomputable def d__law_bound : List D → M D := fnD 2 0 b__law_bound

noncomputable def b__law_system_1 : SM :=
  (sSeq ((sSet 6 (e2 ixD (eA lstD (aCons (eC (.str "<=")) (aCons (eC (.str "<=")) (aCons (eC (.str "=")) aNil)))) (e2 modD (e2 ixD (eB 0) (e2 modD (eA intD (aCons (e2 addD (eC (.int 7)) (e2 mulI (eC (.int 5)) (eN 5))) aNil)) (eA lenD (aCons (eB 0) aNil)))) (eC (.int 3)))))) (sSeq ((sSet 7 (eF Ks.d__law_bound (aCons (e2 ixD (eB 0) (e2 modD (eA intD (aCons (e2 addD (eC (.int 11)) (e2 mulI (eC (.int 5)) (eN 5))) aNil)) (eA lenD (aCons (eB 0) aNil)))) (aCons (eN 3) aNil))))) ((sApp 4 (eA tupD (aCons (eF Ks.d__law_rowN (aCons (eN 0) (aCons (e2 addD (eC (.int 13)) (e2 mulI (eC (.int 41)) (eN 5))) (aCons (eN 1) aNil)))) (aCons (eN 6) (aCons (eN 7) aNil))))))))
noncomputable def b__law_system : SM :=
  (sSeq ((sOwn 4 (fLst aNil))) (sSeq ((sFor (.nm 5) (iA rng1D (aCons (eN 2) aNil)) b__law_system_1)) ((sRet (eA tupD (aCons (eN 1) (aCons (eA tupleD (aCons (eB 4) aNil)) aNil)))))))
noncomputable def d__law_system : List D → M D := fnD 4 4 b__law_system

noncomputable def b_are_multipliers_1 : SM :=
  ((sIf (tAnd (tB (e2 eqD (e2 ixD (eB 3) (eC (.int 1))) (eC (.str "<=")))) (tB (e2 ltD (eF Ks.d_sign_of (aCons (eN 2) aNil)) (eC (.int 0))))) ((sRet (eC (.bl false)))) sNil))
noncomputable def b_are_multipliers : SM :=
  (sSeq ((sIf (tB (e2 neD (eA lenD (aCons (eB 1) aNil)) (eA lenD (aCons (e2 ixD (eB 0) (eC (.int 1))) aNil)))) ((sRet (eC (.bl false)))) sNil)) (sSeq ((sFor (.tp [(.nm 2), (.nm 3)]) (iA zipD (aCons (eN 1) (aCons (e2 ixD (eB 0) (eC (.int 1))) aNil))) b_are_multipliers_1)) ((sRet (eC (.bl true))))))
noncomputable def d_are_multipliers : List D → M D := fnD 2 2 b_are_multipliers

def c_ZERO : D := .tup [.int 0, .int 1]
noncomputable def b_mixture_1 : SM :=
  (sSeq ((sSet 2 (eF Ks.d_add_rows (aCons (eN 2) (aCons (eF Ks.d_scale_row (aCons (eN 4) (aCons (e2 ixD (eB 5) (eC (.int 0))) aNil))) aNil))))) ((sSet 3 (eF Ks.d_plus (aCons (eN 3) (aCons (eF Ks.d_times (aCons (eN 4) (aCons (e2 ixD (eB 5) (eC (.int 2))) aNil))) aNil))))))
noncomputable def b_mixture : SM :=
  (sSeq ((sIf (tNot (tV (eF Ks.d_are_multipliers (aCons (eN 0) (aCons (eN 1) aNil))))) ((sRaise "NotAllowed")) sNil)) (sSeq ((sSet 2 (eF Ks.d_zero_row (aCons (e2 ixD (eB 0) (eC (.int 0))) aNil)))) (sSeq ((sSet 3 (eC c_ZERO))) (sSeq ((sFor (.tp [(.nm 4), (.nm 5)]) (iA zipD (aCons (eN 1) (aCons (e2 ixD (eB 0) (eC (.int 1))) aNil))) b_mixture_1)) ((sRet (eA tupD (aCons (eN 2) (aCons (eN 3) aNil)))))))))
noncomputable def d_mixture : List D → M D := fnD 2 4 b_mixture

def c_MAX_CONDITIONS : D := .int 40
def c_RELATIONS : D := .tup [.str "<=", .str "="]
noncomputable def l_check_system_1 : EM (List D) :=
  (eLc (iS (eB 3)) (.nm 6) [6] tYes (eF Ks.d_is_ratio (aCons (eN 6) aNil)))
noncomputable def b_check_system_2 : SM :=
  (sSeq ((sIf (tOr (tB (e2 neD (eA lenD (aCons (eB 3) aNil)) (eB 1))) (tOr (tB (e2 ninD (eB 4) (eC c_RELATIONS))) (tNot (tV (eF Ks.d_is_ratio (aCons (eN 5) aNil)))))) ((sRaise "NotAllowed")) sNil)) ((sIf (tNot (tV (eA allD (aCons (eLst l_check_system_1) aNil)))) ((sRaise "NotAllowed")) sNil)))
noncomputable def b_check_system : SM :=
  (sSeq ((sTg (.tp [(.nm 1), (.nm 2)]) (eN 0))) (sSeq ((sIf (tOr (tB (e2 ltD (eN 1) (eC (.int 1)))) (tOr (tB (e2 gtD (eN 1) (eC c_MAX_WIDTH))) (tB (e2 gtD (eA lenD (aCons (eB 2) aNil)) (eC c_MAX_CONDITIONS))))) ((sRaise "NotAllowed")) sNil)) ((sFor (.tp [(.nm 3), (.nm 4), (.nm 5)]) (iS (eN 2)) b_check_system_2))))
noncomputable def d_check_system : List D → M D := fnD 1 6 b_check_system

def c_MAX_NAME : D := .int 4
def c_LETTERS : D := .str "abcdefghijklmnopqrstuvwxyz"
noncomputable def l_is_scale_1 : EM (List D) :=
  (eLc (iS (eB 0)) (.nm 1) [1] tYes (e2 inD (eB 1) (eC c_LETTERS)))
noncomputable def b_is_scale : SM :=
  ((sRet (eAnd (eCh leD leD (eC (.int 1)) (eA lenD (aCons (eB 0) aNil)) (eC c_MAX_NAME)) (eA allD (aCons (eLst l_is_scale_1) aNil)))))
noncomputable def d_is_scale : List D → M D := fnD 1 1 b_is_scale

def c_MAX_DAY : D := .int 999
noncomputable def b_is_day : SM :=
  ((sRet (eCh leD leD (eC (.int 0)) (eN 0) (eC c_MAX_DAY))))
noncomputable def d_is_day : List D → M D := fnD 1 0 b_is_day

noncomputable def b_check_scale : SM :=
  ((sIf (tNot (tV (eF Ks.d_is_scale (aCons (eN 0) aNil)))) ((sRaise "NotAllowed")) sNil))
noncomputable def d_check_scale : List D → M D := fnD 1 0 b_check_scale

noncomputable def b_check_day : SM :=
  ((sIf (tNot (tV (eF Ks.d_is_day (aCons (eN 0) aNil)))) ((sRaise "NotAllowed")) sNil))
noncomputable def d_check_day : List D → M D := fnD 1 0 b_check_day

noncomputable def b_is_counting : SM :=
  (sSeq ((sTg (.tp [(.nm 3), (.nm 4), (.nm 5)]) (eN 0))) ((sRet (eAnd (e2 eqD (eB 3) (eB 1)) (eAnd (eCh leD leD (e2 ixD (eB 4) (eC (.int 0))) (eN 2) (e2 ixD (eB 4) (eC (.int 1)))) (eOr (e2 isD (eB 5) (eC .non)) (e2 ltD (eN 2) (eN 5))))))))
noncomputable def d_is_counting : List D → M D := fnD 3 3 b_is_counting

noncomputable def l_counting_1 : EM (List D) :=
  (eLc (iA enumD (aCons (eB 0) aNil)) (.tp [(.nm 3), (.nm 4)]) [3, 4] (tV (eF Ks.d_is_counting (aCons (eN 4) (aCons (eN 1) (aCons (eN 2) aNil))))) (eN 3))
noncomputable def b_counting : SM :=
  (sSeq ((sExpr (eF Ks.d_check_scale (aCons (eN 1) aNil)))) (sSeq ((sExpr (eF Ks.d_check_day (aCons (eN 2) aNil)))) ((sRet (eLst l_counting_1)))))
noncomputable def d_counting : List D → M D := fnD 3 2 b_counting

noncomputable def b_check_weight : SM :=
  ((sIf (tB (e2 ltD (eF Ks.d_sign_of (aCons (eN 0) aNil)) (eC (.int 0)))) ((sRaise "NotAllowed")) sNil))
noncomputable def d_check_weight : List D → M D := fnD 1 0 b_check_weight

noncomputable def b_limits_1 : SM :=
  (sSeq ((sTg (.tp [(.nm 5), (.nm 5), (.nm 6), (.nm 7), (.nm 8), (.nm 9)]) (e2 ixD (e2 ixD (eB 0) (eN 4)) (eC (.int 1))))) ((sApp 3 (eA tupD (aCons (eF Ks.d_plus (aCons (eN 6) (aCons (eF Ks.d_times (aCons (eN 8) (aCons (eF Ks.d_of_int (aCons (e2 subD (eN 2) (eN 9)) aNil)) aNil))) aNil))) (aCons (eN 7) aNil))))))
noncomputable def b_limits : SM :=
  (sSeq ((sOwn 3 (fLst aNil))) (sSeq ((sFor (.nm 4) (iS (eF Ks.d_counting (aCons (eN 0) (aCons (eN 1) (aCons (eN 2) aNil))))) b_limits_1)) ((sFrz 3 (sRet (eN 3))))))
noncomputable def d_limits : List D → M D := fnD 3 7 b_limits

noncomputable def b_greater_of : SM :=
  ((sRet (eIf (tB (e2 geD (eF Ks.d_compare (aCons (eN 0) (aCons (eN 1) aNil))) (eC (.int 0)))) (eN 0) (eN 1))))
noncomputable def d_greater_of : List D → M D := fnD 2 0 b_greater_of

noncomputable def b_lesser_of : SM :=
  ((sRet (eIf (tOr (tB (e2 isD (eB 0) (eC .non))) (tB (e2 gtD (eF Ks.d_compare (aCons (eN 0) (aCons (eN 1) aNil))) (eC (.int 0))))) (eN 1) (eN 0))))
noncomputable def d_lesser_of : List D → M D := fnD 2 0 b_lesser_of

def c_ONE : D := .tup [.int 1, .int 1]
noncomputable def b_ends_1 : SM :=
  (sSeq ((sSet 5 (eF Ks.d_greater_of (aCons (eN 5) (aCons (eF Ks.d_over (aCons (eF Ks.d_minus (aCons (eN 3) (aCons (eN 7) aNil))) (aCons (eF Ks.d_plus (aCons (eC c_ONE) (aCons (eN 8) aNil))) aNil))) aNil))))) ((sSet 6 (eF Ks.d_lesser_of (aCons (eN 6) (aCons (eF Ks.d_over (aCons (eF Ks.d_plus (aCons (eN 3) (aCons (eN 7) aNil))) (aCons (eF Ks.d_minus (aCons (eC c_ONE) (aCons (eN 8) aNil))) aNil))) aNil))))))
noncomputable def b_ends : SM :=
  (sSeq ((sSet 4 (eF Ks.d_limits (aCons (eN 0) (aCons (eN 1) (aCons (eN 2) aNil)))))) (sSeq ((sExpr (eF Ks.d_check_weight (aCons (eN 3) aNil)))) (sSeq ((sSet 5 (eC c_ZERO))) (sSeq ((sSet 6 (eC .non))) (sSeq ((sFor (.tp [(.nm 7), (.nm 8)]) (iS (eN 4)) b_ends_1)) (sSeq ((sIf (tAnd (tB (e2 isntND (eB 6) (eC .non))) (tB (e2 gtD (eF Ks.d_compare (aCons (eN 5) (aCons (eN 6) aNil))) (eC (.int 0))))) ((sRaise "Never")) sNil)) ((sRet (eA tupD (aCons (eN 5) (aCons (eN 6) aNil)))))))))))
noncomputable def d_ends : List D → M D := fnD 4 5 b_ends

noncomputable def b_allows_1 : SM :=
  (sSeq ((sSet 8 (eF Ks.d_plus (aCons (eN 6) (aCons (eF Ks.d_times (aCons (eN 7) (aCons (eN 4) aNil))) aNil))))) ((sIf (tOr (tB (e2 gtD (eF Ks.d_compare (aCons (eF Ks.d_minus (aCons (eN 3) (aCons (eN 4) aNil))) (aCons (eN 8) aNil))) (eC (.int 0)))) (tB (e2 gtD (eF Ks.d_compare (aCons (eF Ks.d_minus (aCons (eN 4) (aCons (eN 3) aNil))) (aCons (eN 8) aNil))) (eC (.int 0))))) ((sRet (eC (.bl false)))) sNil)))
noncomputable def b_allows : SM :=
  (sSeq ((sSet 5 (eF Ks.d_limits (aCons (eN 0) (aCons (eN 1) (aCons (eN 2) aNil)))))) (sSeq ((sExpr (eF Ks.d_check_weight (aCons (eN 3) aNil)))) (sSeq ((sExpr (eF Ks.d_check_weight (aCons (eN 4) aNil)))) (sSeq ((sFor (.tp [(.nm 6), (.nm 7)]) (iS (eN 5)) b_allows_1)) ((sRet (eC (.bl true))))))))
noncomputable def d_allows : List D → M D := fnD 5 4 b_allows

noncomputable def b_readings_1 : SM :=
  (sSeq ((sSet 9 (eF Ks.d_plus (aCons (eN 7) (aCons (eF Ks.d_times (aCons (eN 8) (aCons (eN 3) aNil))) aNil))))) (sSeq ((sSet 5 (eF Ks.d_greater_of (aCons (eN 5) (aCons (eF Ks.d_minus (aCons (eN 3) (aCons (eN 9) aNil))) aNil))))) ((sSet 6 (eF Ks.d_lesser_of (aCons (eN 6) (aCons (eF Ks.d_plus (aCons (eN 3) (aCons (eN 9) aNil))) aNil)))))))
noncomputable def b_readings : SM :=
  (sSeq ((sSet 4 (eF Ks.d_limits (aCons (eN 0) (aCons (eN 1) (aCons (eN 2) aNil)))))) (sSeq ((sExpr (eF Ks.d_check_weight (aCons (eN 3) aNil)))) (sSeq ((sSet 5 (eC Ks.c_ZERO))) (sSeq ((sSet 6 (eC .non))) (sSeq ((sFor (.tp [(.nm 7), (.nm 8)]) (iS (eN 4)) b_readings_1)) ((sRet (eA tupD (aCons (eN 5) (aCons (eN 6) aNil))))))))))
noncomputable def d_readings : List D → M D := fnD 4 6 b_readings

noncomputable def b_earlier : SM :=
  (sSeq ((sIf (tOr (tB (e2 isD (eB 0) (eC .non))) (tB (e2 ltD (eN 1) (eN 0)))) ((sRet (eN 1))) sNil)) ((sRet (eN 0))))
noncomputable def d_earlier : List D → M D := fnD 2 0 b_earlier

noncomputable def b_recalled : SM :=
  (sSeq ((sIf (tOr (tB (e2 ltD (eN 1) (eC (.int 0)))) (tB (e2 geD (eN 1) (eA lenD (aCons (eB 0) aNil))))) ((sRaise "Missing")) sNil)) (sSeq ((sExpr (eF Ks.d_check_day (aCons (eN 2) aNil)))) (sSeq ((sTg (.tp [(.nm 3), (.nm 4), (.nm 5)]) (e2 ixD (eB 0) (eN 1)))) ((sRet (e2 addD (e2 addD (eSl (eB 0) pNo (pSo (eN 1))) (eA tupD (aCons (eA tupD (aCons (eN 3) (aCons (eN 4) (aCons (eF Ks.d_earlier (aCons (eN 5) (aCons (eN 2) aNil))) aNil)))) aNil))) (eSl (eB 0) (pSo (e2 addD (eB 1) (eC (.int 1)))) pNo)))))))
noncomputable def d_recalled : List D → M D := fnD 3 3 b_recalled

noncomputable def b__law_cell : SM :=
  (sSeq ((sIf (tB (e2 ltD (eN 1) (eA lenD (aCons (eB 0) aNil)))) ((sRet (e2 ixD (eB 0) (eN 1)))) sNil)) ((sRet (eC (.int 0)))))
noncomputable def d__law_cell : List D → M D := fnD 2 0 b__law_cell

noncomputable def b__law_numbersC_1 : SM :=
  (sSeq ((sApp 3 (e2 modD (eA intD (aCons (eB 4) aNil)) (eC (.int 1000))))) ((sSet 4 (e2 fdivD (eN 4) (eC (.int 1000))))))
noncomputable def b__law_numbersC_2 : SM :=
  (sSeq ((sSet 6 (e2 modD (eA intD (aCons (e2 addD (e2 addD (e2 mulI (eN 6) (eC (.int 16807))) (e2 mulI (eN 5) (eC (.int 7919)))) (eC (.int 13))) aNil)) (eC (.int 2147483647))))) (sSeq ((sSet 7 (e2 modD (eA intD (aCons (e2 addD (e2 addD (e2 mulI (eN 6) (eN 6)) (e2 mulI (eN 1) (eC (.int 31)))) (eB 5)) aNil)) (eC (.int 1000000007))))) ((sApp 3 (e2 modD (eA intD (aCons (e2 fdivD (eN 7) (eC (.int 101))) aNil)) (eC (.int 1000)))))))
noncomputable def b__law_numbersC : SM :=
  (sSeq ((sOwn 3 (fLst aNil))) (sSeq ((sIf (tB (e2 geD (eN 0) (e2 powD (eC (.int 10)) (eC (.int 18))))) (sSeq ((sSet 4 (eN 0))) (sSeq ((sFor (.nm 5) (iA rng1D (aCons (eN 2) aNil)) b__law_numbersC_1)) ((sFrz 3 (sRet (eN 3)))))) sNil)) (sSeq ((sSet 6 (e2 modD (eA intD (aCons (e2 addD (e2 addD (e2 mulI (eN 0) (eC (.int 48271))) (e2 mulI (eN 1) (eC (.int 69621)))) (eC (.int 11))) aNil)) (eC (.int 2147483647))))) (sSeq ((sFor (.nm 5) (iA rng1D (aCons (eN 2) aNil)) b__law_numbersC_2)) ((sFrz 3 (sRet (eN 3))))))))
noncomputable def d__law_numbersC : List D → M D := fnD 3 5 b__law_numbersC

noncomputable def b__law_ratioC_1 : SM :=
  (sSeq ((sIf (tB (e2 eqD (eB 3) (eC (.int 0)))) ((sBrk)) sNil)) ((sPar 2 3 (aCons (eN 3) (aCons (e2 modD (eA intD (aCons (eB 2) aNil)) (eN 3)) aNil)))))
noncomputable def b__law_ratioC : SM :=
  (sSeq ((sSet 2 (eA absD (aCons (eB 0) aNil)))) (sSeq ((sSet 3 (eA absD (aCons (eB 1) aNil)))) (sSeq ((sFor (.nm 4) (iA rng1D (aCons (eC (.int 4000)) aNil)) b__law_ratioC_1)) (sSeq ((sSet 5 (e2 ixD (eA lstD (aCons (eC (.int 1)) (aCons (e1 negD (eC (.int 1))) aNil))) (eA intD (aCons (e2 ltD (eN 1) (eC (.int 0))) aNil))))) ((sRet (eA tupD (aCons (e2 fdivD (e2 mulI (eN 5) (eN 0)) (eN 2)) (aCons (e2 fdivD (e2 mulI (eN 5) (eN 1)) (eN 2)) aNil)))))))))
noncomputable def d__law_ratioC : List D → M D := fnD 2 4 b__law_ratioC

noncomputable def b__law_plusC : SM :=
  ((sRet (eF Ks.d__law_ratioC (aCons (e2 addD (e2 mulI (e2 ixD (eB 0) (eC (.int 0))) (e2 ixD (eB 1) (eC (.int 1)))) (e2 mulI (e2 ixD (eB 1) (eC (.int 0))) (e2 ixD (eB 0) (eC (.int 1))))) (aCons (e2 mulI (e2 ixD (eB 0) (eC (.int 1))) (e2 ixD (eB 1) (eC (.int 1)))) aNil)))))
noncomputable def d__law_plusC : List D → M D := fnD 2 0 b__law_plusC

noncomputable def b__law_timesC : SM :=
  ((sRet (eF Ks.d__law_ratioC (aCons (e2 mulI (e2 ixD (eB 0) (eC (.int 0))) (e2 ixD (eB 1) (eC (.int 0)))) (aCons (e2 mulI (e2 ixD (eB 0) (eC (.int 1))) (e2 ixD (eB 1) (eC (.int 1)))) aNil)))))
noncomputable def d__law_timesC : List D → M D := fnD 2 0 b__law_timesC

noncomputable def b__law_drawnC : SM :=
  ((sRet (eF Ks.d__law_ratioC (aCons (e2 modD (e2 fdivD (eA intD (aCons (eB 0) aNil)) (eC (.int 6))) (e2 addD (eB 1) (eC (.int 1)))) (aCons (e2 addD (eC (.int 1)) (e2 modD (eA intD (aCons (eB 0) aNil)) (eC (.int 6)))) aNil)))))
noncomputable def d__law_drawnC : List D → M D := fnD 2 0 b__law_drawnC

noncomputable def b__law_minusC : SM :=
  ((sRet (eF Ks.d__law_plusC (aCons (eN 0) (aCons (eA tupD (aCons (e2 subD (eC (.int 0)) (e2 ixD (eB 1) (eC (.int 0)))) (aCons (e2 ixD (eB 1) (eC (.int 1))) aNil))) aNil)))))
noncomputable def d__law_minusC : List D → M D := fnD 2 0 b__law_minusC

noncomputable def b__law_overC : SM :=
  ((sRet (eF Ks.d__law_ratioC (aCons (e2 mulI (e2 ixD (eB 0) (eC (.int 0))) (e2 ixD (eB 1) (eC (.int 1)))) (aCons (e2 mulI (e2 ixD (eB 0) (eC (.int 1))) (e2 ixD (eB 1) (eC (.int 0)))) aNil)))))
noncomputable def d__law_overC : List D → M D := fnD 2 0 b__law_overC

noncomputable def l__law_paperC_1 : EM (List D) :=
  (eLc (iA rng1D (aCons (eC (.int 3)) aNil)) (.nm 5) [5] tYes (e2 modD (eA intD (aCons (e2 ixD (eB 0) (eN 5)) aNil)) (e2 ixD (eA lstD (aCons (eC (.int 1000)) (aCons (eC (.int 20)) aNil))) (e2 modD (eA intD (aCons (e2 ixD (eB 0) (eC (.int 3))) aNil)) (eC (.int 2))))))
noncomputable def b__law_paperC : SM :=
  (sSeq ((sSet 1 (eA sortD (aCons (eLst l__law_paperC_1) aNil)))) (sSeq ((sSet 2 (eF Ks.d__law_drawnC (aCons (e2 ixD (eB 0) (eC (.int 4))) (aCons (eC (.int 12)) aNil))))) (sSeq ((sSet 3 (e2 ixD (eA lstD (aCons (eA tupD (aCons (eC (.int 0)) (aCons (eC (.int 1)) aNil))) (aCons (eF Ks.d__law_ratioC (aCons (e2 modD (eA intD (aCons (e2 ixD (eB 0) (eC (.int 5))) aNil)) (eC (.int 5))) (aCons (e2 addD (eC (.int 5)) (e2 modD (e2 fdivD (eA intD (aCons (e2 ixD (eB 0) (eC (.int 5))) aNil)) (eC (.int 5))) (eC (.int 7)))) aNil))) aNil))) (e2 modD (eA intD (aCons (e2 ixD (eB 0) (eC (.int 6))) aNil)) (eC (.int 2)))))) (sSeq ((sSet 4 (e2 ixD (eA lstD (aCons (eA tupD (aCons (eC (.int 0)) (aCons (eC (.int 1)) aNil))) (aCons (eF Ks.d__law_ratioC (aCons (e2 modD (eA intD (aCons (e2 ixD (eB 0) (eC (.int 7))) aNil)) (eC (.int 4))) (aCons (e2 addD (eC (.int 1)) (e2 modD (e2 fdivD (eA intD (aCons (e2 ixD (eB 0) (eC (.int 7))) aNil)) (eC (.int 4))) (eC (.int 20)))) aNil))) aNil))) (e2 modD (e2 fdivD (eA intD (aCons (e2 ixD (eB 0) (eC (.int 6))) aNil)) (eC (.int 2))) (eC (.int 2)))))) ((sRet (eA tupD (aCons (e2 ixD (eB 1) (eC (.int 1))) (aCons (e2 ixD (eB 1) (eC (.int 2))) (aCons (eN 2) (aCons (eN 3) (aCons (eN 4) (aCons (e2 ixD (eB 1) (eC (.int 0))) aNil)))))))))))))
noncomputable def d__law_paperC : List D → M D := fnD 1 5 b__law_paperC

noncomputable def b__law_drawerC_1 : SM :=
  (sSeq ((sSet 4 (eSl (eB 0) (pSo (e2 addD (eC (.int 1)) (e2 mulI (eC (.int 10)) (eN 3)))) (pSo (e2 addD (eC (.int 11)) (e2 mulI (eC (.int 10)) (eN 3))))))) (sSeq ((sSet 5 (eC .non))) (sSeq ((sIf (tB (e2 eqD (e2 modD (eA intD (aCons (e2 ixD (eB 4) (eC (.int 8))) aNil)) (eC (.int 3))) (eC (.int 0)))) ((sSet 5 (e2 modD (eA intD (aCons (e2 ixD (eB 4) (eC (.int 9))) aNil)) (e2 ixD (eA lstD (aCons (eC (.int 1000)) (aCons (eC (.int 20)) aNil))) (e2 modD (e2 fdivD (eA intD (aCons (e2 ixD (eB 4) (eC (.int 8))) aNil)) (eC (.int 3))) (eC (.int 2))))))) sNil)) ((sApp 2 (eA tupD (aCons (e2 ixD (eA lstD (aCons (eC (.str "a")) (aCons (eC (.str "b")) (aCons (eC (.str "zzzz")) aNil)))) (e2 modD (e2 fdivD (eA intD (aCons (e2 ixD (eB 4) (eC (.int 8))) aNil)) (eC (.int 6))) (eC (.int 3)))) (aCons (eF Ks.d__law_paperC (aCons (eN 4) aNil)) (aCons (eN 5) aNil)))))))))
noncomputable def b__law_drawerC : SM :=
  (sSeq ((sOwn 2 (fLst aNil))) (sSeq ((sFor (.nm 3) (iA rng1D (aCons (e2 modD (eA intD (aCons (e2 ixD (eB 0) (eC (.int 0))) aNil)) (e2 addD (eB 1) (eC (.int 1)))) aNil)) b__law_drawerC_1)) ((sRet (eA tupleD (aCons (eB 2) aNil))))))
noncomputable def d__law_drawerC : List D → M D := fnD 2 4 b__law_drawerC

noncomputable def b__law_countingC_1 : SM :=
  (sSeq ((sTg (.tp [(.nm 5), (.nm 6), (.nm 7)]) (e2 ixD (eB 0) (eN 4)))) ((sIf (tAnd (tB (e2 eqD (eB 5) (eB 1))) (tAnd (tB (e2 leD (e2 ixD (eB 6) (eC (.int 0))) (eN 2))) (tAnd (tB (e2 leD (eN 2) (e2 ixD (eB 6) (eC (.int 1))))) (tOr (tB (e2 isD (eB 7) (eC .non))) (tB (e2 gtD (eN 7) (eN 2))))))) ((sApp 3 (eN 4))) sNil)))
noncomputable def b__law_countingC : SM :=
  (sSeq ((sOwn 3 (fLst aNil))) (sSeq ((sFor (.nm 4) (iA rng1D (aCons (eA lenD (aCons (eB 0) aNil)) aNil)) b__law_countingC_1)) ((sFrz 3 (sRet (eN 3))))))
noncomputable def d__law_countingC : List D → M D := fnD 3 5 b__law_countingC

noncomputable def b__law_slacksC_1 : SM :=
  (sSeq ((sSet 5 (e2 ixD (e2 ixD (eB 0) (eN 4)) (eC (.int 1))))) ((sApp 3 (eA tupD (aCons (eF Ks.d__law_plusC (aCons (e2 ixD (eB 5) (eC (.int 2))) (aCons (eF Ks.d__law_timesC (aCons (e2 ixD (eB 5) (eC (.int 4))) (aCons (eA tupD (aCons (e2 subD (eN 2) (e2 ixD (eB 5) (eC (.int 5)))) (aCons (eC (.int 1)) aNil))) aNil))) aNil))) (aCons (e2 ixD (eB 5) (eC (.int 3))) aNil))))))
noncomputable def b__law_slacksC : SM :=
  (sSeq ((sOwn 3 (fLst aNil))) (sSeq ((sFor (.nm 4) (iS (eF Ks.d__law_countingC (aCons (eN 0) (aCons (eN 1) (aCons (eN 2) aNil))))) b__law_slacksC_1)) ((sFrz 3 (sRet (eN 3))))))
noncomputable def d__law_slacksC : List D → M D := fnD 3 3 b__law_slacksC

noncomputable def b__law_dayC : SM :=
  (sSeq ((sIf (tAnd (tB (e2 gtD (eA lenD (aCons (eB 1) aNil)) (eC (.int 0)))) (tB (e2 gtD (e2 modD (eA intD (aCons (e2 ixD (eB 0) (eC (.int 0))) aNil)) (eC (.int 4))) (eC (.int 0))))) (sSeq ((sTg (.tp [(.nm 2), (.nm 3), (.nm 4)]) (e2 ixD (eB 1) (e2 modD (eA intD (aCons (e2 ixD (eB 0) (eC (.int 1))) aNil)) (eA lenD (aCons (eB 1) aNil)))))) (sSeq ((sSet 5 (eA lstD (aCons (e2 ixD (eB 3) (eC (.int 0))) (aCons (e2 ixD (eB 3) (eC (.int 1))) (aCons (e2 addD (e2 ixD (eB 3) (eC (.int 0))) (e2 modD (eA intD (aCons (e2 ixD (eB 0) (eC (.int 2))) aNil)) (e2 addD (e2 subD (e2 ixD (eB 3) (eC (.int 1))) (e2 ixD (eB 3) (eC (.int 0)))) (eC (.int 1))))) (aCons (eN 4) aNil))))))) (sSeq ((sSet 6 (e2 ixD (eB 5) (e2 modD (eA intD (aCons (e2 ixD (eB 0) (eC (.int 3))) aNil)) (eC (.int 4)))))) ((sIf (tB (e2 isntND (eB 6) (eC .non))) ((sRet (eA tupD (aCons (eN 2) (aCons (eA maxD (aCons (eC (.int 0)) (aCons (eA minD (aCons (eC (.int 999)) (aCons (e2 addD (eB 6) (e2 ixD (eA lstD (aCons (eC (.int 0)) (aCons (eC (.int 0)) (aCons (eC (.int 0)) (aCons (eC (.int 1)) (aCons (e1 negD (eC (.int 1))) aNil)))))) (e2 modD (eA intD (aCons (e2 ixD (eB 0) (eC (.int 4))) aNil)) (eC (.int 5))))) aNil))) aNil))) aNil))))) sNil))))) sNil)) ((sRet (eA tupD (aCons (e2 ixD (eA lstD (aCons (eC (.str "a")) (aCons (eC (.str "b")) (aCons (eC (.str "zzzz")) (aCons (eC (.str "c")) aNil))))) (e2 modD (eA intD (aCons (e2 ixD (eB 0) (eC (.int 1))) aNil)) (eC (.int 4)))) (aCons (e2 modD (eA intD (aCons (e2 ixD (eB 0) (eC (.int 2))) aNil)) (eC (.int 1000))) aNil))))))
noncomputable def d__law_dayC : List D → M D := fnD 2 5 b__law_dayC

noncomputable def b__law_manyC_1 : SM :=
  (sSeq ((sSet 4 (eF Ks.d__law_plusC (aCons (eA tupD (aCons (e2 subD (e2 mulI (eC (.int 2)) (e2 subD (eN 1) (eN 3))) (eC (.int 2))) (aCons (eC (.int 1)) aNil))) (aCons (eF Ks.d__law_drawnC (aCons (e2 ixD (eB 0) (e2 addD (eC (.int 1)) (eB 3))) (aCons (eC (.int 3)) aNil))) aNil))))) (sSeq ((sSet 5 (eF Ks.d__law_ratioC (aCons (e2 modD (e2 fdivD (eA intD (aCons (e2 ixD (eB 0) (e2 addD (eC (.int 1)) (eB 3))) aNil)) (eC (.int 18))) (eC (.int 3))) (aCons (eC (.int 20)) aNil))))) ((sApp 2 (eA tupD (aCons (eC (.str "a")) (aCons (eA tupD (aCons (eC (.int 0)) (aCons (eC (.int 999)) (aCons (eN 4) (aCons (eN 5) (aCons (eA tupD (aCons (eC (.int 0)) (aCons (eC (.int 1)) aNil))) (aCons (eC (.int 0)) aNil))))))) (aCons (eC .non) aNil))))))))
noncomputable def b__law_manyC : SM :=
  (sSeq ((sSet 1 (e2 addD (eC (.int 8)) (e2 modD (eA intD (aCons (e2 ixD (eB 0) (eC (.int 0))) aNil)) (eC (.int 5)))))) (sSeq ((sOwn 2 (fLst aNil))) (sSeq ((sFor (.nm 3) (iA rng1D (aCons (eN 1) aNil)) b__law_manyC_1)) ((sRet (eA tupleD (aCons (eB 2) aNil)))))))
noncomputable def d__law_manyC : List D → M D := fnD 1 5 b__law_manyC

noncomputable def b_ratio_text : SM :=
  (sSeq ((sIf (tB (e2 eqD (e2 ixD (eB 0) (eC (.int 1))) (eC (.int 1)))) ((sRet (eA strD (aCons (e2 ixD (eB 0) (eC (.int 0))) aNil)))) sNil)) ((sRet (eJ [(e1 fmtD (e2 ixD (eB 0) (eC (.int 0)))), (eC (.str "/")), (e1 fmtD (e2 ixD (eB 0) (eC (.int 1))))] []))))
noncomputable def d_ratio_text : List D → M D := fnD 1 0 b_ratio_text

def c_DIGITS : D := .str "0123456789"
noncomputable def l_is_digits_1 : EM (List D) :=
  (eLc (iS (eB 0)) (.nm 1) [1] tYes (e2 inD (eB 1) (eC c_DIGITS)))
noncomputable def b_is_digits : SM :=
  ((sRet (eAnd (e2 neD (eB 0) (eC (.str ""))) (eA allD (aCons (eLst l_is_digits_1) aNil)))))
noncomputable def d_is_digits : List D → M D := fnD 1 1 b_is_digits

def c_MAX_TEXT : D := .int 60
noncomputable def b_read_ratio : SM :=
  (sSeq ((sIf (tB (e2 gtD (eA lenD (aCons (eB 0) aNil)) (eC c_MAX_TEXT))) ((sRaise "BadForm")) sNil)) (sSeq ((sSet 1 (eIf (tB (e2 eqD (eSl (eB 0) pNo (pSo (eC (.int 1)))) (eC (.str "-")))) (eSl (eB 0) (pSo (eC (.int 1))) pNo) (eN 0)))) (sSeq ((sTg (.tp [(.nm 2), (.nm 3), (.nm 4)]) (eM1 partD (eN 1) (eC (.str "/"))))) (sSeq ((sIf (tOr (tNot (tV (eF Ks.d_is_digits (aCons (eN 2) aNil)))) (tAnd (tB (e2 neD (eB 3) (eC (.str "")))) (tNot (tV (eF Ks.d_is_digits (aCons (eN 4) aNil)))))) ((sRaise "BadForm")) sNil)) (sSeq ((sSet 5 (eA tupD (aCons (eA intTD (aCons (eB 2) aNil)) (aCons (eIf (tB (e2 eqD (eB 3) (eC (.str "")))) (eC (.int 1)) (eA intTD (aCons (eB 4) aNil))) aNil))))) (sSeq ((sIf (tB (e2 eqD (eSl (eB 0) pNo (pSo (eC (.int 1)))) (eC (.str "-")))) ((sSet 5 (eF Ks.d_negated (aCons (eN 5) aNil)))) sNil)) (sSeq ((sIf (tOr (tNot (tV (eF Ks.d_is_ratio (aCons (eN 5) aNil)))) (tB (e2 neD (eF Ks.d_ratio_text (aCons (eN 5) aNil)) (eB 0)))) ((sRaise "BadForm")) sNil)) ((sRet (eN 5))))))))))
noncomputable def d_read_ratio : List D → M D := fnD 1 5 b_read_ratio

noncomputable def b_is_weight : SM :=
  ((sRet (eAnd (eF Ks.d_is_ratio (aCons (eN 0) aNil)) (e2 geD (eF Ks.d_sign_of (aCons (eN 0) aNil)) (eC (.int 0))))))
noncomputable def d_is_weight : List D → M D := fnD 1 0 b_is_weight

noncomputable def l_check_paperS_1 : EM (List D) :=
  (eLc (iS (eA tupD (aCons (eN 3) (aCons (eN 4) (aCons (eN 5) aNil))))) (.nm 7) [7] tYes (eF Ks.d_is_weight (aCons (eN 7) aNil)))
noncomputable def b_check_paperS : SM :=
  (sSeq ((sTg (.tp [(.nm 1), (.nm 2), (.nm 3), (.nm 4), (.nm 5), (.nm 6)]) (eN 0))) (sSeq ((sIf (tNot (tB (eChn (eC (.int 0)) [(leD, (eN 6)), (leD, (eN 1)), (leD, (eN 2)), (leD, (eC Ks.c_MAX_DAY))]))) ((sRaise "NotAllowed")) sNil)) ((sIf (tOr (tNot (tV (eA allD (aCons (eLst l_check_paperS_1) aNil)))) (tB (e2 geD (eF Ks.d_compare (aCons (eN 4) (aCons (eC c_ONE) aNil))) (eC (.int 0))))) ((sRaise "NotAllowed")) sNil))))
noncomputable def d_check_paperS : List D → M D := fnD 1 7 b_check_paperS

def c_MAX_PAPERS : D := .int 12
noncomputable def b_check_drawer_1 : SM :=
  (sSeq ((sExpr (eF Ks.d_check_scale (aCons (eN 1) aNil)))) (sSeq ((sExpr (eF Ks.d_check_paperS (aCons (eN 2) aNil)))) ((sIf (tB (e2 isntND (eB 3) (eC .non))) ((sExpr (eF Ks.d_check_day (aCons (eN 3) aNil)))) sNil))))
noncomputable def b_check_drawer : SM :=
  (sSeq ((sIf (tB (e2 gtD (eA lenD (aCons (eB 0) aNil)) (eC c_MAX_PAPERS))) ((sRaise "NotAllowed")) sNil)) ((sFor (.tp [(.nm 1), (.nm 2), (.nm 3)]) (iS (eN 0)) b_check_drawer_1)))
noncomputable def d_check_drawer : List D → M D := fnD 1 3 b_check_drawer

end Ks

set_option linter.all false
set_option maxRecDepth 100000
/-! printed by gen.py: what the text of the law does, as plain functions. -/
namespace Lk20
open Kb PySem
noncomputable def b__law_told : SM :=
  (sSeq ((sTryAs 3 ((sSet 2 (eFv [("check_paper", Ks.d_check_paperS), ("check_drawer", Ks.d_check_drawer)] (eN 0) (aCons (eN 1) aNil)))) [("KerbError", false), ("NotAllowed", true), ("BadForm", false), ("Missing", false)] (fun c => if c = "NotAllowed" then ((sRet (eA lstD (aCons (eC (.str "no")) (aCons (eAnd (eIsE 3 "NotAllowed" true) (eNot (eIsE 3 "NotAllowed" false))) aNil))))) else fun _ _ => .stuck))) ((sRet (eA lstD (aCons (eN 2) (aCons (eC (.bl true)) aNil))))))
noncomputable def d__law_told : List D → M D := fnD 2 2 b__law_told

noncomputable def b__law_is_name_1 : SM :=
  ((sIf (tB (e2 ltD (eM1 findD (eC (.str "abcdefghijklmnopqrstuvwxyz")) (eN 1)) (eC (.int 0)))) ((sRet (eC (.bl false)))) sNil))
noncomputable def b__law_is_name : SM :=
  (sSeq ((sFor (.nm 1) (iS (eN 0)) b__law_is_name_1)) ((sRet (eCh leD leD (eC (.int 1)) (eA lenD (aCons (eB 0) aNil)) (eC (.int 4))))))
noncomputable def d__law_is_name : List D → M D := fnD 1 1 b__law_is_name

noncomputable def b__law_odd_paper : SM :=
  (sSeq ((sTg (.tp [(.nm 2), (.nm 3), (.nm 4), (.nm 5), (.nm 6), (.nm 7)]) (eN 0))) (sSeq ((sSet 8 (eA lstD (aCons (eA tupD (aCons (e2 addD (eB 3) (eC (.int 1))) (aCons (eN 3) (aCons (eN 4) (aCons (eN 5) (aCons (eN 6) (aCons (eN 7) aNil))))))) (aCons (eA tupD (aCons (eN 2) (aCons (eC (.int 1000)) (aCons (eN 4) (aCons (eN 5) (aCons (eN 6) (aCons (eN 7) aNil))))))) aNil))))) (sSeq ((sSet 8 (e2 addD (eB 8) (eA lstD (aCons (eA tupD (aCons (eN 2) (aCons (eN 3) (aCons (eN 4) (aCons (eN 5) (aCons (eN 6) (aCons (e2 addD (eB 2) (eC (.int 1))) aNil))))))) (aCons (eA tupD (aCons (eN 2) (aCons (eN 3) (aCons (eN 4) (aCons (eN 5) (aCons (eN 6) (aCons (e1 negD (eC (.int 1))) aNil))))))) aNil)))))) (sSeq ((sSet 8 (e2 addD (eB 8) (eA lstD (aCons (eA tupD (aCons (eN 2) (aCons (eN 3) (aCons (eA tupD (aCons (e1 negD (eC (.int 1))) (aCons (eC (.int 2)) aNil))) (aCons (eN 5) (aCons (eN 6) (aCons (eN 7) aNil))))))) (aCons (eA tupD (aCons (eN 2) (aCons (eN 3) (aCons (eN 4) (aCons (eA tupD (aCons (eC (.int 1)) (aCons (eC (.int 1)) aNil))) (aCons (eN 6) (aCons (eN 7) aNil))))))) aNil)))))) (sSeq ((sSet 8 (e2 addD (eB 8) (eA lstD (aCons (eA tupD (aCons (eN 2) (aCons (eN 3) (aCons (eN 4) (aCons (eA tupD (aCons (eC (.int 7)) (aCons (eC (.int 6)) aNil))) (aCons (eN 6) (aCons (eN 7) aNil))))))) (aCons (eA tupD (aCons (eN 2) (aCons (eN 3) (aCons (eN 4) (aCons (eA tupD (aCons (e1 negD (eC (.int 1))) (aCons (eC (.int 9)) aNil))) (aCons (eN 6) (aCons (eN 7) aNil))))))) aNil)))))) (sSeq ((sSet 8 (e2 addD (eB 8) (eA lstD (aCons (eA tupD (aCons (eN 2) (aCons (eN 3) (aCons (eN 4) (aCons (eN 5) (aCons (eA tupD (aCons (e1 negD (eC (.int 3))) (aCons (eC (.int 1)) aNil))) (aCons (eN 7) aNil))))))) (aCons (eA tupD (aCons (eN 2) (aCons (eN 3) (aCons (eA tupD (aCons (eC (.int 2)) (aCons (eC (.int 4)) aNil))) (aCons (eN 5) (aCons (eN 6) (aCons (eN 7) aNil))))))) aNil)))))) (sSeq ((sSet 8 (e2 addD (eB 8) (eA lstD (aCons (eA tupD (aCons (eN 2) (aCons (eN 3) (aCons (eN 4) (aCons (eA tupD (aCons (eC (.int 0)) (aCons (eC (.int 2)) aNil))) (aCons (eN 6) (aCons (eN 7) aNil))))))) (aCons (eA tupD (aCons (eN 2) (aCons (eN 3) (aCons (eN 4) (aCons (eN 5) (aCons (eA tupD (aCons (eC (.int 1)) (aCons (eC (.int 0)) aNil))) (aCons (eN 7) aNil))))))) aNil)))))) (sSeq ((sSet 8 (e2 addD (eB 8) (eA lstD (aCons (eA tupD (aCons (eN 2) (aCons (eN 3) (aCons (eN 4) (aCons (eN 5) (aCons (eA tupD (aCons (eC (.int 2)) (aCons (e1 negD (eC (.int 1))) aNil))) (aCons (eN 7) aNil))))))) (aCons (eA tupD (aCons (e1 negD (eC (.int 1))) (aCons (eN 3) (aCons (eN 4) (aCons (eN 5) (aCons (eN 6) (aCons (e1 negD (eC (.int 1))) aNil))))))) aNil)))))) ((sRet (e2 ixD (eB 8) (e2 modD (eA intD (aCons (eB 1) aNil)) (eC (.int 14))))))))))))))
noncomputable def d__law_odd_paper : List D → M D := fnD 2 7 b__law_odd_paper

noncomputable def b__law_odd_entry : SM :=
  (sSeq ((sTg (.tp [(.nm 2), (.nm 3), (.nm 4)]) (eN 0))) (sSeq ((sSet 5 (eA lstD (aCons (eA tupD (aCons (eC (.str "")) (aCons (eN 3) (aCons (eN 4) aNil)))) (aCons (eA tupD (aCons (eC (.str "abcde")) (aCons (eN 3) (aCons (eN 4) aNil)))) (aCons (eA tupD (aCons (eC (.str "A")) (aCons (eN 3) (aCons (eN 4) aNil)))) (aCons (eA tupD (aCons (eC (.str "a1")) (aCons (eN 3) (aCons (eN 4) aNil)))) (aCons (eA tupD (aCons (eN 2) (aCons (eN 3) (aCons (eC (.int 1000)) aNil)))) aNil)))))))) (sSeq ((sSet 5 (e2 addD (eB 5) (eA lstD (aCons (eA tupD (aCons (eN 2) (aCons (eN 3) (aCons (e1 negD (eC (.int 1))) aNil)))) (aCons (eA tupD (aCons (eN 2) (aCons (eF d__law_odd_paper (aCons (eN 3) (aCons (e2 ixD (eB 1) (eC (.int 1))) aNil))) (aCons (eN 4) aNil)))) aNil)))))) ((sRet (e2 ixD (eB 5) (e2 modD (eA intD (aCons (e2 ixD (eB 1) (eC (.int 0))) aNil)) (eC (.int 7)))))))))
noncomputable def d__law_odd_entry : List D → M D := fnD 2 4 b__law_odd_entry

noncomputable def b_law_1 : SM :=
  ((sIf (tB (e2 neD (eF d__law_told (aCons (eC (.glo "check_paper")) (aCons (eF d__law_odd_paper (aCons (eN 3) (aCons (e2 ixD (eB 2) (e2 addD (eC (.int 10)) (eB 4))) aNil))) aNil))) (eA lstD (aCons (eC (.str "no")) (aCons (eC (.bl true)) aNil))))) ((sRet (eC (.bl false)))) sNil))
noncomputable def l_law_2 : EM (List D) :=
  (eLc (iA rng1D (aCons (e2 modD (eA intD (aCons (e2 ixD (eB 2) (eC (.int 138))) aNil)) (eC (.int 7))) aNil)) (.nm 4) [4] tYes (e2 ixD (eC (.str "abzA0 _")) (e2 modD (eA intD (aCons (e2 ixD (eB 2) (e2 addD (eC (.int 120)) (eB 4))) aNil)) (eC (.int 7)))))
noncomputable def b_law_3 : SM :=
  (sSeq ((sSet 2 (eF Ks.d__law_numbersC (aCons (eF Ks.d__law_cell (aCons (eN 0) (aCons (eN 1) aNil))) (aCons (eN 1) (aCons (eC (.int 140)) aNil)))))) (sSeq ((sSet 3 (eF Ks.d__law_paperC (aCons (eN 2) aNil)))) (sSeq ((sIf (tB (e2 neD (eF d__law_told (aCons (eC (.glo "check_paper")) (aCons (eN 3) aNil))) (eA lstD (aCons (eC .non) (aCons (eC (.bl true)) aNil))))) ((sRet (eC (.bl false)))) sNil)) (sSeq ((sFor (.nm 4) (iA rng1D (aCons (eC (.int 3)) aNil)) b_law_1)) (sSeq ((sSet 5 (eF Ks.d__law_drawerC (aCons (eSl (eB 2) (pSo (eC (.int 13))) pNo) (aCons (eC (.int 12)) aNil))))) (sSeq ((sIf (tB (e2 neD (eF d__law_told (aCons (eC (.glo "check_drawer")) (aCons (eN 5) aNil))) (eA lstD (aCons (eC .non) (aCons (eC (.bl true)) aNil))))) ((sRet (eC (.bl false)))) sNil)) (sSeq ((sSet 6 (e2 modD (eA intD (aCons (e2 ixD (eB 2) (eC (.int 135))) aNil)) (e2 addD (eA lenD (aCons (eB 5) aNil)) (eC (.int 1)))))) (sSeq ((sSet 7 (e2 addD (e2 addD (eSl (eB 5) pNo (pSo (eN 6))) (eA tupD (aCons (eF d__law_odd_entry (aCons (eA tupD (aCons (eC (.str "a")) (aCons (eN 3) (aCons (eC .non) aNil)))) (aCons (eSl (eB 2) (pSo (eC (.int 136))) (pSo (eC (.int 138)))) aNil))) aNil))) (eSl (eB 5) (pSo (eN 6)) pNo)))) (sSeq ((sIf (tB (e2 neD (eF d__law_told (aCons (eC (.glo "check_drawer")) (aCons (eN 7) aNil))) (eA lstD (aCons (eC (.str "no")) (aCons (eC (.bl true)) aNil))))) ((sRet (eC (.bl false)))) sNil)) (sSeq ((sSet 8 (eM1 joinD (eC (.str "")) (eLst l_law_2)))) ((sIf (tOr (tNot (tV (e1 (isTyD "bool") (eF Ks.d_is_scale (aCons (eN 8) aNil))))) (tB (e2 neD (eF Ks.d_is_scale (aCons (eN 8) aNil)) (eF d__law_is_name (aCons (eN 8) aNil))))) ((sRet (eC (.bl false)))) sNil))))))))))))
noncomputable def b_law : SM :=
  (sSeq ((sFor (.nm 1) (iA rng1D (aCons (eA maxD (aCons (eC (.int 1)) (aCons (eA minD (aCons (eA lenD (aCons (eB 0) aNil)) (aCons (eC (.int 6)) aNil))) aNil))) aNil)) b_law_3)) (sSeq ((sSet 9 (eA tupD (aCons (eC (.str "a")) (aCons (eA tupD (aCons (eC (.int 0)) (aCons (eC (.int 999)) (aCons (eA tupD (aCons (eC (.int 0)) (aCons (eC (.int 1)) aNil))) (aCons (eA tupD (aCons (eC (.int 0)) (aCons (eC (.int 1)) aNil))) (aCons (eA tupD (aCons (eC (.int 0)) (aCons (eC (.int 1)) aNil))) (aCons (eC (.int 0)) aNil))))))) (aCons (eC .non) aNil)))))) (sSeq ((sIf (tOr (tB (e2 neD (eF d__law_told (aCons (eC (.glo "check_drawer")) (aCons (e2 mulTD (eA tupD (aCons (eN 9) aNil)) (eC (.int 12))) aNil))) (eA lstD (aCons (eC .non) (aCons (eC (.bl true)) aNil))))) (tB (e2 neD (eF d__law_told (aCons (eC (.glo "check_drawer")) (aCons (e2 mulTD (eA tupD (aCons (eN 9) aNil)) (eC (.int 13))) aNil))) (eA lstD (aCons (eC (.str "no")) (aCons (eC (.bl true)) aNil)))))) ((sRet (eC (.bl false)))) sNil)) ((sRet (eAnd (e2 eqD (eA tupD (aCons (eC Ks.c_MAX_DAY) (aCons (eC Ks.c_MAX_PAPERS) aNil))) (eA tupD (aCons (eC (.int 999)) (aCons (eC (.int 12)) aNil)))) (eAnd (e2 isD (eF Ks.d_is_scale (aCons (eC (.str "abcd")) aNil)) (eC (.bl true))) (e2 isD (eF Ks.d_is_scale (aCons (eC (.str "abcde")) aNil)) (eC (.bl false))))))))))
noncomputable def d_law : List D → M D := fnD 1 9 b_law

end Lk20

set_option Elab.async false
set_option linter.all false
set_option maxRecDepth 100000
/-! printed by gen.py: the walk. -/
namespace Lk20
open PySem PySem.Spec PyProof.Rows L2 RZ Kb
def top (i : Nat) : Stmt := PySem.Challenge.pw_kerbwise_k20_papers_and_drawers.main.body.getD i (.Pass ⟨0, 0, 0, 0⟩)

structure Txt (K : PySem.W.Frag) (mg : Str → Option Value) : Prop where
  g_common : mg "common" = some (.ref (He.ga K "common"))
  f_common : FunD K "common" "common" (defArgs (top 6)) (defBody (top 6)) (defScope (top 6)) [] [] (He.ga K "common") (fdOf K ("common", none))
  g_is_ratio : mg "is_ratio" = some (.ref (He.ga K "is_ratio"))
  f_is_ratio : FunD K "is_ratio" "is_ratio" (defArgs (top 7)) (defBody (top 7)) (defScope (top 7)) [] [] (He.ga K "is_ratio") (fdOf K ("is_ratio", none))
  g_sign_of : mg "sign_of" = some (.ref (He.ga K "sign_of"))
  f_sign_of : FunD K "sign_of" "sign_of" (defArgs (top 8)) (defBody (top 8)) (defScope (top 8)) [] [] (He.ga K "sign_of") (fdOf K ("sign_of", none))
  g_compare : mg "compare" = some (.ref (He.ga K "compare"))
  f_compare : FunD K "compare" "compare" (defArgs (top 9)) (defBody (top 9)) (defScope (top 9)) [] [] (He.ga K "compare") (fdOf K ("compare", none))
  g_is_scale : mg "is_scale" = some (.ref (He.ga K "is_scale"))
  f_is_scale : FunD K "is_scale" "is_scale" (defArgs (top 16)) (defBody (top 16)) (defScope (top 16)) [] [] (He.ga K "is_scale") (fdOf K ("is_scale", none))
  g_is_day : mg "is_day" = some (.ref (He.ga K "is_day"))
  f_is_day : FunD K "is_day" "is_day" (defArgs (top 17)) (defBody (top 17)) (defScope (top 17)) [] [] (He.ga K "is_day") (fdOf K ("is_day", none))
  g_is_weight : mg "is_weight" = some (.ref (He.ga K "is_weight"))
  f_is_weight : FunD K "is_weight" "is_weight" (defArgs (top 18)) (defBody (top 18)) (defScope (top 18)) [] [] (He.ga K "is_weight") (fdOf K ("is_weight", none))
  g_check_paper : mg "check_paper" = some (.ref (He.ga K "check_paper"))
  f_check_paper : FunD K "check_paper" "check_paper" (defArgs (top 19)) (defBody (top 19)) (defScope (top 19)) [] [] (He.ga K "check_paper") (fdOf K ("check_paper", none))
  g_check_scale : mg "check_scale" = some (.ref (He.ga K "check_scale"))
  f_check_scale : FunD K "check_scale" "check_scale" (defArgs (top 20)) (defBody (top 20)) (defScope (top 20)) [] [] (He.ga K "check_scale") (fdOf K ("check_scale", none))
  g_check_day : mg "check_day" = some (.ref (He.ga K "check_day"))
  f_check_day : FunD K "check_day" "check_day" (defArgs (top 21)) (defBody (top 21)) (defScope (top 21)) [] [] (He.ga K "check_day") (fdOf K ("check_day", none))
  g_check_drawer : mg "check_drawer" = some (.ref (He.ga K "check_drawer"))
  f_check_drawer : FunD K "check_drawer" "check_drawer" (defArgs (top 22)) (defBody (top 22)) (defScope (top 22)) [] [] (He.ga K "check_drawer") (fdOf K ("check_drawer", none))
  g__law_cell : mg "_law_cell" = some (.ref (He.ga K "_law_cell"))
  f__law_cell : FunD K "_law_cell" "_law_cell" (defArgs (top 24)) (defBody (top 24)) (defScope (top 24)) [] [] (He.ga K "_law_cell") (fdOf K ("_law_cell", none))
  g__law_numbers : mg "_law_numbers" = some (.ref (He.ga K "_law_numbers"))
  f__law_numbers : FunD K "_law_numbers" "_law_numbers" (defArgs (top 25)) (defBody (top 25)) (defScope (top 25)) [] [] (He.ga K "_law_numbers") (fdOf K ("_law_numbers", none))
  g__law_ratio : mg "_law_ratio" = some (.ref (He.ga K "_law_ratio"))
  f__law_ratio : FunD K "_law_ratio" "_law_ratio" (defArgs (top 26)) (defBody (top 26)) (defScope (top 26)) [] [] (He.ga K "_law_ratio") (fdOf K ("_law_ratio", none))
  g__law_drawn : mg "_law_drawn" = some (.ref (He.ga K "_law_drawn"))
  f__law_drawn : FunD K "_law_drawn" "_law_drawn" (defArgs (top 30)) (defBody (top 30)) (defScope (top 30)) [] [] (He.ga K "_law_drawn") (fdOf K ("_law_drawn", none))
  g__law_paper : mg "_law_paper" = some (.ref (He.ga K "_law_paper"))
  f__law_paper : FunD K "_law_paper" "_law_paper" (defArgs (top 32)) (defBody (top 32)) (defScope (top 32)) [] [] (He.ga K "_law_paper") (fdOf K ("_law_paper", none))
  g__law_drawer : mg "_law_drawer" = some (.ref (He.ga K "_law_drawer"))
  f__law_drawer : FunD K "_law_drawer" "_law_drawer" (defArgs (top 33)) (defBody (top 33)) (defScope (top 33)) [] [] (He.ga K "_law_drawer") (fdOf K ("_law_drawer", none))
  g__law_told : mg "_law_told" = some (.ref (He.ga K "_law_told"))
  f__law_told : FunD K "_law_told" "_law_told" (defArgs (top 37)) (defBody (top 37)) (defScope (top 37)) [] [] (He.ga K "_law_told") (fdOf K ("_law_told", none))
  g__law_odd_paper : mg "_law_odd_paper" = some (.ref (He.ga K "_law_odd_paper"))
  f__law_odd_paper : FunD K "_law_odd_paper" "_law_odd_paper" (defArgs (top 38)) (defBody (top 38)) (defScope (top 38)) [] [] (He.ga K "_law_odd_paper") (fdOf K ("_law_odd_paper", none))
  g__law_odd_entry : mg "_law_odd_entry" = some (.ref (He.ga K "_law_odd_entry"))
  f__law_odd_entry : FunD K "_law_odd_entry" "_law_odd_entry" (defArgs (top 39)) (defBody (top 39)) (defScope (top 39)) [] [] (He.ga K "_law_odd_entry") (fdOf K ("_law_odd_entry", none))
  g__law_is_name : mg "_law_is_name" = some (.ref (He.ga K "_law_is_name"))
  f__law_is_name : FunD K "_law_is_name" "_law_is_name" (defArgs (top 40)) (defBody (top 40)) (defScope (top 40)) [] [] (He.ga K "_law_is_name") (fdOf K ("_law_is_name", none))
  g_law : mg "law" = some (.ref (He.ga K "law"))
  f_law : FunD K "law" "law" (defArgs (top 41)) (defBody (top 41)) (defScope (top 41)) [] [] (He.ga K "law") (fdOf K ("law", none))
  n_abs : mg "abs" = none
  n_all : mg "all" = none
  n_bool : mg "bool" = none
  n_int : mg "int" = none
  n_isinstance : mg "isinstance" = none
  n_len : mg "len" = none
  n_max : mg "max" = none
  n_min : mg "min" = none
  n_range : mg "range" = none
  n_sorted : mg "sorted" = none
  n_tuple : mg "tuple" = none
  c_MAX_DAY : ConF K mg "MAX_DAY" Ks.c_MAX_DAY
  c_MAX_PAPERS : ConF K mg "MAX_PAPERS" Ks.c_MAX_PAPERS
  c_MAX_NAME : ConF K mg "MAX_NAME" Ks.c_MAX_NAME
  c_LETTERS : ConF K mg "LETTERS" Ks.c_LETTERS
  c_ONE : ConF K mg "ONE" Ks.c_ONE
  e_BadForm : ExcF K mg "BadForm" (He.ga K "BadForm")
  e_KerbError : ExcF K mg "KerbError" (He.ga K "KerbError")
  e_Missing : ExcF K mg "Missing" (He.ga K "Missing")
  e_NotAllowed : ExcF K mg "NotAllowed" (He.ga K "NotAllowed")
  x_NotAllowed : ExcC K (He.ga K "NotAllowed")
  k_NotAllowed_BadForm : PySem.W.kitOne K (.ref (He.ga K "NotAllowed")) (.ref (He.ga K "BadForm")) = some false
  k_NotAllowed_KerbError : PySem.W.kitOne K (.ref (He.ga K "NotAllowed")) (.ref (He.ga K "KerbError")) = some true
  k_NotAllowed_Missing : PySem.W.kitOne K (.ref (He.ga K "NotAllowed")) (.ref (He.ga K "Missing")) = some false
  m_BadForm_NotAllowed : PySem.W.exmOne K (.ref (He.ga K "BadForm")) (.ref (He.ga K "NotAllowed")) = some false
  m_KerbError_NotAllowed : PySem.W.exmOne K (.ref (He.ga K "KerbError")) (.ref (He.ga K "NotAllowed")) = some false
  m_Missing_NotAllowed : PySem.W.exmOne K (.ref (He.ga K "Missing")) (.ref (He.ga K "NotAllowed")) = some false
  m_NotAllowed_NotAllowed : PySem.W.exmOne K (.ref (He.ga K "NotAllowed")) (.ref (He.ga K "NotAllowed")) = some true
theorem Txt.exm_ {K : PySem.W.Frag} {mg : Str → Option Value} (T : Txt K mg) (X : String) (cs : List (String × Bool)) (hX : (X, cs) ∈ [("NotAllowed", [("KerbError", false), ("NotAllowed", true), ("BadForm", false), ("Missing", false)])]) {n : String} {b : Bool} (hl : cs.lookup n = some b) {C : Addr} (hC : mg (Str.ofString n) = some (.ref C)) : PySem.W.exmOne K (.ref C) (.ref (He.ga K (Str.ofString X))) = some b := by
  have key : ∀ p ∈ cs, ∀ C, mg (Str.ofString p.1) = some (.ref C) → PySem.W.exmOne K (.ref C) (.ref (He.ga K (Str.ofString X))) = some p.2 := by
    simp only [List.mem_cons, List.not_mem_nil, or_false, Prod.mk.injEq] at hX
    rcases hX with ⟨rfl, rfl⟩
    · intro p hp C hC
      simp only [List.mem_cons, List.not_mem_nil, or_false] at hp
      rcases hp with rfl | rfl | rfl | rfl
      · have e := Option.some.inj (hC.symm.trans T.e_KerbError.g); cases e; exact T.m_KerbError_NotAllowed
      · have e := Option.some.inj (hC.symm.trans T.e_NotAllowed.g); cases e; exact T.m_NotAllowed_NotAllowed
      · have e := Option.some.inj (hC.symm.trans T.e_BadForm.g); cases e; exact T.m_BadForm_NotAllowed
      · have e := Option.some.inj (hC.symm.trans T.e_Missing.g); cases e; exact T.m_Missing_NotAllowed
  have mem : ∀ (l : List (String × Bool)), l.lookup n = some b → (n, b) ∈ l := fun l h => by
    induction l with
    | nil => cases h
    | cons p r ih =>
      obtain ⟨m, b'⟩ := p
      rw [List.lookup_cons] at h
      cases q : (n == m) with
      | true => rw [q] at h; cases h; rw [beq_iff_eq.mp q]; exact List.mem_cons_self
      | false => rw [q] at h; exact List.mem_cons_of_mem _ (ih h)
  exact key (n, b) (mem cs hl) C hC
section
variable {P : Program} {w : World} {base : Heap} {K : PySem.W.Frag} {mg : Str → Option Value}
abbrev s__law_numbers : Stmt := top 25
theorem sc__law_numbers : FnScope ["cell", "k", "many", "numbers", "rest", "j", "mixed", "twice"] ["cell", "k", "many"] (defScope s__law_numbers) := ⟨rfl, rfl, rfl, by decide +kernel, rfl, by decide +kernel, by decide +kernel⟩
theorem bi__law_numbers (T : Txt K mg) : Binds K (fdOf K ("_law_numbers", none)) ["cell", "k", "many"] [] := T.f__law_numbers.bindsN fun _ _ _ _ _ _ us hl => match us, hl with | [_, _, _], _ => rfl
set_option maxHeartbeats 4100000 in
theorem ok__law_numbers (T : Txt K mg) : FnS P w K mg base 1 (He.ga K "_law_numbers") (fdOf K ("_law_numbers", none)) ["cell", "k", "many"] Ks.d__law_numbersC :=
  fns_ok (k := 0) (N := ["cell", "k", "many", "numbers", "rest", "j", "mixed", "twice"]) (ps := ["cell", "k", "many"]) (n := 3) (m := 5) (g := Ks.b__law_numbersC) T.f__law_numbers sc__law_numbers rfl rfl (fun cdv A outer s H E hr => by
    exact (sss_cons (ss_own 3 sc__law_numbers.nd (sf_lst sa_nil)) (sss_cons (ss_if (st_ge (se_name 0) (se_pow se_int se_int)) (sss_cons (ss_set 4 sc__law_numbers.nd (se_name 0)) (sss_cons (ss_for rfl (si_range1 rfl T.n_range (sa_cons (se_name 2) sa_nil)) (stg_name 5 sc__law_numbers.nd) (sss_cons (ss_app 3 (se_mod (se_callT (fun _ _ => call_int1) intS rfl T.n_int (by decide +kernel) (sab_cons (sb_name 4) sab_nil)) se_int)) (sss_one (ss_set 4 sc__law_numbers.nd (se_fdiv (se_name 4) se_int))))) (sss_one (ss_frz 3 (ss_ret (se_name 3)))))) sss_nil) (sss_cons (ss_set 6 sc__law_numbers.nd (se_mod (se_callT (fun _ _ => call_int1) intS rfl T.n_int (by decide +kernel) (sab_cons (sb_of (se_add (sb_of (se_add (sb_of (se_mul (se_name 0) se_int)) (sb_of (se_mul (se_name 1) se_int)))) (sb_of se_int))) sab_nil)) se_int)) (sss_cons (ss_for rfl (si_range1 rfl T.n_range (sa_cons (se_name 2) sa_nil)) (stg_name 5 sc__law_numbers.nd) (sss_cons (ss_set 6 sc__law_numbers.nd (se_mod (se_callT (fun _ _ => call_int1) intS rfl T.n_int (by decide +kernel) (sab_cons (sb_of (se_add (sb_of (se_add (sb_of (se_mul (se_name 6) se_int)) (sb_of (se_mul (se_name 5) se_int)))) (sb_of se_int))) sab_nil)) se_int)) (sss_cons (ss_set 7 sc__law_numbers.nd (se_mod (se_callT (fun _ _ => call_int1) intS rfl T.n_int (by decide +kernel) (sab_cons (sb_of (se_add (sb_of (se_add (sb_of (se_mul (se_name 6) (se_name 6))) (sb_of (se_mul (se_name 1) se_int)))) (sb_name 5))) sab_nil)) se_int)) (sss_one (ss_app 3 (se_mod (se_callT (fun _ _ => call_int1) intS rfl T.n_int (by decide +kernel) (sab_cons (sb_of (se_fdiv (se_name 7) se_int)) sab_nil)) se_int)))))) (sss_one (ss_frz 3 (ss_ret (se_name 3)))))))))

abbrev s__law_ratio : Stmt := top 26
theorem sc__law_ratio : FnScope ["n", "d", "first", "second", "k", "sign"] ["n", "d"] (defScope s__law_ratio) := ⟨rfl, rfl, rfl, by decide +kernel, rfl, by decide +kernel, by decide +kernel⟩
theorem bi__law_ratio (T : Txt K mg) : Binds K (fdOf K ("_law_ratio", none)) ["n", "d"] [] := T.f__law_ratio.bindsN fun _ _ _ _ _ _ us hl => match us, hl with | [_, _], _ => rfl
set_option maxHeartbeats 4100000 in
theorem ok__law_ratio (T : Txt K mg) : FnS P w K mg base 1 (He.ga K "_law_ratio") (fdOf K ("_law_ratio", none)) ["n", "d"] Ks.d__law_ratioC :=
  fns_ok (k := 0) (N := ["n", "d", "first", "second", "k", "sign"]) (ps := ["n", "d"]) (n := 2) (m := 4) (g := Ks.b__law_ratioC) T.f__law_ratio sc__law_ratio rfl rfl (fun cdv A outer s H E hr => by
    exact (sss_cons (ss_set 2 sc__law_ratio.nd (se_callB (fun _ _ => call_abs) absS rfl T.n_abs (by decide +kernel) (sab_cons (sb_name 0) sab_nil))) (sss_cons (ss_set 3 sc__law_ratio.nd (se_callB (fun _ _ => call_abs) absS rfl T.n_abs (by decide +kernel) (sab_cons (sb_name 1) sab_nil))) (sss_cons (ss_for rfl (si_range1 rfl T.n_range (sa_cons se_int sa_nil)) (stg_name 4 sc__law_ratio.nd) (sss_cons (ss_if (st_eq (hu_room hr) (sb_name 3) (sb_of se_int)) (sss_one ss_break) sss_nil) (sss_one (ss_par rfl sc__law_ratio.nd (sa_cons (se_name 3) (sa_cons (se_mod (se_callT (fun _ _ => call_int1) intS rfl T.n_int (by decide +kernel) (sab_cons (sb_name 2) sab_nil)) (se_name 3)) sa_nil)) (hw := fun X' e => by rw [e]; rfl))))) (sss_cons (ss_set 5 sc__law_ratio.nd (se_ix (sb_of (se_lst (sa_cons se_int (sa_cons (se_neg se_int) sa_nil)))) (se_callT (fun _ _ => call_int1) intS rfl T.n_int (by decide +kernel) (sab_cons (sb_of (se_lt (se_name 1) se_int)) sab_nil)))) (sss_one (ss_ret (se_tup (sa_cons (se_fdiv (se_mul (se_name 5) (se_name 0)) (se_name 2)) (sa_cons (se_fdiv (se_mul (se_name 5) (se_name 1)) (se_name 2)) sa_nil))))))))))

abbrev s__law_drawn : Stmt := top 30
theorem sc__law_drawn : FnScope ["number", "most"] ["number", "most"] (defScope s__law_drawn) := ⟨rfl, rfl, rfl, by decide +kernel, rfl, by decide +kernel, by decide +kernel⟩
theorem bi__law_drawn (T : Txt K mg) : Binds K (fdOf K ("_law_drawn", none)) ["number", "most"] [] := T.f__law_drawn.bindsN fun _ _ _ _ _ _ us hl => match us, hl with | [_, _], _ => rfl
set_option maxHeartbeats 4100000 in
theorem ok__law_drawn (T : Txt K mg) : FnS P w K mg base 2 (He.ga K "_law_drawn") (fdOf K ("_law_drawn", none)) ["number", "most"] Ks.d__law_drawnC :=
  fns_ok (k := 1) (N := ["number", "most"]) (ps := ["number", "most"]) (n := 2) (m := 0) (g := Ks.b__law_drawnC) T.f__law_drawn sc__law_drawn rfl rfl (fun cdv A outer s H E hr => by
    exact (sss_one (ss_ret (se_call (ok__law_ratio T) (hr.mono (by decide)) rfl T.g__law_ratio T.f__law_ratio.kp (bi__law_ratio T) (sa_cons (se_mod (se_fdiv (se_callT (fun _ _ => call_int1) intS rfl T.n_int (by decide +kernel) (sab_cons (sb_name 0) sab_nil)) se_int) (se_add (sb_name 1) (sb_of se_int))) (sa_cons (se_add (sb_of se_int) (sb_of (se_mod (se_callT (fun _ _ => call_int1) intS rfl T.n_int (by decide +kernel) (sab_cons (sb_name 0) sab_nil)) se_int))) sa_nil))))))

abbrev s__law_paper : Stmt := top 32
theorem sc__law_paper : FnScope ["numbers", "days", "zero", "share", "drift", "k"] ["numbers"] (defScope s__law_paper) := ⟨rfl, rfl, rfl, by decide +kernel, rfl, by decide +kernel, by decide +kernel⟩
theorem bi__law_paper (T : Txt K mg) : Binds K (fdOf K ("_law_paper", none)) ["numbers"] [] := T.f__law_paper.bindsN fun _ _ _ _ _ _ us hl => match us, hl with | [_], _ => rfl
set_option maxHeartbeats 4100000 in
theorem ok__law_paper (T : Txt K mg) : FnS P w K mg base 3 (He.ga K "_law_paper") (fdOf K ("_law_paper", none)) ["numbers"] Ks.d__law_paperC :=
  fns_ok (k := 2) (N := ["numbers", "days", "zero", "share", "drift", "k"]) (ps := ["numbers"]) (n := 1) (m := 5) (g := Ks.b__law_paperC) T.f__law_paper sc__law_paper rfl rfl (fun cdv A outer s H E hr => by
    exact (sss_cons (ss_set 1 sc__law_paper.nd (se_callB (fun _ _ => cr_sortedI) sortS rfl T.n_sorted (by decide +kernel) (sab_cons (sb_of (se_fr (sf_lc [("k", 5)] rfl sc__law_paper.nd (si_j (si_range1 rfl T.n_range (sa_cons se_int sa_nil))) (blkOk_by (by kernel_rfl)) (fun _ _ _ _ _ => (stg_name 5 sc__law_paper.nd)) (fun _ _ _ _ _ => sts_nil) (fun _ _ _ _ _ => (se_mod (se_callT (fun _ _ => call_int1) intS rfl T.n_int (by decide +kernel) (sab_cons (sb_of (se_ix (sb_name 0) (se_name 5))) sab_nil)) (se_ix (sb_of (se_lst (sa_cons se_int (sa_cons se_int sa_nil)))) (se_mod (se_callT (fun _ _ => call_int1) intS rfl T.n_int (by decide +kernel) (sab_cons (sb_of (se_ix (sb_name 0) se_int)) sab_nil)) se_int))))))) sab_nil))) (sss_cons (ss_set 2 sc__law_paper.nd (se_call (ok__law_drawn T) (hr.mono (by decide)) rfl T.g__law_drawn T.f__law_drawn.kp (bi__law_drawn T) (sa_cons (se_ix (sb_name 0) se_int) (sa_cons se_int sa_nil)))) (sss_cons (ss_set 3 sc__law_paper.nd (se_ix (sb_of (se_lst (sa_cons (se_tup (sa_cons se_int (sa_cons se_int sa_nil))) (sa_cons (se_call (ok__law_ratio T) (hr.mono (by decide)) rfl T.g__law_ratio T.f__law_ratio.kp (bi__law_ratio T) (sa_cons (se_mod (se_callT (fun _ _ => call_int1) intS rfl T.n_int (by decide +kernel) (sab_cons (sb_of (se_ix (sb_name 0) se_int)) sab_nil)) se_int) (sa_cons (se_add (sb_of se_int) (sb_of (se_mod (se_fdiv (se_callT (fun _ _ => call_int1) intS rfl T.n_int (by decide +kernel) (sab_cons (sb_of (se_ix (sb_name 0) se_int)) sab_nil)) se_int) se_int))) sa_nil))) sa_nil)))) (se_mod (se_callT (fun _ _ => call_int1) intS rfl T.n_int (by decide +kernel) (sab_cons (sb_of (se_ix (sb_name 0) se_int)) sab_nil)) se_int))) (sss_cons (ss_set 4 sc__law_paper.nd (se_ix (sb_of (se_lst (sa_cons (se_tup (sa_cons se_int (sa_cons se_int sa_nil))) (sa_cons (se_call (ok__law_ratio T) (hr.mono (by decide)) rfl T.g__law_ratio T.f__law_ratio.kp (bi__law_ratio T) (sa_cons (se_mod (se_callT (fun _ _ => call_int1) intS rfl T.n_int (by decide +kernel) (sab_cons (sb_of (se_ix (sb_name 0) se_int)) sab_nil)) se_int) (sa_cons (se_add (sb_of se_int) (sb_of (se_mod (se_fdiv (se_callT (fun _ _ => call_int1) intS rfl T.n_int (by decide +kernel) (sab_cons (sb_of (se_ix (sb_name 0) se_int)) sab_nil)) se_int) se_int))) sa_nil))) sa_nil)))) (se_mod (se_fdiv (se_callT (fun _ _ => call_int1) intS rfl T.n_int (by decide +kernel) (sab_cons (sb_of (se_ix (sb_name 0) se_int)) sab_nil)) se_int) se_int))) (sss_one (ss_ret (se_tup (sa_cons (se_ix (sb_name 1) se_int) (sa_cons (se_ix (sb_name 1) se_int) (sa_cons (se_name 2) (sa_cons (se_name 3) (sa_cons (se_name 4) (sa_cons (se_ix (sb_name 1) se_int) sa_nil))))))))))))))

abbrev s__law_drawer : Stmt := top 33
theorem sc__law_drawer : FnScope ["numbers", "most", "entries", "k", "row", "until"] ["numbers", "most"] (defScope s__law_drawer) := ⟨rfl, rfl, rfl, by decide +kernel, rfl, by decide +kernel, by decide +kernel⟩
theorem bi__law_drawer (T : Txt K mg) : Binds K (fdOf K ("_law_drawer", none)) ["numbers", "most"] [] := T.f__law_drawer.bindsN fun _ _ _ _ _ _ us hl => match us, hl with | [_, _], _ => rfl
set_option maxHeartbeats 4100000 in
theorem ok__law_drawer (T : Txt K mg) : FnS P w K mg base 4 (He.ga K "_law_drawer") (fdOf K ("_law_drawer", none)) ["numbers", "most"] Ks.d__law_drawerC :=
  fns_ok (k := 3) (N := ["numbers", "most", "entries", "k", "row", "until"]) (ps := ["numbers", "most"]) (n := 2) (m := 4) (g := Ks.b__law_drawerC) T.f__law_drawer sc__law_drawer rfl rfl (fun cdv A outer s H E hr => by
    exact (sss_cons (ss_own 2 sc__law_drawer.nd (sf_lst sa_nil)) (sss_cons (ss_for rfl (si_range1 rfl T.n_range (sa_cons (se_mod (se_callT (fun _ _ => call_int1) intS rfl T.n_int (by decide +kernel) (sab_cons (sb_of (se_ix (sb_name 0) se_int)) sab_nil)) (se_add (sb_name 1) (sb_of se_int))) sa_nil)) (stg_name 3 sc__law_drawer.nd) (sss_cons (ss_set 4 sc__law_drawer.nd (se_sl (sb_name 0) (sp_so (se_add (sb_of se_int) (sb_of (se_mul se_int (se_name 3))))) (sp_so (se_add (sb_of se_int) (sb_of (se_mul se_int (se_name 3))))))) (sss_cons (ss_set 5 sc__law_drawer.nd se_non) (sss_cons (ss_if (st_eq (hu_room hr) (sb_of (se_mod (se_callT (fun _ _ => call_int1) intS rfl T.n_int (by decide +kernel) (sab_cons (sb_of (se_ix (sb_name 4) se_int)) sab_nil)) se_int)) (sb_of se_int)) (sss_one (ss_set 5 sc__law_drawer.nd (se_mod (se_callT (fun _ _ => call_int1) intS rfl T.n_int (by decide +kernel) (sab_cons (sb_of (se_ix (sb_name 4) se_int)) sab_nil)) (se_ix (sb_of (se_lst (sa_cons se_int (sa_cons se_int sa_nil)))) (se_mod (se_fdiv (se_callT (fun _ _ => call_int1) intS rfl T.n_int (by decide +kernel) (sab_cons (sb_of (se_ix (sb_name 4) se_int)) sab_nil)) se_int) se_int))))) sss_nil) (sss_one (ss_app 2 (se_tup (sa_cons (se_ix (sb_of (se_lst (sa_cons se_str (sa_cons se_str (sa_cons se_str sa_nil))))) (se_mod (se_fdiv (se_callT (fun _ _ => call_int1) intS rfl T.n_int (by decide +kernel) (sab_cons (sb_of (se_ix (sb_name 4) se_int)) sab_nil)) se_int) se_int)) (sa_cons (se_call (ok__law_paper T) (hr.mono (by decide)) rfl T.g__law_paper T.f__law_paper.kp (bi__law_paper T) (sa_cons (se_name 4) sa_nil)) (sa_cons (se_name 5) sa_nil)))))))))) (sss_one (ss_ret (se_callT (fun _ _ => call_tuple_of) tupleS rfl T.n_tuple (by decide +kernel) (sab_cons (sb_name 2) sab_nil)))))))

abbrev s__law_cell : Stmt := top 24
theorem sc__law_cell : FnScope ["script", "k"] ["script", "k"] (defScope s__law_cell) := ⟨rfl, rfl, rfl, by decide +kernel, rfl, by decide +kernel, by decide +kernel⟩
theorem bi__law_cell (T : Txt K mg) : Binds K (fdOf K ("_law_cell", none)) ["script", "k"] [] := T.f__law_cell.bindsN fun _ _ _ _ _ _ us hl => match us, hl with | [_, _], _ => rfl
set_option maxHeartbeats 4100000 in
theorem ok__law_cell (T : Txt K mg) : FnS P w K mg base 1 (He.ga K "_law_cell") (fdOf K ("_law_cell", none)) ["script", "k"] Ks.d__law_cell :=
  fns_ok (k := 0) (N := ["script", "k"]) (ps := ["script", "k"]) (n := 2) (m := 0) (g := Ks.b__law_cell) T.f__law_cell sc__law_cell rfl rfl (fun cdv A outer s H E hr => by
    exact (sss_cons (ss_if (st_lt (se_name 1) (se_callB (fun _ _ => call_len) lenS rfl T.n_len PySem.boot_len (sab_cons (sb_name 0) sab_nil))) (sss_one (ss_ret (se_ix (sb_name 0) (se_name 1)))) sss_nil) (sss_one (ss_ret se_int))))

abbrev s_sign_of : Stmt := top 8
theorem sc_sign_of : FnScope ["first"] ["first"] (defScope s_sign_of) := ⟨rfl, rfl, rfl, by decide +kernel, rfl, by decide +kernel, by decide +kernel⟩
theorem bi_sign_of (T : Txt K mg) : Binds K (fdOf K ("sign_of", none)) ["first"] [] := T.f_sign_of.bindsN fun _ _ _ _ _ _ us hl => match us, hl with | [_], _ => rfl
set_option maxHeartbeats 4100000 in
theorem ok_sign_of (T : Txt K mg) : FnS P w K mg base 1 (He.ga K "sign_of") (fdOf K ("sign_of", none)) ["first"] Ks.d_sign_of :=
  fns_ok (k := 0) (N := ["first"]) (ps := ["first"]) (n := 1) (m := 0) (g := Ks.b_sign_of) T.f_sign_of sc_sign_of rfl rfl (fun cdv A outer s H E hr => by
    exact (sss_cons (ss_if (st_eq (hu_room hr) (sb_of (se_ix (sb_name 0) se_int)) (sb_of se_int)) (sss_one (ss_ret se_int)) sss_nil) (sss_one (ss_ret (se_if (st_gt (se_ix (sb_name 0) se_int) se_int) se_int (se_neg se_int))))))

abbrev s_compare : Stmt := top 9
theorem sc_compare : FnScope ["first", "second"] ["first", "second"] (defScope s_compare) := ⟨rfl, rfl, rfl, by decide +kernel, rfl, by decide +kernel, by decide +kernel⟩
theorem bi_compare (T : Txt K mg) : Binds K (fdOf K ("compare", none)) ["first", "second"] [] := T.f_compare.bindsN fun _ _ _ _ _ _ us hl => match us, hl with | [_, _], _ => rfl
set_option maxHeartbeats 4100000 in
theorem ok_compare (T : Txt K mg) : FnS P w K mg base 2 (He.ga K "compare") (fdOf K ("compare", none)) ["first", "second"] Ks.d_compare :=
  fns_ok (k := 1) (N := ["first", "second"]) (ps := ["first", "second"]) (n := 2) (m := 0) (g := Ks.b_compare) T.f_compare sc_compare rfl rfl (fun cdv A outer s H E hr => by
    exact (sss_one (ss_ret (se_call (ok_sign_of T) (hr.mono (by decide)) rfl T.g_sign_of T.f_sign_of.kp (bi_sign_of T) (sa_cons (se_tup (sa_cons (se_sub (se_mul (se_ix (sb_name 0) se_int) (se_ix (sb_name 1) se_int)) (se_mul (se_ix (sb_name 1) se_int) (se_ix (sb_name 0) se_int))) (sa_cons se_int sa_nil))) sa_nil)))))

abbrev s_common : Stmt := top 6
theorem sc_common : FnScope ["first", "second"] ["first", "second"] (defScope s_common) := ⟨rfl, rfl, rfl, by decide +kernel, rfl, by decide +kernel, by decide +kernel⟩
theorem bi_common (T : Txt K mg) : Binds K (fdOf K ("common", none)) ["first", "second"] [] := T.f_common.bindsN fun _ _ _ _ _ _ us hl => match us, hl with | [_, _], _ => rfl
set_option maxHeartbeats 4100000 in
theorem ok_common (T : Txt K mg) : FnS P w K mg base 1 (He.ga K "common") (fdOf K ("common", none)) ["first", "second"] Ks.d_common :=
  fns_ok (k := 0) (N := ["first", "second"]) (ps := ["first", "second"]) (n := 2) (m := 0) (g := Ks.b_common) T.f_common sc_common rfl rfl (fun cdv A outer s H E hr => by
    exact (sss_cons (ss_set 0 sc_common.nd (se_callB (fun _ _ => call_abs) absS rfl T.n_abs (by decide +kernel) (sab_cons (sb_name 0) sab_nil))) (sss_cons (ss_set 1 sc_common.nd (se_callB (fun _ _ => call_abs) absS rfl T.n_abs (by decide +kernel) (sab_cons (sb_name 1) sab_nil))) (sss_cons (ss_while (st_ne (hu_room hr) (sb_name 1) (sb_of se_int)) (sss_one (ss_par rfl sc_common.nd (sa_cons (se_name 1) (sa_cons (se_mod (se_name 0) (se_name 1)) sa_nil)) (hw := fun X' e => by rw [e]; rfl)))) (sss_one (ss_ret (se_name 0)))))))

abbrev s_is_ratio : Stmt := top 7
theorem sc_is_ratio : FnScope ["pair"] ["pair"] (defScope s_is_ratio) := ⟨rfl, rfl, rfl, by decide +kernel, rfl, by decide +kernel, by decide +kernel⟩
theorem bi_is_ratio (T : Txt K mg) : Binds K (fdOf K ("is_ratio", none)) ["pair"] [] := T.f_is_ratio.bindsN fun _ _ _ _ _ _ us hl => match us, hl with | [_], _ => rfl
set_option maxHeartbeats 4100000 in
theorem ok_is_ratio (T : Txt K mg) : FnS P w K mg base 2 (He.ga K "is_ratio") (fdOf K ("is_ratio", none)) ["pair"] Ks.d_is_ratio :=
  fns_ok (k := 1) (N := ["pair"]) (ps := ["pair"]) (n := 1) (m := 0) (g := Ks.b_is_ratio) T.f_is_ratio sc_is_ratio rfl rfl (fun cdv A outer s H E hr => by
    exact (sss_one (ss_ret (se_and (se_eq (hu_room hr) (sb_of (se_callB (fun _ _ => call_len) lenS rfl T.n_len PySem.boot_len (sab_cons (sb_name 0) sab_nil))) (sb_of se_int)) (se_and (se_ge (se_ix (sb_name 0) se_int) se_int) (se_one (se_eq (hu_room hr) (sb_of (se_call (ok_common T) (hr.mono (by decide)) rfl T.g_common T.f_common.kp (bi_common T) (sa_cons (se_ix (sb_name 0) se_int) (sa_cons (se_ix (sb_name 0) se_int) sa_nil)))) (sb_of se_int))))))))

abbrev s_is_weight : Stmt := top 18
theorem sc_is_weight : FnScope ["weight"] ["weight"] (defScope s_is_weight) := ⟨rfl, rfl, rfl, by decide +kernel, rfl, by decide +kernel, by decide +kernel⟩
theorem bi_is_weight (T : Txt K mg) : Binds K (fdOf K ("is_weight", none)) ["weight"] [] := T.f_is_weight.bindsN fun _ _ _ _ _ _ us hl => match us, hl with | [_], _ => rfl
set_option maxHeartbeats 4100000 in
theorem ok_is_weight (T : Txt K mg) : FnS P w K mg base 3 (He.ga K "is_weight") (fdOf K ("is_weight", none)) ["weight"] Ks.d_is_weight :=
  fns_ok (k := 2) (N := ["weight"]) (ps := ["weight"]) (n := 1) (m := 0) (g := Ks.b_is_weight) T.f_is_weight sc_is_weight rfl rfl (fun cdv A outer s H E hr => by
    exact (sss_one (ss_ret (se_and (se_call (ok_is_ratio T) (hr.mono (by decide)) rfl T.g_is_ratio T.f_is_ratio.kp (bi_is_ratio T) (sa_cons (se_name 0) sa_nil)) (se_one (se_ge (se_call (ok_sign_of T) (hr.mono (by decide)) rfl T.g_sign_of T.f_sign_of.kp (bi_sign_of T) (sa_cons (se_name 0) sa_nil)) se_int))))))

abbrev s_check_paper : Stmt := top 19
theorem sc_check_paper : FnScope ["paper", "first", "last", "zero", "share", "drift", "checked", "one"] ["paper"] (defScope s_check_paper) := ⟨rfl, rfl, rfl, by decide +kernel, rfl, by decide +kernel, by decide +kernel⟩
theorem bi_check_paper (T : Txt K mg) : Binds K (fdOf K ("check_paper", none)) ["paper"] [] := T.f_check_paper.bindsN fun _ _ _ _ _ _ us hl => match us, hl with | [_], _ => rfl
set_option maxHeartbeats 4100000 in
theorem ok_check_paper (T : Txt K mg) : FnS P w K mg base 4 (He.ga K "check_paper") (fdOf K ("check_paper", none)) ["paper"] Ks.d_check_paperS :=
  fns_ok (k := 3) (N := ["paper", "first", "last", "zero", "share", "drift", "checked", "one"]) (ps := ["paper"]) (n := 1) (m := 7) (g := Ks.b_check_paperS) T.f_check_paper sc_check_paper rfl rfl (fun cdv A outer s H E hr => by
    exact (sss_cons (ss_tg (se_name 0) (stg_tup rfl (stgs_cons (stg_name 1 sc_check_paper.nd) (stgs_cons (stg_name 2 sc_check_paper.nd) (stgs_cons (stg_name 3 sc_check_paper.nd) (stgs_cons (stg_name 4 sc_check_paper.nd) (stgs_cons (stg_name 5 sc_check_paper.nd) (stgs_cons (stg_name 6 sc_check_paper.nd) stgs_nil)))))))) (sss_cons (ss_if (st_not (st_chn se_int (ct_cons (fun _ _ => op_le) leS (se_name 6) (ct_cons (fun _ _ => op_le) leS (se_name 1) (ct_cons (fun _ _ => op_le) leS (se_name 2) (ct_one (fun _ _ => op_le) leS (T.c_MAX_DAY.se rfl rfl))))) (by with_unfolding_all rfl))) (sss_one (ss_raise T.e_NotAllowed rfl rfl)) sss_nil) (sss_one (ss_if (ST_of_SW (sw_or (st_not (st_tru (sb_of (se_callB (fun pn xe => cr_all (X := Cx.tr _ pn xe) rfl) allS rfl T.n_all (by decide +kernel) (sab_cons (sb_of (se_fr (sf_lc [("one", 7)] rfl sc_check_paper.nd (sj_seq (sb_of (se_tup (sa_cons (se_name 3) (sa_cons (se_name 4) (sa_cons (se_name 5) sa_nil)))))) (blkOk_by (by kernel_rfl)) (fun _ _ _ _ _ => (stg_name 7 sc_check_paper.nd)) (fun _ _ _ _ _ => sts_nil) (fun _ _ _ _ _ => (se_call (ok_is_weight T) (hr.mono (by decide)) rfl T.g_is_weight T.f_is_weight.kp (bi_is_weight T) (sa_cons (se_name 7) sa_nil)))))) sab_nil))))) (sw_or1 (st_ge (se_call (ok_compare T) (hr.mono (by decide)) rfl T.g_compare T.f_compare.kp (bi_compare T) (sa_cons (se_name 4) (sa_cons (T.c_ONE.se rfl rfl) sa_nil))) se_int)))) (sss_one (ss_raise T.e_NotAllowed rfl rfl)) sss_nil)))))

abbrev s_is_scale : Stmt := top 16
theorem sc_is_scale : FnScope ["text", "sign"] ["text"] (defScope s_is_scale) := ⟨rfl, rfl, rfl, by decide +kernel, rfl, by decide +kernel, by decide +kernel⟩
theorem bi_is_scale (T : Txt K mg) : Binds K (fdOf K ("is_scale", none)) ["text"] [] := T.f_is_scale.bindsN fun _ _ _ _ _ _ us hl => match us, hl with | [_], _ => rfl
set_option maxHeartbeats 4100000 in
theorem ok_is_scale (T : Txt K mg) : FnS P w K mg base 1 (He.ga K "is_scale") (fdOf K ("is_scale", none)) ["text"] Ks.d_is_scale :=
  fns_ok (k := 0) (N := ["text", "sign"]) (ps := ["text"]) (n := 1) (m := 1) (g := Ks.b_is_scale) T.f_is_scale sc_is_scale rfl rfl (fun cdv A outer s H E hr => by
    exact (sss_one (ss_ret (se_and (se_chain (fun _ _ => op_le) (fun _ _ => op_le) leS leS se_int (se_callB (fun _ _ => call_len) lenS rfl T.n_len PySem.boot_len (sab_cons (sb_name 0) sab_nil)) (T.c_MAX_NAME.se rfl rfl) (by with_unfolding_all rfl)) (se_one (se_callB (fun pn xe => cr_all (X := Cx.tr _ pn xe) rfl) allS rfl T.n_all (by decide +kernel) (sab_cons (sb_of (se_fr (sf_lc [("sign", 1)] rfl sc_is_scale.nd (sj_seq (sb_name 0)) (blkOk_by (by kernel_rfl)) (fun _ _ _ _ _ => (stg_name 1 sc_is_scale.nd)) (fun _ _ _ _ _ => sts_nil) (fun _ _ _ _ _ => (se_in (hu5_room hr) (sb_name 1) (sb_of (T.c_LETTERS.se rfl rfl))))))) sab_nil)))))))

abbrev s_check_scale : Stmt := top 20
theorem sc_check_scale : FnScope ["text"] ["text"] (defScope s_check_scale) := ⟨rfl, rfl, rfl, by decide +kernel, rfl, by decide +kernel, by decide +kernel⟩
theorem bi_check_scale (T : Txt K mg) : Binds K (fdOf K ("check_scale", none)) ["text"] [] := T.f_check_scale.bindsN fun _ _ _ _ _ _ us hl => match us, hl with | [_], _ => rfl
set_option maxHeartbeats 4100000 in
theorem ok_check_scale (T : Txt K mg) : FnS P w K mg base 2 (He.ga K "check_scale") (fdOf K ("check_scale", none)) ["text"] Ks.d_check_scale :=
  fns_ok (k := 1) (N := ["text"]) (ps := ["text"]) (n := 1) (m := 0) (g := Ks.b_check_scale) T.f_check_scale sc_check_scale rfl rfl (fun cdv A outer s H E hr => by
    exact (sss_one (ss_if (st_not (st_tru (sb_of (se_call (ok_is_scale T) (hr.mono (by decide)) rfl T.g_is_scale T.f_is_scale.kp (bi_is_scale T) (sa_cons (se_name 0) sa_nil))))) (sss_one (ss_raise T.e_NotAllowed rfl rfl)) sss_nil)))

abbrev s_is_day : Stmt := top 17
theorem sc_is_day : FnScope ["day"] ["day"] (defScope s_is_day) := ⟨rfl, rfl, rfl, by decide +kernel, rfl, by decide +kernel, by decide +kernel⟩
theorem bi_is_day (T : Txt K mg) : Binds K (fdOf K ("is_day", none)) ["day"] [] := T.f_is_day.bindsN fun _ _ _ _ _ _ us hl => match us, hl with | [_], _ => rfl
set_option maxHeartbeats 4100000 in
theorem ok_is_day (T : Txt K mg) : FnS P w K mg base 1 (He.ga K "is_day") (fdOf K ("is_day", none)) ["day"] Ks.d_is_day :=
  fns_ok (k := 0) (N := ["day"]) (ps := ["day"]) (n := 1) (m := 0) (g := Ks.b_is_day) T.f_is_day sc_is_day rfl rfl (fun cdv A outer s H E hr => by
    exact (sss_one (ss_ret (se_chain (fun _ _ => op_le) (fun _ _ => op_le) leS leS se_int (se_name 0) (T.c_MAX_DAY.se rfl rfl) (by with_unfolding_all rfl)))))

abbrev s_check_day : Stmt := top 21
theorem sc_check_day : FnScope ["day"] ["day"] (defScope s_check_day) := ⟨rfl, rfl, rfl, by decide +kernel, rfl, by decide +kernel, by decide +kernel⟩
theorem bi_check_day (T : Txt K mg) : Binds K (fdOf K ("check_day", none)) ["day"] [] := T.f_check_day.bindsN fun _ _ _ _ _ _ us hl => match us, hl with | [_], _ => rfl
set_option maxHeartbeats 4100000 in
theorem ok_check_day (T : Txt K mg) : FnS P w K mg base 2 (He.ga K "check_day") (fdOf K ("check_day", none)) ["day"] Ks.d_check_day :=
  fns_ok (k := 1) (N := ["day"]) (ps := ["day"]) (n := 1) (m := 0) (g := Ks.b_check_day) T.f_check_day sc_check_day rfl rfl (fun cdv A outer s H E hr => by
    exact (sss_one (ss_if (st_not (st_tru (sb_of (se_call (ok_is_day T) (hr.mono (by decide)) rfl T.g_is_day T.f_is_day.kp (bi_is_day T) (sa_cons (se_name 0) sa_nil))))) (sss_one (ss_raise T.e_NotAllowed rfl rfl)) sss_nil)))

abbrev s_check_drawer : Stmt := top 22
theorem sc_check_drawer : FnScope ["drawer", "scale", "paper", "until"] ["drawer"] (defScope s_check_drawer) := ⟨rfl, rfl, rfl, by decide +kernel, rfl, by decide +kernel, by decide +kernel⟩
theorem bi_check_drawer (T : Txt K mg) : Binds K (fdOf K ("check_drawer", none)) ["drawer"] [] := T.f_check_drawer.bindsN fun _ _ _ _ _ _ us hl => match us, hl with | [_], _ => rfl
set_option maxHeartbeats 4100000 in
theorem ok_check_drawer (T : Txt K mg) : FnS P w K mg base 5 (He.ga K "check_drawer") (fdOf K ("check_drawer", none)) ["drawer"] Ks.d_check_drawer :=
  fns_ok (k := 4) (N := ["drawer", "scale", "paper", "until"]) (ps := ["drawer"]) (n := 1) (m := 3) (g := Ks.b_check_drawer) T.f_check_drawer sc_check_drawer rfl rfl (fun cdv A outer s H E hr => by
    exact (sss_cons (ss_if (st_gt (se_callB (fun _ _ => call_len) lenS rfl T.n_len PySem.boot_len (sab_cons (sb_name 0) sab_nil)) (T.c_MAX_PAPERS.se rfl rfl)) (sss_one (ss_raise T.e_NotAllowed rfl rfl)) sss_nil) (sss_one (ss_for rfl (si_seq (se_name 0)) (stg_tup rfl (stgs_cons (stg_name 1 sc_check_drawer.nd) (stgs_cons (stg_name 2 sc_check_drawer.nd) (stgs_cons (stg_name 3 sc_check_drawer.nd) stgs_nil)))) (sss_cons (ss_expr (se_call (ok_check_scale T) (hr.mono (by decide)) rfl T.g_check_scale T.f_check_scale.kp (bi_check_scale T) (sa_cons (se_name 1) sa_nil))) (sss_cons (ss_expr (se_call (ok_check_paper T) (hr.mono (by decide)) rfl T.g_check_paper T.f_check_paper.kp (bi_check_paper T) (sa_cons (se_name 2) sa_nil))) (sss_one (ss_if (st_isnt (sb_name 3) (sb_of se_non)) (sss_one (ss_expr (se_call (ok_check_day T) (hr.mono (by decide)) rfl T.g_check_day T.f_check_day.kp (bi_check_day T) (sa_cons (se_name 3) sa_nil)))) sss_nil))))))))

abbrev s__law_told : Stmt := top 37
theorem sc__law_told : FnScope ["check", "argument", "told", "e"] ["check", "argument"] (defScope s__law_told) := ⟨rfl, rfl, rfl, by decide +kernel, rfl, by decide +kernel, by decide +kernel⟩
theorem bi__law_told (T : Txt K mg) : Binds K (fdOf K ("_law_told", none)) ["check", "argument"] [] := T.f__law_told.bindsN fun _ _ _ _ _ _ us hl => match us, hl with | [_, _], _ => rfl
set_option maxHeartbeats 4100000 in
theorem ok__law_told (T : Txt K mg) : FnS P w K mg base 6 (He.ga K "_law_told") (fdOf K ("_law_told", none)) ["check", "argument"] d__law_told :=
  fns_ok (k := 5) (N := ["check", "argument", "told", "e"]) (ps := ["check", "argument"]) (n := 2) (m := 2) (g := b__law_told) T.f__law_told sc__law_told rfl rfl (fun cdv A outer s H E hr => by
    exact (sss_cons (ss_tryAs 3 rfl rfl rfl sc__law_told.nd ⟨rfl, by decide, .inl T.e_NotAllowed.g⟩ hr.hd (fun n b hl C hC => T.exm_ "NotAllowed" [("KerbError", false), ("NotAllowed", true), ("BadForm", false), ("Missing", false)] (by decide) hl hC) (sss_one (ss_set 2 sc__law_told.nd (se_callV (k := 5) (hr.mono (by decide)) (fun n R h => by
      have z : (n, R) = ("check_paper", Ks.d_check_paperS) ∨ (n, R) = ("check_drawer", Ks.d_check_drawer) := by simpa only [List.mem_cons, List.not_mem_nil, or_false] using h
      rcases z with z | z
      · cases z; exact ⟨_, _, _, _, hr.mono (by decide), ok_check_paper T, T.g_check_paper, T.f_check_paper.kp, bi_check_paper T⟩
      · cases z; exact ⟨_, _, _, _, hr.mono (by decide), ok_check_drawer T, T.g_check_drawer, T.f_check_drawer.kp, bi_check_drawer T⟩
      ) (se_name 0) (sa_cons (se_name 1) sa_nil)))) (fun n C hl hC a oe pn hz hf => by
          have hn : n = "NotAllowed" := by have z := lk_ [("KerbError", false), ("NotAllowed", true), ("BadForm", false), ("Missing", false)] hl; simpa using z
          rcases hn with rfl
          · have eC := Option.some.inj (hC.symm.trans T.e_NotAllowed.g); cases eC; exact ((sss_one (ss_ret (se_lst (sa_cons se_str (sa_cons (se_and (se_isE 3 (cv := .ref (He.ga K "KerbError")) (cu := .ref (He.ga K "KerbError")) rfl List.mem_cons_self T.x_NotAllowed hz hf (fun X' e1 e2 => pe_glob (v := .ref (He.ga K "KerbError")) (gl_ e1 rfl) (by rw [e2]; exact T.e_KerbError.g) rfl) (fun _ h => h) (T.k_NotAllowed_KerbError) rfl T.n_isinstance) (se_one (se_not (se_isET 3 (b := false) rfl List.mem_cons_self T.x_NotAllowed hz hf (fun X' e1 e2 => (pa_cons (pe_glob (x := "BadForm") (v := .ref (He.ga K "BadForm")) (gl_ e1 rfl) (by rw [e2]; exact T.e_BadForm.g) rfl) (pa_cons (pe_glob (x := "Missing") (v := .ref (He.ga K "Missing")) (gl_ e1 rfl) (by rw [e2]; exact T.e_Missing.g) rfl) pa_nil))) (by show 2 ≤ sizeLine; decide) (.cons (.own _) (.cons (.own _) .nil)) (kitAny_cons T.k_NotAllowed_BadForm (fun _ => (kitAny_cons T.k_NotAllowed_Missing (fun _ => kitAny_nil) (fun h => by first | rfl | cases h))) (fun h => by first | rfl | cases h)) rfl T.n_isinstance)))) sa_nil))))))
          )) (sss_one (ss_ret (se_lst (sa_cons (se_name 2) (sa_cons se_bl sa_nil)))))))

abbrev s__law_is_name : Stmt := top 40
theorem sc__law_is_name : FnScope ["text", "sign"] ["text"] (defScope s__law_is_name) := ⟨rfl, rfl, rfl, by decide +kernel, rfl, by decide +kernel, by decide +kernel⟩
theorem bi__law_is_name (T : Txt K mg) : Binds K (fdOf K ("_law_is_name", none)) ["text"] [] := T.f__law_is_name.bindsN fun _ _ _ _ _ _ us hl => match us, hl with | [_], _ => rfl
set_option maxHeartbeats 4100000 in
theorem ok__law_is_name (T : Txt K mg) : FnS P w K mg base 1 (He.ga K "_law_is_name") (fdOf K ("_law_is_name", none)) ["text"] d__law_is_name :=
  fns_ok (k := 0) (N := ["text", "sign"]) (ps := ["text"]) (n := 1) (m := 1) (g := b__law_is_name) T.f__law_is_name sc__law_is_name rfl rfl (fun cdv A outer s H E hr => by
    exact (sss_cons (ss_for rfl (si_seq (se_name 0)) (stg_name 1 sc__law_is_name.nd) (sss_one (ss_if (st_lt (se_m1 F.slot_str_find F.type_str_find (fun _ _ => mt_find) findS se_str (se_name 1)) se_int) (sss_one (ss_ret se_bl)) sss_nil))) (sss_one (ss_ret (se_chain (fun _ _ => op_le) (fun _ _ => op_le) leS leS se_int (se_callB (fun _ _ => call_len) lenS rfl T.n_len PySem.boot_len (sab_cons (sb_name 0) sab_nil)) se_int (by with_unfolding_all rfl))))))

abbrev s__law_odd_paper : Stmt := top 38
theorem sc__law_odd_paper : FnScope ["paper", "number", "first", "last", "zero", "share", "drift", "checked", "menu"] ["paper", "number"] (defScope s__law_odd_paper) := ⟨rfl, rfl, rfl, by decide +kernel, rfl, by decide +kernel, by decide +kernel⟩
theorem bi__law_odd_paper (T : Txt K mg) : Binds K (fdOf K ("_law_odd_paper", none)) ["paper", "number"] [] := T.f__law_odd_paper.bindsN fun _ _ _ _ _ _ us hl => match us, hl with | [_, _], _ => rfl
set_option maxHeartbeats 4100000 in
theorem ok__law_odd_paper (T : Txt K mg) : FnS P w K mg base 1 (He.ga K "_law_odd_paper") (fdOf K ("_law_odd_paper", none)) ["paper", "number"] d__law_odd_paper :=
  fns_ok (k := 0) (N := ["paper", "number", "first", "last", "zero", "share", "drift", "checked", "menu"]) (ps := ["paper", "number"]) (n := 2) (m := 7) (g := b__law_odd_paper) T.f__law_odd_paper sc__law_odd_paper rfl rfl (fun cdv A outer s H E hr => by
    exact (sss_cons (ss_tg (se_name 0) (stg_tup rfl (stgs_cons (stg_name 2 sc__law_odd_paper.nd) (stgs_cons (stg_name 3 sc__law_odd_paper.nd) (stgs_cons (stg_name 4 sc__law_odd_paper.nd) (stgs_cons (stg_name 5 sc__law_odd_paper.nd) (stgs_cons (stg_name 6 sc__law_odd_paper.nd) (stgs_cons (stg_name 7 sc__law_odd_paper.nd) stgs_nil)))))))) (sss_cons (ss_set 8 sc__law_odd_paper.nd (se_lst (sa_cons (se_tup (sa_cons (se_add (sb_name 3) (sb_of se_int)) (sa_cons (se_name 3) (sa_cons (se_name 4) (sa_cons (se_name 5) (sa_cons (se_name 6) (sa_cons (se_name 7) sa_nil))))))) (sa_cons (se_tup (sa_cons (se_name 2) (sa_cons se_int (sa_cons (se_name 4) (sa_cons (se_name 5) (sa_cons (se_name 6) (sa_cons (se_name 7) sa_nil))))))) sa_nil)))) (sss_cons (ss_set 8 sc__law_odd_paper.nd (se_add (sb_name 8) (sb_of (se_lst (sa_cons (se_tup (sa_cons (se_name 2) (sa_cons (se_name 3) (sa_cons (se_name 4) (sa_cons (se_name 5) (sa_cons (se_name 6) (sa_cons (se_add (sb_name 2) (sb_of se_int)) sa_nil))))))) (sa_cons (se_tup (sa_cons (se_name 2) (sa_cons (se_name 3) (sa_cons (se_name 4) (sa_cons (se_name 5) (sa_cons (se_name 6) (sa_cons (se_neg se_int) sa_nil))))))) sa_nil)))))) (sss_cons (ss_set 8 sc__law_odd_paper.nd (se_add (sb_name 8) (sb_of (se_lst (sa_cons (se_tup (sa_cons (se_name 2) (sa_cons (se_name 3) (sa_cons (se_tup (sa_cons (se_neg se_int) (sa_cons se_int sa_nil))) (sa_cons (se_name 5) (sa_cons (se_name 6) (sa_cons (se_name 7) sa_nil))))))) (sa_cons (se_tup (sa_cons (se_name 2) (sa_cons (se_name 3) (sa_cons (se_name 4) (sa_cons (se_tup (sa_cons se_int (sa_cons se_int sa_nil))) (sa_cons (se_name 6) (sa_cons (se_name 7) sa_nil))))))) sa_nil)))))) (sss_cons (ss_set 8 sc__law_odd_paper.nd (se_add (sb_name 8) (sb_of (se_lst (sa_cons (se_tup (sa_cons (se_name 2) (sa_cons (se_name 3) (sa_cons (se_name 4) (sa_cons (se_tup (sa_cons se_int (sa_cons se_int sa_nil))) (sa_cons (se_name 6) (sa_cons (se_name 7) sa_nil))))))) (sa_cons (se_tup (sa_cons (se_name 2) (sa_cons (se_name 3) (sa_cons (se_name 4) (sa_cons (se_tup (sa_cons (se_neg se_int) (sa_cons se_int sa_nil))) (sa_cons (se_name 6) (sa_cons (se_name 7) sa_nil))))))) sa_nil)))))) (sss_cons (ss_set 8 sc__law_odd_paper.nd (se_add (sb_name 8) (sb_of (se_lst (sa_cons (se_tup (sa_cons (se_name 2) (sa_cons (se_name 3) (sa_cons (se_name 4) (sa_cons (se_name 5) (sa_cons (se_tup (sa_cons (se_neg se_int) (sa_cons se_int sa_nil))) (sa_cons (se_name 7) sa_nil))))))) (sa_cons (se_tup (sa_cons (se_name 2) (sa_cons (se_name 3) (sa_cons (se_tup (sa_cons se_int (sa_cons se_int sa_nil))) (sa_cons (se_name 5) (sa_cons (se_name 6) (sa_cons (se_name 7) sa_nil))))))) sa_nil)))))) (sss_cons (ss_set 8 sc__law_odd_paper.nd (se_add (sb_name 8) (sb_of (se_lst (sa_cons (se_tup (sa_cons (se_name 2) (sa_cons (se_name 3) (sa_cons (se_name 4) (sa_cons (se_tup (sa_cons se_int (sa_cons se_int sa_nil))) (sa_cons (se_name 6) (sa_cons (se_name 7) sa_nil))))))) (sa_cons (se_tup (sa_cons (se_name 2) (sa_cons (se_name 3) (sa_cons (se_name 4) (sa_cons (se_name 5) (sa_cons (se_tup (sa_cons se_int (sa_cons se_int sa_nil))) (sa_cons (se_name 7) sa_nil))))))) sa_nil)))))) (sss_cons (ss_set 8 sc__law_odd_paper.nd (se_add (sb_name 8) (sb_of (se_lst (sa_cons (se_tup (sa_cons (se_name 2) (sa_cons (se_name 3) (sa_cons (se_name 4) (sa_cons (se_name 5) (sa_cons (se_tup (sa_cons se_int (sa_cons (se_neg se_int) sa_nil))) (sa_cons (se_name 7) sa_nil))))))) (sa_cons (se_tup (sa_cons (se_neg se_int) (sa_cons (se_name 3) (sa_cons (se_name 4) (sa_cons (se_name 5) (sa_cons (se_name 6) (sa_cons (se_neg se_int) sa_nil))))))) sa_nil)))))) (sss_one (ss_ret (se_ix (sb_name 8) (se_mod (se_callT (fun _ _ => call_int1) intS rfl T.n_int (by decide +kernel) (sab_cons (sb_name 1) sab_nil)) se_int)))))))))))))

abbrev s__law_odd_entry : Stmt := top 39
theorem sc__law_odd_entry : FnScope ["entry", "numbers", "scale", "paper", "until", "menu"] ["entry", "numbers"] (defScope s__law_odd_entry) := ⟨rfl, rfl, rfl, by decide +kernel, rfl, by decide +kernel, by decide +kernel⟩
theorem bi__law_odd_entry (T : Txt K mg) : Binds K (fdOf K ("_law_odd_entry", none)) ["entry", "numbers"] [] := T.f__law_odd_entry.bindsN fun _ _ _ _ _ _ us hl => match us, hl with | [_, _], _ => rfl
set_option maxHeartbeats 4100000 in
theorem ok__law_odd_entry (T : Txt K mg) : FnS P w K mg base 2 (He.ga K "_law_odd_entry") (fdOf K ("_law_odd_entry", none)) ["entry", "numbers"] d__law_odd_entry :=
  fns_ok (k := 1) (N := ["entry", "numbers", "scale", "paper", "until", "menu"]) (ps := ["entry", "numbers"]) (n := 2) (m := 4) (g := b__law_odd_entry) T.f__law_odd_entry sc__law_odd_entry rfl rfl (fun cdv A outer s H E hr => by
    exact (sss_cons (ss_tg (se_name 0) (stg_tup rfl (stgs_cons (stg_name 2 sc__law_odd_entry.nd) (stgs_cons (stg_name 3 sc__law_odd_entry.nd) (stgs_cons (stg_name 4 sc__law_odd_entry.nd) stgs_nil))))) (sss_cons (ss_set 5 sc__law_odd_entry.nd (se_lst (sa_cons (se_tup (sa_cons se_str (sa_cons (se_name 3) (sa_cons (se_name 4) sa_nil)))) (sa_cons (se_tup (sa_cons se_str (sa_cons (se_name 3) (sa_cons (se_name 4) sa_nil)))) (sa_cons (se_tup (sa_cons se_str (sa_cons (se_name 3) (sa_cons (se_name 4) sa_nil)))) (sa_cons (se_tup (sa_cons se_str (sa_cons (se_name 3) (sa_cons (se_name 4) sa_nil)))) (sa_cons (se_tup (sa_cons (se_name 2) (sa_cons (se_name 3) (sa_cons se_int sa_nil)))) sa_nil))))))) (sss_cons (ss_set 5 sc__law_odd_entry.nd (se_add (sb_name 5) (sb_of (se_lst (sa_cons (se_tup (sa_cons (se_name 2) (sa_cons (se_name 3) (sa_cons (se_neg se_int) sa_nil)))) (sa_cons (se_tup (sa_cons (se_name 2) (sa_cons (se_call (ok__law_odd_paper T) (hr.mono (by decide)) rfl T.g__law_odd_paper T.f__law_odd_paper.kp (bi__law_odd_paper T) (sa_cons (se_name 3) (sa_cons (se_ix (sb_name 1) se_int) sa_nil))) (sa_cons (se_name 4) sa_nil)))) sa_nil)))))) (sss_one (ss_ret (se_ix (sb_name 5) (se_mod (se_callT (fun _ _ => call_int1) intS rfl T.n_int (by decide +kernel) (sab_cons (sb_of (se_ix (sb_name 1) se_int)) sab_nil)) se_int))))))))

abbrev s_law : Stmt := top 41
theorem sc_law : FnScope ["script", "k", "numbers", "paper", "j", "drawer", "at", "odd", "text", "entry"] ["script"] (defScope s_law) := ⟨rfl, rfl, rfl, by decide +kernel, rfl, by decide +kernel, by decide +kernel⟩
theorem bi_law (T : Txt K mg) : Binds K (fdOf K ("law", none)) ["script"] [] := T.f_law.bindsN fun _ _ _ _ _ _ us hl => match us, hl with | [_], _ => rfl
set_option maxHeartbeats 4100000 in
theorem ok_law (T : Txt K mg) : FnS P w K mg base 7 (He.ga K "law") (fdOf K ("law", none)) ["script"] d_law :=
  fns_ok (k := 6) (N := ["script", "k", "numbers", "paper", "j", "drawer", "at", "odd", "text", "entry"]) (ps := ["script"]) (n := 1) (m := 9) (g := b_law) T.f_law sc_law rfl rfl (fun cdv A outer s H E hr => by
    exact (sss_cons (ss_for rfl (si_range1 rfl T.n_range (sa_cons (se_callB (fun pn xe => call_max2 (X := Cx.tr _ pn xe) rfl) maxS rfl T.n_max (by decide +kernel) (sab_cons (sb_of se_int) (sab_cons (sb_of (se_callB (fun pn xe => call_min2 (X := Cx.tr _ pn xe) rfl) minS rfl T.n_min (by decide +kernel) (sab_cons (sb_of (se_callB (fun _ _ => call_len) lenS rfl T.n_len PySem.boot_len (sab_cons (sb_name 0) sab_nil))) (sab_cons (sb_of se_int) sab_nil)))) sab_nil))) sa_nil)) (stg_name 1 sc_law.nd) (sss_cons (ss_set 2 sc_law.nd (se_call (ok__law_numbers T) (hr.mono (by decide)) rfl T.g__law_numbers T.f__law_numbers.kp (bi__law_numbers T) (sa_cons (se_call (ok__law_cell T) (hr.mono (by decide)) rfl T.g__law_cell T.f__law_cell.kp (bi__law_cell T) (sa_cons (se_name 0) (sa_cons (se_name 1) sa_nil))) (sa_cons (se_name 1) (sa_cons se_int sa_nil))))) (sss_cons (ss_set 3 sc_law.nd (se_call (ok__law_paper T) (hr.mono (by decide)) rfl T.g__law_paper T.f__law_paper.kp (bi__law_paper T) (sa_cons (se_name 2) sa_nil))) (sss_cons (ss_if (st_ne (hu_room hr) (sb_of (se_call (ok__law_told T) (hr.mono (by decide)) rfl T.g__law_told T.f__law_told.kp (bi__law_told T) (sa_cons (se_glo hr rfl T.g_check_paper) (sa_cons (se_name 3) sa_nil)))) (sb_of (se_lst (sa_cons se_non (sa_cons se_bl sa_nil))))) (sss_one (ss_ret se_bl)) sss_nil) (sss_cons (ss_for rfl (si_range1 rfl T.n_range (sa_cons se_int sa_nil)) (stg_name 4 sc_law.nd) (sss_one (ss_if (st_ne (hu_room hr) (sb_of (se_call (ok__law_told T) (hr.mono (by decide)) rfl T.g__law_told T.f__law_told.kp (bi__law_told T) (sa_cons (se_glo hr rfl T.g_check_paper) (sa_cons (se_call (ok__law_odd_paper T) (hr.mono (by decide)) rfl T.g__law_odd_paper T.f__law_odd_paper.kp (bi__law_odd_paper T) (sa_cons (se_name 3) (sa_cons (se_ix (sb_name 2) (se_add (sb_of se_int) (sb_name 4))) sa_nil))) sa_nil)))) (sb_of (se_lst (sa_cons se_str (sa_cons se_bl sa_nil))))) (sss_one (ss_ret se_bl)) sss_nil))) (sss_cons (ss_set 5 sc_law.nd (se_call (ok__law_drawer T) (hr.mono (by decide)) rfl T.g__law_drawer T.f__law_drawer.kp (bi__law_drawer T) (sa_cons (se_sl (sb_name 2) (sp_so se_int) sp_no) (sa_cons se_int sa_nil)))) (sss_cons (ss_if (st_ne (hu_room hr) (sb_of (se_call (ok__law_told T) (hr.mono (by decide)) rfl T.g__law_told T.f__law_told.kp (bi__law_told T) (sa_cons (se_glo hr rfl T.g_check_drawer) (sa_cons (se_name 5) sa_nil)))) (sb_of (se_lst (sa_cons se_non (sa_cons se_bl sa_nil))))) (sss_one (ss_ret se_bl)) sss_nil) (sss_cons (ss_set 6 sc_law.nd (se_mod (se_callT (fun _ _ => call_int1) intS rfl T.n_int (by decide +kernel) (sab_cons (sb_of (se_ix (sb_name 2) se_int)) sab_nil)) (se_add (sb_of (se_callB (fun _ _ => call_len) lenS rfl T.n_len PySem.boot_len (sab_cons (sb_name 5) sab_nil))) (sb_of se_int)))) (sss_cons (ss_set 7 sc_law.nd (se_add (sb_of (se_add (sb_of (se_sl (sb_name 5) sp_no (sp_so (se_name 6)))) (sb_of (se_tup (sa_cons (se_call (ok__law_odd_entry T) (hr.mono (by decide)) rfl T.g__law_odd_entry T.f__law_odd_entry.kp (bi__law_odd_entry T) (sa_cons (se_tup (sa_cons se_str (sa_cons (se_name 3) (sa_cons se_non sa_nil)))) (sa_cons (se_sl (sb_name 2) (sp_so se_int) (sp_so se_int)) sa_nil))) sa_nil))))) (sb_of (se_sl (sb_name 5) (sp_so (se_name 6)) sp_no)))) (sss_cons (ss_if (st_ne (hu_room hr) (sb_of (se_call (ok__law_told T) (hr.mono (by decide)) rfl T.g__law_told T.f__law_told.kp (bi__law_told T) (sa_cons (se_glo hr rfl T.g_check_drawer) (sa_cons (se_name 7) sa_nil)))) (sb_of (se_lst (sa_cons se_str (sa_cons se_bl sa_nil))))) (sss_one (ss_ret se_bl)) sss_nil) (sss_cons (ss_set 8 sc_law.nd (se_m1 F.slot_str_join F.type_str_join (fun _ _ => mt_join) joinS_ok se_str (se_fr (sf_lc [("j", 4)] rfl sc_law.nd (si_j (si_range1 rfl T.n_range (sa_cons (se_mod (se_callT (fun _ _ => call_int1) intS rfl T.n_int (by decide +kernel) (sab_cons (sb_of (se_ix (sb_name 2) se_int)) sab_nil)) se_int) sa_nil))) (blkOk_by (by kernel_rfl)) (fun _ _ _ _ _ => (stg_name 4 sc_law.nd)) (fun _ _ _ _ _ => sts_nil) (fun _ _ _ _ _ => (se_ix (sb_of se_str) (se_mod (se_callT (fun _ _ => call_int1) intS rfl T.n_int (by decide +kernel) (sab_cons (sb_of (se_ix (sb_name 2) (se_add (sb_of se_int) (sb_name 4)))) sab_nil)) se_int))))))) (sss_one (ss_if (ST_of_SW (sw_or (st_not (st_tru (sb_of (se_isTy (sb_of (se_call (ok_is_scale T) (hr.mono (by decide)) rfl T.g_is_scale T.f_is_scale.kp (bi_is_scale T) (sa_cons (se_name 8) sa_nil))) (by decide +kernel) rfl T.n_isinstance rfl T.n_bool (by decide +kernel))))) (sw_or1 (st_ne (hu_room hr) (sb_of (se_call (ok_is_scale T) (hr.mono (by decide)) rfl T.g_is_scale T.f_is_scale.kp (bi_is_scale T) (sa_cons (se_name 8) sa_nil))) (sb_of (se_call (ok__law_is_name T) (hr.mono (by decide)) rfl T.g__law_is_name T.f__law_is_name.kp (bi__law_is_name T) (sa_cons (se_name 8) sa_nil))))))) (sss_one (ss_ret se_bl)) sss_nil))))))))))))) (sss_cons (ss_set 9 sc_law.nd (se_tup (sa_cons se_str (sa_cons (se_tup (sa_cons se_int (sa_cons se_int (sa_cons (se_tup (sa_cons se_int (sa_cons se_int sa_nil))) (sa_cons (se_tup (sa_cons se_int (sa_cons se_int sa_nil))) (sa_cons (se_tup (sa_cons se_int (sa_cons se_int sa_nil))) (sa_cons se_int sa_nil))))))) (sa_cons se_non sa_nil))))) (sss_cons (ss_if (ST_of_SW (sw_or (st_ne (hu_room hr) (sb_of (se_call (ok__law_told T) (hr.mono (by decide)) rfl T.g__law_told T.f__law_told.kp (bi__law_told T) (sa_cons (se_glo hr rfl T.g_check_drawer) (sa_cons (se_mulT (sb_of (se_tup (sa_cons (se_name 9) sa_nil))) se_int) sa_nil)))) (sb_of (se_lst (sa_cons se_non (sa_cons se_bl sa_nil))))) (sw_or1 (st_ne (hu_room hr) (sb_of (se_call (ok__law_told T) (hr.mono (by decide)) rfl T.g__law_told T.f__law_told.kp (bi__law_told T) (sa_cons (se_glo hr rfl T.g_check_drawer) (sa_cons (se_mulT (sb_of (se_tup (sa_cons (se_name 9) sa_nil))) se_int) sa_nil)))) (sb_of (se_lst (sa_cons se_str (sa_cons se_bl sa_nil)))))))) (sss_one (ss_ret se_bl)) sss_nil) (sss_one (ss_ret (se_and (se_eq (hu_room hr) (sb_of (se_tup (sa_cons (T.c_MAX_DAY.se rfl rfl) (sa_cons (T.c_MAX_PAPERS.se rfl rfl) sa_nil)))) (sb_of (se_tup (sa_cons se_int (sa_cons se_int sa_nil))))) (se_and (se_is (sb_of (se_call (ok_is_scale T) (hr.mono (by decide)) rfl T.g_is_scale T.f_is_scale.kp (bi_is_scale T) (sa_cons se_str sa_nil))) (sb_of se_bl)) (se_one (se_is (sb_of (se_call (ok_is_scale T) (hr.mono (by decide)) rfl T.g_is_scale T.f_is_scale.kp (bi_is_scale T) (sa_cons se_str sa_nil))) (sb_of se_bl)))))))))))

end
def df (x : String) (i : Nat) : He.DefD := ⟨(Str.ofString x, none), Str.ofString x, Str.ofString x, defArgs (top i), defBody (top i), defScope (top i), [], []⟩
def fn : List He.DefD := [df "common" 6, df "is_ratio" 7, df "sign_of" 8, df "compare" 9, df "is_scale" 16, df "is_day" 17, df "is_weight" 18, df "check_paper" 19, df "check_scale" 20, df "check_day" 21, df "check_drawer" 22, df "_law_cell" 24, df "_law_numbers" 25, df "_law_ratio" 26, df "_law_drawn" 30, df "_law_paper" 32, df "_law_drawer" 33, df "_law_told" 37, df "_law_odd_paper" 38, df "_law_odd_entry" 39, df "_law_is_name" 40, df "law" 41]
def fa : List He.Fa := [.glo "common", .glo "is_ratio", .glo "sign_of", .glo "compare", .glo "is_scale", .glo "is_day", .glo "is_weight", .glo "check_paper", .glo "check_scale", .glo "check_day", .glo "check_drawer", .glo "_law_cell", .glo "_law_numbers", .glo "_law_ratio", .glo "_law_drawn", .glo "_law_paper", .glo "_law_drawer", .glo "_law_told", .glo "_law_odd_paper", .glo "_law_odd_entry", .glo "_law_is_name", .glo "law", .free "abs", .free "all", .free "bool", .free "int", .free "isinstance", .free "len", .free "max", .free "min", .free "range", .free "sorted", .free "tuple", .glo "BadForm", .exc "BadForm", .glo "KerbError", .exc "KerbError", .glo "Missing", .exc "Missing", .glo "NotAllowed", .exc "NotAllowed", .exm "BadForm" "NotAllowed" false, .exm "KerbError" "NotAllowed" false, .exm "Missing" "NotAllowed" false, .exm "NotAllowed" "NotAllowed" true, .int "MAX_DAY" (999), .int "MAX_PAPERS" (12), .int "MAX_NAME" (4), .str "LETTERS" "abcdefghijklmnopqrstuvwxyz"]
def ex : List (PySem.W.Frag → Bool) := [conB "ONE" (.tup [.int 1, .int 1]), (fun K => excCB K "NotAllowed"), (fun K => kitF K "NotAllowed" "BadForm" false), (fun K => kitF K "NotAllowed" "KerbError" true), (fun K => kitF K "NotAllowed" "Missing" false)]
def loose : List Str := (["KerbError", "NotAllowed", "BadForm", "Missing", "common", "is_ratio", "sign_of", "compare", "is_scale", "is_day", "is_weight", "check_paper", "check_scale", "check_day", "check_drawer", "_law_cell", "_law_numbers", "_law_ratio", "_law_plus", "_law_times", "_law_less", "_law_drawn", "_law_minus", "_law_paper", "_law_drawer", "_law_counting", "_law_slacks", "_law_day", "_law_told", "_law_odd_paper"] : List Str) ++ (["_law_odd_entry", "_law_is_name", "MAX_DAY", "MAX_PAPERS", "MAX_NAME", "LETTERS", "ONE"] : List Str)
abbrev R : PySem.W.OpenRow := PySem.W.OpenLaw.row PySem.Challenge.rw_kerbwise_k20_papers_and_drawers
abbrev hk : PySem.W.Hook := hookY 4 fa fn (exB ex)
def ob (s : PySem.W.SharedT) : AlY := obsY 4 fa fn (exB ex) (HandSHeadRun.getT s)
theorem ob_eq (s : PySem.W.SharedT) : ob s = hk.obs s.abs := obsY_eq (HandSHeadRun.getT_eq s)
theorem run (w : World) : HandSHeadRun.RunEq R (PySem.W.view R.prog [41]) hk ob 6520 loose w := by
  intro os
  kernel_rfl
theorem txt {K : PySem.W.Frag} {h : Heap} {mg : Str → Option Value} (X : K.In h) (G : h.Ns mainGlobals mg) (c : He.SaysD fa fn K) (e : exB ex K = true) : Txt K mg where
  g_common := He.glo_ok X G (c.fact 0 (f := .glo "common") rfl)
  f_common := fd_of (c.def_ 0 (d := df "common" 6) rfl)
  g_is_ratio := He.glo_ok X G (c.fact 1 (f := .glo "is_ratio") rfl)
  f_is_ratio := fd_of (c.def_ 1 (d := df "is_ratio" 7) rfl)
  g_sign_of := He.glo_ok X G (c.fact 2 (f := .glo "sign_of") rfl)
  f_sign_of := fd_of (c.def_ 2 (d := df "sign_of" 8) rfl)
  g_compare := He.glo_ok X G (c.fact 3 (f := .glo "compare") rfl)
  f_compare := fd_of (c.def_ 3 (d := df "compare" 9) rfl)
  g_is_scale := He.glo_ok X G (c.fact 4 (f := .glo "is_scale") rfl)
  f_is_scale := fd_of (c.def_ 4 (d := df "is_scale" 16) rfl)
  g_is_day := He.glo_ok X G (c.fact 5 (f := .glo "is_day") rfl)
  f_is_day := fd_of (c.def_ 5 (d := df "is_day" 17) rfl)
  g_is_weight := He.glo_ok X G (c.fact 6 (f := .glo "is_weight") rfl)
  f_is_weight := fd_of (c.def_ 6 (d := df "is_weight" 18) rfl)
  g_check_paper := He.glo_ok X G (c.fact 7 (f := .glo "check_paper") rfl)
  f_check_paper := fd_of (c.def_ 7 (d := df "check_paper" 19) rfl)
  g_check_scale := He.glo_ok X G (c.fact 8 (f := .glo "check_scale") rfl)
  f_check_scale := fd_of (c.def_ 8 (d := df "check_scale" 20) rfl)
  g_check_day := He.glo_ok X G (c.fact 9 (f := .glo "check_day") rfl)
  f_check_day := fd_of (c.def_ 9 (d := df "check_day" 21) rfl)
  g_check_drawer := He.glo_ok X G (c.fact 10 (f := .glo "check_drawer") rfl)
  f_check_drawer := fd_of (c.def_ 10 (d := df "check_drawer" 22) rfl)
  g__law_cell := He.glo_ok X G (c.fact 11 (f := .glo "_law_cell") rfl)
  f__law_cell := fd_of (c.def_ 11 (d := df "_law_cell" 24) rfl)
  g__law_numbers := He.glo_ok X G (c.fact 12 (f := .glo "_law_numbers") rfl)
  f__law_numbers := fd_of (c.def_ 12 (d := df "_law_numbers" 25) rfl)
  g__law_ratio := He.glo_ok X G (c.fact 13 (f := .glo "_law_ratio") rfl)
  f__law_ratio := fd_of (c.def_ 13 (d := df "_law_ratio" 26) rfl)
  g__law_drawn := He.glo_ok X G (c.fact 14 (f := .glo "_law_drawn") rfl)
  f__law_drawn := fd_of (c.def_ 14 (d := df "_law_drawn" 30) rfl)
  g__law_paper := He.glo_ok X G (c.fact 15 (f := .glo "_law_paper") rfl)
  f__law_paper := fd_of (c.def_ 15 (d := df "_law_paper" 32) rfl)
  g__law_drawer := He.glo_ok X G (c.fact 16 (f := .glo "_law_drawer") rfl)
  f__law_drawer := fd_of (c.def_ 16 (d := df "_law_drawer" 33) rfl)
  g__law_told := He.glo_ok X G (c.fact 17 (f := .glo "_law_told") rfl)
  f__law_told := fd_of (c.def_ 17 (d := df "_law_told" 37) rfl)
  g__law_odd_paper := He.glo_ok X G (c.fact 18 (f := .glo "_law_odd_paper") rfl)
  f__law_odd_paper := fd_of (c.def_ 18 (d := df "_law_odd_paper" 38) rfl)
  g__law_odd_entry := He.glo_ok X G (c.fact 19 (f := .glo "_law_odd_entry") rfl)
  f__law_odd_entry := fd_of (c.def_ 19 (d := df "_law_odd_entry" 39) rfl)
  g__law_is_name := He.glo_ok X G (c.fact 20 (f := .glo "_law_is_name") rfl)
  f__law_is_name := fd_of (c.def_ 20 (d := df "_law_is_name" 40) rfl)
  g_law := He.glo_ok X G (c.fact 21 (f := .glo "law") rfl)
  f_law := fd_of (c.def_ 21 (d := df "law" 41) rfl)
  n_abs := He.free_ok X G (c.fact 22 (f := .free "abs") rfl)
  n_all := He.free_ok X G (c.fact 23 (f := .free "all") rfl)
  n_bool := He.free_ok X G (c.fact 24 (f := .free "bool") rfl)
  n_int := He.free_ok X G (c.fact 25 (f := .free "int") rfl)
  n_isinstance := He.free_ok X G (c.fact 26 (f := .free "isinstance") rfl)
  n_len := He.free_ok X G (c.fact 27 (f := .free "len") rfl)
  n_max := He.free_ok X G (c.fact 28 (f := .free "max") rfl)
  n_min := He.free_ok X G (c.fact 29 (f := .free "min") rfl)
  n_range := He.free_ok X G (c.fact 30 (f := .free "range") rfl)
  n_sorted := He.free_ok X G (c.fact 31 (f := .free "sorted") rfl)
  n_tuple := He.free_ok X G (c.fact 32 (f := .free "tuple") rfl)
  c_MAX_DAY := let ⟨t, z⟩ := He.int_ok X G (c.fact 45 (f := .int "MAX_DAY" (999)) rfl); ⟨_, (.int 999), z, ⟨t, rfl⟩, fun _ _ _ => rfl⟩
  c_MAX_PAPERS := let ⟨t, z⟩ := He.int_ok X G (c.fact 46 (f := .int "MAX_PAPERS" (12)) rfl); ⟨_, (.int 12), z, ⟨t, rfl⟩, fun _ _ _ => rfl⟩
  c_MAX_NAME := let ⟨t, z⟩ := He.int_ok X G (c.fact 47 (f := .int "MAX_NAME" (4)) rfl); ⟨_, (.int 4), z, ⟨t, rfl⟩, fun _ _ _ => rfl⟩
  c_LETTERS := let ⟨t, z⟩ := He.str_ok X G (c.fact 48 (f := .str "LETTERS" "abcdefghijklmnopqrstuvwxyz") rfl); ⟨_, (.str "abcdefghijklmnopqrstuvwxyz"), z, ⟨t, rfl⟩, fun _ _ _ => rfl⟩
  c_ONE := con_ok X G (exB_at e 0 (f := conB "ONE" (.tup [.int 1, .int 1])) rfl)
  e_BadForm := exc_of X G (c.fact 33 (f := .glo "BadForm") rfl) (c.fact 34 (f := .exc "BadForm") rfl)
  e_KerbError := exc_of X G (c.fact 35 (f := .glo "KerbError") rfl) (c.fact 36 (f := .exc "KerbError") rfl)
  e_Missing := exc_of X G (c.fact 37 (f := .glo "Missing") rfl) (c.fact 38 (f := .exc "Missing") rfl)
  e_NotAllowed := exc_of X G (c.fact 39 (f := .glo "NotAllowed") rfl) (c.fact 40 (f := .exc "NotAllowed") rfl)
  x_NotAllowed := excCB_ok (exB_at e 1 (f := fun K => excCB K "NotAllowed") rfl)
  k_NotAllowed_BadForm := kitF_ok (exB_at e 2 (f := fun K => kitF K "NotAllowed" "BadForm" false) rfl)
  k_NotAllowed_KerbError := kitF_ok (exB_at e 3 (f := fun K => kitF K "NotAllowed" "KerbError" true) rfl)
  k_NotAllowed_Missing := kitF_ok (exB_at e 4 (f := fun K => kitF K "NotAllowed" "Missing" false) rfl)
  m_BadForm_NotAllowed := He.exm_ok (c.fact 41 (f := .exm "BadForm" "NotAllowed" false) rfl)
  m_KerbError_NotAllowed := He.exm_ok (c.fact 42 (f := .exm "KerbError" "NotAllowed" false) rfl)
  m_Missing_NotAllowed := He.exm_ok (c.fact 43 (f := .exm "Missing" "NotAllowed" false) rfl)
  m_NotAllowed_NotAllowed := He.exm_ok (c.fact 44 (f := .exm "NotAllowed" "NotAllowed" true) rfl)
set_option maxHeartbeats 4100000 in
/-- the law holds, if its plain function answers True -/
theorem holds (pure : ∀ ns : List Int, ns.length ≤ 63 → (∀ z ∈ ns, bit z ≤ 1048576) → ∃ S', d_law [.scr (ns.map D.int)] [] = .ok (.bl true) S') : PySem.Challenge.rw_kerbwise_k20_papers_and_drawers.Holds := by
  open PySem.W PySem.Calls in
  w_on; o_law
  refine HandSHeadRun.head_any (r := R) (q := PySem.W.view R.prog [41]) (H := hk) (ob := ob) (M := 6520) (loose := loose) (d := HandSHeadRun.topDef R.prog 41) (kwd := []) ob_eq
    (by kernel_rfl) (fun s => by kernel_rfl) run (by kernel_rfl) (by kernel_rfl) (by kernel_rfl) (by rfl) (by first | assumption | decide +kernel) (by decide +kernel) ⟨rfl, rfl, rfl, rfl, rfl, by decide +kernel⟩ ?hw ?hc
  case hw => w_witness2
  case hc =>
    refine walk_ofY (l := PySem.Challenge.rw_kerbwise_k20_papers_and_drawers) (n := 63) (k := 7) (x := "script") (CX := fun w => L2.CX (PySem.Challenge.rw_kerbwise_k20_papers_and_drawers).prog w) rfl (by decide) (by kernel_rfl) ⟨rfl, by decide, by decide⟩ ?F ?C
    case C => exact fun w H s e s' h => law_cx H s e s' h
    case F =>
      intro w mg fa h Y G hmg0
      obtain ⟨K, KX, c, e⟩ := Y
      have T := txt KX G c e
      have hmg : mg ("law" : PySem.Str) = some (.ref fa) := by
        have e : (HandSHeadRun.topDef R.prog 41).name = ("law" : PySem.Str) := by kernel_rfl
        rw [← e]
        exact hmg0
      have ea : fa = He.ga K "law" := by
        have z := hmg.symm.trans T.g_law
        cases z
        rfl
      subst ea
      exact ⟨K, fdOf K ("law", none), spF K mg d_law, KX, fun s u => FunD.bindsA (ps := ["script"]) T.f_law (fun _ _ _ _ _ _ us hl => match us, hl with | [_], _ => rfl) s [u] rfl, fun H a ns hl hb hO hS => law_hsp hO hS (pure ns hl hb), fun base _ _ => ok_law T⟩
end Lk20

set_option linter.all false
set_option maxRecDepth 100000
/-! Kbm: how the plain functions are reckoned. -/
namespace Kb
open PySem
/-! ### while -/
theorem whGo_mono {t : EM Bool} {b : SM} : ∀ (n m : Nat) (env : Env) (S : Store) (o : SO), whGo t b n env S = o → o ≠ .stuck → n ≤ m → whGo t b m env S = o
  | 0, _, _, _, _, h, ho, _ => absurd h.symm ho
  | n + 1, 0, _, _, _, _, _, hm => absurd hm (by omega)
  | n + 1, m + 1, env, S, o, h, ho, hm => by
    rw [whGo] at h ⊢
    cases ht : t env S with
    | stuck => rw [ht] at h; exact h
    | exc c S1 => rw [ht] at h; exact h
    | ok k S1 =>
      rw [ht] at h
      cases k with
      | false => exact h
      | true =>
        simp only [eS, if_true] at h ⊢
        cases hb : b env S1 with
        | stuck => rw [hb] at h; exact h
        | exc c e1 S2 => rw [hb] at h; exact h
        | ok f e1 S2 =>
          rw [hb] at h
          cases f with
          | nx => exact whGo_mono n m e1 S2 o h ho (by omega)
          | ct => exact whGo_mono n m e1 S2 o h ho (by omega)
          | bk => exact h
          | rt d => exact h
theorem sWhile_of {t : EM Bool} {b : SM} {n : Nat} {env : Env} {S : Store} {o : SO} (h : whGo t b n env S = o) (ho : o ≠ .stuck) : sWhile t b env S = o := by
  unfold sWhile
  have ex : ∃ n, whGo t b n env S ≠ .stuck := ⟨n, by rw [h]; exact ho⟩
  rw [dif_pos ex]
  have hc := ex.choose_spec
  rcases Nat.le_total n ex.choose with hle | hle
  · exact whGo_mono n _ env S o h ho hle
  · have := whGo_mono ex.choose n env S _ rfl hc hle
    rw [← this, h]
/-- one turn more -/
theorem sWhile_next {t : EM Bool} {b : SM} {env e1 : Env} {S S1 S2 : Store} {o : SO} (ht : t env S = .ok true S1) (hb : b env S1 = .ok .nx e1 S2) (h : sWhile t b e1 S2 = o) (ho : o ≠ .stuck) : sWhile t b env S = o := by
  have : ∃ n, whGo t b n e1 S2 = o := by
    unfold sWhile at h
    split at h
    · exact ⟨_, h⟩
    · exact absurd h.symm ho
  obtain ⟨n, hn⟩ := this
  refine sWhile_of (n := n + 1) ?_ ho
  rw [whGo, ht]
  simp only [eS, if_true]
  rw [hb]
  exact hn
theorem sWhile_end {t : EM Bool} {b : SM} {env : Env} {S S1 : Store} (ht : t env S = .ok false S1) : sWhile t b env S = .ok .nx env S1 := by
  refine sWhile_of (n := 1) ?_ (by intro h; cases h)
  rw [whGo, ht]
  rfl
/-! ### for -/
/-- by what holds between the turns -/
theorem forGo_inv {tg : Tg} {b : SM} (I : Nat → Env → Store → Prop) {ds : List D} (step : ∀ i d env S, ds[i]? = some d → I i env S → ∃ e1, tg.put d env = some e1 ∧ ∃ e2 S2, (b e1 S = .ok .nx e2 S2 ∨ b e1 S = .ok .ct e2 S2) ∧ I (i + 1) e2 S2) :
    ∀ (n i : Nat) (env : Env) (S : Store), n + i = ds.length → I i env S → ∃ e2 S2, forGo tg b (ds.drop i) env S = .ok .nx e2 S2 ∧ I ds.length e2 S2
  | 0, i, env, S, hn, h => by
    have e : i = ds.length := by omega
    subst e
    rw [List.drop_length]
    exact ⟨env, S, rfl, h⟩
  | n + 1, i, env, S, hn, h => by
    have hi : i < ds.length := by omega
    obtain ⟨e1, hp, e2, S2, hb, h2⟩ := step i _ env S (List.getElem?_eq_getElem hi) h
    obtain ⟨e3, S3, h3, h4⟩ := forGo_inv I step n (i + 1) e2 S2 (by omega) h2
    refine ⟨e3, S3, ?_, h4⟩
    rw [List.drop_eq_getElem_cons hi, forGo, hp]
    dsimp only
    rcases hb with hb | hb
    · rw [hb]; exact h3
    · rw [hb]; exact h3
theorem forGo_all {tg : Tg} {b : SM} (I : Nat → Env → Store → Prop) {ds : List D} {env : Env} {S : Store} (h0 : I 0 env S) (step : ∀ i d env S, ds[i]? = some d → I i env S → ∃ e1, tg.put d env = some e1 ∧ ∃ e2 S2, (b e1 S = .ok .nx e2 S2 ∨ b e1 S = .ok .ct e2 S2) ∧ I (i + 1) e2 S2) :
    ∃ e2 S2, forGo tg b ds env S = .ok .nx e2 S2 ∧ I ds.length e2 S2 := forGo_inv I step ds.length 0 env S (by omega) h0
/-- a loop that may leave early: what holds at its end, however it came -/
theorem forGo_brk {tg : Tg} {b : SM} (I : Nat → Env → Store → Prop) (J : Env → Store → Prop) {ds : List D} (step : ∀ i d env S, ds[i]? = some d → I i env S → ∃ e1, tg.put d env = some e1 ∧ ∃ e2 S2, ((b e1 S = .ok .nx e2 S2 ∨ b e1 S = .ok .ct e2 S2) ∧ I (i + 1) e2 S2) ∨ (b e1 S = .ok .bk e2 S2 ∧ J e2 S2)) (hJ : ∀ env S, I ds.length env S → J env S) :
    ∀ (n i : Nat) (env : Env) (S : Store), n + i = ds.length → I i env S → ∃ e2 S2, forGo tg b (ds.drop i) env S = .ok .nx e2 S2 ∧ J e2 S2
  | 0, i, env, S, hn, h => by
    have e : i = ds.length := by omega
    subst e
    rw [List.drop_length]
    exact ⟨env, S, rfl, hJ env S h⟩
  | n + 1, i, env, S, hn, h => by
    have hi : i < ds.length := by omega
    obtain ⟨e1, hp, e2, S2, hb⟩ := step i _ env S (List.getElem?_eq_getElem hi) h
    rcases hb with ⟨hb, h2⟩ | ⟨hb, h2⟩
    · obtain ⟨e3, S3, h3, h4⟩ := forGo_brk I J step hJ n (i + 1) e2 S2 (by omega) h2
      refine ⟨e3, S3, ?_, h4⟩
      rw [List.drop_eq_getElem_cons hi, forGo, hp]
      dsimp only
      rcases hb with hb | hb
      · rw [hb]; exact h3
      · rw [hb]; exact h3
    · refine ⟨e2, S2, ?_, h2⟩
      rw [List.drop_eq_getElem_cons hi, forGo, hp]
      dsimp only
      rw [hb]
/-- every turn leaves all as it was (but slots that the loop sets) -/
theorem forGo_nil {tg : Tg} {b : SM} {env : Env} {S : Store} : forGo tg b [] env S = .ok .nx env S := rfl
theorem forGo_cons {tg : Tg} {b : SM} {d : D} {ds : List D} {env e1 e2 : Env} {S S2 : Store} (hp : tg.put d env = some e1) (hb : b e1 S = .ok .nx e2 S2) : forGo tg b (d :: ds) env S = forGo tg b ds e2 S2 := by
  rw [forGo, hp]
  dsimp only
  rw [hb]
/-- after a turn -/
def after (o : SO) (k : Env → Store → SO) : SO := match o with
  | .ok .nx e S => k e S
  | .ok .ct e S => k e S
  | .ok .bk e S => .ok .nx e S
  | .ok (.rt d) e S => .ok (.rt d) e S
  | .exc c e S => .exc c e S
  | .stuck => .stuck
@[simp] theorem after_nx {e : Env} {S : Store} {k : Env → Store → SO} : after (.ok .nx e S) k = k e S := (rfl)
@[simp] theorem after_ct {e : Env} {S : Store} {k : Env → Store → SO} : after (.ok .ct e S) k = k e S := (rfl)
@[simp] theorem after_bk {e : Env} {S : Store} {k : Env → Store → SO} : after (.ok .bk e S) k = .ok .nx e S := (rfl)
@[simp] theorem after_rt {e : Env} {S : Store} {d : D} {k : Env → Store → SO} : after (.ok (.rt d) e S) k = .ok (.rt d) e S := (rfl)
/-- a turn of a loop over a row that is known -/
theorem for_turn {i : Nat} {b : SM} {d : D} {ds : List D} {env : Env} {S : Store} : forGo (.nm i) b (d :: ds) env S = after (b (env.set i (.val d)) S) (forGo (.nm i) b ds) := rfl
theorem for_done {tg : Tg} {b : SM} {env : Env} {S : Store} : forGo tg b [] env S = .ok .nx env S := rfl
theorem rngI_length {lo : Int} {n : Nat} : (rngI lo n).length = n := by
  unfold rngI
  rw [List.length_map, List.length_range]
theorem rngI_at {lo : Int} {n i : Nat} {d : D} (h : (rngI lo n)[i]? = some d) : i < n ∧ d = .int (lo + (i : Nat)) := by
  have hi : i < n := by
    have := (List.getElem?_eq_some_iff.mp h).1
    rwa [rngI_length] at this
  refine ⟨hi, ?_⟩
  unfold rngI at h
  rw [List.getElem?_map, List.getElem?_range hi] at h
  exact (Option.some.inj h).symm
/-! ### comprehensions -/
theorem lcGo_map {tg : Tg} {t : EM Bool} {f : EM D} {env : Env} {g : D → D} {S : Store} : ∀ {ds : List D} (acc : List D), (∀ d ∈ ds, ∃ e1, tg.put d env = some e1 ∧ t e1 S = .ok true S ∧ f e1 S = .ok (g d) S) → acc.length + ds.length ≤ LN → lcGo tg t f env ds acc S = .ok (acc ++ ds.map g) S
  | [], acc, _, _ => by rw [List.map_nil, List.append_nil]; rfl
  | d :: ds, acc, h, hl => by
    obtain ⟨e1, h1, h2, h3⟩ := h d List.mem_cons_self
    rw [lcGo, h1]
    dsimp only
    rw [h2]
    dsimp only
    rw [h3]
    dsimp only
    rw [List.length_cons] at hl
    rw [if_pos (by omega : acc.length < LN), lcGo_map (acc ++ [g d]) (fun x hx => h x (List.mem_cons_of_mem _ hx)) (by rw [List.length_append, List.length_singleton]; omega)]
    rw [List.map_cons, List.append_assoc]
    rfl
theorem lcGo_idx {tg : Tg} {t : EM Bool} {f : EM D} {env : Env} {S : Store} : ∀ {ds es : List D} (acc : List D), es.length = ds.length → (∀ (i : Nat) d, ds[i]? = some d → ∃ e1 y, tg.put d env = some e1 ∧ t e1 S = .ok true S ∧ f e1 S = .ok y S ∧ es[i]? = some y) → acc.length + ds.length ≤ LN → lcGo tg t f env ds acc S = .ok (acc ++ es) S
  | [], [], acc, _, _, _ => by rw [List.append_nil]; rfl
  | [], e :: es, acc, hl, _, _ => nomatch hl
  | d :: ds, [], acc, hl, _, _ => nomatch hl
  | d :: ds, e :: es, acc, he, h, hl => by
    obtain ⟨e1, y, h1, h2, h3, h4⟩ := h 0 d rfl
    cases h4
    rw [lcGo, h1]
    dsimp only
    rw [h2]
    dsimp only
    rw [h3]
    dsimp only
    rw [List.length_cons] at hl
    rw [if_pos (by omega : acc.length < LN), lcGo_idx (acc ++ [e]) (by simpa using he) (fun i x hx => by have := h (i + 1) x (by simpa using hx); simpa using this) (by rw [List.length_append, List.length_singleton]; omega)]
    rw [List.append_assoc]
    rfl
theorem lcGo_filter {tg : Tg} {t : EM Bool} {f : EM D} {env : Env} {p : D → Bool} {g : D → D} {S : Store} : ∀ {ds : List D} (acc : List D), (∀ d ∈ ds, ∃ e1, tg.put d env = some e1 ∧ t e1 S = .ok (p d) S ∧ (p d = true → f e1 S = .ok (g d) S)) → acc.length + ds.length ≤ LN → lcGo tg t f env ds acc S = .ok (acc ++ (ds.filter p).map g) S
  | [], acc, _, _ => by rw [List.filter_nil, List.map_nil, List.append_nil]; rfl
  | d :: ds, acc, h, hl => by
    obtain ⟨e1, h1, h2, h3⟩ := h d List.mem_cons_self
    rw [List.length_cons] at hl
    rw [lcGo, h1]
    dsimp only
    rw [h2]
    cases hp : p d with
    | false =>
      dsimp only
      rw [lcGo_filter acc (fun x hx => h x (List.mem_cons_of_mem _ hx)) (by omega), List.filter_cons_of_neg (by rw [hp]; exact Bool.false_ne_true)]
    | true =>
      dsimp only
      rw [h3 hp]
      dsimp only
      rw [if_pos (by omega : acc.length < LN), lcGo_filter (acc ++ [g d]) (fun x hx => h x (List.mem_cons_of_mem _ hx)) (by rw [List.length_append, List.length_singleton]; omega)]
      rw [List.filter_cons_of_pos hp, List.map_cons, List.append_assoc]
      rfl
theorem eLc_of {F : EM (List D)} {tg : Tg} {vs : List Nat} {t : EM Bool} {f : EM D} {env : Env} {S S1 S2 : Store} {ds es : List D} (h1 : F env S = .ok ds S1) (h2 : lcGo tg t f (wipe env vs) ds [] S1 = .ok es S2) : eLc F tg vs t f env S = .ok es S2 := by
  unfold eLc
  rw [h1]
  exact h2
/-! ### reckoning by simp -/
section
variable {α β : Type} {a : α} {env en1 : Env} {S S1 : Store} {c : String} {d : D} {i k : Nat} {f g h : EM D} {t u : EM Bool} {A B : SM} {F : EM (List D)}
@[simp] theorem bind_ok {k : α → Store → Out β} : (Out.ok a S).bind k = k a S := (rfl)
@[simp] theorem bind_exc {k : α → Store → Out β} : (Out.exc c S : Out α).bind k = .exc c S := (rfl)
@[simp] theorem lift_some : lift (some a) S = .ok a S := (rfl)
@[simp] theorem eC_ev : eC d env S = .ok d S := (rfl)
@[simp] theorem eN_ev : eN i env S = lift ((env[i]?).bind slotV) S := (rfl)
@[simp] theorem eB_ev : eB i env S = lift ((env[i]?).bind slotB) S := (rfl)
@[simp] theorem slotV_val : slotV (.val d) = some d := (rfl)
@[simp] theorem slotB_val : slotB (.val d) = some d := (rfl)
@[simp] theorem slotB_own {xs : List D} : slotB (.own xs) = some (.lst xs) := (rfl)
@[simp] theorem e1_ev {op : D → Option D} : e1 op f env S = (f env S).bind fun x S1 => lift (op x) S1 := (rfl)
@[simp] theorem e2_ev {op : D → D → Option D} : e2 op f g env S = (f env S).bind fun x S1 => (g env S1).bind fun y S2 => lift (op x y) S2 := (rfl)
@[simp] theorem aNil_ev : aNil env S = .ok [] S := (rfl)
@[simp] theorem aCons_ev : aCons f F env S = (f env S).bind fun x S1 => (F env S1).bind fun xs S2 => .ok (x :: xs) S2 := (rfl)
@[simp] theorem eA_ev {op : List D → Option D} : eA op F env S = (F env S).bind fun xs S1 => lift (op xs) S1 := (rfl)
@[simp] theorem eF_ev {R : List D → M D} : eF R F env S = (F env S).bind fun xs S1 => R xs S1 := (rfl)
@[simp] theorem tV_ev : tV f env S = (f env S).bind fun x S1 => lift (truD x) S1 := (rfl)
@[simp] theorem tB_ev : tB f env S = (f env S).bind fun x S1 => lift (boolD x) S1 := (rfl)
@[simp] theorem boolD_bl {b : Bool} : boolD (.bl b) = some b := (rfl)
@[simp] theorem truD_bl {b : Bool} : truD (.bl b) = some b := (rfl)
@[simp] theorem tAnd_ev : tAnd t u env S = (t env S).bind fun b S1 => if b = true then u env S1 else .ok false S1 := (rfl)
@[simp] theorem tOr_ev : tOr t u env S = (t env S).bind fun b S1 => if b = true then .ok true S1 else u env S1 := (rfl)
@[simp] theorem tNot_ev : tNot t env S = (t env S).bind fun b S1 => .ok (!b) S1 := (rfl)
@[simp] theorem eIf_ev : eIf t f g env S = (t env S).bind fun b S1 => if b = true then f env S1 else g env S1 := (rfl)
@[simp] theorem eAnd_ev : eAnd f g env S = (f env S).bind fun x S1 => (lift (boolD x) S1).bind fun b S2 => if b = true then g env S2 else .ok (.bl false) S2 := (rfl)
@[simp] theorem eOr_ev : eOr f g env S = (f env S).bind fun x S1 => (lift (boolD x) S1).bind fun b S2 => if b = true then .ok (.bl true) S2 else g env S2 := (rfl)
@[simp] theorem eNot_ev : eNot f env S = (f env S).bind fun x S1 => (lift (boolD x) S1).bind fun b S2 => .ok (.bl (!b)) S2 := (rfl)
@[simp] theorem eCh_ev {op op' : D → D → Option D} : eCh op op' f g h env S = (f env S).bind fun x S1 => (g env S1).bind fun y S2 => (lift (op x y) S2).bind fun z S3 => (lift (boolD z) S3).bind fun b S4 => if b = true then (h env S4).bind fun w S5 => lift (op' y w) S5 else .ok (.bl false) S4 := (rfl)
@[simp] theorem eChn_ev {l : List ((D → D → Option D) × EM D)} : eChn f l env S = (f env S).bind fun x S1 => eChK l x env S1 := (rfl)
@[simp] theorem eChK_one {p : (D → D → Option D) × EM D} {x : D} : eChK [p] x env S = (p.2 env S).bind fun y S1 => lift (p.1 x y) S1 := (rfl)
@[simp] theorem eChK_cons {p q : (D → D → Option D) × EM D} {l : List ((D → D → Option D) × EM D)} {x : D} : eChK (p :: q :: l) x env S = (p.2 env S).bind fun y S1 => (lift (p.1 x y) S1).bind fun z S2 => (lift (boolD z) S2).bind fun b S3 => if b = true then eChK (q :: l) y env S3 else .ok (.bl false) S3 := (rfl)
@[simp] theorem eFv_ev {l : List (String × (List D → M D))} : eFv l f F env S = (f env S).bind fun y S1 => match dsp l y with
  | some R => (F env S1).bind fun xs S2 => R xs S2
  | none => .stuck := (rfl)
@[simp] theorem eM1_ev {op : Str → D → Option D} : eM1 op f g env S = (f env S).bind fun x S1 => match x with
  | .str a => (g env S1).bind fun y S2 => lift (op a y) S2
  | _ => .stuck := (rfl)
@[simp] theorem eM0_ev {op : Str → Option D} : eM0 op f env S = (f env S).bind fun x S1 => match x with
  | .str a => lift (op a) S1
  | _ => .stuck := (rfl)
@[simp] theorem eJ_nil {acc : List Nat} : eJ [] acc env S = .ok (.str (txS acc)) S := (rfl)
@[simp] theorem eJ_cons {fs : List (EM D)} {acc : List Nat} : eJ (f :: fs) acc env S = (f env S).bind fun x S1 => match x with
  | .str z => if (acc ++ z.cps.toList).length ≤ LN then eJ fs (acc ++ z.cps.toList) env S1 else .stuck
  | _ => .stuck := (rfl)
@[simp] theorem eSl_ev {lo hi : EM (Option Int)} : eSl f lo hi env S = (f env S).bind fun x S1 => (lo env S1).bind fun l S2 => (hi env S2).bind fun u S3 => lift (slD x l u) S3 := (rfl)
@[simp] theorem pNo_ev : pNo env S = .ok none S := (rfl)
theorem pSo_ev {n : Int} (e : f env S = .ok (.int n) S1) : pSo f env S = .ok (some n) S1 := by unfold pSo; rw [e]; rfl
@[simp] theorem eLst_ev : eLst F env S = (F env S).bind fun ds S1 => .ok (.lst ds) S1 := (rfl)
@[simp] theorem fLst_ev : fLst F env S = (F env S).bind fun ds S1 => if ds.length ≤ LN then .ok ds S1 else .stuck := (rfl)
@[simp] theorem fCat_ev : fCat f g env S = (f env S).bind fun x S1 => (g env S1).bind fun y S2 => match x, y with | .lst xs, .lst ys => if xs.length + ys.length ≤ LN then .ok (xs ++ ys) S2 else .stuck | _, _ => .stuck := (rfl)
@[simp] theorem fMul_ev : fMul f g env S = (f env S).bind fun x S1 => (g env S1).bind fun y S2 => match x, y with | .lst xs, .int k => if -100000 ≤ k ∧ k ≤ 100000 ∧ xs.length * k.toNat ≤ LN then .ok (List.replicate k.toNat xs).flatten S2 else .stuck | _, _ => .stuck := (rfl)
@[simp] theorem iS_ev : iS f env S = (f env S).bind fun x S1 => lift (seqD x) S1 := (rfl)
@[simp] theorem iA_ev {op : List D → Option (List D)} : iA op F env S = (F env S).bind fun xs S1 => lift (op xs) S1 := (rfl)
theorem eLc_ev {tg : Tg} {vs : List Nat} : eLc F tg vs t f env S = (F env S).bind fun ds S1 => lcGo tg t f (wipe env vs) ds [] S1 := rfl
@[simp] theorem tYes_ev : tYes env S = .ok true S := (rfl)
@[simp] theorem rng_lit' (n : Nat) (h : n < 4611686018427387904) : rng1D [.int (no_index (OfNat.ofNat n))] = some (rngI 0 n) := rng_nat h
@[simp] theorem wipe_nil : wipe env [] = env := (rfl)
@[simp] theorem wipe_cons {v : Nat} {vs : List Nat} : wipe env (v :: vs) = (wipe env vs).set v .no := (rfl)
@[simp] theorem addD_int {i j : Int} : addD (.int i) (.int j) = some (.int (i + j)) := (rfl)
@[simp] theorem subD_int {i j : Int} : subD (.int i) (.int j) = some (.int (i - j)) := (rfl)
@[simp] theorem negD_int {i : Int} : negD (.int i) = some (.int (-i)) := (rfl)
@[simp] theorem ltD_int {i j : Int} : ltD (.int i) (.int j) = some (.bl (decide (i < j))) := (rfl)
@[simp] theorem leD_int {i j : Int} : leD (.int i) (.int j) = some (.bl (decide (i ≤ j))) := (rfl)
@[simp] theorem gtD_int {i j : Int} : gtD (.int i) (.int j) = some (.bl (decide (j < i))) := (rfl)
@[simp] theorem geD_int {i j : Int} : geD (.int i) (.int j) = some (.bl (decide (j ≤ i))) := (rfl)
@[simp] theorem addI_int {i j : Int} : addI (.int i) (.int j) = some (.int (i + j)) := (rfl)
@[simp] theorem lenD_lst {xs : List D} : lenD [.lst xs] = some (.int xs.length) := (rfl)
@[simp] theorem lenD_tup {xs : List D} : lenD [.tup xs] = some (.int xs.length) := (rfl)
@[simp] theorem lenD_scr {xs : List D} : lenD [.scr xs] = some (.int xs.length) := (rfl)
@[simp] theorem absD_int {i : Int} : absD [.int i] = some (.int (if i < 0 then -i else i)) := (rfl)
@[simp] theorem intD_int {i : Int} : intD [.int i] = some (.int i) := (rfl)
@[simp] theorem intD_bl {b : Bool} : intD [.bl b] = some (.int (if b then 1 else 0)) := (rfl)
@[simp] theorem tupleD_lst {xs : List D} : tupleD [.lst xs] = some (.tup xs) := (rfl)
@[simp] theorem seqD_lst {xs : List D} : seqD (.lst xs) = some xs := (rfl)
@[simp] theorem seqD_tup {xs : List D} : seqD (.tup xs) = some xs := (rfl)
@[simp] theorem isTyD_ev {s : String} : isTyD s d = (tyD d).map fun u => .bl (u == s || (u == "bool" && s == "int")) := (rfl)
@[simp] theorem tyD_int {i : Int} : tyD (.int i) = some "int" := (rfl)
@[simp] theorem tyD_bl {i : Bool} : tyD (.bl i) = some "bool" := (rfl)
@[simp] theorem tyD_tup {i : List D} : tyD (.tup i) = some "tuple" := (rfl)
@[simp] theorem tyD_lst {i : List D} : tyD (.lst i) = some "list" := (rfl)
@[simp] theorem tyD_non : tyD .non = some "NoneType" := (rfl)
@[simp] theorem ixD_t0 {x : D} {xs : List D} : ixD (.tup (x :: xs)) (.int 0) = some x := by
  show (ixN (xs.length + 1) 0).bind (fun j => (x :: xs)[j]?) = some x
  have e : ixN (xs.length + 1) 0 = some 0 := by
    unfold ixN
    rw [if_pos (by omega), if_pos (by omega)]
    rfl
  rw [e]
  rfl
@[simp] theorem ixD_t1 {x y : D} {xs : List D} : ixD (.tup (x :: y :: xs)) (.int 1) = some y := by
  show (ixN (xs.length + 1 + 1) 1).bind (fun j => (x :: y :: xs)[j]?) = some y
  have e : ixN (xs.length + 1 + 1) 1 = some 1 := by
    unfold ixN
    rw [if_pos (by omega), if_pos (by omega)]
    rfl
  rw [e]
  rfl
theorem ixN_nat {n k : Nat} (h : k < n) : ixN n (k : Int) = some k := by
  unfold ixN
  rw [if_pos (by omega), if_pos (by omega), Int.toNat_natCast]
theorem ixD_lst {xs : List D} {k : Nat} {x : D} (h : xs[k]? = some x) : ixD (.lst xs) (.int (k : Int)) = some x := by
  show (ixN xs.length (k : Int)).bind (fun j => xs[j]?) = some x
  rw [ixN_nat (List.getElem?_eq_some_iff.mp h).1]
  exact h
theorem ixD_tup {xs : List D} {k : Nat} {x : D} (h : xs[k]? = some x) : ixD (.tup xs) (.int (k : Int)) = some x := by
  show (ixN xs.length (k : Int)).bind (fun j => xs[j]?) = some x
  rw [ixN_nat (List.getElem?_eq_some_iff.mp h).1]
  exact h
theorem tupD_ok {xs : List D} (h : xs.length ≤ LN) : tupD xs = some (.tup xs) := if_pos h
theorem lstD_ok {xs : List D} (h : xs.length ≤ LN) : lstD xs = some (.lst xs) := if_pos h
@[simp] theorem tupD_0 : tupD [] = some (.tup []) := (rfl)
@[simp] theorem tupD_1 {a : D} : tupD [a] = some (.tup [a]) := (rfl)
@[simp] theorem tupD_2 {a b : D} : tupD [a, b] = some (.tup [a, b]) := (rfl)
@[simp] theorem tupD_3 {a b c : D} : tupD [a, b, c] = some (.tup [a, b, c]) := (rfl)
@[simp] theorem lstD_0 : lstD [] = some (.lst []) := (rfl)
@[simp] theorem lstD_1 {a : D} : lstD [a] = some (.lst [a]) := (rfl)
@[simp] theorem lstD_2 {a b : D} : lstD [a, b] = some (.lst [a, b]) := (rfl)
@[simp] theorem lstD_3 {a b c : D} : lstD [a, b, c] = some (.lst [a, b, c]) := (rfl)
@[simp] theorem lstD_4 {a b c d : D} : lstD [a, b, c, d] = some (.lst [a, b, c, d]) := (rfl)
/-! statements -/
@[simp] theorem sbind_nx {k : Env → Store → SO} : (SO.ok .nx env S).bind k = k env S := (rfl)
@[simp] theorem sbind_rt {k : Env → Store → SO} : (SO.ok (.rt d) env S).bind k = .ok (.rt d) env S := (rfl)
@[simp] theorem sbind_bk {k : Env → Store → SO} : (SO.ok .bk env S).bind k = .ok .bk env S := (rfl)
@[simp] theorem sbind_ct {k : Env → Store → SO} : (SO.ok .ct env S).bind k = .ok .ct env S := (rfl)
@[simp] theorem sbind_exc {k : Env → Store → SO} : (SO.exc c env S).bind k = .exc c env S := (rfl)
@[simp] theorem eS_ok {k : α → Store → SO} : eS (.ok a S) env k = k a S := (rfl)
@[simp] theorem eS_exc {k : α → Store → SO} : eS (.exc c S : Out α) env k = .exc c env S := (rfl)
@[simp] theorem sNil_ev : sNil env S = .ok .nx env S := (rfl)
@[simp] theorem sSeq_ev : sSeq A B env S = (A env S).bind B := (rfl)
@[simp] theorem sExpr_ev : sExpr f env S = eS (f env S) env fun _ S1 => .ok .nx env S1 := (rfl)
@[simp] theorem sSet_ev : sSet i f env S = eS (f env S) env fun d S1 => .ok .nx (env.set i (.val d)) S1 := (rfl)
@[simp] theorem sOwn_ev : sOwn i F env S = eS (F env S) env fun ds S1 => .ok .nx (env.set i (.own ds)) S1 := (rfl)
@[simp] theorem sIf_ev : sIf t A B env S = eS (t env S) env fun c S1 => if c = true then A env S1 else B env S1 := (rfl)
@[simp] theorem sRet_ev : sRet f env S = eS (f env S) env fun d S1 => .ok (.rt d) env S1 := (rfl)
@[simp] theorem sRetN_ev : sRetN env S = .ok (.rt .non) env S := (rfl)
@[simp] theorem sBrk_ev : sBrk env S = .ok .bk env S := (rfl)
@[simp] theorem sCont_ev : sCont env S = .ok .ct env S := (rfl)
@[simp] theorem sRaise_ev : sRaise c env S = .exc c env S := (rfl)
@[simp] theorem sFrz_ev : sFrz i A env S = A (frz i env) S := (rfl)
@[simp] theorem sFor_ev {tg : Tg} : sFor tg F A env S = eS (F env S) env fun ds S1 => forGo tg A ds env S1 := (rfl)
theorem sPar_ev {x y : D} (e : F env S = .ok [x, y] S1) : sPar i k F env S = .ok .nx ((env.set i (.val x)).set k (.val y)) S1 := by unfold sPar; rw [e]; rfl
theorem sTg_ev {tg : Tg} (e : f env S = .ok d S1) (h : tg.put d env = some en1) : sTg tg f env S = .ok .nx en1 S1 := by
  show eS (f env S) env (fun d S1 => match tg.put d env with | some env' => .ok .nx env' S1 | none => .stuck) = _
  rw [e]
  show (match tg.put d env with | some env' => SO.ok .nx env' S1 | none => .stuck) = _
  rw [h]
theorem sApp_ev {xs : List D} (e : env[i]? = some (.own xs)) (h : f env S = .ok d S1) (hl : xs.length < LN) : sApp i f env S = .ok .nx (env.set i (.own (xs ++ [d]))) S1 := by
  unfold sApp
  rw [e]
  dsimp only
  rw [h]
  dsimp only [eS]
  rw [if_pos hl]
theorem sAug_ev {x y z : D} {od : D → D → Option D} (e : (env[i]?).bind slotV = some x) (h : f env S = .ok y S1) (hz : od x y = some z) : sAug i od f env S = .ok .nx (env.set i (.val z)) S1 := by
  unfold sAug
  rw [e]
  dsimp only
  rw [h]
  dsimp only [eS]
  rw [hz]
theorem fnD_rt {n k : Nat} {b : SM} {ds : List D} (hn : ds.length = n) (h : b (ds.map .val ++ List.replicate k .no) S = .ok (.rt d) en1 S1) : fnD n k b ds S = .ok d S1 := by
  unfold fnD
  rw [if_pos hn, h]
theorem fnD_nx {n k : Nat} {b : SM} {ds : List D} (hn : ds.length = n) (h : b (ds.map .val ++ List.replicate k .no) S = .ok .nx en1 S1) : fnD n k b ds S = .ok .non S1 := by
  unfold fnD
  rw [if_pos hn, h]
theorem fnD_exc {n k : Nat} {b : SM} {ds : List D} (hn : ds.length = n) (h : b (ds.map .val ++ List.replicate k .no) S = .exc c en1 S1) : fnD n k b ds S = .exc c S1 := by
  unfold fnD
  rw [if_pos hn, h]
@[simp] theorem put_nm : (Tg.nm i).put d env = some (env.set i (.val d)) := (rfl)
end
/-! ### values -/
@[simp] theorem eqD_int (i j : Int) : eqD (.int i) (.int j) = some (.bl (i == j)) := (rfl)
@[simp] theorem neD_int (i j : Int) : neD (.int i) (.int j) = some (.bl (!(i == j))) := (rfl)
@[simp] theorem eqD_bl (i j : Bool) : eqD (.bl i) (.bl j) = some (.bl (i == j)) := (rfl)
@[simp] theorem neD_bl (i j : Bool) : neD (.bl i) (.bl j) = some (.bl (!(i == j))) := (rfl)
theorem mulI_ok {i j : Int} (h : bit i + bit j < 100000000) : mulI (.int i) (.int j) = some (.int (i * j)) := by
  show (if bit i + bit j < 100000000 then _ else _) = _
  rw [if_pos h]
theorem fdivD_ok {i j : Int} (h : 0 < j) (h2 : bit j < 9000) : fdivD (.int i) (.int j) = some (.int (i / j)) := by
  show (if 0 < j ∧ bit j < 9000 then _ else _) = _
  rw [if_pos ⟨h, h2⟩]
theorem modD_ok {i j : Int} (h : 0 < j) : modD (.int i) (.int j) = some (.int (i % j)) := by
  show (if 0 < j then _ else _) = _
  rw [if_pos h]
/-- bits -/
theorem bit_lt {i : Int} {n : Nat} (h : i.natAbs < 2 ^ n) : bit i ≤ n := by
  unfold bit
  by_cases h0 : i.natAbs = 0
  · rw [h0]
    have z : Nat.log2 0 = 0 := by decide
    rw [z]
    exact Nat.zero_le _
  · have := (Nat.log2_lt h0).mpr h
    omega
theorem lt_bit {i : Int} : i.natAbs < 2 ^ (bit i + 1) := Nat.lt_log2_self
/-! ### what holds after -/
def Wp (o : SO) (Q : Fl → Env → Store → Prop) : Prop := match o with
  | .ok f e S => Q f e S
  | _ => False
@[simp] theorem wp_ok {f : Fl} {e : Env} {S : Store} {Q : Fl → Env → Store → Prop} : Wp (.ok f e S) Q ↔ Q f e S := Iff.rfl
theorem wp_out {o : SO} {Q : Fl → Env → Store → Prop} (h : Wp o Q) : ∃ f e S, o = .ok f e S ∧ Q f e S := by
  cases o with
  | ok f e S => exact ⟨f, e, S, rfl, h⟩
  | exc c e S => exact absurd h id
  | stuck => exact absurd h id
theorem wp_mono {o : SO} {Q R : Fl → Env → Store → Prop} (h : Wp o Q) (hr : ∀ f e S, Q f e S → R f e S) : Wp o R := by
  obtain ⟨f, e, S, rfl, h⟩ := wp_out h
  exact hr f e S h
theorem wp_bind {o : SO} {B : Env → Store → SO} {Q : Fl → Env → Store → Prop} (h : Wp o fun f e S => match f with | .nx => Wp (B e S) Q | f => Q f e S) : Wp (o.bind B) Q := by
  obtain ⟨f, e, S, rfl, h⟩ := wp_out h
  cases f with
  | nx => exact h
  | rt d => exact h
  | bk => exact h
  | ct => exact h
theorem wp_seq {A B : SM} {env : Env} {S : Store} {Q : Fl → Env → Store → Prop} (h : Wp (A env S) fun f e S => match f with | .nx => Wp (B e S) Q | f => Q f e S) : Wp (sSeq A B env S) Q := wp_bind h
/-- a loop by what holds between its turns -/
theorem wp_forGo {tg : Tg} {b : SM} (I : Nat → Env → Store → Prop) {ds : List D} {Q : Fl → Env → Store → Prop}
    (step : ∀ i d env S, ds[i]? = some d → I i env S → ∃ e1, tg.put d env = some e1 ∧ Wp (b e1 S) fun f e S => match f with | .nx => I (i + 1) e S | .ct => I (i + 1) e S | .bk => Q .nx e S | .rt d => Q (.rt d) e S)
    (fin : ∀ env S, I ds.length env S → Q .nx env S) :
    ∀ (n i : Nat) (env : Env) (S : Store), n + i = ds.length → I i env S → Wp (forGo tg b (ds.drop i) env S) Q
  | 0, i, env, S, hn, h => by
    have e : i = ds.length := by omega
    subst e
    rw [List.drop_length]
    exact fin env S h
  | n + 1, i, env, S, hn, h => by
    have hi : i < ds.length := by omega
    obtain ⟨e1, hp, hb⟩ := step i _ env S (List.getElem?_eq_getElem hi) h
    obtain ⟨f, e2, S2, hb, h2⟩ := wp_out hb
    rw [List.drop_eq_getElem_cons hi, forGo, hp]
    dsimp only
    rw [hb]
    cases f with
    | nx => exact wp_forGo I step fin n (i + 1) e2 S2 (by omega) h2
    | ct => exact wp_forGo I step fin n (i + 1) e2 S2 (by omega) h2
    | bk => exact h2
    | rt d => exact h2
theorem wp_for {tg : Tg} {b : SM} (I : Nat → Env → Store → Prop) {ds : List D} {Q : Fl → Env → Store → Prop} {env : Env} {S : Store} (h0 : I 0 env S)
    (step : ∀ i d env S, ds[i]? = some d → I i env S → ∃ e1, tg.put d env = some e1 ∧ Wp (b e1 S) fun f e S => match f with | .nx => I (i + 1) e S | .ct => I (i + 1) e S | .bk => Q .nx e S | .rt d => Q (.rt d) e S)
    (fin : ∀ env S, I ds.length env S → Q .nx env S) : Wp (forGo tg b ds env S) Q := wp_forGo I step fin ds.length 0 env S (by omega) h0
/-- over a range -/
theorem wp_rng {x : Nat} {b : SM} (I : Nat → Env → Store → Prop) {lo : Int} {n : Nat} {Q : Fl → Env → Store → Prop} {env : Env} {S : Store} (h0 : I 0 env S)
    (step : ∀ (i : Nat) env S, i < n → I i env S → Wp (b (env.set x (.val (.int (lo + (i : Nat))))) S) fun f e S => match f with | .nx => I (i + 1) e S | .ct => I (i + 1) e S | .bk => Q .nx e S | .rt d => Q (.rt d) e S)
    (fin : ∀ env S, I n env S → Q .nx env S) : Wp (forGo (.nm x) b (rngI lo n) env S) Q := by
  refine wp_for I h0 (fun i d env S hd h => ?_) (fun env S h => fin env S (by rwa [rngI_length] at h))
  obtain ⟨hi, rfl⟩ := rngI_at hd
  exact ⟨_, rfl, step i env S hi h⟩
theorem wp_rng0 {x : Nat} {b : SM} (I : Nat → Env → Store → Prop) {n : Nat} {Q : Fl → Env → Store → Prop} {env : Env} {S : Store} (h0 : I 0 env S)
    (step : ∀ (i : Nat) env S, i < n → I i env S → Wp (b (env.set x (.val (.int (i : Nat)))) S) fun f e S => match f with | .nx => I (i + 1) e S | .ct => I (i + 1) e S | .bk => Q .nx e S | .rt d => Q (.rt d) e S)
    (fin : ∀ env S, I n env S → Q .nx env S) : Wp (forGo (.nm x) b (rngI 0 n) env S) Q := wp_rng I h0 (fun i env S hi h => by rw [Int.zero_add]; exact step i env S hi h) fin
/-- a while loop, by a measure -/
theorem wp_while {t : EM Bool} {b : SM} (I : Nat → Env → Store → Prop) {Q : Fl → Env → Store → Prop}
    (step : ∀ m env S, I m env S → (∃ S1, t env S = .ok false S1 ∧ Q .nx env S1) ∨ ∃ S1, t env S = .ok true S1 ∧ Wp (b env S1) fun f e S => match f with | .nx => ∃ k, k < m ∧ I k e S | .ct => ∃ k, k < m ∧ I k e S | .bk => Q .nx e S | .rt d => Q (.rt d) e S) :
    ∀ (m : Nat) (env : Env) (S : Store), I m env S → Wp (sWhile t b env S) Q := by
  intro m
  induction m using Nat.strongRecOn with
  | ind m ih =>
    intro env S h
    have some_n : ∀ {env : Env} {S : Store} {o : SO}, sWhile t b env S = o → o ≠ .stuck → ∃ n, whGo t b n env S = o := by
      intro env S o h ho
      unfold sWhile at h
      split at h
      · exact ⟨_, h⟩
      · exact absurd h.symm ho
    rcases step m env S h with ⟨S1, h1, h2⟩ | ⟨S1, h1, h2⟩
    · rw [sWhile_end h1]; exact h2
    · obtain ⟨f, e2, S2, hb, h3⟩ := wp_out h2
      have go : ∀ {o : SO}, (match f with | .nx => ∃ n, whGo t b n e2 S2 = o | .ct => ∃ n, whGo t b n e2 S2 = o | .bk => o = .ok .nx e2 S2 | .rt d => o = .ok (.rt d) e2 S2) → o ≠ .stuck → sWhile t b env S = o := by
        intro o ho hs
        cases f with
        | nx => obtain ⟨n, hn⟩ := ho; exact sWhile_of (n := n + 1) (by rw [whGo, h1]; simp only [eS, if_true]; rw [hb]; exact hn) hs
        | ct => obtain ⟨n, hn⟩ := ho; exact sWhile_of (n := n + 1) (by rw [whGo, h1]; simp only [eS, if_true]; rw [hb]; exact hn) hs
        | bk => exact sWhile_of (n := 1) (by rw [whGo, h1]; simp only [eS, if_true]; rw [hb]; exact ho.symm) hs
        | rt d => exact sWhile_of (n := 1) (by rw [whGo, h1]; simp only [eS, if_true]; rw [hb]; exact ho.symm) hs
      cases f with
      | nx =>
        obtain ⟨k, hk, h4⟩ := h3
        obtain ⟨f', e3, S3, h5, h6⟩ := wp_out (ih k hk e2 S2 h4)
        rw [go (some_n h5 (by intro z; cases z)) (by intro z; cases z)]
        exact h6
      | ct =>
        obtain ⟨k, hk, h4⟩ := h3
        obtain ⟨f', e3, S3, h5, h6⟩ := wp_out (ih k hk e2 S2 h4)
        rw [go (some_n h5 (by intro z; cases z)) (by intro z; cases z)]
        exact h6
      | bk => rw [go rfl (by intro z; cases z)]; exact h3
      | rt d => rw [go rfl (by intro z; cases z)]; exact h3
/-- a def by what holds after its body -/
theorem fnD_wp {n k : Nat} {b : SM} {ds : List D} {S : Store} {Q : D → Store → Prop} (hn : ds.length = n) (h : Wp (b (ds.map .val ++ List.replicate k .no) S) fun f e S1 => match f with | .rt d => Q d S1 | .nx => Q .non S1 | _ => False) : ∃ d S1, fnD n k b ds S = .ok d S1 ∧ Q d S1 := by
  obtain ⟨f, e, S1, h1, h2⟩ := wp_out h
  cases f with
  | nx => exact ⟨_, _, fnD_nx hn h1, h2⟩
  | rt d => exact ⟨_, _, fnD_rt hn h1, h2⟩
  | bk => exact absurd h2 id
  | ct => exact absurd h2 id
theorem sIf_ok {t : EM Bool} {A B : SM} {env : Env} {S : Store} {c : Bool} (h : t env S = .ok c S) : sIf t A B env S = if c = true then A env S else B env S := by
  rw [sIf_ev, h]; rfl
end Kb

set_option linter.all false
set_option maxRecDepth 100000
namespace Ks
open Kb PySem
theorem of_int_ev (n : Int) (S : Store) : d_of_int [.int n] S = .ok (.tup [.int n, .int 1]) S := by
  refine fnD_rt rfl (en1 := [.val (.int n)]) ?_
  simp [b_of_int]
theorem common_ev (a b : Int) (S : Store) : d_common [.int a, .int b] S = .ok (.int (Int.gcd a b)) S := by
  have loop : ∀ (m : Nat) (x y : Nat), y ≤ m → sWhile (tB (e2 neD (eB 1) (eC (.int 0)))) b_common_1 [.val (.int x), .val (.int y)] S = .ok .nx [.val (.int (Nat.gcd x y : Nat)), .val (.int 0)] S := by
    intro m
    induction m with
    | zero =>
      intro x y hy
      have : y = 0 := by omega
      subst this
      rw [Nat.gcd_zero_right]
      exact sWhile_end (by simp)
    | succ m ih =>
      intro x y hy
      by_cases h0 : y = 0
      · subst h0
        rw [Nat.gcd_zero_right]
        exact sWhile_end (by simp)
      · refine sWhile_next (S1 := S) (S2 := S) (e1 := [.val (.int y), .val (.int ((x % y : Nat) : Int))]) (by simp [h0]) ?_ ?_ (by intro h; cases h)
        · unfold b_common_1
          refine sPar_ev (x := .int y) (y := .int ((x % y : Nat) : Int)) ?_
          simp [modD_ok (show (0 : Int) < (y : Int) by omega)]
        · rw [ih y (x % y) (by have := Nat.mod_lt x (show 0 < y by omega); omega)]
          rw [show Nat.gcd y (x % y) = Nat.gcd x y by rw [Nat.gcd_comm x y, Nat.gcd_rec y x]; exact Nat.gcd_comm _ _]
  refine fnD_rt rfl (en1 := [.val (.int (Int.gcd a b)), .val (.int 0)]) ?_
  have ha : ∀ z : Int, (if z < 0 then -z else z) = (z.natAbs : Int) := fun z => by split <;> omega
  simp [b_common, ha, loop b.natAbs a.natAbs b.natAbs (Nat.le_refl _), Int.gcd]
end Ks

set_option linter.all false
set_option maxRecDepth 100000
namespace Ks
open Kb PySem
/-- a row of numbers below 1009 -/
def Num (ns : List Int) : Prop := ∀ x ∈ ns, 0 ≤ x ∧ x < 1009
theorem Num.snoc {ns : List Int} {x : Int} (h : Num ns) (h0 : 0 ≤ x) (h1 : x < 1009) : Num (ns ++ [x]) := by
  intro y hy
  rcases List.mem_append.mp hy with h2 | h2
  · exact h y h2
  · rw [List.mem_singleton.mp h2]; exact ⟨h0, h1⟩
theorem bit_small {i : Int} {n : Nat} (h0 : 0 ≤ i) (h : i < 2 ^ n) : bit i ≤ n := by
  refine bit_lt ?_
  have : ((2 ^ n : Nat) : Int) = (2 : Int) ^ n := by norm_cast
  omega
abbrev nums (ns : List Int) : List D := ns.map .int
theorem nums_snoc (ns : List Int) (x : Int) : nums ns ++ [.int x] = nums (ns ++ [x]) := by simp [nums]
theorem stream_ev (cs : List Int) (hc : cs.length ≤ 63) (S : Store) : ∃ ns, Num ns ∧ ns ≠ [] ∧ d__law_stream [.scr (cs.map .int)] S = .ok (.lst (nums ns)) S := by
  have inner : ∀ (b2 b4 b5 : Slot) (sc : D) (r : Int) (ns : List Int), Num ns → ns.length + 60 < LN → (∃ e S1, forGo (.nm 4) b__law_stream_1 (rngI 0 60) [.val sc, .own (nums ns), b2, .val (.int r), b4, b5] S = .ok .nx e S1 ∧ S1 = S ∧ ∃ ns' r' c4, e = [.val sc, .own (nums ns'), b2, .val (.int r'), c4, b5] ∧ Num ns' ∧ ns'.length ≤ ns.length + 60 ∧ ns' ≠ []) := by
    intro b2 b4 b5 sc r ns hn hl
    have := forGo_brk (tg := .nm 4) (b := b__law_stream_1) (ds := rngI 0 60)
      (fun i e S1 => S1 = S ∧ ∃ ns' r' c4, e = [.val sc, .own (nums ns'), b2, .val (.int r'), c4, b5] ∧ Num ns' ∧ ns'.length ≤ ns.length + i ∧ (0 < i → ns' ≠ []))
      (fun e S1 => S1 = S ∧ ∃ ns' r' c4, e = [.val sc, .own (nums ns'), b2, .val (.int r'), c4, b5] ∧ Num ns' ∧ ns'.length ≤ ns.length + 60 ∧ ns' ≠ [])
      ?_ ?_ 60 0 [.val sc, .own (nums ns), b2, .val (.int r), b4, b5] S (by rw [rngI_length]) ⟨rfl, ns, r, b4, rfl, hn, Nat.le_refl _, fun h => absurd h (by omega)⟩
    · exact this
    · rintro i d env S1 hd ⟨rfl, ns', r', c4, rfl, hn', hl', -⟩
      obtain ⟨hi, rfl⟩ := rngI_at hd
      have hl2 : ns'.length < LN := by unfold LN at *; omega
      have h1 : Num (ns' ++ [r' % 1009]) := hn'.snoc (by omega) (by omega)
      have hf : fdivD (.int r') (.int 1009) = some (.int (r' / 1009)) := fdivD_ok (by omega) (by have := bit_small (i := 1009) (n := 10) (by omega) (by omega); omega)
      have hm : modD (.int r') (.int 1009) = some (.int (r' % 1009)) := modD_ok (by omega)
      refine ⟨_, put_nm, ?_⟩
      by_cases h0 : r' / 1009 = 0
      · refine ⟨[.val sc, .own (nums (ns' ++ [r' % 1009])), b2, .val (.int (r' / 1009)), .val (.int (0 + (i : Nat))), b5], S1, .inr ⟨?_, rfl, _, _, _, rfl, h1, ?_, ?_⟩⟩
        · simp [b__law_stream_1, b__law_stream_2, sApp, hf, hm, hl2, h0]
        · simp; omega
        · simp
      · refine ⟨[.val sc, .own (nums (ns' ++ [r' % 1009])), b2, .val (.int (r' / 1009)), .val (.int (0 + (i : Nat))), b5], S1, .inl ⟨.inl ?_, rfl, _, _, _, rfl, h1, ?_, ?_⟩⟩
        · simp [b__law_stream_1, b__law_stream_2, sApp, hf, hm, hl2, h0]
        · simp; omega
        · simp
    · rintro e S1 ⟨h1, ns', r', c4, h2, h3, h4, h5⟩
      rw [rngI_length] at h4 h5
      exact ⟨h1, ns', r', c4, h2, h3, h4, h5 (by omega)⟩
  have inner2 : ∀ (b2 b3 b4 : Slot) (sc : D) (r : Int) (ns : List Int), Num ns → ns.length + 60 < LN → 0 ≤ r → r < 2147483647 → (∃ e S1, forGo (.nm 4) b__law_stream_2 (rngI 0 10) [.val sc, .own (nums ns), b2, b3, b4, .val (.int r)] S = .ok .nx e S1 ∧ S1 = S ∧ ∃ ns' r' c4, e = [.val sc, .own (nums ns'), b2, b3, c4, .val (.int r')] ∧ Num ns' ∧ ns'.length ≤ ns.length + 10 ∧ ns' ≠ []) := by
    intro b2 b3 b4 sc r ns hn hl hr0 hr1
    have H := forGo_all (tg := .nm 4) (b := b__law_stream_2) (ds := rngI 0 10)
      (fun i e S1 => S1 = S ∧ ∃ ns' r' c4, e = [.val sc, .own (nums ns'), b2, b3, c4, .val (.int r')] ∧ Num ns' ∧ ns'.length ≤ ns.length + i ∧ (0 < i → ns' ≠ []) ∧ 0 ≤ r' ∧ r' < 2147483647)
      (env := [.val sc, .own (nums ns), b2, b3, b4, .val (.int r)]) (S := S) ⟨rfl, ns, r, b4, rfl, hn, Nat.le_refl _, fun h => absurd h (by omega), hr0, hr1⟩ ?_
    · obtain ⟨e, S1, he, h1, ns', r', c4, h2, h3, h4, h5, -⟩ := H
      rw [rngI_length] at h4 h5
      exact ⟨e, S1, he, h1, ns', r', c4, h2, h3, h4, h5 (by omega)⟩
    · rintro i d env S1 hd ⟨rfl, ns', r', c4, rfl, hn', hl', -, h0, h1⟩
      obtain ⟨hi, rfl⟩ := rngI_at hd
      have hl2 : ns'.length < LN := by unfold LN at *; omega
      have b1 : bit r' ≤ 31 := bit_small h0 (by omega)
      have b2' : bit (0 + (i : Nat)) ≤ 31 := bit_small (by omega) (by omega)
      have b3' : bit 48271 ≤ 31 := bit_small (by omega) (by omega)
      have b4' : bit 69621 ≤ 31 := bit_small (by omega) (by omega)
      have b5' : bit 7 ≤ 31 := bit_small (by omega) (by omega)
      have m1 : mulI (.int r') (.int 48271) = some (.int (r' * 48271)) := mulI_ok (by omega)
      have m2 : mulI (.int 7) (.int (0 + (i : Nat))) = some (.int (7 * (0 + (i : Nat)))) := mulI_ok (by omega)
      generalize hx : (r' * 48271 + 7 * (0 + (i : Nat)) + 11) % 2147483647 = x
      have hm : modD (.int (r' * 48271 + 7 * (0 + (i : Nat)) + 11)) (.int 2147483647) = some (.int x) := by rw [← hx]; exact modD_ok (by omega)
      have hx0 : 0 ≤ x := by omega
      have hx1 : x < 2147483647 := by omega
      have b6' : bit x ≤ 31 := bit_small hx0 (by omega)
      have m3 : mulI (.int x) (.int 69621) = some (.int (x * 69621)) := mulI_ok (by omega)
      have m4 : ∀ y, modD (.int y) (.int 2147483629) = some (.int (y % 2147483629)) := fun y => modD_ok (by omega)
      have m5 : ∀ y, modD (.int y) (.int 1009) = some (.int (y % 1009)) := fun y => modD_ok (by omega)
      rw [Int.zero_add] at hm m2
      refine ⟨_, put_nm, [.val sc, .own (nums (ns' ++ [(x * 69621 + (0 + (i : Nat))) % 2147483629 % 1009])), b2, b3, .val (.int (0 + (i : Nat))), .val (.int x)], S1, .inl ?_, rfl, _, _, _, rfl, hn'.snoc (by omega) (by omega), ?_, ?_, hx0, hx1⟩
      · simp [b__law_stream_1, b__law_stream_2, sApp, hl2, m1, m2, m3, m4, m5, hm]
      · simp; omega
      · simp
  have H := forGo_all (tg := .nm 2) (b := b__law_stream_3) (ds := nums cs)
      (fun i e S1 => S1 = S ∧ ∃ ns c2 c3 c4 c5, e = [.val (.scr (nums cs)), .own (nums ns), c2, c3, c4, c5] ∧ Num ns ∧ ns.length ≤ 60 * i)
      (env := [.val (.scr (nums cs)), .own [], .no, .no, .no, .no]) (S := S) ⟨rfl, [], .no, .no, .no, .no, rfl, fun x h => absurd h List.not_mem_nil, Nat.le_refl _⟩ ?_
  · obtain ⟨e, S1, he, rfl, ns, c2, c3, c4, c5, rfl, hn, hl⟩ := H
    have hT : List.take cs.length (List.map D.int cs) = List.map D.int cs := List.take_of_length_le (by simp)
    simp only [nums] at he
    by_cases h0 : ns = []
    · subst h0
      refine ⟨[0], fun x hx => ?_, by simp, fnD_rt rfl (en1 := [.val (.scr (nums cs)), .val (.lst (nums [0])), c2, c3, c4, c5]) ?_⟩
      · rw [List.mem_singleton.mp hx]; omega
      · simp at he
        simp [b__law_stream, slD, cut, sIx, pSo, hc, hT, he, sApp, frz]
    · refine ⟨ns, hn, h0, fnD_rt rfl (en1 := [.val (.scr (nums cs)), .val (.lst (nums ns)), c2, c3, c4, c5]) ?_⟩
      simp [b__law_stream, slD, cut, sIx, pSo, hc, hT, he, sApp, frz, h0]
  · rintro i d env S1 hd ⟨rfl, ns, c2, c3, c4, c5, rfl, hn, hl⟩
    have hi : i < cs.length := by
      have := (List.getElem?_eq_some_iff.mp hd).1
      rwa [List.length_map] at this
    obtain ⟨r, rfl⟩ : ∃ r, d = .int r := by
      rw [List.getElem?_map] at hd
      cases h : cs[i]? with
      | none => rw [h] at hd; cases hd
      | some r => rw [h] at hd; exact ⟨r, (Option.some.inj hd).symm⟩
    have hl2 : ns.length + 60 < LN := by unfold LN; omega
    refine ⟨_, put_nm, ?_⟩
    by_cases hr : 10 ^ 18 ≤ r
    · obtain ⟨e, S2, h1, rfl, ns', r', c4', rfl, h3, h4, -⟩ := inner (.val (.int r)) c4 c5 (.scr (nums cs)) r ns hn hl2
      refine ⟨_, S2, .inl ?_, rfl, ns', .val (.int r), .val (.int r'), c4', c5, rfl, h3, by rw [Nat.mul_succ]; omega⟩
      have hr' : (1000000000000000000 : Int) ≤ r := by omega
      simp [b__law_stream_3, powD, hr', h1]
    · obtain ⟨e, S2, h1, rfl, ns', r', c4', rfl, h3, h4, -⟩ := inner2 (.val (.int r)) (.val (.int r)) c4 (.scr (nums cs)) (r % 2147483647) ns hn hl2 (by omega) (by omega)
      refine ⟨_, S2, .inl ?_, rfl, ns', .val (.int r), .val (.int r), c4', .val (.int r'), rfl, h3, by rw [Nat.mul_succ]; omega⟩
      have hr' : ¬ (1000000000000000000 : Int) ≤ r := by omega
      have hm : modD (.int r) (.int 2147483647) = some (.int (r % 2147483647)) := modD_ok (by omega)
      simp [b__law_stream_3, powD, hr', h1, hm]
end Ks

set_option linter.all false
set_option maxRecDepth 100000
namespace Ks
open Kb PySem
/-- what the law picks -/
def pk (ns : List Int) (a m : Int) : Int := ns.getD (a % ns.length).toNat 0 % m
theorem pk_0 {ns : List Int} {a m : Int} (hm : 0 < m) : 0 ≤ pk ns a m := Int.emod_nonneg _ (by omega)
theorem pk_1 {ns : List Int} {a m : Int} (hm : 0 < m) : pk ns a m < m := Int.emod_lt_of_pos _ hm
theorem pick_ev {ns : List Int} {a m : Int} (h : ns ≠ []) (hm : 0 < m) (S : Store) : d__law_pick [.lst (nums ns), .int a, .int m] S = .ok (.int (pk ns a m)) S := by
  have hl : 0 < ns.length := List.length_pos_iff.mpr h
  have h1 : modD (.int a) (.int ns.length) = some (.int (a % ns.length)) := modD_ok (by omega)
  have h0 : 0 ≤ a % ns.length := Int.emod_nonneg _ (by omega)
  have h2 : a % ns.length < ns.length := Int.emod_lt_of_pos _ (by omega)
  have hk : (a % ns.length).toNat < ns.length := by omega
  have h3 : ixD (.lst (nums ns)) (.int (a % ns.length)) = some (.int (ns.getD (a % ns.length).toNat 0)) := by
    have := ixD_lst (xs := nums ns) (k := (a % ns.length).toNat) (x := .int (ns.getD (a % ns.length).toNat 0)) (by
      rw [List.getElem?_map, List.getElem?_eq_getElem hk, List.getD_eq_getElem?_getD, List.getElem?_eq_getElem hk]; rfl)
    rwa [Int.toNat_of_nonneg h0] at this
  have h4 : ∀ y, modD (.int y) (.int m) = some (.int (y % m)) := fun y => modD_ok hm
  refine fnD_rt rfl (en1 := [.val (.lst (nums ns)), .val (.int a), .val (.int m)]) ?_
  simp at h3
  simp [b__law_pick, h1, h3, h4, pk]
theorem pow_le {b i j : Nat} (h : i ≤ j) (hb : 0 < b) : ((b : Nat) : Int) ^ i ≤ ((b : Nat) : Int) ^ j := by
  have := Nat.pow_le_pow_right hb h
  exact_mod_cast this
/-- an int of the law is small -/
theorem int_ev {ns : List Int} (hN : Num ns) (h : ns ≠ []) (a : Int) (S : Store) : ∃ v : Int, v.natAbs < 2 ^ 120 ∧ d__law_int [.lst (nums ns), .int a] S = .ok (.int v) S := by
  have H := fnD_wp (n := 2) (k := 4) (b := b__law_int) (ds := [.lst (nums ns), .int a]) (S := S) (Q := fun d S1 => S1 = S ∧ ∃ v : Int, v.natAbs < 2 ^ 120 ∧ d = .int v) rfl ?_
  · obtain ⟨d, S1, h1, rfl, v, h2, rfl⟩ := H
    exact ⟨v, h2, h1⟩
  have hp : ∀ (b m : Int), 0 < m → d__law_pick [.lst (nums ns), .int b, .int m] S = .ok (.int (pk ns b m)) S := fun b m hm => pick_ev h hm S
  simp only [nums] at hp
  obtain ⟨w, hw, w0, w1⟩ : ∃ w, pk ns a 6 = w ∧ 0 ≤ w ∧ w < 6 := ⟨_, rfl, pk_0 (by omega), pk_1 (by omega)⟩
  obtain ⟨g, hg, g0⟩ : ∃ g, ixD (.lst [.int 1, .int (-1)]) (.int (pk ns (a + 1) 2)) = some (.int g) ∧ (g = 1 ∨ g = -1) := by
    have h0 := pk_0 (ns := ns) (a := a + 1) (m := 2) (by omega)
    have h1 := pk_1 (ns := ns) (a := a + 1) (m := 2) (by omega)
    generalize pk ns (a + 1) 2 = z at h0 h1
    rcases (by omega : z = 0 ∨ z = 1) with rfl | rfl
    · exact ⟨1, rfl, .inl rfl⟩
    · exact ⟨-1, rfl, .inr rfl⟩
  have bg : bit g ≤ 1 := by rcases g0 with rfl | rfl <;> exact bit_lt (by decide)
  have hp6 := hp a 6 (by omega)
  have hp2 := hp (a + 1) 2 (by omega)
  have hp4 := hp (a + 2) 4 (by omega)
  have hp12 := hp (a + 2) 12 (by omega)
  rw [hw] at hp6
  obtain ⟨q, hq, q0⟩ : ∃ q, ixD (.lst [.int 0, .int 1, .int (-1), .int 2]) (.int (pk ns (a + 2) 4)) = some (.int q) ∧ q.natAbs < 2 ^ 120 := by
    have h0 := pk_0 (ns := ns) (a := a + 2) (m := 4) (by omega)
    have h1 := pk_1 (ns := ns) (a := a + 2) (m := 4) (by omega)
    generalize pk ns (a + 2) 4 = z at h0 h1
    rcases (by omega : z = 0 ∨ z = 1 ∨ z = 2 ∨ z = 3) with rfl | rfl | rfl | rfl
    · exact ⟨0, rfl, by omega⟩
    · exact ⟨1, rfl, by omega⟩
    · exact ⟨-1, rfl, by omega⟩
    · exact ⟨2, rfl, by omega⟩
  by_cases hw0 : w = 0
  · subst hw0
    simp [b__law_int, hp6, hp2, hg, hp4, hq]
    omega
  by_cases hw4 : w < 4
  · obtain ⟨m, hm, m0, m1⟩ : ∃ m, ixD (.lst [.int 12, .int 60, .int 1009]) (.int (w - 1)) = some (.int m) ∧ 0 < m ∧ m ≤ 1009 := by
      rcases (by omega : w = 1 ∨ w = 2 ∨ w = 3) with rfl | rfl | rfl
      · exact ⟨12, rfl, by omega, by omega⟩
      · exact ⟨60, rfl, by omega, by omega⟩
      · exact ⟨1009, rfl, by omega, by omega⟩
    have h0 := pk_0 (ns := ns) (a := a + 2) m0
    have h1 := pk_1 (ns := ns) (a := a + 2) m0
    have hpm := hp (a + 2) m m0
    generalize pk ns (a + 2) m = z at h0 h1 hpm
    have bz : bit z ≤ 10 := bit_small h0 (by omega)
    have hmul : mulI (.int g) (.int z) = some (.int (g * z)) := mulI_ok (by omega)
    simp [b__law_int, hp6, hp2, hg, hw0, hw4, hm, hpm, hmul]
    rcases g0 with rfl | rfl <;> omega
  · have h0 := pk_0 (ns := ns) (a := a + 2) (m := 12) (by omega)
    have h1 := pk_1 (ns := ns) (a := a + 2) (m := 12) (by omega)
    generalize pk ns (a + 2) 12 = c at h0 h1 hp12
    have hr : rng1D [.int (1 + c)] = some (rngI 0 (1 + c).toNat) := rng1_ok (by omega) (by omega)
    simp [b__law_int, hp6, hp2, hg, hw0, hw4, hp12, hr]
    refine wp_bind (wp_rng (fun i e S1 => S1 = S ∧ ∃ (v : Int) (s5 : Slot), e = [.val (.lst (nums ns)), .val (.int a), .val (.int w), .val (.int g), .val (.int v), s5] ∧ 0 ≤ v ∧ v < 1009 ^ i) ⟨rfl, 0, .no, rfl, by omega, by omega⟩ ?_ ?_)
    · rintro i e S1 hi ⟨rfl, v, s5, rfl, v0, v1⟩
      have hv : (1009 : Int) ^ i ≤ 1009 ^ 12 := pow_le (b := 1009) (by omega) (by omega)
      have hb : bit v ≤ 120 := bit_small v0 (by omega)
      have b9 : bit 1009 ≤ 10 := bit_small (by omega) (by omega)
      have hmul : mulI (.int v) (.int 1009) = some (.int (v * 1009)) := mulI_ok (by omega)
      have z0 := pk_0 (ns := ns) (a := a + 3 + (i : Nat)) (m := 1009) (by omega)
      have z1 := pk_1 (ns := ns) (a := a + 3 + (i : Nat)) (m := 1009) (by omega)
      have hpz := hp (a + 3 + (i : Nat)) 1009 (by omega)
      generalize pk ns (a + 3 + (i : Nat)) 1009 = z at z0 z1 hpz
      simp [b__law_int_1, hmul, hpz]
      rw [Int.pow_succ]
      omega
    · rintro e S1 ⟨rfl, v, s5, rfl, v0, v1⟩
      have hv : (1009 : Int) ^ (1 + c).toNat ≤ 1009 ^ 12 := pow_le (b := 1009) (by omega) (by omega)
      have hb : bit v ≤ 120 := bit_small v0 (by omega)
      have hmul : mulI (.int g) (.int v) = some (.int (g * v)) := mulI_ok (by omega)
      simp [hmul]
      rcases g0 with rfl | rfl <;> omega
theorem gcd_ev (a b : Int) (hb : b.natAbs < 2 ^ 19000) (S : Store) : d__law_gcd [.int a, .int b] S = .ok (.int (Int.gcd a b)) S := by
  have loop : ∀ (k : Nat) (ds : List D) (x y : Nat) (s2 : Slot), y < 2 ^ k → 2 * k + 1 ≤ ds.length → ∃ s2', forGo (.nm 2) b__law_gcd_1 ds [.val (.int x), .val (.int y), s2] S = .ok .nx [.val (.int (Nat.gcd x y : Nat)), .val (.int 0), s2'] S := by
    have stop : ∀ (ds : List D) (x : Nat) (s2 : Slot), 1 ≤ ds.length → ∃ s2', forGo (.nm 2) b__law_gcd_1 ds [.val (.int x), .val (.int 0), s2] S = .ok .nx [.val (.int (x : Nat)), .val (.int 0), s2'] S := by
      intro ds x s2 hl
      obtain ⟨d, ds, rfl⟩ := List.exists_cons_of_length_pos (by omega : 0 < ds.length)
      refine ⟨.val d, ?_⟩
      simp [forGo, b__law_gcd_1]
    have one : ∀ (d : D) (ds : List D) (x y : Nat) (s2 : Slot), y ≠ 0 → forGo (.nm 2) b__law_gcd_1 (d :: ds) [.val (.int x), .val (.int y), s2] S = forGo (.nm 2) b__law_gcd_1 ds [.val (.int y), .val (.int ((x % y : Nat) : Int)), .val d] S := by
      intro d ds x y s2 hy
      have hm : modD (.int x) (.int y) = some (.int ((x % y : Nat) : Int)) := modD_ok (by omega)
      refine forGo_cons put_nm ?_
      simp [b__law_gcd_1, hy]
      rw [sPar_ev (x := .int y) (y := .int ((x % y : Nat) : Int)) (S1 := S) (by simp [hm])]
      simp
    intro k
    induction k with
    | zero =>
      intro ds x y s2 hy hl
      have : y = 0 := by omega
      subst this
      rw [Nat.gcd_zero_right]
      exact stop ds x s2 hl
    | succ k ih =>
      intro ds x y s2 hy hl
      by_cases h0 : y = 0
      · subst h0
        rw [Nat.gcd_zero_right]
        exact stop ds x s2 (by omega)
      · obtain ⟨d, ds, rfl⟩ := List.exists_cons_of_length_pos (by omega : 0 < ds.length)
        rw [List.length_cons] at hl
        rw [one d ds x y s2 h0]
        have hg : Nat.gcd x y = Nat.gcd y (x % y) := by rw [Nat.gcd_comm x y, Nat.gcd_rec y x]; exact Nat.gcd_comm _ _
        rw [hg]
        generalize hr : x % y = r
        have hr1 : r < y := by rw [← hr]; exact Nat.mod_lt x (by omega)
        by_cases h1 : r = 0
        · subst h1
          rw [Nat.gcd_zero_right]
          exact stop ds y _ (by omega)
        · obtain ⟨d', ds, rfl⟩ := List.exists_cons_of_length_pos (by omega : 0 < ds.length)
          rw [List.length_cons] at hl
          rw [one d' ds y r _ h1]
          have hg : Nat.gcd y r = Nat.gcd r (y % r) := by rw [Nat.gcd_comm y r, Nat.gcd_rec r y]; exact Nat.gcd_comm _ _
          rw [hg]
          refine ih ds r (y % r) _ ?_ (by omega)
          have h2 : y % r < r := Nat.mod_lt y (by omega)
          have h3 : y % r + r ≤ y := by
            have := Nat.div_add_mod y r
            have h4 : 1 ≤ y / r := (Nat.one_le_div_iff (by omega)).mpr (by omega)
            have h5 : r * 1 ≤ r * (y / r) := Nat.mul_le_mul_left r h4
            omega
          rw [Nat.pow_succ] at hy
          omega
  obtain ⟨s2', hl⟩ := loop 19000 (rngI 0 40000) a.natAbs b.natAbs .no hb (by rw [rngI_length]; omega)
  refine fnD_rt rfl (en1 := [.val (.int (Int.gcd a b)), .val (.int 0), s2']) ?_
  have ha : ∀ z : Int, (if z < 0 then -z else z) = (z.natAbs : Int) := fun z => by split <;> omega
  simp [b__law_gcd, ha, hl, Int.gcd]
end Ks

set_option linter.all false
set_option maxRecDepth 100000
namespace Ks
open Kb PySem
/-- a ratio as the text keeps it -/
def tR (q : Rat) : D := .tup [.int q.num, .int q.den]
/-- no more than k bits -/
structure Bd (k : Nat) (q : Rat) : Prop where
  n : q.num.natAbs < 2 ^ k
  d : q.den < 2 ^ k
theorem pow2_le {i j : Nat} (h : i ≤ j) : 2 ^ i ≤ 2 ^ j := Nat.pow_le_pow_right (by omega) h
theorem Bd.mono {k l : Nat} {q : Rat} (h : Bd k q) (hl : k ≤ l) : Bd l q := ⟨Nat.lt_of_lt_of_le h.n (pow2_le hl), Nat.lt_of_lt_of_le h.d (pow2_le hl)⟩
theorem mul_lt {a b k l : Nat} (ha : a < 2 ^ k) (hb : b < 2 ^ l) : a * b < 2 ^ (k + l) := by
  rw [Nat.pow_add]
  exact Nat.mul_lt_mul'' ha hb
theorem add_lt {a b k : Nat} (ha : a < 2 ^ k) (hb : b < 2 ^ k) : a + b < 2 ^ (k + 1) := by
  rw [Nat.pow_succ]; omega
theorem bd_div {n d : Int} {k : Nat} (hd : d ≠ 0) (h : n.natAbs < 2 ^ k) (h2 : d.natAbs < 2 ^ k) : Bd k (Rat.divInt n d) := by
  constructor
  · rw [Rat.num_divInt]
    refine Nat.lt_of_le_of_lt ?_ h
    refine Nat.le_trans (Int.natAbs_ediv_le_natAbs _ _) ?_
    rw [Int.natAbs_mul, Int.natAbs_sign_of_ne_zero hd, Nat.one_mul]
    exact Nat.le_refl _
  · rw [Rat.den_divInt, if_neg hd]
    exact Nat.lt_of_le_of_lt (Nat.div_le_self _ _) h2
theorem divInt_pos {n d : Int} (h : 0 < d) : (Rat.divInt n d).num = n / Int.gcd n d ∧ ((Rat.divInt n d).den : Int) = d / Int.gcd n d := by
  constructor
  · rw [Rat.num_divInt, Int.sign_eq_one_of_pos h, Int.one_mul, Int.gcd_comm]
  · rw [Rat.den_divInt, if_neg (by omega), Int.gcd_comm]
    rw [Int.natCast_ediv, Int.natAbs_of_nonneg (by omega)]
theorem gcd_pos {n d : Int} (h : 0 < d) : 0 < Int.gcd n d := Int.gcd_pos_of_ne_zero_right n (by omega)
theorem gcd_le {n d : Int} (h : 0 < d) : Int.gcd n d ≤ d.natAbs := Int.gcd_le_natAbs_right n (by omega)
theorem gcd_bit {n d : Int} (h : 0 < d) {k : Nat} (hk : d.natAbs < 2 ^ k) : bit (Int.gcd n d) ≤ k := bit_lt (Nat.lt_of_le_of_lt (gcd_le h) hk)
theorem ratio_pos {n d : Int} (h : 0 < d) (hk : d.natAbs < 2 ^ 8000) (S : Store) : d_ratio [.int n, .int d] S = .ok (tR (Rat.divInt n d)) S := by
  have g0 := gcd_pos (n := n) h
  have f : ∀ x, fdivD (.int x) (.int (Int.gcd n d)) = some (.int (x / Int.gcd n d)) := fun x => fdivD_ok (by omega) (by have := gcd_bit (n := n) h hk; omega)
  refine fnD_rt rfl (en1 := [.val (.int n), .val (.int d), .val (.int (Int.gcd n d))]) ?_
  have h1 : ¬ d < 0 := by omega
  have h2 : d ≠ 0 := by omega
  obtain ⟨e1, e2⟩ := divInt_pos (n := n) h
  simp [b_ratio, h1, h2, common_ev, f, tR, e1, e2]
theorem ratio_ev {n d : Int} (h : d ≠ 0) (hk : d.natAbs < 2 ^ 8000) (S : Store) : d_ratio [.int n, .int d] S = .ok (tR (Rat.divInt n d)) S := by
  by_cases h0 : 0 < d
  · exact ratio_pos h0 hk S
  · have hd : 0 < -d := by omega
    have g0 := gcd_pos (n := -n) hd
    have f : ∀ x, fdivD (.int x) (.int (Int.gcd (-n) (-d))) = some (.int (x / Int.gcd (-n) (-d))) := fun x => fdivD_ok (by omega) (by have := gcd_bit (n := -n) (k := 8000) hd (by omega); omega)
    refine fnD_rt rfl (en1 := [.val (.int (-n)), .val (.int (-d)), .val (.int (Int.gcd (-n) (-d)))]) ?_
    have h1 : d < 0 := by omega
    obtain ⟨e1, e2⟩ := divInt_pos (n := -n) hd
    rw [Rat.neg_divInt_neg] at e1 e2
    simp only [b_ratio]
    simp [h1, h, common_ev, f, tR, e1, e2] at *
    simp [h1, h, common_ev, f, tR, e1, e2] at *
theorem ratio_0 (n : Int) (S : Store) : d_ratio [.int n, .int 0] S = .exc "NotAllowed" S := by
  refine fnD_exc rfl (en1 := [.val (.int n), .val (.int 0), .no]) ?_
  simp [b_ratio]
theorem lratio_pos {n d : Int} (h : 0 < d) (hk : d.natAbs < 2 ^ 8000) (S : Store) : d__law_ratio [.int n, .int d] S = .ok (tR (Rat.divInt n d)) S := by
  have g0 := gcd_pos (n := n) h
  have f : ∀ x, fdivD (.int x) (.int (Int.gcd n d)) = some (.int (x / Int.gcd n d)) := fun x => fdivD_ok (by omega) (by have := gcd_bit (n := n) h hk; omega)
  refine fnD_rt rfl (en1 := [.val (.int n), .val (.int d), .val (.int (Int.gcd n d))]) ?_
  have h1 : ¬ d < 0 := by omega
  have h2 : d ≠ 0 := by omega
  obtain ⟨e1, e2⟩ := divInt_pos (n := n) h
  simp [b__law_ratio, h1, h2, gcd_ev n d (Nat.lt_of_lt_of_le hk (pow2_le (by omega))), f, tR, e1, e2]
theorem lratio_ev {n d : Int} (h : d ≠ 0) (hk : d.natAbs < 2 ^ 8000) (S : Store) : d__law_ratio [.int n, .int d] S = .ok (tR (Rat.divInt n d)) S := by
  by_cases h0 : 0 < d
  · exact lratio_pos h0 hk S
  · have hd : 0 < 0 - d := by omega
    have g0 := gcd_pos (n := 0 - n) hd
    have hk' : (0 - d).natAbs < 2 ^ 8000 := by rw [Int.zero_sub, Int.natAbs_neg]; exact hk
    have f : ∀ x, fdivD (.int x) (.int (Int.gcd (0 - n) (0 - d))) = some (.int (x / Int.gcd (0 - n) (0 - d))) := fun x => fdivD_ok (by omega) (by have := gcd_bit (n := 0 - n) (k := 8000) hd hk'; omega)
    have h1 : d < 0 := by omega
    obtain ⟨e1, e2⟩ := divInt_pos (n := 0 - n) hd
    have e0 : Rat.divInt (0 - n) (0 - d) = Rat.divInt n d := by rw [Int.zero_sub, Int.zero_sub, Rat.neg_divInt_neg]
    rw [e0] at e1 e2
    have gg := gcd_ev (0 - n) (0 - d) (Nat.lt_of_lt_of_le hk' (pow2_le (by omega))) S
    refine fnD_rt rfl (en1 := [.val (.int (0 - n)), .val (.int (0 - d)), .val (.int (Int.gcd (0 - n) (0 - d)))]) ?_
    simp only [tR, e1, e2]
    simp only [Int.zero_sub, Int.neg_gcd, Int.gcd_neg] at f gg ⊢
    simp [b__law_ratio, h1, gg, f]
end Ks

set_option linter.all false
set_option maxRecDepth 100000
namespace Ks
open Kb PySem
theorem den_pos (q : Rat) : 0 < q.den := Nat.pos_of_ne_zero q.den_nz
theorem den_ne (q : Rat) : (q.den : Int) ≠ 0 := by have := den_pos q; omega
theorem add_divInt (a b : Rat) : Rat.divInt (a.num * b.den + b.num * a.den) (a.den * b.den) = a + b := by
  rw [← Rat.divInt_add_divInt _ _ (den_ne a) (den_ne b), Rat.num_divInt_den, Rat.num_divInt_den]
theorem mul_divInt (a b : Rat) : Rat.divInt (a.num * b.num) (a.den * b.den) = a * b := by
  rw [← Rat.divInt_mul_divInt, Rat.num_divInt_den, Rat.num_divInt_den]
theorem div_divInt (a b : Rat) : Rat.divInt (a.num * b.den) (a.den * b.num) = a / b := by
  rw [← Rat.divInt_mul_divInt, Rat.num_divInt_den, Rat.div_def, Rat.inv_def]
@[simp] theorem ix0 (q : Rat) : ixD (tR q) (.int 0) = some (.int q.num) := ixD_t0
@[simp] theorem ix1 (q : Rat) : ixD (tR q) (.int 1) = some (.int q.den) := ixD_t1
theorem Bd.bn {k : Nat} {q : Rat} (h : Bd k q) : bit q.num ≤ k := bit_lt h.n
theorem Bd.bd {k : Nat} {q : Rat} (h : Bd k q) : bit q.den ≤ k := bit_lt (by have := h.d; simpa using this)
theorem Bd.add {k l : Nat} {a b : Rat} (ha : Bd k a) (hb : Bd l b) : Bd (k + l + 1) (a + b) := by
  rw [← add_divInt]
  refine bd_div ?_ ?_ ?_
  · exact Int.mul_ne_zero (den_ne a) (den_ne b)
  · have h1 : (a.num * b.den).natAbs < 2 ^ (k + l) := by rw [Int.natAbs_mul]; exact mul_lt ha.n (by have := hb.d; simpa using this)
    have h2 : (b.num * a.den).natAbs < 2 ^ (k + l) := by rw [Int.natAbs_mul, Nat.add_comm k l]; exact mul_lt hb.n (by have := ha.d; simpa using this)
    have := add_lt h1 h2
    exact Nat.lt_of_le_of_lt (Int.natAbs_add_le _ _) this
  · have h1 : ((a.den : Int) * b.den).natAbs < 2 ^ (k + l) := by rw [Int.natAbs_mul]; exact mul_lt (by have := ha.d; simpa using this) (by have := hb.d; simpa using this)
    exact Nat.lt_of_lt_of_le h1 (pow2_le (by omega))
theorem Bd.mul {k l : Nat} {a b : Rat} (ha : Bd k a) (hb : Bd l b) : Bd (k + l) (a * b) := by
  rw [← mul_divInt]
  refine bd_div ?_ ?_ ?_
  · exact Int.mul_ne_zero (den_ne a) (den_ne b)
  · rw [Int.natAbs_mul]; exact mul_lt ha.n hb.n
  · rw [Int.natAbs_mul]; exact mul_lt (by have := ha.d; simpa using this) (by have := hb.d; simpa using this)
theorem num_ne {b : Rat} (h : b ≠ 0) : b.num ≠ 0 := fun e => h (Rat.num_eq_zero.mp e)
theorem Bd.div {k l : Nat} {a b : Rat} (ha : Bd k a) (hb : Bd l b) (h0 : b ≠ 0) : Bd (k + l) (a / b) := by
  rw [← div_divInt]
  refine bd_div ?_ ?_ ?_
  · exact Int.mul_ne_zero (den_ne a) (num_ne h0)
  · rw [Int.natAbs_mul]; exact mul_lt ha.n (by have := hb.d; simpa using this)
  · rw [Int.natAbs_mul]; exact mul_lt (by have := ha.d; simpa using this) hb.n
theorem Bd.neg {k : Nat} {a : Rat} (ha : Bd k a) : Bd k (-a) := ⟨by rw [Rat.neg_num, Int.natAbs_neg]; exact ha.n, by rw [Rat.neg_den]; exact ha.d⟩
theorem Bd.sub {k l : Nat} {a b : Rat} (ha : Bd k a) (hb : Bd l b) : Bd (k + l + 1) (a - b) := by
  rw [Rat.sub_eq_add_neg]
  exact ha.add hb.neg
theorem Bd.int {k : Nat} {n : Int} (h : n.natAbs < 2 ^ k) (hk : 1 ≤ k) : Bd k (n : Rat) := ⟨by rw [Rat.num_intCast]; exact h, by rw [Rat.den_intCast]; exact Nat.lt_of_lt_of_le (by omega : 1 < 2 ^ 1) (pow2_le hk)⟩
theorem tR_int (n : Int) : (.tup [.int n, .int 1] : D) = tR n := by
  unfold tR
  rw [Rat.num_intCast, Rat.den_intCast]
  rfl
theorem ofint_ev (n : Int) (S : Store) : d_of_int [.int n] S = .ok (tR n) S := by rw [of_int_ev, tR_int]
theorem dd_lt {k l : Nat} {a b : Rat} (ha : Bd k a) (hb : Bd l b) (h : k + l ≤ 8000) : ((a.den : Int) * b.den).natAbs < 2 ^ 8000 := by
  have h1 : ((a.den : Int) * b.den).natAbs < 2 ^ (k + l) := by rw [Int.natAbs_mul]; exact mul_lt (by have := ha.d; simpa using this) (by have := hb.d; simpa using this)
  exact Nat.lt_of_lt_of_le h1 (pow2_le h)
theorem dn_lt {k l : Nat} {a b : Rat} (ha : Bd k a) (hb : Bd l b) (h : k + l ≤ 8000) : ((a.den : Int) * b.num).natAbs < 2 ^ 8000 := by
  have h1 : ((a.den : Int) * b.num).natAbs < 2 ^ (k + l) := by rw [Int.natAbs_mul]; exact mul_lt (by have := ha.d; simpa using this) hb.n
  exact Nat.lt_of_lt_of_le h1 (pow2_le h)
theorem plus_ev {k l : Nat} {a b : Rat} (ha : Bd k a) (hb : Bd l b) (h : k + l ≤ 8000) (S : Store) : d_plus [tR a, tR b] S = .ok (tR (a + b)) S := by
  have m1 : mulI (.int a.num) (.int b.den) = some (.int (a.num * b.den)) := mulI_ok (by have := ha.bn; have := hb.bd; omega)
  have m2 : mulI (.int b.num) (.int a.den) = some (.int (b.num * a.den)) := mulI_ok (by have := hb.bn; have := ha.bd; omega)
  have m3 : mulI (.int a.den) (.int b.den) = some (.int (a.den * b.den)) := mulI_ok (by have := ha.bd; have := hb.bd; omega)
  refine fnD_rt rfl (en1 := [.val (tR a), .val (tR b)]) ?_
  simp [b_plus, m1, m2, m3, ratio_ev (Int.mul_ne_zero (den_ne a) (den_ne b)) (dd_lt ha hb h), add_divInt]
theorem lplus_ev {k l : Nat} {a b : Rat} (ha : Bd k a) (hb : Bd l b) (h : k + l ≤ 8000) (S : Store) : d__law_plus [tR a, tR b] S = .ok (tR (a + b)) S := by
  have m1 : mulI (.int a.num) (.int b.den) = some (.int (a.num * b.den)) := mulI_ok (by have := ha.bn; have := hb.bd; omega)
  have m2 : mulI (.int b.num) (.int a.den) = some (.int (b.num * a.den)) := mulI_ok (by have := hb.bn; have := ha.bd; omega)
  have m3 : mulI (.int a.den) (.int b.den) = some (.int (a.den * b.den)) := mulI_ok (by have := ha.bd; have := hb.bd; omega)
  refine fnD_rt rfl (en1 := [.val (tR a), .val (tR b)]) ?_
  simp [b__law_plus, m1, m2, m3, lratio_pos (n := a.num * b.den + b.num * a.den) (Int.mul_pos (by have := den_pos a; omega : (0 : Int) < a.den) (by have := den_pos b; omega : (0 : Int) < b.den)) (dd_lt ha hb h), add_divInt]
theorem times_ev {k l : Nat} {a b : Rat} (ha : Bd k a) (hb : Bd l b) (h : k + l ≤ 8000) (S : Store) : d_times [tR a, tR b] S = .ok (tR (a * b)) S := by
  have m1 : mulI (.int a.num) (.int b.num) = some (.int (a.num * b.num)) := mulI_ok (by have := ha.bn; have := hb.bn; omega)
  have m3 : mulI (.int a.den) (.int b.den) = some (.int (a.den * b.den)) := mulI_ok (by have := ha.bd; have := hb.bd; omega)
  refine fnD_rt rfl (en1 := [.val (tR a), .val (tR b)]) ?_
  simp [b_times, m1, m3, ratio_ev (Int.mul_ne_zero (den_ne a) (den_ne b)) (dd_lt ha hb h), mul_divInt]
theorem ltimes_ev {k l : Nat} {a b : Rat} (ha : Bd k a) (hb : Bd l b) (h : k + l ≤ 8000) (S : Store) : d__law_times [tR a, tR b] S = .ok (tR (a * b)) S := by
  have m1 : mulI (.int a.num) (.int b.num) = some (.int (a.num * b.num)) := mulI_ok (by have := ha.bn; have := hb.bn; omega)
  have m3 : mulI (.int a.den) (.int b.den) = some (.int (a.den * b.den)) := mulI_ok (by have := ha.bd; have := hb.bd; omega)
  refine fnD_rt rfl (en1 := [.val (tR a), .val (tR b)]) ?_
  simp [b__law_times, m1, m3, lratio_pos (n := a.num * b.num) (Int.mul_pos (by have := den_pos a; omega : (0 : Int) < a.den) (by have := den_pos b; omega : (0 : Int) < b.den)) (dd_lt ha hb h), mul_divInt]
theorem over_ev {k l : Nat} {a b : Rat} (ha : Bd k a) (hb : Bd l b) (h : k + l ≤ 8000) (h0 : b ≠ 0) (S : Store) : d_over [tR a, tR b] S = .ok (tR (a / b)) S := by
  have m1 : mulI (.int a.num) (.int b.den) = some (.int (a.num * b.den)) := mulI_ok (by have := ha.bn; have := hb.bd; omega)
  have m3 : mulI (.int a.den) (.int b.num) = some (.int (a.den * b.num)) := mulI_ok (by have := ha.bd; have := hb.bn; omega)
  refine fnD_rt rfl (en1 := [.val (tR a), .val (tR b)]) ?_
  simp [b_over, m1, m3, ratio_ev (Int.mul_ne_zero (den_ne a) (num_ne h0)) (dn_lt ha hb h), div_divInt]
theorem over_0 {k : Nat} {a : Rat} (ha : Bd k a) (h : k ≤ 8000) (S : Store) : d_over [tR a, tR 0] S = .exc "NotAllowed" S := by
  have m1 : mulI (.int a.num) (.int 1) = some (.int (a.num * 1)) := mulI_ok (by have := ha.bn; have : bit 1 ≤ 1 := bit_lt (by decide); omega)
  have m3 : mulI (.int a.den) (.int 0) = some (.int (a.den * 0)) := mulI_ok (by have := ha.bd; have : bit 0 ≤ 1 := bit_lt (by decide); omega)
  refine fnD_exc rfl (en1 := [.val (tR a), .val (tR 0)]) ?_
  have e0 : (0 : Rat).num = 0 := rfl
  have e1 : (0 : Rat).den = 1 := rfl
  simp at m1 m3
  simp [b_over, e0, e1, m1, m3, ratio_0]
theorem negated_ev (a : Rat) (S : Store) : d_negated [tR a] S = .ok (tR (-a)) S := by
  refine fnD_rt rfl (en1 := [.val (tR a)]) ?_
  simp [b_negated]
  simp [tR]
theorem minus_ev {k l : Nat} {a b : Rat} (ha : Bd k a) (hb : Bd l b) (h : k + l ≤ 8000) (S : Store) : d_minus [tR a, tR b] S = .ok (tR (a - b)) S := by
  refine fnD_rt rfl (en1 := [.val (tR a), .val (tR b)]) ?_
  simp [b_minus, negated_ev, plus_ev ha hb.neg h, Rat.sub_eq_add_neg]
/-- 1, 0, -1 -/
def sgn (i : Int) : Int := if i = 0 then 0 else if 0 < i then 1 else -1
theorem sign_ev (i j : Int) (S : Store) : d_sign_of [.tup [.int i, .int j]] S = .ok (.int (sgn i)) S := by
  refine fnD_rt rfl (en1 := [.val (.tup [.int i, .int j])]) ?_
  by_cases h0 : i = 0
  · subst h0; simp [b_sign_of, sgn]
  · by_cases h1 : 0 < i
    · simp [b_sign_of, sgn, h0, h1]
    · simp [b_sign_of, sgn, h0, h1]
theorem signR_ev (a : Rat) (S : Store) : d_sign_of [tR a] S = .ok (.int (sgn a.num)) S := sign_ev _ _ S
theorem compare_ev {k l : Nat} {a b : Rat} (ha : Bd k a) (hb : Bd l b) (h : k + l ≤ 8000) (S : Store) : d_compare [tR a, tR b] S = .ok (.int (sgn (a.num * b.den - b.num * a.den))) S := by
  have m1 : mulI (.int a.num) (.int b.den) = some (.int (a.num * b.den)) := mulI_ok (by have := ha.bn; have := hb.bd; omega)
  have m2 : mulI (.int b.num) (.int a.den) = some (.int (b.num * a.den)) := mulI_ok (by have := hb.bn; have := ha.bd; omega)
  refine fnD_rt rfl (en1 := [.val (tR a), .val (tR b)]) ?_
  simp [b_compare, m1, m2, sign_ev]
theorem floor_ev {k : Nat} {a : Rat} (ha : Bd k a) (h : k ≤ 8000) (S : Store) : d_floor_of [tR a] S = .ok (.int (a.num / a.den)) S := by
  have m1 : fdivD (.int a.num) (.int a.den) = some (.int (a.num / a.den)) := fdivD_ok (by have := den_pos a; omega) (by have := ha.bd; omega)
  refine fnD_rt rfl (en1 := [.val (tR a)]) ?_
  simp [b_floor_of, m1]
theorem isratio_ev (i j : Int) (S : Store) : d_is_ratio [.tup [.int i, .int j]] S = .ok (.bl (decide (1 ≤ j) && (Int.gcd i j : Int) == 1)) S := by
  refine fnD_rt rfl (en1 := [.val (.tup [.int i, .int j])]) ?_
  by_cases h0 : 1 ≤ j
  · simp [b_is_ratio, common_ev, h0]
  · simp [b_is_ratio, common_ev, h0]
theorem cmp_lt (a b : Rat) : sgn (a.num * b.den - b.num * a.den) = if a < b then -1 else if b < a then 1 else 0 := by
  simp only [Rat.lt_iff]
  unfold sgn
  repeat' split
  all_goals omega
theorem gcd_red (q : Rat) : Int.gcd q.num q.den = 1 := q.reduced
theorem cross {n d : Int} (h : d ≠ 0) : (Rat.divInt n d).num * d = n * (Rat.divInt n d).den := by
  have h1 := Rat.num_divInt_den (Rat.divInt n d)
  exact (Rat.divInt_eq_divInt_iff (den_ne _) h).mp h1
theorem den_lt {k : Nat} {q : Rat} (h : Bd k q) (hk : k ≤ 19000) : ((q.den : Int)).natAbs < 2 ^ 19000 := by
  have := h.d
  rw [Int.natAbs_natCast]
  exact Nat.lt_of_lt_of_le this (pow2_le hk)
theorem floor_divInt {n d : Int} (h : 0 < d) : (Rat.divInt n d).num / (Rat.divInt n d).den = n / d := by
  have hc := cross (n := n) (d := d) (by omega)
  have hp : (0 : Int) < (Rat.divInt n d).den := by have := den_pos (Rat.divInt n d); omega
  generalize Rat.divInt n d = q at hc hp
  rw [← Int.mul_ediv_mul_of_pos_left q.num q.den h, hc, Int.mul_comm (q.den : Int) d]
  exact Int.mul_ediv_mul_of_pos_left n d hp
end Ks

set_option linter.all false
set_option maxRecDepth 100000
namespace Ks
open Kb PySem
/-- a row of ratios -/
def tL (xs : List Rat) : D := .tup (xs.map tR)
/-- all within k bits -/
def BdL (k : Nat) (xs : List Rat) : Prop := ∀ x ∈ xs, Bd k x
theorem BdL.at {k : Nat} {xs : List Rat} {i : Nat} {x : Rat} (h : BdL k xs) (e : xs[i]? = some x) : Bd k x := h x (List.mem_of_getElem? e)
theorem BdL.mono {k l : Nat} {xs : List Rat} (h : BdL k xs) (hl : k ≤ l) : BdL l xs := fun x hx => (h x hx).mono hl
theorem tL_at {xs : List Rat} {i : Nat} {d : D} (h : (xs.map tR)[i]? = some d) : ∃ x, xs[i]? = some x ∧ d = tR x := by
  rw [List.getElem?_map] at h
  cases e : xs[i]? with
  | none => rw [e] at h; cases h
  | some x => rw [e] at h; exact ⟨x, rfl, (Option.some.inj h).symm⟩
@[simp] theorem len_tL {xs : List Rat} : lenD [tL xs] = some (.int xs.length) := by
  show lenD [.tup (xs.map tR)] = _
  rw [lenD_tup, List.length_map]
theorem widths_ok {xs ys : List Rat} (h : xs.length = ys.length) (S : Store) : d_check_widths [tL xs, tL ys] S = .ok .non S := by
  refine fnD_nx rfl (en1 := [.val (tL xs), .val (tL ys)]) ?_
  simp [b_check_widths, h]
theorem widths_no {xs ys : List Rat} (h : xs.length ≠ ys.length) (S : Store) : d_check_widths [tL xs, tL ys] S = .exc "NotAllowed" S := by
  refine fnD_exc rfl (en1 := [.val (tL xs), .val (tL ys)]) ?_
  have : ¬ ((xs.length : Int) = ys.length) := by omega
  simp [b_check_widths, this]
@[simp] theorem zip_tL {xs ys : List Rat} : zipD [tL xs, tL ys] = some (zipL (xs.map tR) (ys.map tR)) := (rfl)
theorem zip_at {xs ys : List Rat} {i : Nat} {d : D} (h : (zipL (xs.map tR) (ys.map tR))[i]? = some d) : ∃ x y, xs[i]? = some x ∧ ys[i]? = some y ∧ d = .tup [tR x, tR y] := by
  unfold zipL at h
  rw [List.getElem?_zipWith] at h
  cases e1 : (xs.map tR)[i]? with
  | none => rw [e1] at h; cases h
  | some x =>
    cases e2 : (ys.map tR)[i]? with
    | none => rw [e1, e2] at h; cases h
    | some y =>
      rw [e1, e2] at h
      obtain ⟨x', h1, rfl⟩ := tL_at e1
      obtain ⟨y', h2, rfl⟩ := tL_at e2
      exact ⟨x', y', h1, h2, (Option.some.inj h).symm⟩
theorem zip_len {xs ys : List Rat} : (zipL (xs.map tR) (ys.map tR)).length = min xs.length ys.length := by
  unfold zipL
  rw [List.length_zipWith, List.length_map, List.length_map]
@[simp] theorem put_2 {i j : Nat} {x y : D} {env : Kb.Env} : (Tg.tp [.nm i, .nm j]).put (.tup [x, y]) env = some ((env.set i (.val x)).set j (.val y)) := (rfl)
@[simp] theorem tupleD_lt {xs : List Rat} : tupleD [.lst (xs.map tR)] = some (tL xs) := (rfl)
theorem addrows_ev {k l : Nat} {xs ys : List Rat} (hx : BdL k xs) (hy : BdL l ys) (h : xs.length = ys.length) (hk : k + l ≤ 8000) (hn : xs.length ≤ LN) (S : Store) : d_add_rows [tL xs, tL ys] S = .ok (tL (List.zipWith (· + ·) xs ys)) S := by
  refine fnD_rt rfl (en1 := [.val (tL xs), .val (tL ys), .no, .no]) ?_
  have hl : l_add_rows_1 [.val (tL xs), .val (tL ys), .no, .no] S = .ok ((List.zipWith (· + ·) xs ys).map tR) S := by
    refine eLc_of (ds := zipL (xs.map tR) (ys.map tR)) (S1 := S) (by simp) (lcGo_idx (es := (List.zipWith (· + ·) xs ys).map tR) [] ?_ ?_ ?_)
    · rw [zip_len, List.length_map, List.length_zipWith]
    · intro i d hd
      obtain ⟨x, y, h1, h2, rfl⟩ := zip_at hd
      refine ⟨_, tR (x + y), put_2, rfl, ?_, ?_⟩
      · simp [plus_ev (hx.at h1) (hy.at h2) hk]
      · rw [List.getElem?_map, List.getElem?_zipWith, h1, h2]; rfl
    · rw [zip_len]; simp; omega
  simp [b_add_rows, widths_ok h, hl]
  simp [tL]
theorem addrows_no {xs ys : List Rat} (h : xs.length ≠ ys.length) (S : Store) : d_add_rows [tL xs, tL ys] S = .exc "NotAllowed" S := by
  refine fnD_exc rfl (en1 := [.val (tL xs), .val (tL ys), .no, .no]) ?_
  simp [b_add_rows, widths_no h]
theorem BdL.add {k l : Nat} {xs ys : List Rat} (hx : BdL k xs) (hy : BdL l ys) : BdL (k + l + 1) (List.zipWith (· + ·) xs ys) := by
  intro z hz
  obtain ⟨i, hi⟩ := List.getElem?_of_mem hz
  rw [List.getElem?_zipWith] at hi
  cases e1 : xs[i]? with
  | none => rw [e1] at hi; cases hi
  | some x =>
    cases e2 : ys[i]? with
    | none => rw [e1, e2] at hi; cases hi
    | some y =>
      rw [e1, e2] at hi
      cases hi
      exact (hx.at e1).add (hy.at e2)
theorem BdL.scale {k l : Nat} {f : Rat} {xs : List Rat} (hf : Bd k f) (hx : BdL l xs) : BdL (k + l) (xs.map (f * ·)) := by
  intro z hz
  obtain ⟨x, h1, rfl⟩ := List.mem_map.mp hz
  exact hf.mul (hx x h1)
@[simp] theorem seq_tL {xs : List Rat} : seqD (tL xs) = some (xs.map tR) := (rfl)
theorem scale_ev {k l : Nat} {f : Rat} {xs : List Rat} (hf : Bd k f) (hx : BdL l xs) (hk : k + l ≤ 8000) (hn : xs.length ≤ LN) (S : Store) : d_scale_row [tR f, tL xs] S = .ok (tL (xs.map (f * ·))) S := by
  refine fnD_rt rfl (en1 := [.val (tR f), .val (tL xs), .no]) ?_
  have hl : l_scale_row_1 [.val (tR f), .val (tL xs), .no] S = .ok ((xs.map (f * ·)).map tR) S := by
    refine eLc_of (ds := xs.map tR) (S1 := S) (by simp) (lcGo_idx (es := (xs.map (f * ·)).map tR) [] ?_ ?_ ?_)
    · simp
    · intro i d hd
      obtain ⟨x, h1, rfl⟩ := tL_at hd
      refine ⟨_, tR (f * x), put_nm, rfl, ?_, ?_⟩
      · simp [times_ev hf (hx.at h1) hk]
      · rw [List.getElem?_map, List.getElem?_map, h1]; rfl
    · simp; omega
  simp [b_scale_row, hl]
  simp [tL]
/-- the sum of the products -/
def dot : List Rat → List Rat → Rat
  | x :: xs, y :: ys => x * y + dot xs ys
  | _, _ => 0
/-- .. from the front -/
def dotF (t : Rat) : List Rat → List Rat → Rat
  | x :: xs, y :: ys => dotF (t + x * y) xs ys
  | _, _ => t
theorem dotF_eq : ∀ (t : Rat) (xs ys : List Rat), dotF t xs ys = t + dot xs ys
  | t, x :: xs, y :: ys => by rw [dotF, dot, dotF_eq]; grind
  | t, [], ys => by rw [dotF.eq_def, dot.eq_def]; simp [Rat.add_zero]
  | t, x :: xs, [] => by rw [dotF.eq_def, dot.eq_def]; simp [Rat.add_zero]
theorem BdD {k l n : Nat} : ∀ {xs ys : List Rat} {t : Rat}, Bd n t → BdL k xs → BdL l ys → Bd (n + xs.length * (k + l + 1)) (dotF t xs ys)
  | x :: xs, y :: ys, t, ht, hx, hy => by
    have h1 := ht.add ((hx x List.mem_cons_self).mul (hy y List.mem_cons_self))
    have h2 := BdD (xs := xs) (ys := ys) h1 (fun z hz => hx z (List.mem_cons_of_mem _ hz)) (fun z hz => hy z (List.mem_cons_of_mem _ hz))
    rw [dotF]
    refine h2.mono ?_
    rw [List.length_cons, Nat.succ_mul]; omega
  | [], ys, t, ht, hx, hy => by rw [dotF.eq_def]; exact ht.mono (by omega)
  | x :: xs, [], t, ht, hx, hy => by rw [dotF.eq_def]; exact ht.mono (by omega)
theorem Bd0 {k : Nat} (h : 1 ≤ k) : Bd k 0 := (⟨by decide, by decide⟩ : Bd 1 0).mono h
theorem bd_dot {k l : Nat} {xs ys : List Rat} (hx : BdL k xs) (hy : BdL l ys) : Bd (1 + xs.length * (k + l + 1)) (dot xs ys) := by
  have := BdD (t := 0) (Bd0 (Nat.le_refl 1)) hx hy
  rw [dotF_eq, Rat.zero_add] at this
  exact this
theorem product_ev {k l : Nat} {xs ys : List Rat} (hx : BdL k xs) (hy : BdL l ys) (h : xs.length = ys.length) (hk : 1 + xs.length * (k + l + 1) + k + l ≤ 8000) (S : Store) : d_product [tL xs, tL ys] S = .ok (tR (dot xs ys)) S := by
  have loop : ∀ (us vs : List Rat) (t : Rat) (n : Nat) (s3 s4 : Slot), us.length = vs.length → BdL k us → BdL l vs → Bd n t → n + us.length * (k + l + 1) + k + l ≤ 8000 → ∃ s3' s4', forGo (.tp [(.nm 3), (.nm 4)]) b_product_1 (zipL (us.map tR) (vs.map tR)) [.val (tL xs), .val (tL ys), .val (tR t), s3, s4] S = .ok .nx [.val (tL xs), .val (tL ys), .val (tR (dotF t us vs)), s3', s4'] S := by
    intro us
    induction us with
    | nil =>
      intro vs t n s3 s4 hl _ _ _ _
      have : vs = [] := List.eq_nil_of_length_eq_zero hl.symm
      subst this
      exact ⟨s3, s4, rfl⟩
    | cons u us ih =>
      intro vs t n s3 s4 hl hu hv ht hb
      obtain ⟨v, vs, rfl⟩ : ∃ v vs', vs = v :: vs' := by
        cases vs with
        | nil => cases hl
        | cons v vs => exact ⟨v, vs, rfl⟩
      rw [List.length_cons, Nat.succ_mul] at hb
      have bu := hu u List.mem_cons_self
      have bv := hv v List.mem_cons_self
      obtain ⟨s3', s4', hg⟩ := ih vs (t + u * v) (n + (k + l) + 1) (.val (tR u)) (.val (tR v)) (by simpa using hl) (fun z hz => hu z (List.mem_cons_of_mem _ hz)) (fun z hz => hv z (List.mem_cons_of_mem _ hz)) (ht.add (bu.mul bv)) (by omega)
      refine ⟨s3', s4', (forGo_cons (e2 := [.val (tL xs), .val (tL ys), .val (tR (t + u * v)), .val (tR u), .val (tR v)]) (S2 := S) put_2 ?_).trans hg⟩
      simp [b_product_1, times_ev bu bv (by omega), plus_ev ht (bu.mul bv) (by omega)]
  obtain ⟨s3, s4, hg⟩ := loop xs ys 0 1 .no .no h hx hy (Bd0 (Nat.le_refl 1)) hk
  rw [dotF_eq, Rat.zero_add] at hg
  refine fnD_rt rfl (en1 := [.val (tL xs), .val (tL ys), .val (tR (dot xs ys)), s3, s4]) ?_
  have t0 : (.tup [.int 0, .int 1] : D) = tR 0 := rfl
  simp [b_product, widths_ok h, of_int_ev, t0, hg]
theorem product_no {xs ys : List Rat} (h : xs.length ≠ ys.length) (S : Store) : d_product [tL xs, tL ys] S = .exc "NotAllowed" S := by
  refine fnD_exc rfl (en1 := [.val (tL xs), .val (tL ys), .no, .no, .no]) ?_
  simp [b_product, widths_no h]
/-- a form -/
def tF (xs : List Rat) (c : Rat) : D := .tup [tL xs, tR c]
@[simp] theorem tF0 {xs : List Rat} {c : Rat} : ixD (tF xs c) (.int 0) = some (tL xs) := ixD_t0
@[simp] theorem tF1 {xs : List Rat} {c : Rat} : ixD (tF xs c) (.int 1) = some (tR c) := ixD_t1
theorem value_ev {k l n : Nat} {xs ys : List Rat} {c : Rat} (hx : BdL k xs) (hy : BdL l ys) (hc : Bd n c) (h : xs.length = ys.length) (hk : 1 + xs.length * (k + l + 1) + k + l + n ≤ 8000) (S : Store) : d_value_at [tF xs c, tL ys] S = .ok (tR (dot xs ys + c)) S := by
  refine fnD_rt rfl (en1 := [.val (tF xs c), .val (tL ys)]) ?_
  simp [b_value_at, product_ev hx hy h (by omega), plus_ev (bd_dot hx hy) hc (by omega)]
theorem value_no {xs ys : List Rat} {c : Rat} (h : xs.length ≠ ys.length) (S : Store) : d_value_at [tF xs c, tL ys] S = .exc "NotAllowed" S := by
  refine fnD_exc rfl (en1 := [.val (tF xs c), .val (tL ys)]) ?_
  simp [b_value_at, product_no h]
theorem addforms_ev {k l m n : Nat} {xs ys : List Rat} {c d : Rat} (hx : BdL k xs) (hy : BdL l ys) (hc : Bd m c) (hd : Bd n d) (h : xs.length = ys.length) (hk : k + l ≤ 8000) (hm : m + n ≤ 8000) (hn : xs.length ≤ LN) (S : Store) : d_add_forms [tF xs c, tF ys d] S = .ok (tF (List.zipWith (· + ·) xs ys) (c + d)) S := by
  refine fnD_rt rfl (en1 := [.val (tF xs c), .val (tF ys d)]) ?_
  simp [b_add_forms, addrows_ev hx hy h hk hn, plus_ev hc hd hm]
  rfl
theorem addforms_no {xs ys : List Rat} {c d : Rat} (h : xs.length ≠ ys.length) (S : Store) : d_add_forms [tF xs c, tF ys d] S = .exc "NotAllowed" S := by
  refine fnD_exc rfl (en1 := [.val (tF xs c), .val (tF ys d)]) ?_
  simp [b_add_forms, addrows_no h]
theorem scaleform_ev {k l m : Nat} {f : Rat} {xs : List Rat} {c : Rat} (hf : Bd k f) (hx : BdL l xs) (hc : Bd m c) (hk : k + l ≤ 8000) (hm : k + m ≤ 8000) (hn : xs.length ≤ LN) (S : Store) : d_scale_form [tR f, tF xs c] S = .ok (tF (xs.map (f * ·)) (f * c)) S := by
  refine fnD_rt rfl (en1 := [.val (tR f), .val (tF xs c)]) ?_
  simp [b_scale_form, scale_ev hf hx hk hn, times_ev hf hc hm]
  rfl
end Ks

set_option linter.all false
set_option maxRecDepth 100000
namespace Ks
open Kb PySem
mutual
theorem eqv_self : ∀ (n : Nat) (d : D), okd n d = true → eqv d d = true
  | _, .non, _ => by simp [eqv]
  | _, .bl _, _ => by simp [eqv]
  | _, .int _, _ => by simp [eqv]
  | _, .str _, _ => by simp [eqv]
  | n + 1, .tup xs, h => by
    rw [okd] at h
    rw [eqv]
    exact eqvs_self n xs h
  | n + 1, .lst xs, h => by
    rw [okd] at h
    rw [eqv]
    exact eqvs_self n xs h
  | 0, .tup xs, h => by simp [okd] at h
  | 0, .lst xs, h => by simp [okd] at h
  | _, .cell _, h => by simp [okd] at h
  | _, .glo _, h => by simp [okd] at h
  | _, .scr _, h => by simp [okd] at h
theorem eqvs_self : ∀ (n : Nat) (ds : List D), okds n ds = true → eqvs ds ds = true
  | _, [], _ => by simp [eqvs]
  | n, d :: ds, h => by
    rw [okds, Bool.and_eq_true] at h
    rw [eqvs, eqv_self n d h.1, eqvs_self n ds h.2]
    rfl
end
theorem neD_self {d : D} (h : okd 60 d = true) : neD d d = some (.bl false) := by
  unfold neD
  rw [h, eqv_self 60 d h]
  rfl
theorem eqD_self {d : D} (h : okd 60 d = true) : eqD d d = some (.bl true) := by
  unfold eqD
  rw [h, eqv_self 60 d h]
  rfl
theorem okd_tR (n : Nat) (q : Rat) : okd (n + 1) (tR q) = true := by simp [tR, okd, okds]
theorem okds_all {n : Nat} : ∀ {ds : List D}, (∀ d ∈ ds, okd n d = true) → okds n ds = true
  | [], _ => by simp [okds]
  | d :: ds, h => by
    rw [okds, h d List.mem_cons_self, okds_all fun x hx => h x (List.mem_cons_of_mem _ hx)]
    rfl
theorem okd_tL (n : Nat) (xs : List Rat) : okd (n + 2) (tL xs) = true := by
  unfold tL
  rw [okd]
  exact okds_all fun d hd => by
    obtain ⟨q, _, rfl⟩ := List.mem_map.mp hd
    exact okd_tR n q
theorem okd_tF (n : Nat) (xs : List Rat) (c : Rat) : okd (n + 3) (tF xs c) = true := by
  unfold tF
  rw [okd]
  exact okds_all fun d hd => by
    rcases List.mem_cons.mp hd with rfl | hd
    · exact okd_tL n xs
    · rw [List.mem_singleton.mp hd]; exact okd_tR (n + 1) c
@[simp] theorem ne_tR (q : Rat) : neD (tR q) (tR q) = some (.bl false) := neD_self (okd_tR 59 q)
@[simp] theorem ne_tL (xs : List Rat) : neD (tL xs) (tL xs) = some (.bl false) := neD_self (okd_tL 58 xs)
@[simp] theorem ne_tF (xs : List Rat) (c : Rat) : neD (tF xs c) (tF xs c) = some (.bl false) := neD_self (okd_tF 57 xs c)
@[simp] theorem eq_tR (q : Rat) : eqD (tR q) (tR q) = some (.bl true) := eqD_self (okd_tR 59 q)
@[simp] theorem eq_tL (xs : List Rat) : eqD (tL xs) (tL xs) = some (.bl true) := eqD_self (okd_tL 58 xs)
/-- the value of a sum of products, part by part -/
theorem dot_snoc : ∀ {xs ys : List Rat} {i : Nat} {x y : Rat}, xs[i]? = some x → ys[i]? = some y → dot (xs.take (i + 1)) (ys.take (i + 1)) = dot (xs.take i) (ys.take i) + x * y
  | a :: xs, b :: ys, 0, x, y, h1, h2 => by
    cases h1; cases h2
    simp [dot, Rat.add_zero, Rat.zero_add]
  | a :: xs, b :: ys, i + 1, x, y, h1, h2 => by
    simp only [List.take_succ_cons, dot]
    rw [dot_snoc (xs := xs) (ys := ys) (by simpa using h1) (by simpa using h2)]
    grind
  | [], _, _, _, _, h1, _ => by cases h1
  | _ :: _, [], _, _, _, _, h2 => by cases h2
theorem BdL.take {k i : Nat} {xs : List Rat} (h : BdL k xs) : BdL k (xs.take i) := fun x hx => h x (List.mem_of_mem_take hx)
theorem bd_take {k l n i : Nat} {xs ys : List Rat} {c : Rat} (hc : Bd n c) (hx : BdL k xs) (hy : BdL l ys) (hi : i ≤ xs.length) : Bd (n + i * (k + l + 1)) (c + dot (xs.take i) (ys.take i)) := by
  have := BdD hc (hx.take (i := i)) (hy.take (i := i))
  rw [dotF_eq, List.length_take, Nat.min_eq_left hi] at this
  exact this
end Ks
namespace Ks
open Kb PySem
theorem dot_nil_l (ys : List Rat) : dot [] ys = 0 := by rw [dot.eq_def]
theorem dot_nil_r (xs : List Rat) : dot xs [] = 0 := by cases xs <;> rw [dot.eq_def]
theorem dot_comm : ∀ (xs ys : List Rat), dot xs ys = dot ys xs
  | x :: xs, y :: ys => by rw [dot, dot, dot_comm xs ys]; grind
  | [], ys => by rw [dot_nil_l, dot_nil_r]
  | x :: xs, [] => by rw [dot_nil_l, dot_nil_r]
theorem dot_addL : ∀ {xs ys : List Rat} (zs : List Rat), xs.length = ys.length → dot (List.zipWith (· + ·) xs ys) zs = dot xs zs + dot ys zs
  | [], [], zs, _ => by rw [List.zipWith_nil_left, dot_nil_l]; grind
  | x :: xs, y :: ys, [], h => by rw [dot_nil_r, dot_nil_r, dot_nil_r]; grind
  | x :: xs, y :: ys, z :: zs, h => by
    rw [List.zipWith_cons_cons, dot, dot, dot, dot_addL zs (by simpa using h)]
    grind
theorem dot_scaleL (f : Rat) : ∀ (xs zs : List Rat), dot (xs.map (f * ·)) zs = f * dot xs zs
  | [], zs => by rw [List.map_nil, dot_nil_l]; grind
  | x :: xs, [] => by rw [dot_nil_r, dot_nil_r]; grind
  | x :: xs, z :: zs => by
    rw [List.map_cons, dot, dot, dot_scaleL f xs zs]
    grind
theorem dot_addR {ys zs : List Rat} (xs : List Rat) (h : ys.length = zs.length) : dot xs (List.zipWith (· + ·) ys zs) = dot xs ys + dot xs zs := by
  rw [dot_comm, dot_addL xs h, dot_comm ys, dot_comm zs]
theorem dot_scaleR (f : Rat) (xs zs : List Rat) : dot xs (zs.map (f * ·)) = f * dot xs zs := by
  rw [dot_comm, dot_scaleL, dot_comm]
@[simp] theorem ty_tR (q : Rat) : tyD (tR q) = some "tuple" := (rfl)
@[simp] theorem ty_tL (q : List Rat) : tyD (tL q) = some "tuple" := (rfl)
@[simp] theorem ty_tF (q : List Rat) (c : Rat) : tyD (tF q c) = some "tuple" := (rfl)
@[simp] theorem len_tF (q : List Rat) (c : Rat) : lenD [tF q c] = some (.int 2) := (rfl)
theorem ix_tL {xs : List Rat} {i : Nat} {x : Rat} (h : xs[i]? = some x) : ixD (tL xs) (.int i) = some (tR x) := ixD_tup (by rw [List.getElem?_map, h]; rfl)
theorem get_of {α : Type} {xs : List α} {i : Nat} (h : i < xs.length) : ∃ x, xs[i]? = some x := ⟨_, List.getElem?_eq_getElem h⟩
theorem tL_def (xs : List Rat) : (.tup (xs.map tR) : D) = tL xs := rfl
end Ks

set_option linter.all false
set_option maxRecDepth 100000
namespace Ks
open Kb PySem
/-! the other family of the laws' helpers: 4000 turns, numbers of 31 bits -/
theorem euclidN {S : Store} (n d : D) : ∀ (k : Nat) (ds : List D) (x y : Nat) (s4 s5 : Slot), y < 2 ^ k → 2 * k + 1 ≤ ds.length → ∃ s4' s5', forGo (.nm 4) b__law_ratioN_1 ds [.val n, .val d, .val (.int x), .val (.int y), s4, s5] S = .ok .nx [.val n, .val d, .val (.int (Nat.gcd x y : Nat)), .val (.int 0), s4', s5'] S := by
  have stop : ∀ (ds : List D) (x : Nat) (s4 s5 : Slot), 1 ≤ ds.length → ∃ s4' s5', forGo (.nm 4) b__law_ratioN_1 ds [.val n, .val d, .val (.int x), .val (.int 0), s4, s5] S = .ok .nx [.val n, .val d, .val (.int (x : Nat)), .val (.int 0), s4', s5'] S := by
    intro ds x s4 s5 hl
    obtain ⟨a, ds, rfl⟩ := List.exists_cons_of_length_pos (by omega : 0 < ds.length)
    refine ⟨.val a, s5, ?_⟩
    simp [for_turn, b__law_ratioN_1]
  have one : ∀ (a : D) (ds : List D) (x y : Nat) (s4 s5 : Slot), y ≠ 0 → forGo (.nm 4) b__law_ratioN_1 (a :: ds) [.val n, .val d, .val (.int x), .val (.int y), s4, s5] S = forGo (.nm 4) b__law_ratioN_1 ds [.val n, .val d, .val (.int y), .val (.int ((x % y : Nat) : Int)), .val a, .val (.int ((x % y : Nat) : Int))] S := by
    intro a ds x y s4 s5 hy
    have hm : modD (.int x) (.int y) = some (.int ((x % y : Nat) : Int)) := modD_ok (by omega)
    refine forGo_cons put_nm ?_
    simp [b__law_ratioN_1, hy, hm]
  intro k
  induction k with
  | zero =>
    intro ds x y s4 s5 hy hl
    have : y = 0 := by omega
    subst this
    rw [Nat.gcd_zero_right]
    exact stop ds x s4 s5 hl
  | succ k ih =>
    intro ds x y s4 s5 hy hl
    by_cases h0 : y = 0
    · subst h0
      rw [Nat.gcd_zero_right]
      exact stop ds x s4 s5 (by omega)
    · obtain ⟨a, ds, rfl⟩ := List.exists_cons_of_length_pos (by omega : 0 < ds.length)
      rw [List.length_cons] at hl
      rw [one a ds x y s4 s5 h0]
      have hg : Nat.gcd x y = Nat.gcd y (x % y) := by rw [Nat.gcd_comm x y, Nat.gcd_rec y x]; exact Nat.gcd_comm _ _
      rw [hg]
      generalize hr : x % y = r
      have hr1 : r < y := by rw [← hr]; exact Nat.mod_lt x (by omega)
      by_cases h1 : r = 0
      · subst h1
        rw [Nat.gcd_zero_right]
        exact stop ds y _ _ (by omega)
      · obtain ⟨b, ds, rfl⟩ := List.exists_cons_of_length_pos (by omega : 0 < ds.length)
        rw [List.length_cons] at hl
        rw [one b ds y r _ _ h1]
        have hg : Nat.gcd y r = Nat.gcd r (y % r) := by rw [Nat.gcd_comm y r, Nat.gcd_rec r y]; exact Nat.gcd_comm _ _
        rw [hg]
        refine ih ds r (y % r) _ _ ?_ (by omega)
        have h2 : y % r < r := Nat.mod_lt y (by omega)
        have h3 : y % r + r ≤ y := by
          have := Nat.div_add_mod y r
          have h4 : 1 ≤ y / r := (Nat.one_le_div_iff (by omega)).mpr (by omega)
          have h5 : r * 1 ≤ r * (y / r) := Nat.mul_le_mul_left r h4
          omega
        rw [Nat.pow_succ] at hy
        omega
theorem ratioN_ev {n d : Int} (h : 0 < d) (hk : d.natAbs < 2 ^ 1990) (S : Store) : d__law_ratioN [.int n, .int d] S = .ok (tR (Rat.divInt n d)) S := by
  have g0 := gcd_pos (n := n) h
  have hk' : d.natAbs < 2 ^ 8000 := Nat.lt_of_lt_of_le hk (pow2_le (by omega))
  have f : ∀ x, fdivD (.int x) (.int (Int.gcd n d)) = some (.int (x / Int.gcd n d)) := fun x => fdivD_ok (by omega) (by have := gcd_bit (n := n) h hk'; omega)
  obtain ⟨s4, s5, hl⟩ := euclidN (S := S) (.int n) (.int d) 1990 (rngI 0 4000) n.natAbs d.natAbs .no .no hk (by rw [rngI_length]; omega)
  have hg : (Nat.gcd n.natAbs d.natAbs) = Int.gcd n d := rfl
  rw [hg] at hl
  refine fnD_rt rfl (en1 := [.val (.int n), .val (.int d), .val (.int (Int.gcd n d)), .val (.int 0), s4, s5]) ?_
  have h1 : ¬ d < 0 := by omega
  obtain ⟨e1, e2⟩ := divInt_pos (n := n) h
  have ha : ∀ z : Int, (if z < 0 then -z else z) = (z.natAbs : Int) := fun z => by split <;> omega
  have hb : ((d.natAbs : Nat) : Int) = d := by omega
  simp only [tR, e1, e2]
  rw [hb] at hl
  simp [b__law_ratioN, ha, hl, h1, f]
theorem dd_ltN {k l : Nat} {a b : Rat} (ha : Bd k a) (hb : Bd l b) (h : k + l ≤ 1990) : ((a.den : Int) * b.den).natAbs < 2 ^ 1990 := by
  have h1 : ((a.den : Int) * b.den).natAbs < 2 ^ (k + l) := by rw [Int.natAbs_mul]; exact mul_lt (by have := ha.d; simpa using this) (by have := hb.d; simpa using this)
  exact Nat.lt_of_lt_of_le h1 (pow2_le h)
theorem den2_pos (a b : Rat) : (0 : Int) < a.den * b.den := Int.mul_pos (by have := den_pos a; omega) (by have := den_pos b; omega)
theorem plusN_ev {k l : Nat} {a b : Rat} (ha : Bd k a) (hb : Bd l b) (h : k + l ≤ 1990) (S : Store) : d__law_plusN [tR a, tR b] S = .ok (tR (a + b)) S := by
  have m1 : mulI (.int a.num) (.int b.den) = some (.int (a.num * b.den)) := mulI_ok (by have := ha.bn; have := hb.bd; omega)
  have m2 : mulI (.int b.num) (.int a.den) = some (.int (b.num * a.den)) := mulI_ok (by have := hb.bn; have := ha.bd; omega)
  have m3 : mulI (.int a.den) (.int b.den) = some (.int (a.den * b.den)) := mulI_ok (by have := ha.bd; have := hb.bd; omega)
  refine fnD_rt rfl (en1 := [.val (tR a), .val (tR b)]) ?_
  simp [b__law_plusN, m1, m2, m3, ratioN_ev (n := a.num * b.den + b.num * a.den) (den2_pos a b) (dd_ltN ha hb h), add_divInt]
theorem timesN_ev {k l : Nat} {a b : Rat} (ha : Bd k a) (hb : Bd l b) (h : k + l ≤ 1990) (S : Store) : d__law_timesN [tR a, tR b] S = .ok (tR (a * b)) S := by
  have m1 : mulI (.int a.num) (.int b.num) = some (.int (a.num * b.num)) := mulI_ok (by have := ha.bn; have := hb.bn; omega)
  have m3 : mulI (.int a.den) (.int b.den) = some (.int (a.den * b.den)) := mulI_ok (by have := ha.bd; have := hb.bd; omega)
  refine fnD_rt rfl (en1 := [.val (tR a), .val (tR b)]) ?_
  simp [b__law_timesN, m1, m3, ratioN_ev (n := a.num * b.num) (den2_pos a b) (dd_ltN ha hb h), mul_divInt]
theorem less_ev {k l : Nat} {a b : Rat} (ha : Bd k a) (hb : Bd l b) (h : k + l ≤ 100000) (S : Store) : d__law_less [tR a, tR b] S = .ok (.bl (decide (a < b))) S := by
  have m1 : mulI (.int a.num) (.int b.den) = some (.int (a.num * b.den)) := mulI_ok (by have := ha.bn; have := hb.bd; omega)
  have m2 : mulI (.int b.num) (.int a.den) = some (.int (b.num * a.den)) := mulI_ok (by have := hb.bn; have := ha.bd; omega)
  refine fnD_rt rfl (en1 := [.val (tR a), .val (tR b)]) ?_
  simp [b__law_less, m1, m2, Rat.lt_iff]
theorem lproduct_ev {k l : Nat} {xs ys : List Rat} (hx : BdL k xs) (hy : BdL l ys) (h : xs.length ≤ ys.length) (hk : 1 + xs.length * (k + l + 1) + k + l ≤ 1990) (S : Store) : d__law_product [tL xs, tL ys] S = .ok (tR (dot xs ys)) S := by
  have H := fnD_wp (n := 2) (k := 2) (b := b__law_product) (ds := [tL xs, tL ys]) (S := S) (Q := fun d S1 => S1 = S ∧ d = tR (dot xs ys)) rfl ?_
  · obtain ⟨d, S1, h1, rfl, rfl⟩ := H
    exact h1
  have hw : xs.length ≤ 1990 := Nat.le_trans (Nat.le_mul_of_pos_right _ (by omega : 0 < k + l + 1)) (by omega)
  have hr := rng_nat (n := xs.length) (by omega)
  have t0 : (.tup [.int 0, .int 1] : D) = tR 0 := rfl
  simp [b__law_product, hr, t0]
  refine wp_bind (wp_rng0 (fun i e S1 => S1 = S ∧ i ≤ xs.length ∧ ∃ s3 : Slot, e = [.val (tL xs), .val (tL ys), .val (tR (0 + dot (xs.take i) (ys.take i))), s3]) ⟨rfl, by omega, .no, by simp [dot_nil_l, Rat.add_zero]⟩ ?_ ?_)
  · rintro i e S1 hi ⟨rfl, _, s3, rfl⟩
    obtain ⟨x, h1⟩ := get_of (xs := xs) (i := i) (by omega)
    obtain ⟨y, h2⟩ := get_of (xs := ys) (i := i) (by omega)
    have ht := bd_take (Bd0 (Nat.le_refl 1)) hx hy (i := i) (by omega)
    have hi2 : i * (k + l + 1) ≤ xs.length * (k + l + 1) := Nat.mul_le_mul_right _ (by omega)
    have e1 := timesN_ev (hx.at h1) (hy.at h2) (by omega) S1
    have e2 := plusN_ev ht ((hx.at h1).mul (hy.at h2)) (by omega) S1
    have e3 : (0 : Rat) + dot (xs.take i) (ys.take i) + x * y = 0 + dot (xs.take (i + 1)) (ys.take (i + 1)) := by rw [dot_snoc h1 h2]; grind
    by_cases hx0 : x = 0
    · have e4 : (0 : Rat) + dot (xs.take i) (ys.take i) = 0 + dot (xs.take (i + 1)) (ys.take (i + 1)) := by rw [← e3, hx0]; grind
      rw [e4]
      have hn : x.num = 0 := by rw [hx0]; rfl
      simp only [b__law_product_1, sIf_ev]
      simp [ix_tL h1, hn]
      omega
    · by_cases hy0 : y = 0
      · have e4 : (0 : Rat) + dot (xs.take i) (ys.take i) = 0 + dot (xs.take (i + 1)) (ys.take (i + 1)) := by rw [← e3, hy0]; grind
        rw [e4]
        have hn : y.num = 0 := by rw [hy0]; rfl
        simp only [b__law_product_1, sIf_ev]
        simp [ix_tL h1, ix_tL h2, hn, hx0]
        omega
      · rw [e3] at e2
        simp only [b__law_product_1, sIf_ev]
        simp only [Rat.zero_add] at *
        simp [ix_tL h1, ix_tL h2, e1, e2, hx0, hy0]
        omega
  · rintro e S1 ⟨rfl, _, s3, rfl⟩
    have e4 : (0 : Rat) + dot xs (ys.take xs.length) = dot xs ys := by
      rw [Rat.zero_add]
      have : ∀ (xs ys : List Rat), dot xs (ys.take xs.length) = dot xs ys := by
        intro xs
        induction xs with
        | nil => intro ys; rw [dot_nil_l, dot_nil_l]
        | cons x xs ih =>
          intro ys
          cases ys with
          | nil => rfl
          | cons y ys => rw [List.length_cons, List.take_succ_cons, dot, dot, ih]
      exact this xs ys
    rw [Rat.zero_add] at e4
    simp [e4, Rat.zero_add]
end Ks

set_option linter.all false
set_option maxRecDepth 100000
namespace Ks
open Kb PySem
/-- numbers of 31 bits -/
def N31 (ns : List Int) : Prop := ∀ x ∈ ns, 0 ≤ x ∧ x < 2147483648
theorem N31.snoc {ns : List Int} {x : Int} (h : N31 ns) (h0 : 0 ≤ x) (h1 : x < 2147483648) : N31 (ns ++ [x]) := by
  intro y hy
  rcases List.mem_append.mp hy with h2 | h2
  · exact h y h2
  · rw [List.mem_singleton.mp h2]; exact ⟨h0, h1⟩
theorem ixD_scr {xs : List D} {k : Nat} {x : D} (h : xs[k]? = some x) : ixD (.scr xs) (.int (k : Int)) = some x := by
  show (ixN xs.length (k : Int)).bind (fun j => xs[j]?) = some x
  rw [ixN_nat (List.getElem?_eq_some_iff.mp h).1]
  exact h
theorem absI (z : Int) : (if z < 0 then -z else z) = (z.natAbs : Int) := by split <;> omega
theorem numN_1 (sc : D) (many : Nat) (hm : many ≤ 100000) (k : D) (s6 s7 s8 : Slot) (S : Store) (cell : Int) (xs : List Int) (s5 : Slot) (hl : xs.length ≤ many) (hx : N31 xs) :
    Wp (forGo (.nm 5) b__law_numbersN_1 (rngI 0 60) [.val sc, .val (.int many), .own (nums xs), .val k, .val (.int cell), s5, s6, s7, s8] S) fun f e S1 => f = .nx ∧ S1 = S ∧ ∃ ys c t5, ys.length ≤ many ∧ N31 ys ∧ e = [.val sc, .val (.int many), .own (nums ys), .val k, .val (.int c), t5, s6, s7, s8] := by
  refine wp_rng0 (fun i e S1 => S1 = S ∧ ∃ ys c t5, ys.length ≤ many ∧ N31 ys ∧ e = [.val sc, .val (.int many), .own (nums ys), .val k, .val (.int c), t5, s6, s7, s8]) ⟨rfl, xs, cell, s5, hl, hx, rfl⟩ ?_ ?_
  · rintro i e S1 hi ⟨rfl, ys, c, t5, h1, h2, rfl⟩
    have hm1 : modD (.int c) (.int 10007) = some (.int (c % 10007)) := modD_ok (by omega)
    have hf : fdivD (.int c) (.int 10007) = some (.int (c / 10007)) := fdivD_ok (by omega) (by have : bit 10007 ≤ 20 := bit_small (by omega) (by omega); omega)
    by_cases h3 : 0 < c
    · by_cases h4 : ys.length < many
      · have h5 : ys.length < LN := by unfold LN; omega
        simp [b__law_numbersN_1, h3, h4, sApp, h5, hm1, hf]
        exact ⟨ys ++ [c % 10007], by simp; omega, h2.snoc (by omega) (by omega), by simp⟩
      · simp [b__law_numbersN_1, h3, h4]
        exact ⟨ys, h1, h2, rfl⟩
    · simp [b__law_numbersN_1, h3]
      exact ⟨ys, h1, h2, rfl⟩
  · rintro e S1 ⟨rfl, ys, c, t5, h1, h2, rfl⟩
    exact ⟨rfl, rfl, ys, c, t5, h1, h2, rfl⟩
theorem numN_2 (cs : List Int) (hc : cs.length ≤ 63) (many : Nat) (hm : many ≤ 100000) (s7 s8 : Slot) (S : Store) :
    Wp (forGo (.nm 3) b__law_numbersN_2 (rngI 0 cs.length) [.val (.scr (cs.map .int)), .val (.int many), .own [], .no, .no, .no, .no, s7, s8] S) fun f e S1 => f = .nx ∧ S1 = S ∧ ∃ ys t3 t4 t5 t6, ys.length ≤ many ∧ N31 ys ∧ e = [.val (.scr (cs.map .int)), .val (.int many), .own (nums ys), t3, t4, t5, t6, s7, s8] := by
  refine wp_rng0 (fun i e S1 => S1 = S ∧ ∃ ys t3 t4 t5 t6, ys.length ≤ many ∧ N31 ys ∧ e = [.val (.scr (cs.map .int)), .val (.int many), .own (nums ys), t3, t4, t5, t6, s7, s8]) ⟨rfl, [], _, _, _, _, by simp, fun x h => absurd h List.not_mem_nil, rfl⟩ ?_ ?_
  · rintro i e S1 hi ⟨rfl, ys, t3, t4, t5, t6, h1, h2, rfl⟩
    obtain ⟨c, hcell⟩ : ∃ c, cs[i]? = some c := ⟨_, List.getElem?_eq_getElem hi⟩
    have hix : ixD (.scr (cs.map .int)) (.int (i : Int)) = some (.int c) := ixD_scr (by rw [List.getElem?_map, hcell]; rfl)
    by_cases hr : (1000000000000000000 : Int) ≤ c.natAbs
    · obtain ⟨f, e, S2, h3, rfl, rfl, zs, c', t5', h4, h5, rfl⟩ := wp_out (numN_1 (.scr (cs.map .int)) many hm (.int i) t6 s7 s8 S1 c.natAbs ys t5 h1 h2)
      simp only [nums] at h3
      simp [b__law_numbersN_2, hix, absI, powD, hr, h3]
      exact ⟨zs, h4, h5, rfl⟩
    · have b1 : bit (c.natAbs : Int) ≤ 60 := bit_small (by omega) (by omega)
      have b2 : bit 48271 ≤ 20 := bit_small (by omega) (by omega)
      have b3 : bit 69621 ≤ 20 := bit_small (by omega) (by omega)
      have b4 : bit 16807 ≤ 20 := bit_small (by omega) (by omega)
      have b5 : bit 7 ≤ 20 := bit_small (by omega) (by omega)
      have b6 : bit (i : Int) ≤ 20 := bit_small (by omega) (by omega)
      by_cases h4 : ys.length < many
      · have m1 : mulI (.int c.natAbs) (.int 48271) = some (.int (c.natAbs * 48271)) := mulI_ok (by omega)
        have m2 : mulI (.int i) (.int 69621) = some (.int (i * 69621)) := mulI_ok (by omega)
        have m4 : mulI (.int 7) (.int i) = some (.int (7 * i)) := mulI_ok (by omega)
        generalize hx : ((c.natAbs : Int) * 48271 + i * 69621 + 11) % 2147483647 = x
        have hmx : modD (.int ((c.natAbs : Int) * 48271 + i * 69621 + 11)) (.int 2147483647) = some (.int x) := by rw [← hx]; exact modD_ok (by omega)
        have x0 : 0 ≤ x := by omega
        have x1 : x < 2147483647 := by omega
        have b7 : bit x ≤ 31 := bit_small x0 (by omega)
        have m3 : mulI (.int x) (.int 16807) = some (.int (x * 16807)) := mulI_ok (by omega)
        generalize hy : (x * 16807 + 7 * (i : Int) + 3) % 2147483647 = y
        have hmy : modD (.int (x * 16807 + 7 * (i : Int) + 3)) (.int 2147483647) = some (.int y) := by rw [← hy]; exact modD_ok (by omega)
        have hf : fdivD (.int y) (.int 3) = some (.int (y / 3)) := fdivD_ok (by omega) (by have : bit 3 ≤ 20 := bit_small (by omega) (by omega); omega)
        have h5 : ys.length < LN := by unfold LN; omega
        simp [b__law_numbersN_2, hix, absI, powD, hr, h4, m1, m2, m3, m4, hmx, hmy, hf, sApp, h5]
        exact ⟨ys ++ [y / 3], by simp; omega, h2.snoc (by omega) (by omega), by simp⟩
      · simp [b__law_numbersN_2, hix, absI, powD, hr, h4]
        exact ⟨ys, h1, h2, rfl⟩
  · rintro e S1 ⟨rfl, ys, t3, t4, t5, t6, h1, h2, rfl⟩
    exact ⟨rfl, rfl, ys, t3, t4, t5, t6, h1, h2, rfl⟩
theorem numN_3 (sc : D) (many base : Nat) (hm : many ≤ 100000) (t4 t5 t6 : Slot) (S : Store) (last : Int) (l0 : 0 ≤ last) (l1 : last < 2147483648) (xs : List Int) (s3 : Slot) (hl : xs.length = base) (hb : base ≤ many) (hx : N31 xs) :
    Wp (forGo (.nm 3) b__law_numbersN_3 (rngI 0 (many - base)) [.val sc, .val (.int many), .own (nums xs), s3, t4, t5, t6, .val (.int base), .val (.int last)] S) fun f e S1 => f = .nx ∧ S1 = S ∧ ∃ ys c t3, ys.length = many ∧ N31 ys ∧ e = [.val sc, .val (.int many), .own (nums ys), t3, t4, t5, t6, .val (.int base), .val (.int c)] := by
  refine wp_rng0 (fun i e S1 => S1 = S ∧ ∃ ys c t3, ys.length = base + i ∧ N31 ys ∧ 0 ≤ c ∧ c < 2147483648 ∧ e = [.val sc, .val (.int many), .own (nums ys), t3, t4, t5, t6, .val (.int base), .val (.int c)]) ⟨rfl, xs, last, s3, hl, hx, l0, l1, rfl⟩ ?_ ?_
  · rintro i e S1 hi ⟨rfl, ys, c, t3, h1, h2, c0, c1, rfl⟩
    have h5 : ys.length < LN := by unfold LN; omega
    have fin : ∀ c' : Int, 0 ≤ c' → c' < 2 ^ 34 → mulI (.int c') (.int 48271) = some (.int (c' * 48271)) := fun c' z0 z1 => mulI_ok (by have : bit 48271 ≤ 20 := bit_small (by omega) (by omega); have : bit c' ≤ 34 := bit_small z0 z1; omega)
    have hm2 : ∀ y, modD (.int y) (.int 2147483647) = some (.int (y % 2147483647)) := fun y => modD_ok (by omega)
    have hf : ∀ y, fdivD (.int y) (.int 7) = some (.int (y / 7)) := fun y => fdivD_ok (by omega) (by have : bit 7 ≤ 20 := bit_small (by omega) (by omega); omega)
    by_cases hb0 : 0 < base
    · have hmb : modD (.int i) (.int base) = some (.int ((i % base : Nat) : Int)) := modD_ok (by omega)
      have hlt : i % base < ys.length := by have := Nat.mod_lt i hb0; omega
      obtain ⟨v, hv⟩ : ∃ v, ys[i % base]? = some v := ⟨_, List.getElem?_eq_getElem hlt⟩
      obtain ⟨v0, v1⟩ := h2 v (List.mem_of_getElem? hv)
      have hix : ixD (.lst (nums ys)) (.int ((i % base : Nat) : Int)) = some (.int v) := ixD_lst (by rw [List.getElem?_map, hv]; rfl)
      simp only [nums] at hix
      have hfin := fin (c + v) (by omega) (by omega)
      have y0 := hm2 ((c + v) * 48271 + i)
      generalize hy : ((c + v) * 48271 + (i : Int)) % 2147483647 = y at y0
      have ybig : 0 ≤ y ∧ y < 2147483647 := by omega
      simp at hmb hix
      simp [b__law_numbersN_3, hb0, hmb, hix, hfin, y0, hf, sApp, h5]
      exact ⟨ys ++ [y / 7], by simp; omega, h2.snoc (by omega) (by omega), y, by omega, by omega, by simp⟩
    · have hfin := fin c (by omega) (by omega)
      have y0 := hm2 (c * 48271 + i)
      generalize hy : (c * 48271 + (i : Int)) % 2147483647 = y at y0
      have ybig : 0 ≤ y ∧ y < 2147483647 := by omega
      simp [b__law_numbersN_3, hb0, hfin, y0, hf, sApp, h5]
      exact ⟨ys ++ [y / 7], by simp; omega, h2.snoc (by omega) (by omega), y, by omega, by omega, by simp⟩
  · rintro e S1 ⟨rfl, ys, c, t3, h1, h2, c0, c1, rfl⟩
    exact ⟨rfl, rfl, ys, c, t3, by omega, h2, rfl⟩
theorem numN_ev (cs : List Int) (hc : cs.length ≤ 63) (many : Nat) (hm : many ≤ 100000) (S : Store) : ∃ ns, ns.length = many ∧ N31 ns ∧ d__law_numbersN [.scr (cs.map .int), .int many] S = .ok (.lst (nums ns)) S := by
  have H := fnD_wp (n := 2) (k := 7) (b := b__law_numbersN) (ds := [.scr (cs.map .int), .int many]) (S := S) (Q := fun d S1 => S1 = S ∧ ∃ ns, ns.length = many ∧ N31 ns ∧ d = .lst (nums ns)) rfl ?_
  · obtain ⟨d, S1, h1, rfl, ns, h2, h3, rfl⟩ := H
    exact ⟨ns, h2, h3, h1⟩
  have hr := rng_nat (n := cs.length) (by omega)
  simp [b__law_numbersN, hr]
  refine wp_bind (wp_mono (numN_2 cs hc many hm .no .no S) ?_)
  rintro f e S1 ⟨rfl, rfl, ys, t3, t4, t5, t6, h1, h2, rfl⟩
  have hmx : maxD [.int 0, .int ((many : Int) - ys.length)] = some (.int ((many - ys.length : Nat) : Int)) := by
    show some (D.int (if _ > _ then _ else _)) = _
    by_cases h : ((many : Int) - ys.length) > 0
    · rw [if_pos h]; congr 2; omega
    · rw [if_neg h]; congr 2; omega
  have hr2 := rng_nat (n := many - ys.length) (by omega)
  simp [hmx, hr2]
  refine wp_bind (wp_mono (numN_3 (.scr (cs.map .int)) many ys.length hm t4 t5 t6 S1 (5381 + cs.length) (by omega) (by omega) ys t3 rfl h1 h2) ?_)
  rintro f e S1 ⟨rfl, rfl, zs, c, t3', h3, h4, rfl⟩
  simp [pSo, slD, cut, sIx]
  have hz : ¬ ((zs.length : Int) < 0) := by omega
  exact ⟨zs, h3, h4, by rw [← h3]; simp [hz]; exact List.take_of_length_le (by simp)⟩
end Ks

set_option linter.all false
set_option maxRecDepth 100000
namespace Ks
open Kb PySem
theorem zero_ev {w : Nat} (h1 : 1 ≤ w) (h2 : w ≤ 24) (S : Store) : d_zero_row [.int w] S = .ok (tL (List.replicate w 0)) S := by
  have hr := rng_nat (n := w) (by omega)
  have t0 : (.tup [.int 0, .int 1] : D) = tR 0 := rfl
  have hl : l_zero_row_1 [.val (.int w), .no] S = .ok ((List.replicate w 0).map tR) S := by
    refine eLc_of (ds := rngI 0 w) (S1 := S) (by simp [hr]) (lcGo_idx (es := (List.replicate w 0).map tR) [] ?_ ?_ ?_)
    · rw [rngI_length, List.length_map, List.length_replicate]
    · intro i d hd
      obtain ⟨hi, rfl⟩ := rngI_at hd
      refine ⟨_, tR 0, put_nm, rfl, by simp [of_int_ev, t0], ?_⟩
      rw [List.getElem?_map, List.getElem?_replicate, if_pos hi]; rfl
    · rw [rngI_length, List.length_nil]; unfold LN; omega
  refine fnD_rt rfl (en1 := [.val (.int w), .no]) ?_
  have h3 : ¬ ((w : Int) < 1) := by omega
  have h4 : ¬ (24 < (w : Int)) := by omega
  simp [-List.map_replicate, b_zero_row, c_MAX_WIDTH, h3, h4, hl, tL_def]
theorem zero_no {w : Int} (h : w < 1 ∨ 24 < w) (S : Store) : d_zero_row [.int w] S = .exc "NotAllowed" S := by
  refine fnD_exc rfl (en1 := [.val (.int w), .no]) ?_
  by_cases h1 : w < 1
  · simp [b_zero_row, c_MAX_WIDTH, h1]
  · have h2 : 24 < w := by omega
    simp [b_zero_row, c_MAX_WIDTH, h1, h2]
/-- one 1 among 0s -/
def unit (w i : Nat) : List Rat := List.replicate i 0 ++ [1] ++ List.replicate (w - (i + 1)) 0
theorem unit_ev {w i : Nat} (h1 : 1 ≤ w) (h2 : w ≤ 24) (hi : i < w) (S : Store) : d_unit_row [.int w, .int i] S = .ok (tL (unit w i)) S := by
  have z := zero_ev h1 h2 S
  have t1 : (.tup [.int 1, .int 1] : D) = tR 1 := rfl
  refine fnD_rt rfl (en1 := [.val (.int w), .val (.int i), .val (tL (List.replicate w 0))]) ?_
  have h3 : ¬ ((i : Int) < 0) := by omega
  have h4 : ¬ ((w : Int) ≤ i) := by omega
  have s1 : slD (tL (List.replicate w 0)) none (some (i : Int)) = some (tL (List.replicate i 0)) := by
    show some (D.tup (cut _ _ _)) = _
    unfold cut sIx tL
    simp [h3]
    omega
  have s2 : slD (tL (List.replicate w 0)) (some ((i : Int) + 1)) none = some (tL (List.replicate (w - (i + 1)) 0)) := by
    show some (D.tup (cut _ _ _)) = _
    unfold cut sIx tL
    have h5 : ¬ ((i : Int) + 1 < 0) := by omega
    have h6 : ((i : Int) + 1).toNat = i + 1 := by omega
    simp [h5, h6]
    omega
  have a1 : addD (tL (List.replicate i 0)) (.tup [tR 1]) = some (tL (List.replicate i 0 ++ [1])) := by
    show (if _ then _ else _) = _
    rw [if_pos (by rw [List.length_map, List.length_replicate, List.length_singleton]; unfold LN; omega)]
    simp [tL]
  have a2 : addD (tL (List.replicate i 0 ++ [1])) (tL (List.replicate (w - (i + 1)) 0)) = some (tL (unit w i)) := by
    show (if _ then _ else _) = _
    rw [if_pos (by rw [List.length_map, List.length_map, List.length_append, List.length_replicate, List.length_replicate, List.length_singleton]; unfold LN; omega)]
    simp [tL, unit]
  simp [b_unit_row, z, h3, h4, pSo, s1, s2, of_int_ev, t1, a1, a2]
theorem unit_no {w i : Int} (h : w < 1 ∨ 24 < w ∨ i < 0 ∨ w ≤ i) (S : Store) : d_unit_row [.int w, .int i] S = .exc "NotAllowed" S := by
  by_cases h0 : w < 1 ∨ 24 < w
  · refine fnD_exc rfl (en1 := [.val (.int w), .val (.int i), .no]) ?_
    simp [b_unit_row, zero_no h0]
  · obtain ⟨n, rfl⟩ : ∃ n : Nat, w = n := ⟨w.toNat, by omega⟩
    have z := zero_ev (w := n) (by omega) (by omega) S
    refine fnD_exc rfl (en1 := [.val (.int n), .val (.int i), .val (tL (List.replicate n 0))]) ?_
    by_cases h1 : i < 0
    · simp [b_unit_row, z, h1]
    · have h2 : (n : Int) ≤ i := by omega
      simp [b_unit_row, z, h1, h2]
theorem ints_ev {ns : List Int} (h1 : 1 ≤ ns.length) (h2 : ns.length ≤ 24) (S : Store) : d_row_of_ints [.lst (ns.map .int)] S = .ok (tL (ns.map fun n : Int => (n : Rat))) S := by
  have hl : l_row_of_ints_1 [.val (.lst (ns.map .int)), .no] S = .ok ((ns.map fun n : Int => (n : Rat)).map tR) S := by
    refine eLc_of (ds := ns.map .int) (S1 := S) (by simp) (lcGo_idx (es := (ns.map fun n : Int => (n : Rat)).map tR) [] ?_ ?_ ?_)
    · simp
    · intro i d hd
      rw [List.getElem?_map] at hd
      cases e : ns[i]? with
      | none => rw [e] at hd; cases hd
      | some n =>
        rw [e] at hd
        cases hd
        refine ⟨_, tR n, put_nm, rfl, by simp [ofint_ev], ?_⟩
        rw [List.getElem?_map, List.getElem?_map, e]; rfl
    · rw [List.length_map, List.length_nil]; unfold LN; omega
  refine fnD_rt rfl (en1 := [.val (.lst (ns.map .int)), .no]) ?_
  have h3 : ¬ ((ns.length : Int) < 1) := by omega
  have h4 : ¬ (24 < (ns.length : Int)) := by omega
  simp [-List.map_map, b_row_of_ints, c_MAX_WIDTH, h3, h4, hl]
  rfl
theorem ints_no {ds : List D} (h : ds.length < 1 ∨ 24 < ds.length) (S : Store) : d_row_of_ints [.lst ds] S = .exc "NotAllowed" S := by
  refine fnD_exc rfl (en1 := [.val (.lst ds), .no]) ?_
  by_cases h1 : (ds.length : Int) < 1
  · simp [b_row_of_ints, c_MAX_WIDTH, h1]
  · have h2 : 24 < (ds.length : Int) := by omega
    simp [b_row_of_ints, c_MAX_WIDTH, h1, h2]
/-- a pair -/
def tP (p : Int × Int) : D := .tup [.int p.1, .int p.2]
def okP (p : Int × Int) : Bool := decide (1 ≤ p.2) && (Int.gcd p.1 p.2 : Int) == 1
theorem bools_map {α : Type} (f : α → Bool) : ∀ xs : List α, boolsOf (xs.map fun x => .bl (f x)) = some (xs.map f)
  | [] => rfl
  | x :: xs => by
    rw [List.map_cons, boolsOf, bools_map f xs]
    rfl
theorem check_l (ps : List (Int × Int)) (h : ps.length ≤ 24) (S : Store) : l_check_row_1 [.val (.tup (ps.map tP)), .no] S = .ok (ps.map fun p => .bl (okP p)) S := by
  refine eLc_of (ds := ps.map tP) (S1 := S) (by simp) (lcGo_idx (es := ps.map fun p => .bl (okP p)) [] ?_ ?_ ?_)
  · simp
  · intro i d hd
    rw [List.getElem?_map] at hd
    cases e : ps[i]? with
    | none => rw [e] at hd; cases hd
    | some p =>
      rw [e] at hd
      cases hd
      refine ⟨_, .bl (okP p), put_nm, rfl, ?_, ?_⟩
      · have := isratio_ev p.1 p.2 S
        simp [tP, this, okP]
      · rw [List.getElem?_map, e]; rfl
  · rw [List.length_map, List.length_nil]; unfold LN; omega
theorem check_ok {ps : List (Int × Int)} (h1 : 1 ≤ ps.length) (h2 : ps.length ≤ 24) (h : ∀ p ∈ ps, okP p = true) (S : Store) : d_check_row [.tup (ps.map tP)] S = .ok .non S := by
  have h3 : ¬ ((ps.length : Int) < 1) := by omega
  have h4 : ¬ (24 < (ps.length : Int)) := by omega
  have ha : allD [.lst (ps.map fun p => .bl (okP p))] = some (.bl true) := by
    show (boolsOf _).map _ = _
    rw [bools_map]
    have : (ps.map okP).all id = true := by
      rw [List.all_map, List.all_eq_true]
      exact h
    rw [Option.map_some, this]
  refine fnD_nx rfl (en1 := [.val (.tup (ps.map tP)), .no]) ?_
  simp [b_check_row, c_MAX_WIDTH, h3, h4, check_l ps h2, ha]
theorem check_no {ps : List (Int × Int)} (h : ps.length < 1 ∨ 24 < ps.length ∨ ∃ p ∈ ps, okP p = false) (S : Store) : d_check_row [.tup (ps.map tP)] S = .exc "NotAllowed" S := by
  refine fnD_exc rfl (en1 := [.val (.tup (ps.map tP)), .no]) ?_
  by_cases h1 : (ps.length : Int) < 1
  · simp [b_check_row, c_MAX_WIDTH, h1]
  · by_cases h2 : 24 < (ps.length : Int)
    · simp [b_check_row, c_MAX_WIDTH, h1, h2]
    · have h3 : ∃ p ∈ ps, okP p = false := by
        rcases h with h | h | h
        · omega
        · omega
        · exact h
      have ha : allD [.lst (ps.map fun p => .bl (okP p))] = some (.bl false) := by
        show (boolsOf _).map _ = _
        rw [bools_map]
        have : (ps.map okP).all id = false := by
          rw [List.all_map, List.all_eq_false]
          obtain ⟨p, hp, e⟩ := h3
          exact ⟨p, hp, by simp [e]⟩
        rw [Option.map_some, this]
      simp [b_check_row, c_MAX_WIDTH, h1, h2, check_l ps (by omega), ha]
/-- a row of ratios as pairs -/
def prs (xs : List Rat) : List (Int × Int) := xs.map fun q => (q.num, (q.den : Int))
theorem tL_prs (xs : List Rat) : tL xs = .tup ((prs xs).map tP) := by
  unfold tL prs
  rw [List.map_map]
  rfl
theorem okP_rat (q : Rat) : okP (q.num, (q.den : Int)) = true := by
  have := den_pos q
  unfold okP
  rw [gcd_red]
  simp
  omega
theorem mapIx {F : EM (List D)} {tg : Nat} {g : EM D} {env : Kb.Env} {S : Store} {zs : List Rat} {n : Nat} {vs : List Nat} (hF : F env S = .ok (rngI 0 n) S) (hn : zs.length = n) (h2 : n ≤ 1000) (h : ∀ (i : Nat) z, zs[i]? = some z → g ((wipe env vs).set tg (.val (.int i))) S = .ok (tR z) S) : eLc F (.nm tg) vs tYes g env S = .ok (zs.map tR) S := by
  refine eLc_of hF (lcGo_idx (es := zs.map tR) [] ?_ ?_ ?_)
  · rw [rngI_length, List.length_map, hn]
  · intro i d hd
    obtain ⟨hi, rfl⟩ := rngI_at hd
    obtain ⟨z, hz⟩ := get_of (xs := zs) (i := i) (by omega)
    refine ⟨_, tR z, put_nm, rfl, ?_, ?_⟩
    · rw [Int.zero_add]; exact h i z hz
    · rw [List.getElem?_map, hz]; rfl
  · rw [rngI_length, List.length_nil]; unfold LN; omega
theorem zip_get {xs ys : List Rat} {i : Nat} {z : Rat} (h : (List.zipWith (· + ·) xs ys)[i]? = some z) : ∃ x y, xs[i]? = some x ∧ ys[i]? = some y ∧ z = x + y := by
  rw [List.getElem?_zipWith] at h
  cases e1 : xs[i]? with
  | none => rw [e1] at h; cases h
  | some x =>
    cases e2 : ys[i]? with
    | none => rw [e1, e2] at h; cases h
    | some y => rw [e1, e2] at h; cases h; exact ⟨x, y, rfl, rfl, rfl⟩
theorem map_get {f : Rat} {xs : List Rat} {i : Nat} {z : Rat} (h : (xs.map (f * ·))[i]? = some z) : ∃ x, xs[i]? = some x ∧ z = f * x := by
  rw [List.getElem?_map] at h
  cases e1 : xs[i]? with
  | none => rw [e1] at h; cases h
  | some x => rw [e1] at h; cases h; exact ⟨x, rfl, rfl⟩
theorem unit_get {w i j : Nat} {z : Rat} (hi : i < w) (h : (unit w i)[j]? = some z) : j < w ∧ z = if j = i then 1 else 0 := by
  unfold unit at h
  by_cases h1 : j < i
  · rw [List.append_assoc, List.getElem?_append_left (by rw [List.length_replicate]; exact h1), List.getElem?_replicate, if_pos h1] at h
    cases h
    exact ⟨by omega, by rw [if_neg (by omega)]⟩
  · by_cases h2 : j = i
    · subst h2
      rw [List.append_assoc, List.getElem?_append_right (by rw [List.length_replicate]; omega), List.length_replicate, Nat.sub_self] at h
      cases h
      exact ⟨hi, by rw [if_pos rfl]⟩
    · rw [List.getElem?_append_right (by rw [List.length_append, List.length_replicate, List.length_singleton]; omega), List.length_append, List.length_replicate, List.length_singleton, List.getElem?_replicate] at h
      split at h
      · cases h
        rename_i h3
        exact ⟨by omega, by rw [if_neg h2]⟩
      · cases h
theorem unit_len {w i : Nat} (hi : i < w) : (unit w i).length = w := by
  unfold unit
  simp
  omega
end Ks

set_option linter.all false
set_option maxRecDepth 100000
namespace Ks
open Kb PySem
/-- a condition: a row, <= or =, a bound -/
structure Con where
  row : List Rat
  le : Bool
  bound : Rat
def rel (b : Bool) : D := .str (if b then "<=" else "=")
def tC (c : Con) : D := .tup [tL c.row, rel c.le, tR c.bound]
def tS (w : Nat) (cs : List Con) : D := .tup [.int w, .tup (cs.map tC)]
theorem eq_str {x y : Str} (hx : (x.cps.all fun c => decide (c < 1114112)) = true) (hy : (y.cps.all fun c => decide (c < 1114112)) = true) : eqD (.str x) (.str y) = some (.bl (x == y)) := by
  unfold eqD
  rw [okd, okd, hx, hy, eqv]
  rfl
theorem rel_le (b : Bool) : eqD (rel b) (.str "<=") = some (.bl b) := by
  cases b
  · exact (eq_str (by decide +kernel) (by decide +kernel)).trans (congrArg (fun b => some (D.bl b)) (by decide +kernel))
  · exact (eq_str (by decide +kernel) (by decide +kernel)).trans (congrArg (fun b => some (D.bl b)) (by decide +kernel))
theorem rel_eq (b : Bool) : eqD (rel b) (.str "=") = some (.bl (!b)) := by
  cases b
  · exact (eq_str (by decide +kernel) (by decide +kernel)).trans (congrArg (fun b => some (D.bl b)) (by decide +kernel))
  · exact (eq_str (by decide +kernel) (by decide +kernel)).trans (congrArg (fun b => some (D.bl b)) (by decide +kernel))
theorem rel_t : rel true = .str "<=" := rfl
theorem rel_f : rel false = .str "=" := rfl
@[simp] theorem tC0 (c : Con) : ixD (tC c) (.int 0) = some (tL c.row) := (rfl)
@[simp] theorem tC1 (c : Con) : ixD (tC c) (.int 1) = some (rel c.le) := (rfl)
@[simp] theorem tC2 (c : Con) : ixD (tC c) (.int 2) = some (tR c.bound) := (rfl)
@[simp] theorem tS0 (w : Nat) (cs : List Con) : ixD (tS w cs) (.int 0) = some (.int w) := (rfl)
@[simp] theorem tS1 (w : Nat) (cs : List Con) : ixD (tS w cs) (.int 1) = some (.tup (cs.map tC)) := (rfl)
/-- what a row must do -/
def Con.ok (c : Con) (x : List Rat) : Bool := decide (dot c.row x = c.bound) || (c.le && decide (dot c.row x < c.bound))
theorem sgn_0 (a b : Rat) : sgn (a.num * b.den - b.num * a.den) = 0 ↔ a = b := by
  rw [cmp_lt]
  by_cases h1 : a < b
  · rw [if_pos h1]
    constructor
    · intro h; cases h
    · intro h; subst h; exact absurd h1 (Rat.lt_irrefl)
  · rw [if_neg h1]
    by_cases h2 : b < a
    · rw [if_pos h2]
      constructor
      · intro h; cases h
      · intro h; subst h; exact absurd h2 (Rat.lt_irrefl)
    · rw [if_neg h2]
      constructor
      · intro _; exact Rat.le_antisymm (Rat.not_lt.mp h2) (Rat.not_lt.mp h1)
      · intro _; rfl
theorem sgn_n (a b : Rat) : sgn (a.num * b.den - b.num * a.den) < 0 ↔ a < b := by
  rw [cmp_lt]
  by_cases h1 : a < b
  · simp [h1]
  · rw [if_neg h1]
    by_cases h2 : b < a
    · simp [h1, h2]
    · simp [h1, h2]
theorem kept_ev {k l : Nat} {a b : Rat} {le : Bool} (ha : Bd k a) (hb : Bd l b) (h : k + l ≤ 8000) (S : Store) : d_is_kept [tR a, rel le, tR b] S = .ok (.bl (decide (a = b) || (le && decide (a < b)))) S := by
  have c := compare_ev ha hb h S
  have e0 := sgn_0 a b
  have e1 := sgn_n a b
  have r := rel_le le
  refine fnD_rt rfl (en1 := [.val (tR a), .val (rel le), .val (tR b), .val (.int (sgn (a.num * b.den - b.num * a.den)))]) ?_
  by_cases h0 : a = b
  · have h1 := e0.mpr h0
    simp only [b_is_kept, sSeq_ev, sSet_ev]
    simp [c, h1]
    simp [h0]
  · have h1 : ¬ sgn (a.num * b.den - b.num * a.den) = 0 := fun z => h0 (e0.mp z)
    by_cases h2 : a < b
    · have h3 := e1.mpr h2
      simp [b_is_kept, c, h1, h3, r, h0, h2]
    · have h3 : ¬ sgn (a.num * b.den - b.num * a.den) < 0 := fun z => h2 (e1.mp z)
      simp [b_is_kept, c, h1, h3, r, h0, h2]
end Ks

set_option linter.all false
set_option maxRecDepth 100000
namespace Ks
open Kb PySem
theorem eqR (a b : Rat) : eqD (tR a) (tR b) = some (.bl (decide (a = b))) := by
  unfold eqD
  rw [okd_tR 59 a, okd_tR 59 b]
  have e : eqv (tR a) (tR b) = decide (a = b) := by
    simp only [tR, eqv, eqvs]
    by_cases h : a = b
    · subst h; simp
    · have : ¬ (a.num = b.num ∧ a.den = b.den) := fun z => h (Rat.ext z.1 z.2)
      rw [decide_eq_false h]
      by_cases h1 : a.num = b.num
      · have h2 : ¬ a.den = b.den := fun z => this ⟨h1, z⟩
        have h3 : ¬ ((a.den : Int)) = b.den := by omega
        simp [h1, h3]
      · simp [h1]
  rw [e]
  rfl
theorem allP {α : Type} (p : α → Bool) (zs : List α) : allD [.lst (zs.map fun z => .bl (p z))] = some (.bl (zs.all p)) := by
  show (boolsOf _).map _ = _
  have : ∀ zs : List α, boolsOf (zs.map fun z => .bl (p z)) = some (zs.map p) := by
    intro zs
    induction zs with
    | nil => rfl
    | cons z zs ih => rw [List.map_cons, boolsOf, ih]; rfl
  rw [this, Option.map_some, List.all_map]
  rfl
theorem anyP {α : Type} (p : α → Bool) (zs : List α) : anyD [.lst (zs.map fun z => .bl (p z))] = some (.bl (zs.any p)) := by
  show (boolsOf _).map _ = _
  have : ∀ zs : List α, boolsOf (zs.map fun z => .bl (p z)) = some (zs.map p) := by
    intro zs
    induction zs with
    | nil => rfl
    | cons z zs ih => rw [List.map_cons, boolsOf, ih]; rfl
  rw [this, Option.map_some, List.any_map]
  rfl
/-- a comprehension over a row of one kind of thing -/
theorem mapU {α : Type} {F : EM (List D)} {tg : Nat} {g : EM D} {env : Kb.Env} {S : Store} {zs : List α} {vs : List Nat} {u v : α → D} (hF : F env S = .ok (zs.map u) S) (h2 : zs.length ≤ 1000) (h : ∀ z ∈ zs, g ((wipe env vs).set tg (.val (u z))) S = .ok (v z) S) : eLc F (.nm tg) vs tYes g env S = .ok (zs.map v) S := by
  refine eLc_of hF (lcGo_idx (es := zs.map v) [] ?_ ?_ ?_)
  · rw [List.length_map, List.length_map]
  · intro i d hd
    rw [List.getElem?_map] at hd
    cases e : zs[i]? with
    | none => rw [e] at hd; cases hd
    | some z =>
      rw [e] at hd
      cases hd
      exact ⟨_, v z, put_nm, rfl, h z (List.mem_of_getElem? e), by rw [List.getElem?_map, e]; rfl⟩
  · rw [List.length_map, List.length_nil]; unfold LN; omega
theorem sgn_ge (n : Int) : (0 ≤ sgn n) ↔ 0 ≤ n := by
  unfold sgn
  by_cases h : n = 0
  · simp [h]
  · by_cases h1 : 0 < n
    · simp [h, h1]; omega
    · simp [h, h1]; omega
/-- not below 0 -/
def pos (xs : List Rat) : Bool := xs.all fun q => decide (0 ≤ q)
def hist (w : Nat) (cs : List Con) (x : List Rat) : Bool := (decide (x.length = w) && pos x) && cs.all (·.ok x)
theorem keeps_ev {k l m : Nat} {c : Con} {x : List Rat} (hr : BdL k c.row) (hb : Bd m c.bound) (hx : BdL l x) (hl : c.row.length = x.length) (hk : 1 + c.row.length * (k + l + 1) + k + l + m ≤ 1990) (S : Store) : d_keeps [tC c, tL x] S = .ok (.bl (c.ok x)) S := by
  have e1 := product_ev hr hx hl (by omega) S
  have e2 := kept_ev (le := c.le) (bd_dot hr hx) hb (by omega) S
  refine fnD_rt rfl (en1 := [.val (tC c), .val (tL x)]) ?_
  simp [b_keeps, e1, e2, Con.ok]
theorem lkeeps_ev {k l m : Nat} {c : Con} {x : List Rat} (hr : BdL k c.row) (hb : Bd m c.bound) (hx : BdL l x) (hl : c.row.length = x.length) (hk : 1 + c.row.length * (k + l + 1) + k + l + m ≤ 1990) (S : Store) : d__law_keeps [tC c, tL x] S = .ok (.bl (c.ok x)) S := by
  have e1 := lproduct_ev hr hx (by omega) (by omega) S
  have e2 := less_ev (bd_dot hr hx) hb (by omega) S
  have e3 := eqR (dot c.row x) c.bound
  have e4 := rel_le c.le
  refine fnD_rt rfl (en1 := [.val (tC c), .val (tL x), .val (tR (dot c.row x))]) ?_
  unfold Con.ok
  by_cases h : dot c.row x = c.bound
  · rw [decide_eq_true h] at e3
    simp [b__law_keeps, e1, e3, h]
  · rw [decide_eq_false h] at e3
    cases hc : c.le
    · rw [hc] at e4
      simp [b__law_keeps, e1, e3, e4, h, hc]
    · rw [hc] at e4
      simp [b__law_keeps, e1, e2, e3, e4, h, hc]
theorem positive_ev {x : List Rat} (w : Nat) (hn : x.length ≤ 1000) (S : Store) : d_is_positive [tL x, .int w] S = .ok (.bl (decide (x.length = w) && pos x)) S := by
  refine fnD_rt rfl (en1 := [.val (tL x), .val (.int w), .no]) ?_
  by_cases h : x.length = w
  · have hl : l_is_positive_1 [.val (tL x), .val (.int w), .no] S = .ok (x.map fun q => .bl (decide (0 ≤ q))) S := by
      refine mapU (zs := x) (u := tR) (by simp) hn ?_
      intro z hz
      have := signR_ev z S
      simp [this, sgn_ge]
    have ha := allP (fun q : Rat => decide (0 ≤ q)) x
    simp [b_is_positive, h, hl, ha, pos]
  · have h2 : ¬ ((x.length : Int)) = w := by omega
    simp [b_is_positive, h, h2]
theorem history_ev {k l m w : Nat} {cs : List Con} {x : List Rat} (hc : ∀ c ∈ cs, c.row.length = w ∧ BdL k c.row ∧ Bd m c.bound) (hx : BdL l x) (hk : 1 + w * (k + l + 1) + k + l + m ≤ 1990) (hn : cs.length ≤ 1000) (hm : x.length ≤ 1000) (S : Store) : d_is_history [tS w cs, tL x] S = .ok (.bl (hist w cs x)) S := by
  have e1 := positive_ev (x := x) w hm S
  refine fnD_rt rfl (en1 := [.val (tS w cs), .val (tL x), .no]) ?_
  unfold hist
  cases hp : (decide (x.length = w) && pos x)
  · rw [hp] at e1
    simp [b_is_history, e1]
  · rw [hp] at e1
    have hw : x.length = w := by
      rw [Bool.and_eq_true] at hp
      exact of_decide_eq_true hp.1
    have hl : l_is_history_1 [.val (tS w cs), .val (tL x), .no] S = .ok (cs.map fun c => .bl (c.ok x)) S := by
      refine mapU (zs := cs) (u := tC) (by simp) hn ?_
      intro c hcm
      obtain ⟨h1, h2, h3⟩ := hc c hcm
      have := keeps_ev h2 h3 hx (by omega) (by rw [h1]; omega) S
      simp [this]
    have ha := allP (fun c : Con => c.ok x) cs
    simp [b_is_history, e1, hl, ha]
theorem lhistory_ev {k l m w : Nat} {cs : List Con} {x : List Rat} (hc : ∀ c ∈ cs, c.row.length = w ∧ BdL k c.row ∧ Bd m c.bound) (hx : BdL l x) (hk : 1 + w * (k + l + 1) + k + l + m ≤ 1990) (hn : cs.length ≤ 1000) (hm : x.length ≤ 1000) (S : Store) : d__law_is_history [tS w cs, tL x] S = .ok (.bl (hist w cs x)) S := by
  refine fnD_rt rfl (en1 := [.val (tS w cs), .val (tL x), .no, .no]) ?_
  unfold hist
  by_cases hw : x.length = w
  · have hl1 : l__law_is_history_1 [.val (tS w cs), .val (tL x), .no, .no] S = .ok (x.map fun q => .bl (decide (0 ≤ q))) S := by
      refine mapU (zs := x) (u := tR) (by simp) hm ?_
      intro z hz
      simp
    have ha1 := allP (fun q : Rat => decide (0 ≤ q)) x
    cases hp : pos x
    · have hp' := hp
      unfold pos at hp'
      rw [hp'] at ha1
      simp [b__law_is_history, hl1, ha1, hw]
    · have hp' := hp
      unfold pos at hp'
      rw [hp'] at ha1
      have hl : l__law_is_history_2 [.val (tS w cs), .val (tL x), .no, .no] S = .ok (cs.map fun c => .bl (c.ok x)) S := by
        refine mapU (zs := cs) (u := tC) (by simp) hn ?_
        intro c hcm
        obtain ⟨h1, h2, h3⟩ := hc c hcm
        have := lkeeps_ev h2 h3 hx (by omega) (by rw [h1]; omega) S
        simp [this]
      have ha := allP (fun c : Con => c.ok x) cs
      simp [b__law_is_history, hl1, ha1, hl, ha, hw]
  · have h2 : ¬ ((x.length : Int)) = w := by omega
    simp [b__law_is_history, h2, hw]
end Ks

set_option linter.all false
set_option maxRecDepth 100000
namespace Ks
open Kb PySem
theorem fdiv_s {i j : Int} (h : 0 < j) (h2 : j < 2 ^ 100) : fdivD (.int i) (.int j) = some (.int (i / j)) := fdivD_ok h (by have := bit_small (i := j) (n := 100) (by omega) h2; omega)
theorem bound_ev {n low : Int} (h0 : 0 ≤ low) (h1 : low ≤ 30) (S : Store) : ∃ q, Bd 6 q ∧ d__law_bound [.int n, .int low] S = .ok (tR q) S := by
  have m1 : modD (.int n) (.int 25) = some (.int (n % 25)) := modD_ok (by omega)
  have f1 : fdivD (.int n) (.int 25) = some (.int (n / 25)) := fdiv_s (by omega) (by omega)
  have m2 : modD (.int (n / 25)) (.int 3) = some (.int (n / 25 % 3)) := modD_ok (by omega)
  have hr := ratioN_ev (n := n % 25 - low) (d := 1 + n / 25 % 3) (by omega) (Nat.lt_of_lt_of_le (show (1 + n / 25 % 3).natAbs < 2 ^ 10 by omega) (pow2_le (by omega))) S
  refine ⟨_, bd_div (n := n % 25 - low) (d := 1 + n / 25 % 3) (by omega) (by omega) (by omega), fnD_rt rfl (en1 := [.val (.int n), .val (.int low)]) ?_⟩
  simp [b__law_bound, m1, f1, m2, hr]
theorem part_ev (n : Int) (S : Store) : ∃ q, Bd 4 q ∧ d__law_part [.int n] S = .ok (tR q) S := by
  have m1 : modD (.int n) (.int 7) = some (.int (n % 7)) := modD_ok (by omega)
  by_cases h1 : n % 7 < 2
  · refine ⟨0, Bd0 (by omega), fnD_rt rfl (en1 := [.val (.int n), .val (.int (n % 7))]) ?_⟩
    have t0 : (.tup [.int 0, .int 1] : D) = tR 0 := rfl
    simp [b__law_part, m1, h1, t0]
  · have f1 : fdivD (.int n) (.int 7) = some (.int (n / 7)) := fdiv_s (by omega) (by omega)
    by_cases h2 : n % 7 < 5
    · have m2 : modD (.int (n / 7)) (.int 7) = some (.int (n / 7 % 7)) := modD_ok (by omega)
      obtain ⟨v, hv⟩ : ∃ v, v = n / 7 % 7 - 3 := ⟨_, rfl⟩
      refine ⟨(v : Rat), Bd.int (by omega) (by omega), fnD_rt rfl (en1 := [.val (.int n), .val (.int (n % 7))]) ?_⟩
      simp [b__law_part, m1, h1, h2, f1, m2, ← hv, tR_int]
    · have m2 : modD (.int (n / 7)) (.int 11) = some (.int (n / 7 % 11)) := modD_ok (by omega)
      have f2 : fdivD (.int n) (.int 77) = some (.int (n / 77)) := fdiv_s (by omega) (by omega)
      have m3 : modD (.int (n / 77)) (.int 4) = some (.int (n / 77 % 4)) := modD_ok (by omega)
      have hr := ratioN_ev (n := n / 7 % 11 - 5) (d := 1 + n / 77 % 4) (by omega) (Nat.lt_of_lt_of_le (show (1 + n / 77 % 4).natAbs < 2 ^ 10 by omega) (pow2_le (by omega))) S
      refine ⟨_, bd_div (n := n / 7 % 11 - 5) (d := 1 + n / 77 % 4) (by omega) (by omega) (by omega), fnD_rt rfl (en1 := [.val (.int n), .val (.int (n % 7))]) ?_⟩
      simp [b__law_part, m1, h1, h2, f1, m2, f2, m3, hr]
/-- the number at a place, around -/
def pa (ns : List Int) (x : Int) : Int := ns.getD (x % ns.length).toNat 0
theorem pa_ix {ns : List Int} (h : ns ≠ []) (x : Int) : modD (.int x) (.int ns.length) = some (.int (x % ns.length)) ∧ ixD (.lst (nums ns)) (.int (x % ns.length)) = some (.int (pa ns x)) := by
  have hl : 0 < ns.length := List.length_pos_iff.mpr h
  have h0 : 0 ≤ x % ns.length := Int.emod_nonneg _ (by omega)
  have h2 : x % ns.length < ns.length := Int.emod_lt_of_pos _ (by omega)
  have hk : (x % ns.length).toNat < ns.length := by omega
  refine ⟨modD_ok (by omega), ?_⟩
  have := ixD_lst (xs := nums ns) (k := (x % ns.length).toNat) (x := .int (pa ns x)) (by
    unfold pa
    rw [List.getElem?_map, List.getElem?_eq_getElem hk, List.getD_eq_getElem?_getD, List.getElem?_eq_getElem hk]; rfl)
  rwa [Int.toNat_of_nonneg h0] at this
theorem pa_b {ns : List Int} (hN : N31 ns) (h : ns ≠ []) (x : Int) : 0 ≤ pa ns x ∧ pa ns x < 2147483648 := by
  have hl : 0 < ns.length := List.length_pos_iff.mpr h
  have h0 : 0 ≤ x % ns.length := Int.emod_nonneg _ (by omega)
  have h2 : x % ns.length < ns.length := Int.emod_lt_of_pos _ (by omega)
  have hk : (x % ns.length).toNat < ns.length := by omega
  unfold pa
  rw [List.getD_eq_getElem?_getD, List.getElem?_eq_getElem hk]
  exact hN _ (List.getElem_mem hk)
theorem row_ev {ns : List Int} (h : ns ≠ []) (a : Int) (w : Nat) (hw : w ≤ 30) (S : Store) : ∃ xs, xs.length = w ∧ BdL 4 xs ∧ d__law_rowN [.lst (nums ns), .int a, .int w] S = .ok (tL xs) S := by
  have go : ∀ n, n ≤ 30 → ∃ xs : List Rat, xs.length = n ∧ BdL 4 xs ∧ ∀ (i : Nat) x, xs[i]? = some x → d__law_part [.int (pa ns (a + 3 * i))] S = .ok (tR x) S := by
    intro n
    induction n with
    | zero => exact fun _ => ⟨[], rfl, fun x h => absurd h List.not_mem_nil, fun i x h => by cases h⟩
    | succ n ih =>
      intro hn
      obtain ⟨xs, h1, h2, h3⟩ := ih (by omega)
      obtain ⟨x, h4, h5⟩ := part_ev (pa ns (a + 3 * n)) S
      refine ⟨xs ++ [x], by simp [h1], ?_, ?_⟩
      · intro y hy
        rcases List.mem_append.mp hy with hz | hz
        · exact h2 y hz
        · rw [List.mem_singleton.mp hz]; exact h4
      · intro i y hy
        by_cases hi : i < xs.length
        · rw [List.getElem?_append_left hi] at hy
          exact h3 i y hy
        · have hlt := (List.getElem?_eq_some_iff.mp hy).1
          rw [List.length_append, List.length_singleton] at hlt
          have e0 : i = xs.length := by omega
          subst e0
          rw [List.getElem?_append_right (by omega), Nat.sub_self] at hy
          cases hy
          rw [h1]
          exact h5
  obtain ⟨xs, h1, h2, h3⟩ := go w hw
  refine ⟨xs, h1, h2, fnD_rt rfl (en1 := [.val (.lst (nums ns)), .val (.int a), .val (.int w), .no]) ?_⟩
  have hr := rng_nat (n := w) (by omega)
  have hl : l__law_rowN_1 [.val (.lst (nums ns)), .val (.int a), .val (.int w), .no] S = .ok (xs.map tR) S := by
    refine mapIx (n := w) (by simp [hr]) h1 (by omega) ?_
    intro i z hz
    have hlt := (List.getElem?_eq_some_iff.mp hz).1
    have m : mulI (.int 3) (.int i) = some (.int (3 * i)) := mulI_ok (by have : bit 3 ≤ 3 := bit_small (by omega) (by omega); have : bit i ≤ 6 := bit_small (by omega) (by omega); omega)
    obtain ⟨p1, p2⟩ := pa_ix h (a + 3 * i)
    have p3 := h3 i z hz
    simp only [nums] at p2
    simp [m, p1, p2, p3]
  simp only [nums] at hl
  simp [b__law_rowN, hl, tL_def]
/-- the conditions of the law's system -/
def Cs (w : Nat) (cs : List Con) (m : Nat) : Prop := ∀ c ∈ cs, c.row.length = w ∧ BdL 4 c.row ∧ Bd m c.bound
theorem system_ev {ns : List Int} (h : ns ≠ []) (w n : Nat) (low : Int) (hw : w ≤ 30) (hn : n ≤ 60) (g0 : 0 ≤ low) (g1 : low ≤ 30) (S : Store) : ∃ cs, cs.length = n ∧ Cs w cs 6 ∧ d__law_system [.lst (nums ns), .int w, .int n, .int low] S = .ok (tS w cs) S := by
  have H := fnD_wp (n := 4) (k := 4) (b := b__law_system) (ds := [.lst (nums ns), .int w, .int n, .int low]) (S := S) (Q := fun d S1 => S1 = S ∧ ∃ cs, cs.length = n ∧ Cs w cs 6 ∧ d = tS w cs) rfl ?_
  · obtain ⟨d, S1, h1, rfl, cs, h2, h3, rfl⟩ := H
    exact ⟨cs, h2, h3, h1⟩
  have hr := rng_nat (n := n) (by omega)
  simp [b__law_system, hr]
  refine wp_bind (wp_rng0 (fun i e S1 => S1 = S ∧ ∃ cs : List Con, ∃ s5 s6 s7 : Slot, cs.length = i ∧ Cs w cs 6 ∧ e = [.val (.lst (nums ns)), .val (.int w), .val (.int n), .val (.int low), .own (cs.map tC), s5, s6, s7]) ⟨rfl, [], .no, .no, .no, rfl, fun c hc => absurd hc List.not_mem_nil, rfl⟩ ?_ ?_)
  · rintro i e S1 hi ⟨rfl, cs, s5, s6, s7, h1, h2, rfl⟩
    have m5 : mulI (.int 5) (.int i) = some (.int (5 * i)) := mulI_ok (by have : bit 5 ≤ 3 := bit_small (by omega) (by omega); have : bit i ≤ 6 := bit_small (by omega) (by omega); omega)
    have m41 : mulI (.int 41) (.int i) = some (.int (41 * i)) := mulI_ok (by have : bit 41 ≤ 6 := bit_small (by omega) (by omega); have : bit i ≤ 6 := bit_small (by omega) (by omega); omega)
    obtain ⟨p1, p2⟩ := pa_ix h (7 + 5 * i)
    obtain ⟨q1, q2⟩ := pa_ix h (11 + 5 * i)
    generalize pa ns (7 + 5 * i) = v at *
    generalize pa ns (11 + 5 * i) = u at *
    have m3 : modD (.int v) (.int 3) = some (.int (v % 3)) := modD_ok (by omega)
    obtain ⟨b, hb⟩ : ∃ b, ixD (.lst [.str "<=", .str "<=", .str "="]) (.int (v % 3)) = some (rel b) := by
      rcases (by omega : v % 3 = 0 ∨ v % 3 = 1 ∨ v % 3 = 2) with e | e | e
      · rw [e]; exact ⟨true, rfl⟩
      · rw [e]; exact ⟨true, rfl⟩
      · rw [e]; exact ⟨false, rfl⟩
    obtain ⟨q, hq, eq⟩ := bound_ev (n := u) (low := low) g0 g1 S1
    obtain ⟨xs, l1, l2, l3⟩ := row_ev h (13 + 41 * i) w (by omega) S1
    have hl : cs.length < LN := by unfold LN; omega
    have tc : (.tup [tL xs, rel b, tR q] : D) = tC ⟨xs, b, q⟩ := rfl
    simp only [nums] at p2 q2 l3
    simp [b__law_system_1, m5, m41, p1, p2, q1, q2, m3, hb, eq, l3, sApp, hl, tc]
    refine ⟨cs ++ [⟨xs, b, q⟩], by simp; omega, ?_, by simp⟩
    intro c hc
    rcases List.mem_append.mp hc with hz | hz
    · exact h2 c hz
    · rw [List.mem_singleton.mp hz]; exact ⟨l1, l2, hq⟩
  · rintro e S1 ⟨rfl, cs, s5, s6, s7, h1, h2, rfl⟩
    simp
    exact ⟨cs, h1, h2, rfl⟩
theorem Cs.mono {w m n : Nat} {cs : List Con} (h : Cs w cs m) (hn : m ≤ n) : Cs w cs n := fun c hc => ⟨(h c hc).1, (h c hc).2.1, (h c hc).2.2.mono hn⟩
theorem cut_to {xs : List D} {k : Nat} (h : k ≤ xs.length) : slD (.tup xs) none (some (k : Int)) = some (.tup (xs.take k)) := by
  have h1 : ¬ ((k : Int) < 0) := by omega
  have h2 : min k xs.length = k := by omega
  simp [slD, cut, sIx, h1, h2]
theorem cut_from {xs : List D} {k : Nat} (h : k ≤ xs.length) : slD (.tup xs) (some (k : Int)) none = some (.tup (xs.drop k)) := by
  have h1 : ¬ ((k : Int) < 0) := by omega
  have h2 : min k xs.length = k := by omega
  simp [slD, cut, sIx, h1, h2]
  rw [List.take_of_length_le]
  simp
theorem hist_no {w : Nat} {cs : List Con} {x : List Rat} (h : x.length ≠ w) : hist w cs x = false := by
  unfold hist
  rw [decide_eq_false h]
  rfl
theorem mod_at {ns : List Int} {n : Nat} (hn : 0 < n) (v : Int) : ∃ k : Nat, k < n ∧ v % n = k ∧ modD (.int v) (.int n) = some (.int k) := by
  have h0 : 0 ≤ v % n := Int.emod_nonneg _ (by omega)
  have h2 : v % n < n := Int.emod_lt_of_pos _ (by omega)
  refine ⟨(v % n).toNat, by omega, by omega, ?_⟩
  rw [modD_ok (by omega), Int.toNat_of_nonneg h0]
theorem ix_n {ns : List Int} {k : Nat} (h : k < ns.length) : ixD (.lst (nums ns)) (.int k) = some (.int (ns.getD k 0)) := ixD_lst (by
  unfold nums
  rw [List.getElem?_map, List.getElem?_eq_getElem h, List.getD_eq_getElem?_getD, List.getElem?_eq_getElem h]; rfl)
end Ks

set_option linter.all false
set_option maxRecDepth 100000
namespace Ks
open Kb PySem
theorem numlt (q : Rat) : q.num < 0 ↔ q < 0 := by
  rw [← Int.not_le, Rat.num_nonneg, Rat.not_le]
theorem sgn_lt (n : Int) : sgn n < 0 ↔ n < 0 := by
  have := sgn_ge n
  omega
/-- a multiplier and its condition -/
def okm (p : Rat × Con) : Bool := !(p.2.le && decide (p.1 < 0))
def mixR (w : Nat) (ps : List (Rat × Con)) : List Rat := ps.foldl (fun r p => List.zipWith (· + ·) r (p.2.row.map (p.1 * ·))) (List.replicate w 0)
def mixB (ps : List (Rat × Con)) : Rat := ps.foldl (fun b p => b + p.1 * p.2.bound) 0
theorem take_foldl {α β : Type} (f : β → α → β) (b : β) {xs : List α} {i : Nat} {x : α} (h : xs[i]? = some x) : (xs.take (i + 1)).foldl f b = f ((xs.take i).foldl f b) x := by
  rw [List.take_succ, List.foldl_append, h]
  rfl
def mf (p : Rat × Con) : D := tR p.1
def mc (p : Rat × Con) : D := tC p.2
theorem zipL_map {α : Type} (f g : α → D) : ∀ xs : List α, zipL (xs.map f) (xs.map g) = xs.map fun x => .tup [f x, g x]
  | [] => rfl
  | x :: xs => by
    rw [List.map_cons, List.map_cons, List.map_cons, ← zipL_map f g xs]
    rfl
theorem all_take {α : Type} (p : α → Bool) {xs : List α} {i : Nat} {x : α} (h : xs[i]? = some x) : (xs.take (i + 1)).all p = ((xs.take i).all p && p x) := by
  rw [List.take_succ, List.all_append, h]
  simp
theorem arem_ev {w : Nat} (ps : List (Rat × Con)) (S : Store) : d_are_multipliers [tS w (ps.map (·.2)), .tup (ps.map mf)] S = .ok (.bl (ps.all okm)) S := by
  have H := fnD_wp (n := 2) (k := 2) (b := b_are_multipliers) (ds := [tS w (ps.map (·.2)), .tup (ps.map mf)]) (S := S) (Q := fun d S1 => S1 = S ∧ d = .bl (ps.all okm)) rfl ?_
  · obtain ⟨d, S1, h1, rfl, rfl⟩ := H
    exact h1
  have hz := zipL_map mf mc ps
  have hc : (ps.map (·.2)).map tC = ps.map mc := by rw [List.map_map]; rfl
  simp only [b_are_multipliers, sSeq_ev]
  have z0 : zipD [.tup (ps.map mf), .tup (ps.map mc)] = some (ps.map fun x => .tup [mf x, mc x]) := by rw [← hz]; rfl
  simp [-List.map_map, hc, z0]
  refine wp_bind (wp_for (fun i e S1 => S1 = S ∧ (ps.take i).all okm = true ∧ ∃ s2 s3, e = [.val (tS w (ps.map (·.2))), .val (.tup (ps.map mf)), s2, s3]) ⟨rfl, rfl, _, _, rfl⟩ ?_ ?_)
  · rintro i d e S1 hd ⟨rfl, ho, s2, s3, rfl⟩
    rw [List.getElem?_map] at hd
    cases hj : ps[i]? with
    | none => rw [hj] at hd; cases hd
    | some p =>
      rw [hj] at hd
      cases hd
      refine ⟨_, put_2, ?_⟩
      have e1 := rel_le p.2.le
      have e2 := signR_ev p.1 S1
      have e3 := all_take okm hj
      rw [ho, Bool.true_and] at e3
      cases hl : p.2.le
      · rw [hl] at e1
        have : okm p = true := by unfold okm; rw [hl]; rfl
        rw [this] at e3
        simp [b_are_multipliers_1, mc, mf, e1, e3, hl]
      · rw [hl] at e1
        by_cases hn : p.1 < 0
        · have : okm p = false := by unfold okm; rw [hl, decide_eq_true hn]; rfl
          simp [b_are_multipliers_1, mc, mf, e1, e2, hl, sgn_lt, numlt, hn]
          exact ⟨p.1, p.2, List.mem_of_getElem? hj, this⟩
        · have : okm p = true := by unfold okm; rw [hl, decide_eq_false hn]; rfl
          rw [this] at e3
          simp [b_are_multipliers_1, mc, mf, e1, e2, e3, hl, sgn_lt, numlt, hn]
  · rintro e S1 ⟨rfl, ho, s2, s3, rfl⟩
    rw [List.length_map, List.take_length] at ho
    simp
    simpa using ho
theorem arem_len {w : Nat} {cs : List Con} {ms : List D} (h : ms.length ≠ cs.length) (S : Store) : d_are_multipliers [tS w cs, .tup ms] S = .ok (.bl false) S := by
  refine fnD_rt rfl (en1 := [.val (tS w cs), .val (.tup ms), .no, .no]) ?_
  have : ¬ ((ms.length : Int)) = cs.length := by omega
  simp [b_are_multipliers, this]
theorem mixture_no {a b : D} {S : Store} (h : d_are_multipliers [a, b] S = .ok (.bl false) S) : d_mixture [a, b] S = .exc "NotAllowed" S := by
  refine fnD_exc rfl (en1 := [.val a, .val b, .no, .no, .no, .no]) ?_
  simp [b_mixture, h]
/-- all within their bits -/
def Mx (w k l m : Nat) (ps : List (Rat × Con)) : Prop := ∀ p ∈ ps, p.2.row.length = w ∧ BdL k p.2.row ∧ Bd m p.2.bound ∧ Bd l p.1
theorem mixR_len {w k l m : Nat} {ps : List (Rat × Con)} (h : Mx w k l m ps) (i : Nat) : (mixR w (ps.take i)).length = w := by
  induction i with
  | zero => simp [mixR]
  | succ i ih =>
    cases hj : ps[i]? with
    | none =>
      have : ps.length ≤ i := List.getElem?_eq_none_iff.mp hj
      rw [List.take_of_length_le (by omega)] at ih ⊢
      exact ih
    | some p =>
      unfold mixR at ih ⊢
      rw [take_foldl _ _ hj, List.length_zipWith, ih, List.length_map, (h p (List.mem_of_getElem? hj)).1, Nat.min_self]
theorem mixR_bd {w k l m : Nat} {ps : List (Rat × Con)} (h : Mx w k l m ps) (i : Nat) : BdL (1 + i * (k + l + 1)) (mixR w (ps.take i)) := by
  induction i with
  | zero =>
    intro x hx
    have : x = 0 := (List.mem_replicate.mp hx).2
    rw [this]
    exact Bd0 (by omega)
  | succ i ih =>
    cases hj : ps[i]? with
    | none =>
      have : ps.length ≤ i := List.getElem?_eq_none_iff.mp hj
      rw [List.take_of_length_le (by omega)] at ih ⊢
      exact ih.mono (by rw [Nat.succ_mul]; omega)
    | some p =>
      obtain ⟨_, h2, _, h4⟩ := h p (List.mem_of_getElem? hj)
      have := ih.add (BdL.scale h4 h2)
      unfold mixR at this ⊢
      rw [take_foldl _ _ hj]
      exact this.mono (by rw [Nat.succ_mul]; omega)
theorem mixB_bd {w k l m : Nat} {ps : List (Rat × Con)} (h : Mx w k l m ps) (i : Nat) : Bd (1 + i * (l + m + 1)) (mixB (ps.take i)) := by
  induction i with
  | zero => exact Bd0 (by omega)
  | succ i ih =>
    cases hj : ps[i]? with
    | none =>
      have : ps.length ≤ i := List.getElem?_eq_none_iff.mp hj
      rw [List.take_of_length_le (by omega)] at ih ⊢
      exact ih.mono (by rw [Nat.succ_mul]; omega)
    | some p =>
      obtain ⟨_, _, h3, h4⟩ := h p (List.mem_of_getElem? hj)
      have := ih.add (h4.mul h3)
      unfold mixB at this ⊢
      rw [take_foldl _ _ hj]
      exact this.mono (by rw [Nat.succ_mul]; omega)
theorem mixture_ev {w k l m : Nat} {ps : List (Rat × Con)} (h : Mx w k l m ps) (ho : ps.all okm = true) (w1 : 1 ≤ w) (w2 : w ≤ 24) (hk : 1 + ps.length * (k + l + 1) + k + l ≤ 8000) (hm : 1 + ps.length * (l + m + 1) + l + m ≤ 8000) (S : Store) : d_mixture [tS w (ps.map (·.2)), .tup (ps.map mf)] S = .ok (tF (mixR w ps) (mixB ps)) S := by
  have H := fnD_wp (n := 2) (k := 4) (b := b_mixture) (ds := [tS w (ps.map (·.2)), .tup (ps.map mf)]) (S := S) (Q := fun d S1 => S1 = S ∧ d = tF (mixR w ps) (mixB ps)) rfl ?_
  · obtain ⟨d, S1, h1, rfl, rfl⟩ := H
    exact h1
  have hz := zipL_map mf mc ps
  have hc : (ps.map (·.2)).map tC = ps.map mc := by rw [List.map_map]; rfl
  have z0 : zipD [.tup (ps.map mf), .tup (ps.map mc)] = some (ps.map fun x => .tup [mf x, mc x]) := by rw [← hz]; rfl
  have t0 : (.tup [.int 0, .int 1] : D) = tR 0 := rfl
  have ea := arem_ev (w := w) ps S
  rw [ho] at ea
  simp [-List.map_map, b_mixture, hc, z0, ea, zero_ev w1 w2, c_ZERO, t0]
  refine wp_bind (wp_for (fun i e S1 => S1 = S ∧ ∃ s4 s5, e = [.val (tS w (ps.map (·.2))), .val (.tup (ps.map mf)), .val (tL (mixR w (ps.take i))), .val (tR (mixB (ps.take i))), s4, s5]) ⟨rfl, _, _, rfl⟩ ?_ ?_)
  · rintro i d e S1 hd ⟨rfl, s4, s5, rfl⟩
    rw [List.getElem?_map] at hd
    cases hj : ps[i]? with
    | none => rw [hj] at hd; cases hd
    | some p =>
      rw [hj] at hd
      cases hd
      refine ⟨_, put_2, ?_⟩
      have hi : i < ps.length := (List.getElem?_eq_some_iff.mp hj).1
      obtain ⟨h1, h2, h3, h4⟩ := h p (List.mem_of_getElem? hj)
      have q1 : i * (k + l + 1) ≤ ps.length * (k + l + 1) := Nat.mul_le_mul_right _ (by omega)
      have q2 : i * (l + m + 1) ≤ ps.length * (l + m + 1) := Nat.mul_le_mul_right _ (by omega)
      have e1 := scale_ev h4 h2 (by omega) (by unfold LN; omega) S1
      have e2 := addrows_ev (mixR_bd h i) (BdL.scale h4 h2) (by rw [mixR_len h, List.length_map, h1]) (by omega) (by rw [mixR_len h]; unfold LN; omega) S1
      have e3 := times_ev h4 h3 (by omega) S1
      have e4 := plus_ev (mixB_bd h i) (h4.mul h3) (by omega) S1
      have n1 : mixR w (ps.take (i + 1)) = List.zipWith (· + ·) (mixR w (ps.take i)) (p.2.row.map (p.1 * ·)) := take_foldl _ _ hj
      have n2 : mixB (ps.take (i + 1)) = mixB (ps.take i) + p.1 * p.2.bound := take_foldl _ _ hj
      rw [n1, n2]
      simp [-List.map_zipWith, -List.map_map, -List.zipWith_map, -List.map_replicate, b_mixture_1, mc, mf, e1, e2, e3, e4]
  · rintro e S1 ⟨rfl, s4, s5, rfl⟩
    rw [List.length_map, List.take_length]
    simp [tF]
end Ks

set_option linter.all false
set_option maxRecDepth 100000
namespace Ks
open Kb PySem
/-- a condition as it may be told -/
structure RC where
  row : List (Int × Int)
  rel : Str
  bound : Int × Int
def tRC (c : RC) : D := .tup [.tup (c.row.map tP), .str c.rel, tP c.bound]
def sys (w : Int) (rs : List RC) : D := .tup [.int w, .tup (rs.map tRC)]
def okRC (w : Int) (c : RC) : Bool := decide ((c.row.length : Int) = w) && (("<=" == c.rel || "=" == c.rel) && (okP c.bound && c.row.all okP))
def okSys (w : Int) (rs : List RC) : Bool := decide (1 ≤ w) && (decide (w ≤ 24) && (decide (rs.length ≤ 40) && rs.all (okRC w)))
def vRC (c : RC) : Prop := (c.rel.cps.all fun c => decide (c < 1114112)) = true
theorem put_3 {i j k : Nat} {x y z : D} {env : Kb.Env} : (Tg.tp [.nm i, .nm j, .nm k]).put (.tup [x, y, z]) env = some (((env.set i (.val x)).set j (.val y)).set k (.val z)) := rfl
theorem forGo_exc {tg : Tg} {b : SM} {d : D} {ds : List D} {env e1 e2 : Kb.Env} {S S2 : Store} {c : String} (hp : tg.put d env = some e1) (hb : b e1 S = .exc c e2 S2) : forGo tg b (d :: ds) env S = .exc c e2 S2 := by
  rw [forGo, hp]
  dsimp only
  rw [hb]
theorem nin_rel {r : Str} (h : (r.cps.all fun c => decide (c < 1114112)) = true) : ninD (.str r) c_RELATIONS = some (.bl (!("<=" == r || "=" == r))) := by
  unfold c_RELATIONS
  show (if (okd 60 (.str r) && okd 60 (.tup [.str "<=", .str "="])) = true then _ else _) = _
  have h1 : okd 60 (.str r) = true := h
  have h2 : okd 60 (.tup [.str "<=", .str "="]) = true := by decide +kernel
  rw [h1, h2]
  simp [eqv]
theorem chk_turn {w : Int} {c : RC} (hv : vRC c) (hn : c.row.length ≤ 1000) (d1 d2 : D) (s6 : Slot) (S : Store) : b_check_system_2 [d1 |> .val, .val (.int w), .val d2, .val (.tup (c.row.map tP)), .val (.str c.rel), .val (tP c.bound), s6] S = if okRC w c = true then .ok .nx [d1 |> .val, .val (.int w), .val d2, .val (.tup (c.row.map tP)), .val (.str c.rel), .val (tP c.bound), s6] S else .exc "NotAllowed" [d1 |> .val, .val (.int w), .val d2, .val (.tup (c.row.map tP)), .val (.str c.rel), .val (tP c.bound), s6] S := by
  have e1 := nin_rel hv
  have e2 : d_is_ratio [tP c.bound] S = .ok (.bl (okP c.bound)) S := isratio_ev c.bound.1 c.bound.2 S
  have e3 : l_check_system_1 [d1 |> .val, .val (.int w), .val d2, .val (.tup (c.row.map tP)), .val (.str c.rel), .val (tP c.bound), s6] S = .ok (c.row.map fun p => .bl (okP p)) S := by
    refine mapU (zs := c.row) (u := tP) (by simp) hn ?_
    intro z hz
    have : d_is_ratio [tP z] S = .ok (.bl (okP z)) S := isratio_ev z.1 z.2 S
    simp [this]
  have e4 := allP okP c.row
  unfold okRC
  by_cases h1 : (c.row.length : Int) = w
  · cases h2 : ("<=" == c.rel || "=" == c.rel)
    · rw [h2] at e1
      simp [b_check_system_2, h1, e1]
    · rw [h2] at e1
      cases h3 : okP c.bound
      · rw [h3] at e2
        simp [b_check_system_2, h1, e1, e2]
      · rw [h3] at e2
        cases h4 : c.row.all okP
        · rw [h4] at e4
          simp [b_check_system_2, h1, e1, e2, e3, e4]
        · rw [h4] at e4
          simp [b_check_system_2, h1, e1, e2, e3, e4]
  · simp [b_check_system_2, h1]
theorem chk_loop {w : Int} (d1 d2 : D) (s6 : Slot) (S : Store) : ∀ (rs : List RC) (s3 s4 s5 : Slot), (∀ c ∈ rs, vRC c ∧ c.row.length ≤ 1000) → ∃ e, forGo (.tp [.nm 3, .nm 4, .nm 5]) b_check_system_2 (rs.map tRC) [.val d1, .val (.int w), .val d2, s3, s4, s5, s6] S = if rs.all (okRC w) = true then .ok .nx e S else .exc "NotAllowed" e S
  | [], s3, s4, s5, _ => ⟨_, rfl⟩
  | c :: rs, s3, s4, s5, h => by
    obtain ⟨h1, h2⟩ := h c List.mem_cons_self
    have ht := chk_turn (w := w) h1 h2 d1 d2 s6 S
    cases hc : okRC w c
    · rw [hc, if_neg Bool.false_ne_true] at ht
      refine ⟨[.val d1, .val (.int w), .val d2, .val (.tup (c.row.map tP)), .val (.str c.rel), .val (tP c.bound), s6], ?_⟩
      rw [List.all_cons, hc, Bool.false_and, if_neg Bool.false_ne_true]
      exact forGo_exc (e2 := [.val d1, .val (.int w), .val d2, .val (.tup (c.row.map tP)), .val (.str c.rel), .val (tP c.bound), s6]) put_3 ht
    · rw [hc, if_pos rfl] at ht
      obtain ⟨e, he⟩ := chk_loop d1 d2 s6 S rs _ _ _ fun x hx => h x (List.mem_cons_of_mem _ hx)
      refine ⟨e, ?_⟩
      rw [List.all_cons, hc, Bool.true_and]
      exact (forGo_cons put_3 ht).trans he
theorem chk_ev {w : Int} {rs : List RC} (h : ∀ c ∈ rs, vRC c ∧ c.row.length ≤ 1000) (S : Store) : d_check_system [sys w rs] S = if okSys w rs = true then .ok .non S else .exc "NotAllowed" S := by
  obtain ⟨e, he⟩ := chk_loop (w := w) (sys w rs) (.tup (rs.map tRC)) .no S rs .no .no .no h
  have hT : sTg (.tp [.nm 1, .nm 2]) (eN 0) [.val (sys w rs), .no, .no, .no, .no, .no, .no] S = .ok .nx [.val (sys w rs), .val (.int w), .val (.tup (rs.map tRC)), .no, .no, .no, .no] S := sTg_ev rfl rfl
  unfold okSys
  by_cases h1 : w < 1
  · have h1' : ¬ (1 ≤ w) := by omega
    rw [decide_eq_false h1', Bool.false_and, if_neg Bool.false_ne_true]
    refine fnD_exc rfl (en1 := [.val (sys w rs), .val (.int w), .val (.tup (rs.map tRC)), .no, .no, .no, .no]) ?_
    simp [b_check_system, hT, h1]
  · rw [decide_eq_true (by omega : 1 ≤ w), Bool.true_and]
    by_cases h2 : 24 < w
    · rw [decide_eq_false (by omega : ¬ (w ≤ 24)), Bool.false_and, if_neg Bool.false_ne_true]
      refine fnD_exc rfl (en1 := [.val (sys w rs), .val (.int w), .val (.tup (rs.map tRC)), .no, .no, .no, .no]) ?_
      simp [b_check_system, hT, h1, h2, c_MAX_WIDTH]
    · rw [decide_eq_true (by omega : w ≤ 24), Bool.true_and]
      by_cases h3 : 40 < rs.length
      · rw [decide_eq_false (by omega : ¬ (rs.length ≤ 40)), Bool.false_and, if_neg Bool.false_ne_true]
        have h3' : (40 : Int) < rs.length := by omega
        refine fnD_exc rfl (en1 := [.val (sys w rs), .val (.int w), .val (.tup (rs.map tRC)), .no, .no, .no, .no]) ?_
        simp [b_check_system, hT, h1, h2, h3', c_MAX_WIDTH, c_MAX_CONDITIONS]
      · rw [decide_eq_true (by omega : rs.length ≤ 40), Bool.true_and]
        have h3' : ¬ ((40 : Int) < rs.length) := by omega
        cases ha : rs.all (okRC w)
        · rw [ha, if_neg Bool.false_ne_true] at he
          rw [if_neg Bool.false_ne_true]
          refine fnD_exc rfl (en1 := e) ?_
          simp [b_check_system, hT, h1, h2, h3', c_MAX_WIDTH, c_MAX_CONDITIONS, he]
        · rw [ha, if_pos rfl] at he
          rw [if_pos rfl]
          refine fnD_nx rfl (en1 := e) ?_
          simp [b_check_system, hT, h1, h2, h3', c_MAX_WIDTH, c_MAX_CONDITIONS, he]
/-- a condition of ratios, as it may be told -/
def relS (b : Bool) : Str := if b then "<=" else "="
def rcOf (c : Con) : RC := ⟨prs c.row, relS c.le, (c.bound.num, (c.bound.den : Int))⟩
theorem tC_rc (c : Con) : tC c = tRC (rcOf c) := by
  unfold tC tRC rcOf
  rw [tL_prs]
  rfl
theorem vrc_of (c : Con) : vRC (rcOf c) := by
  show ((relS c.le).cps.all fun c => decide (c < 1114112)) = true
  have : ∀ b, ((relS b).cps.all fun c => decide (c < 1114112)) = true := by decide +kernel
  exact this c.le
theorem okrc_of {w : Nat} {c : Con} (h : c.row.length = w) : okRC w (rcOf c) = true := by
  have h0 : ∀ b, (("<=" : Str) == relS b || ("=" : Str) == relS b) = true := by decide +kernel
  have h1 : ("<=" == (rcOf c).rel || "=" == (rcOf c).rel) = true := h0 c.le
  have h2 : (rcOf c).row.all okP = true := by
    rw [List.all_eq_true]
    intro p hp
    obtain ⟨q, _, rfl⟩ := List.mem_map.mp hp
    exact okP_rat q
  have h3 : okP (rcOf c).bound = true := okP_rat c.bound
  have h4 : ((rcOf c).row.length : Int) = w := by
    unfold rcOf prs
    rw [List.length_map, h]
  unfold okRC
  rw [h1, h2, h3, decide_eq_true h4]
  rfl
theorem tS_sys (w : Nat) (cs : List Con) : tS w cs = sys w (cs.map rcOf) := by
  unfold tS sys
  rw [List.map_map]
  have : (tRC ∘ rcOf) = tC := funext fun c => (tC_rc c).symm
  rw [this]
end Ks

set_option linter.all false
set_option maxRecDepth 100000
namespace Ks
open Kb PySem
/-! the helpers of the laws of scales -/
theorem euclidC {S : Store} (n d : D) : ∀ (k : Nat) (ds : List D) (x y : Nat) (s4 s5 : Slot), y < 2 ^ k → 2 * k + 1 ≤ ds.length → ∃ s4', forGo (.nm 4) b__law_ratioC_1 ds [.val n, .val d, .val (.int x), .val (.int y), s4, s5] S = .ok .nx [.val n, .val d, .val (.int (Nat.gcd x y : Nat)), .val (.int 0), s4', s5] S := by
  have stop : ∀ (ds : List D) (x : Nat) (s4 s5 : Slot), 1 ≤ ds.length → ∃ s4', forGo (.nm 4) b__law_ratioC_1 ds [.val n, .val d, .val (.int x), .val (.int 0), s4, s5] S = .ok .nx [.val n, .val d, .val (.int (x : Nat)), .val (.int 0), s4', s5] S := by
    intro ds x s4 s5 hl
    obtain ⟨a, ds, rfl⟩ := List.exists_cons_of_length_pos (by omega : 0 < ds.length)
    refine ⟨.val a, ?_⟩
    simp [for_turn, b__law_ratioC_1]
  have one : ∀ (a : D) (ds : List D) (x y : Nat) (s4 s5 : Slot), y ≠ 0 → forGo (.nm 4) b__law_ratioC_1 (a :: ds) [.val n, .val d, .val (.int x), .val (.int y), s4, s5] S = forGo (.nm 4) b__law_ratioC_1 ds [.val n, .val d, .val (.int y), .val (.int ((x % y : Nat) : Int)), .val a, s5] S := by
    intro a ds x y s4 s5 hy
    have hm : modD (.int x) (.int y) = some (.int ((x % y : Nat) : Int)) := modD_ok (by omega)
    refine forGo_cons put_nm ?_
    simp [b__law_ratioC_1, hy, hm, sPar]
  intro k
  induction k with
  | zero =>
    intro ds x y s4 s5 hy hl
    have : y = 0 := by omega
    subst this
    rw [Nat.gcd_zero_right]
    exact stop ds x s4 s5 hl
  | succ k ih =>
    intro ds x y s4 s5 hy hl
    by_cases h0 : y = 0
    · subst h0
      rw [Nat.gcd_zero_right]
      exact stop ds x s4 s5 (by omega)
    · obtain ⟨a, ds, rfl⟩ := List.exists_cons_of_length_pos (by omega : 0 < ds.length)
      rw [List.length_cons] at hl
      rw [one a ds x y s4 s5 h0]
      have hg : Nat.gcd x y = Nat.gcd y (x % y) := by rw [Nat.gcd_comm x y, Nat.gcd_rec y x]; exact Nat.gcd_comm _ _
      rw [hg]
      generalize hr : x % y = r
      have hr1 : r < y := by rw [← hr]; exact Nat.mod_lt x (by omega)
      by_cases h1 : r = 0
      · subst h1
        rw [Nat.gcd_zero_right]
        exact stop ds y _ _ (by omega)
      · obtain ⟨b, ds, rfl⟩ := List.exists_cons_of_length_pos (by omega : 0 < ds.length)
        rw [List.length_cons] at hl
        rw [one b ds y r _ _ h1]
        have hg : Nat.gcd y r = Nat.gcd r (y % r) := by rw [Nat.gcd_comm y r, Nat.gcd_rec r y]; exact Nat.gcd_comm _ _
        rw [hg]
        refine ih ds r (y % r) _ _ ?_ (by omega)
        have h2 : y % r < r := Nat.mod_lt y (by omega)
        have h3 : y % r + r ≤ y := by
          have := Nat.div_add_mod y r
          have h4 : 1 ≤ y / r := (Nat.one_le_div_iff (by omega)).mpr (by omega)
          have h5 : r * 1 ≤ r * (y / r) := Nat.mul_le_mul_left r h4
          omega
        rw [Nat.pow_succ] at hy
        omega
theorem mul_1 (n : Int) (h : bit n < 10000000) : mulI (.int 1) (.int n) = some (.int n) := by
  rw [mulI_ok (by have : bit 1 ≤ 1 := bit_small (by omega) (by omega); omega), Int.one_mul]
theorem ratioC_ev {n d : Int} (h : 0 < d) (hk : d.natAbs < 2 ^ 1990) (hn : bit n < 10000000) (S : Store) : d__law_ratioC [.int n, .int d] S = .ok (tR (Rat.divInt n d)) S := by
  have g0 := gcd_pos (n := n) h
  have hk' : d.natAbs < 2 ^ 8000 := Nat.lt_of_lt_of_le hk (pow2_le (by omega))
  have f : ∀ x, fdivD (.int x) (.int (Int.gcd n d)) = some (.int (x / Int.gcd n d)) := fun x => fdivD_ok (by omega) (by have := gcd_bit (n := n) h hk'; omega)
  obtain ⟨s4, hl⟩ := euclidC (S := S) (.int n) (.int d) 1990 (rngI 0 4000) n.natAbs d.natAbs .no .no hk (by rw [rngI_length]; omega)
  have hg : (Nat.gcd n.natAbs d.natAbs) = Int.gcd n d := rfl
  rw [hg] at hl
  refine fnD_rt rfl (en1 := [.val (.int n), .val (.int d), .val (.int (Int.gcd n d)), .val (.int 0), s4, .val (.int 1)]) ?_
  have h1 : ¬ d < 0 := by omega
  obtain ⟨e1, e2⟩ := divInt_pos (n := n) h
  have ha : ∀ z : Int, (if z < 0 then -z else z) = (z.natAbs : Int) := fun z => by split <;> omega
  have hb : ((d.natAbs : Nat) : Int) = d := by omega
  have i0 : ixD (.lst [.int 1, .int (-1)]) (.int 0) = some (.int 1) := rfl
  have m1 := mul_1 n hn
  have m2 := mul_1 d (by have := bit_lt hk; omega)
  simp only [tR, e1, e2]
  rw [hb] at hl
  simp [b__law_ratioC, ha, hl, h1, i0, m1, m2, f]
theorem plusC_ev {k l : Nat} {a b : Rat} (ha : Bd k a) (hb : Bd l b) (h : k + l ≤ 1980) (S : Store) : d__law_plusC [tR a, tR b] S = .ok (tR (a + b)) S := by
  have m1 : mulI (.int a.num) (.int b.den) = some (.int (a.num * b.den)) := mulI_ok (by have := ha.bn; have := hb.bd; omega)
  have m2 : mulI (.int b.num) (.int a.den) = some (.int (b.num * a.den)) := mulI_ok (by have := hb.bn; have := ha.bd; omega)
  have m3 : mulI (.int a.den) (.int b.den) = some (.int (a.den * b.den)) := mulI_ok (by have := ha.bd; have := hb.bd; omega)
  have hn : (a.num * b.den + b.num * a.den).natAbs < 2 ^ 1990 := by
    have h1 : (a.num * b.den).natAbs < 2 ^ (k + l) := by rw [Int.natAbs_mul]; exact mul_lt ha.n (by have := hb.d; simpa using this)
    have h2 : (b.num * a.den).natAbs < 2 ^ (l + k) := by rw [Int.natAbs_mul]; exact mul_lt hb.n (by have := ha.d; simpa using this)
    rw [Nat.add_comm l k] at h2
    have h3 := add_lt h1 h2
    exact Nat.lt_of_le_of_lt (Int.natAbs_add_le _ _) (Nat.lt_of_lt_of_le h3 (pow2_le (by omega)))
  refine fnD_rt rfl (en1 := [.val (tR a), .val (tR b)]) ?_
  simp [b__law_plusC, m1, m2, m3, ratioC_ev (n := a.num * b.den + b.num * a.den) (den2_pos a b) (dd_ltN ha hb (by omega)) (by have := bit_lt hn; omega), add_divInt]
theorem timesC_ev {k l : Nat} {a b : Rat} (ha : Bd k a) (hb : Bd l b) (h : k + l ≤ 1980) (S : Store) : d__law_timesC [tR a, tR b] S = .ok (tR (a * b)) S := by
  have m1 : mulI (.int a.num) (.int b.num) = some (.int (a.num * b.num)) := mulI_ok (by have := ha.bn; have := hb.bn; omega)
  have m3 : mulI (.int a.den) (.int b.den) = some (.int (a.den * b.den)) := mulI_ok (by have := ha.bd; have := hb.bd; omega)
  have hn : (a.num * b.num).natAbs < 2 ^ (k + l) := by rw [Int.natAbs_mul]; exact mul_lt ha.n hb.n
  refine fnD_rt rfl (en1 := [.val (tR a), .val (tR b)]) ?_
  simp [b__law_timesC, m1, m3, ratioC_ev (n := a.num * b.num) (den2_pos a b) (dd_ltN ha hb (by omega)) (by have := bit_lt hn; omega), mul_divInt]
theorem minusC_ev {k l : Nat} {a b : Rat} (ha : Bd k a) (hb : Bd l b) (h : k + l ≤ 1980) (S : Store) : d__law_minusC [tR a, tR b] S = .ok (tR (a - b)) S := by
  have e := plusC_ev ha hb.neg h S
  have e2 : (.tup [.int (-b.num), .int b.den] : D) = tR (-b) := by unfold tR; rw [Rat.neg_num, Rat.neg_den]
  refine fnD_rt rfl (en1 := [.val (tR a), .val (tR b)]) ?_
  simp [b__law_minusC, e2, e]
  rw [Rat.sub_eq_add_neg]
theorem overC_ev {k l : Nat} {a b : Rat} (ha : Bd k a) (hb : Bd l b) (h : k + l ≤ 1980) (h0 : 0 < b) (S : Store) : d__law_overC [tR a, tR b] S = .ok (tR (a / b)) S := by
  have m1 : mulI (.int a.num) (.int b.den) = some (.int (a.num * b.den)) := mulI_ok (by have := ha.bn; have := hb.bd; omega)
  have m3 : mulI (.int a.den) (.int b.num) = some (.int (a.den * b.num)) := mulI_ok (by have := ha.bd; have := hb.bn; omega)
  have hn : (a.num * b.den).natAbs < 2 ^ (k + l) := by rw [Int.natAbs_mul]; exact mul_lt ha.n (by have := hb.d; simpa using this)
  have hd : ((a.den : Int) * b.num).natAbs < 2 ^ 1990 := by
    have h1 : ((a.den : Int) * b.num).natAbs < 2 ^ (k + l) := by rw [Int.natAbs_mul]; exact mul_lt (by have := ha.d; simpa using this) hb.n
    exact Nat.lt_of_lt_of_le h1 (pow2_le (by omega))
  have hp : (0 : Int) < a.den * b.num := Int.mul_pos (by have := den_pos a; omega) (by
    have h1 : ¬ b.num < 0 := fun z => by have := (numlt b).mp z; grind
    have h2 : b.num ≠ 0 := num_ne (by grind)
    omega)
  refine fnD_rt rfl (en1 := [.val (tR a), .val (tR b)]) ?_
  simp [b__law_overC, m1, m3, ratioC_ev (n := a.num * b.den) hp hd (by have := bit_lt hn; omega), div_divInt]
/-- numbers below 1000 -/
def N3 (ns : List Int) : Prop := ∀ x ∈ ns, 0 ≤ x ∧ x < 1000
theorem N3.snoc {ns : List Int} {x : Int} (h : N3 ns) (h0 : 0 ≤ x) (h1 : x < 1000) : N3 (ns ++ [x]) := by
  intro y hy
  rcases List.mem_append.mp hy with h2 | h2
  · exact h y h2
  · rw [List.mem_singleton.mp h2]; exact ⟨h0, h1⟩
theorem N3.at {ns : List Int} (h : N3 ns) {k : Nat} (hk : k < ns.length) : 0 ≤ ns.getD k 0 ∧ ns.getD k 0 < 1000 := by
  rw [List.getD_eq_getElem?_getD, List.getElem?_eq_getElem hk]
  exact h _ (List.getElem_mem hk)
theorem numC_1 (cell k many : D) (n : Nat) (hn : n ≤ 1000) (r : Int) (t5 t6 t7 : Slot) (S : Store) : ∃ (ns : List Int) (s4 s5 : Slot), ns.length = n ∧ N3 ns ∧ forGo (.nm 5) b__law_numbersC_1 (rngI 0 n) [.val cell, .val k, .val many, .own [], .val (.int r), t5, t6, t7] S = .ok .nx [.val cell, .val k, .val many, .own (nums ns), s4, s5, t6, t7] S := by
  have L : Wp (forGo (.nm 5) b__law_numbersC_1 (rngI 0 n) [.val cell, .val k, .val many, .own [], .val (.int r), t5, t6, t7] S) (fun f e S1 => f = .nx ∧ S1 = S ∧ ∃ (ns : List Int) (s4 s5 : Slot), ns.length = n ∧ N3 ns ∧ e = [.val cell, .val k, .val many, .own (nums ns), s4, s5, t6, t7]) := by
    refine wp_rng0 (fun i e S1 => S1 = S ∧ ∃ (ns : List Int) (r : Int) (t5 : Slot), ns.length = i ∧ N3 ns ∧ e = [.val cell, .val k, .val many, .own (nums ns), .val (.int r), t5, t6, t7]) ⟨rfl, [], _, _, rfl, fun x hx => absurd hx List.not_mem_nil, rfl⟩ ?_ ?_
    · rintro i e S1 hi ⟨rfl, ns, r, t5, h1, h2, rfl⟩
      obtain ⟨v, m1, v0, v1⟩ : ∃ v, modD (.int r) (.int 1000) = some (.int v) ∧ 0 ≤ v ∧ v < 1000 := ⟨_, modD_ok (by omega), by omega, by omega⟩
      obtain ⟨u, f1⟩ : ∃ u, fdivD (.int r) (.int 1000) = some (.int u) := ⟨_, fdiv_s (by omega) (by omega)⟩
      have hl' : ns.length < LN := by unfold LN; omega
      simp [b__law_numbersC_1, m1, f1, sApp, hl']
      exact ⟨ns ++ [v], by simp; omega, h2.snoc v0 v1, by simp⟩
    · rintro e S1 ⟨rfl, ns, r, t5, h1, h2, rfl⟩
      exact ⟨rfl, rfl, ns, _, _, h1, h2, rfl⟩
  obtain ⟨f, e, S1, h, rfl, rfl, ns, s4, s5, h1, h2, rfl⟩ := wp_out L
  exact ⟨ns, s4, s5, h1, h2, h⟩
theorem numC_2 (cell many : D) (k n : Nat) (hk : k ≤ 1000) (hn : n ≤ 1000) (r : Int) (r0 : 0 ≤ r) (r1 : r < 2147483647) (t4 t5 t7 : Slot) (S : Store) : ∃ (ns : List Int) (s5 s6 s7 : Slot), ns.length = n ∧ N3 ns ∧ forGo (.nm 5) b__law_numbersC_2 (rngI 0 n) [.val cell, .val (.int k), .val many, .own [], t4, t5, .val (.int r), t7] S = .ok .nx [.val cell, .val (.int k), .val many, .own (nums ns), t4, s5, s6, s7] S := by
  have s3 : bit (k : Int) ≤ 10 := bit_small (by omega) (by omega)
  have s4 : bit 16807 ≤ 15 := bit_small (by omega) (by omega)
  have s5 : bit 7919 ≤ 13 := bit_small (by omega) (by omega)
  have s6 : bit 31 ≤ 5 := bit_small (by omega) (by omega)
  have L : Wp (forGo (.nm 5) b__law_numbersC_2 (rngI 0 n) [.val cell, .val (.int k), .val many, .own [], t4, t5, .val (.int r), t7] S) (fun f e S1 => f = .nx ∧ S1 = S ∧ ∃ (ns : List Int) (s5 s6 s7 : Slot), ns.length = n ∧ N3 ns ∧ e = [.val cell, .val (.int k), .val many, .own (nums ns), t4, s5, s6, s7]) := by
    refine wp_rng0 (fun i e S1 => S1 = S ∧ ∃ (ns : List Int) (r : Int) (t5 t7 : Slot), ns.length = i ∧ N3 ns ∧ 0 ≤ r ∧ r < 2147483647 ∧ e = [.val cell, .val (.int k), .val many, .own (nums ns), t4, t5, .val (.int r), t7]) ⟨rfl, [], _, _, _, rfl, fun x hx => absurd hx List.not_mem_nil, r0, r1, rfl⟩ ?_ ?_
    · clear r0 r1 r
      rintro i e S1 hi ⟨rfl, ns, r, t5, t7, h1, h2, r0, r1, rfl⟩
      have sr : bit r ≤ 31 := bit_small r0 (by omega)
      have si : bit (i : Int) ≤ 10 := bit_small (by omega) (by omega)
      have n1 : mulI (.int r) (.int 16807) = some (.int (r * 16807)) := mulI_ok (by omega)
      have n2 : mulI (.int i) (.int 7919) = some (.int (i * 7919)) := mulI_ok (by omega)
      obtain ⟨y, n8, y0, y1⟩ : ∃ y, modD (.int (r * 16807 + i * 7919 + 13)) (.int 2147483647) = some (.int y) ∧ 0 ≤ y ∧ y < 2147483647 := ⟨_, modD_ok (by omega), by omega, by omega⟩
      have sy : bit y ≤ 31 := bit_small y0 (by omega)
      have n3 : mulI (.int y) (.int y) = some (.int (y * y)) := mulI_ok (by omega)
      have n4 : mulI (.int k) (.int 31) = some (.int (k * 31)) := mulI_ok (by omega)
      obtain ⟨z, n5⟩ : ∃ z, modD (.int (y * y + k * 31 + i)) (.int 1000000007) = some (.int z) := ⟨_, modD_ok (by omega)⟩
      obtain ⟨u, n6⟩ : ∃ u, fdivD (.int z) (.int 101) = some (.int u) := ⟨_, fdiv_s (by omega) (by omega)⟩
      obtain ⟨v, n7, v0, v1⟩ : ∃ v, modD (.int u) (.int 1000) = some (.int v) ∧ 0 ≤ v ∧ v < 1000 := ⟨_, modD_ok (by omega), by omega, by omega⟩
      have hl' : ns.length < LN := by unfold LN; omega
      simp [b__law_numbersC_2, n1, n2, n8, n3, n4, n5, n6, n7, sApp, hl']
      exact ⟨ns ++ [v], by simp; omega, h2.snoc v0 v1, y, y0, y1, by simp⟩
    · rintro e S1 ⟨rfl, ns, r, t5, t7, h1, h2, r0, r1, rfl⟩
      exact ⟨rfl, rfl, ns, _, _, _, h1, h2, rfl⟩
  obtain ⟨f, e, S1, h, rfl, rfl, ns, s5, s6, s7, h1, h2, rfl⟩ := wp_out L
  exact ⟨ns, s5, s6, s7, h1, h2, h⟩
theorem numC_ev {cell : Int} (hb : bit cell ≤ 1048576) (k many : Nat) (hk : k ≤ 1000) (hm : many ≤ 1000) (S : Store) : ∃ ns, ns.length = many ∧ N3 ns ∧ d__law_numbersC [.int cell, .int k, .int many] S = .ok (.lst (nums ns)) S := by
  have hr := rng_nat (n := many) (by omega)
  have p18 : powD (.int 10) (.int 18) = some (.int (10 ^ 18)) := rfl
  have s1 : bit 48271 ≤ 16 := bit_small (by omega) (by omega)
  have s2 : bit 69621 ≤ 17 := bit_small (by omega) (by omega)
  have s3 : bit (k : Int) ≤ 10 := bit_small (by omega) (by omega)
  by_cases hc : 10 ^ 18 ≤ cell
  · have hc' : (1000000000000000000 : Int) ≤ cell := hc
    obtain ⟨ns, s4, s5, h1, h2, h3⟩ := numC_1 (.int cell) (.int k) (.int many) many hm cell .no .no .no S
    refine ⟨ns, h1, h2, fnD_rt rfl (en1 := [.val (.int cell), .val (.int k), .val (.int many), .val (.lst (nums ns)), s4, s5, .no, .no]) ?_⟩
    simp [b__law_numbersC, p18, hc', hr, h3, frz]
  · have hc' : ¬ (1000000000000000000 : Int) ≤ cell := hc
    have m1 : mulI (.int cell) (.int 48271) = some (.int (cell * 48271)) := mulI_ok (by omega)
    have m2 : mulI (.int k) (.int 69621) = some (.int (k * 69621)) := mulI_ok (by omega)
    obtain ⟨x, m3, x0, x1⟩ : ∃ x, modD (.int (cell * 48271 + k * 69621 + 11)) (.int 2147483647) = some (.int x) ∧ 0 ≤ x ∧ x < 2147483647 := ⟨_, modD_ok (by omega), by omega, by omega⟩
    obtain ⟨ns, s5, s6, s7, h1, h2, h3⟩ := numC_2 (.int cell) (.int many) k many hk hm x x0 x1 .no .no .no S
    refine ⟨ns, h1, h2, fnD_rt rfl (en1 := [.val (.int cell), .val (.int k), .val (.int many), .val (.lst (nums ns)), .no, s5, s6, s7]) ?_⟩
    simp [b__law_numbersC, p18, hc', hr, m1, m2, m3, h3, frz]
theorem drawnC_ev {x most : Int} (h0 : 0 ≤ x) (h1 : x < 1000) (m0 : 0 ≤ most) (m1 : most < 500) (S : Store) : ∃ q, 0 ≤ q ∧ Bd 9 q ∧ d__law_drawnC [.int x, .int most] S = .ok (tR q) S := by
  have f1 : fdivD (.int x) (.int 6) = some (.int (x / 6)) := fdiv_s (by omega) (by omega)
  have e1 : modD (.int (x / 6)) (.int (most + 1)) = some (.int (x / 6 % (most + 1))) := modD_ok (by omega)
  have e2 : modD (.int x) (.int 6) = some (.int (x % 6)) := modD_ok (by omega)
  have b0 : 0 ≤ x / 6 % (most + 1) := Int.emod_nonneg _ (by omega)
  have b1 : x / 6 % (most + 1) < most + 1 := Int.emod_lt_of_pos _ (by omega)
  have hn : (x / 6 % (most + 1)).natAbs < 2 ^ 9 := by omega
  have hq := ratioC_ev (n := x / 6 % (most + 1)) (d := 1 + x % 6) (by omega) (Nat.lt_of_lt_of_le (show (1 + x % 6).natAbs < 2 ^ 10 by omega) (pow2_le (by omega))) (by have := bit_lt hn; omega) S
  refine ⟨_, ?_, bd_div (n := x / 6 % (most + 1)) (d := 1 + x % 6) (by omega) hn (by omega), fnD_rt rfl (en1 := [.val (.int x), .val (.int most)]) ?_⟩
  · exact Rat.divInt_nonneg b0 (by omega)
  · simp [b__law_drawnC, f1, e1, e2, hq]
end Ks

set_option linter.all false
set_option maxRecDepth 100000
namespace Ks
open Kb PySem
theorem sTg_is {tg : Tg} {f : EM D} {env : Kb.Env} {S : Store} : sTg tg f env S = eS (f env S) env fun d S1 => match tg.put d env with | some env' => .ok .nx env' S1 | none => .stuck := rfl
theorem gets {ns : List Int} {k : Nat} (h : k < ns.length) : ixD (.lst (ns.map .int)) (.int k) = some (.int (ns.getD k 0)) := ix_n h
/-- a paper -/
structure Pap where
  first : Int
  last : Int
  zero : Rat
  share : Rat
  drift : Rat
  checked : Int
def tPap (p : Pap) : D := .tup [.int p.first, .int p.last, tR p.zero, tR p.share, tR p.drift, .int p.checked]
structure Pap.ok (p : Pap) : Prop where
  c0 : 0 ≤ p.checked
  c1 : p.checked ≤ p.first
  c2 : p.first ≤ p.last
  c3 : p.last ≤ 999
  z0 : 0 ≤ p.zero
  s0 : 0 ≤ p.share
  s1 : p.share < 1
  d0 : 0 ≤ p.drift
  zb : Bd 20 p.zero
  sb : Bd 20 p.share
  db : Bd 20 p.drift
@[simp] theorem tPap0 (p : Pap) : ixD (tPap p) (.int 0) = some (.int p.first) := (rfl)
@[simp] theorem tPap1 (p : Pap) : ixD (tPap p) (.int 1) = some (.int p.last) := (rfl)
@[simp] theorem tPap2 (p : Pap) : ixD (tPap p) (.int 2) = some (tR p.zero) := (rfl)
@[simp] theorem tPap3 (p : Pap) : ixD (tPap p) (.int 3) = some (tR p.share) := (rfl)
@[simp] theorem tPap4 (p : Pap) : ixD (tPap p) (.int 4) = some (tR p.drift) := (rfl)
@[simp] theorem tPap5 (p : Pap) : ixD (tPap p) (.int 5) = some (.int p.checked) := (rfl)
theorem put_pap {a b c d e f : Nat} {p : Pap} {env : Kb.Env} : (Tg.tp [.nm a, .nm b, .nm c, .nm d, .nm e, .nm f]).put (tPap p) env = some ((((((env.set a (.val (.int p.first))).set b (.val (.int p.last))).set c (.val (tR p.zero))).set d (.val (tR p.share))).set e (.val (tR p.drift))).set f (.val (.int p.checked))) := rfl
/-- an entry of a drawer -/
structure En where
  name : Str
  pap : Pap
  til : Option Int
def tU : Option Int → D
  | none => .non
  | some u => .int u
def tEn (e : En) : D := .tup [.str e.name, tPap e.pap, tU e.til]
def names4 : List Str := ["a", "b", "zzzz", "c"]
structure En.ok (e : En) : Prop where
  n : e.name ∈ names4
  p : e.pap.ok
  u : ∀ u, e.til = some u → 0 ≤ u ∧ u ≤ 999
def tDr (es : List En) : D := .tup (es.map tEn)
theorem put_en {a b c : Nat} {e : En} {env : Kb.Env} : (Tg.tp [.nm a, .nm b, .nm c]).put (tEn e) env = some (((env.set a (.val (.str e.name))).set b (.val (tPap e.pap))).set c (.val (tU e.til))) := rfl
@[simp] theorem tEn1 (e : En) : ixD (tEn e) (.int 1) = some (tPap e.pap) := (rfl)
@[simp] theorem len_tDr (es : List En) : lenD [tDr es] = some (.int es.length) := by
  unfold tDr
  rw [lenD_tup, List.length_map]
theorem ix_tDr {es : List En} {i : Nat} {e : En} (h : es[i]? = some e) : ixD (tDr es) (.int i) = some (tEn e) := ixD_tup (by rw [List.getElem?_map, h]; rfl)
/-- three in order -/
theorem sort3 {m : Int} (x y z : Int) (hx : 0 ≤ x ∧ x < m) (hy : 0 ≤ y ∧ y < m) (hz : 0 ≤ z ∧ z < m) : ∃ a b c, sortI [x, y, z] = [a, b, c] ∧ 0 ≤ a ∧ a ≤ b ∧ b ≤ c ∧ c < m := by
  have p : (sortI [x, y, z]).Perm [x, y, z] := List.mergeSort_perm _ _
  have q : (sortI [x, y, z]).Pairwise fun a b => decide (a ≤ b) = true := List.pairwise_mergeSort (fun a b c h1 h2 => decide_eq_true (by have := of_decide_eq_true h1; have := of_decide_eq_true h2; omega)) (fun a b => by
    by_cases h : a ≤ b
    · rw [decide_eq_true h]; rfl
    · rw [decide_eq_true (by omega : b ≤ a), Bool.or_true]) _
  have hl := p.length_eq
  generalize sortI [x, y, z] = l at *
  match l, hl with
  | [a, b, c], _ =>
    have q1 := List.pairwise_cons.mp q
    have q2 := List.pairwise_cons.mp q1.2
    have m1 : a ∈ [x, y, z] := p.subset (by simp)
    have m2 : c ∈ [x, y, z] := p.subset (by simp)
    have o1 := of_decide_eq_true (q1.1 b (by simp))
    have o2 := of_decide_eq_true (q2.1 c (by simp))
    simp only [List.mem_cons, List.not_mem_nil, or_false] at m1 m2
    refine ⟨a, b, c, rfl, ?_, o1, o2, ?_⟩
    · rcases m1 with rfl | rfl | rfl <;> omega
    · rcases m2 with rfl | rfl | rfl <;> omega
theorem mapIxD {F : EM (List D)} {tg : Nat} {g : EM D} {env : Kb.Env} {S : Store} {zs : List D} {n : Nat} {vs : List Nat} (hF : F env S = .ok (rngI 0 n) S) (hn : zs.length = n) (h2 : n ≤ 1000) (h : ∀ (i : Nat) z, zs[i]? = some z → g ((wipe env vs).set tg (.val (.int i))) S = .ok z S) : eLc F (.nm tg) vs tYes g env S = .ok zs S := by
  refine eLc_of hF (lcGo_idx (es := zs) [] ?_ ?_ ?_)
  · rw [rngI_length, hn]
  · intro i d hd
    obtain ⟨hi, rfl⟩ := rngI_at hd
    obtain ⟨z, hz⟩ := get_of (xs := zs) (i := i) (by omega)
    exact ⟨_, z, put_nm, rfl, by rw [Int.zero_add]; exact h i z hz, hz⟩
  · rw [rngI_length, List.length_nil]; unfold LN; omega
/-- one of two -/
theorem two {a b : D} {k : Int} (h0 : 0 ≤ k) (h1 : k < 2) : ixD (.lst [a, b]) (.int k) = some (if k = 0 then a else b) := by
  rcases (by omega : k = 0 ∨ k = 1) with rfl | rfl <;> rfl
theorem divInt_lt_one {n d : Int} (h : 0 < d) (hn : n < d) : Rat.divInt n d < 1 := by
  have hd : (0 : Rat) < (d : Rat) := by exact_mod_cast h
  rw [Rat.divInt_eq_div, Rat.div_lt_iff hd, Rat.one_mul]
  exact_mod_cast hn
theorem paperC_ev {ns : List Int} (hN : N3 ns) (hl : 8 ≤ ns.length) (S : Store) : ∃ p, Pap.ok p ∧ d__law_paperC [.lst (nums ns)] S = .ok (tPap p) S := by
  have g : ∀ k : Nat, k < 8 → ixD (.lst (nums ns)) (.int k) = some (.int (ns.getD k 0)) := fun k h => ix_n (by omega)
  have b : ∀ k : Nat, k < 8 → 0 ≤ ns.getD k 0 ∧ ns.getD k 0 < 1000 := fun k h => hN.at (by omega)
  have g0 := g 0 (by omega); have g1 := g 1 (by omega); have g2 := g 2 (by omega); have g3 := g 3 (by omega)
  have g4 := g 4 (by omega); have g5 := g 5 (by omega); have g6 := g 6 (by omega); have g7 := g 7 (by omega)
  have b0 := b 0 (by omega); have b1 := b 1 (by omega); have b2 := b 2 (by omega); have b3 := b 3 (by omega)
  have b4 := b 4 (by omega); have b5 := b 5 (by omega); have b6 := b 6 (by omega); have b7 := b 7 (by omega)
  clear g b
  generalize ns.getD 0 0 = v0 at *; generalize ns.getD 1 0 = v1 at *; generalize ns.getD 2 0 = v2 at *; generalize ns.getD 3 0 = v3 at *
  generalize ns.getD 4 0 = v4 at *; generalize ns.getD 5 0 = v5 at *; generalize ns.getD 6 0 = v6 at *; generalize ns.getD 7 0 = v7 at *
  obtain ⟨md, hmd, m0, m1⟩ : ∃ md : Int, ixD (.lst [.int 1000, .int 20]) (.int (v3 % 2)) = some (.int md) ∧ 0 < md ∧ md ≤ 1000 := by
    rw [two (by omega) (by omega)]
    by_cases h : v3 % 2 = 0
    · rw [if_pos h]; exact ⟨_, rfl, by omega, by omega⟩
    · rw [if_neg h]; exact ⟨_, rfl, by omega, by omega⟩
  have e3 : modD (.int v3) (.int 2) = some (.int (v3 % 2)) := modD_ok (by omega)
  have r : ∀ v : Int, modD (.int v) (.int md) = some (.int (v % md)) ∧ 0 ≤ v % md ∧ v % md < 1000 := fun v => ⟨modD_ok m0, Int.emod_nonneg _ (by omega), by have := Int.emod_lt_of_pos v m0; omega⟩
  obtain ⟨x0, x1⟩ := r v0
  obtain ⟨y0, y1⟩ := r v1
  obtain ⟨z0, z1⟩ := r v2
  obtain ⟨a, b, c, hs, a0, a1, a2, a3⟩ := sort3 (m := 1000) (v0 % md) (v1 % md) (v2 % md) x1 y1 z1
  have c1 : l__law_paperC_1 [.val (.lst (nums ns)), .no, .no, .no, .no, .no] S = .ok [.int (v0 % md), .int (v1 % md), .int (v2 % md)] S := by
    have hr := rng_nat (n := 3) (by omega)
    refine mapIxD (n := 3) (by simp) rfl (by omega) ?_
    intro i z hz
    have hi : i < 3 := (List.getElem?_eq_some_iff.mp hz).1
    rcases (by omega : i = 0 ∨ i = 1 ∨ i = 2) with rfl | rfl | rfl
    · cases hz
      simp only [nums] at g0 g3
      have g0' : ixD (.lst (ns.map .int)) (.int 0) = some (.int v0) := g0
      have g3' : ixD (.lst (ns.map .int)) (.int 3) = some (.int v3) := g3
      simp [g0', g3', e3, hmd, x0]
    · cases hz
      simp only [nums] at g1 g3
      have g0' : ixD (.lst (ns.map .int)) (.int 1) = some (.int v1) := g1
      have g3' : ixD (.lst (ns.map .int)) (.int 3) = some (.int v3) := g3
      simp [g0', g3', e3, hmd, y0]
    · cases hz
      simp only [nums] at g2 g3
      have g0' : ixD (.lst (ns.map .int)) (.int 2) = some (.int v2) := g2
      have g3' : ixD (.lst (ns.map .int)) (.int 3) = some (.int v3) := g3
      simp [g0', g3', e3, hmd, z0]
  have c2 : sortD [.lst [.int (v0 % md), .int (v1 % md), .int (v2 % md)]] = some (.lst [.int a, .int b, .int c]) := by
    show (some (.lst ((sortI [v0 % md, v1 % md, v2 % md]).map .int)) : Option D) = _
    rw [hs]
    rfl
  obtain ⟨q4, p4, d4, f4⟩ := drawnC_ev (x := v4) (most := 12) b4.1 b4.2 (by omega) (by omega) S
  have t0 : (.tup [.int 0, .int 1] : D) = tR 0 := rfl
  have e5 : modD (.int v5) (.int 5) = some (.int (v5 % 5)) := modD_ok (by omega)
  have f5 : fdivD (.int v5) (.int 5) = some (.int (v5 / 5)) := fdiv_s (by omega) (by omega)
  have h5 : modD (.int (v5 / 5)) (.int 7) = some (.int (v5 / 5 % 7)) := modD_ok (by omega)
  have n5 : (v5 % 5).natAbs < 2 ^ 4 := by omega
  have r5 := ratioC_ev (n := v5 % 5) (d := 5 + v5 / 5 % 7) (by omega) (Nat.lt_of_lt_of_le (show (5 + v5 / 5 % 7).natAbs < 2 ^ 10 by omega) (pow2_le (by omega))) (by have := bit_lt n5; omega) S
  have q5 : Bd 4 (Rat.divInt (v5 % 5) (5 + v5 / 5 % 7)) := bd_div (by omega) n5 (by omega)
  have s5 : 0 ≤ Rat.divInt (v5 % 5) (5 + v5 / 5 % 7) := Rat.divInt_nonneg (by omega) (by omega)
  have u5 : Rat.divInt (v5 % 5) (5 + v5 / 5 % 7) < 1 := divInt_lt_one (by omega) (by omega)
  generalize Rat.divInt (v5 % 5) (5 + v5 / 5 % 7) = sh at *
  have e6 : modD (.int v6) (.int 2) = some (.int (v6 % 2)) := modD_ok (by omega)
  have i6 : ixD (.lst [tR 0, tR sh]) (.int (v6 % 2)) = some (tR (if v6 % 2 = 0 then 0 else sh)) := by
    rw [two (by omega) (by omega)]; split <;> rfl
  have f6 : fdivD (.int v6) (.int 2) = some (.int (v6 / 2)) := fdiv_s (by omega) (by omega)
  have h6 : modD (.int (v6 / 2)) (.int 2) = some (.int (v6 / 2 % 2)) := modD_ok (by omega)
  have e7 : modD (.int v7) (.int 4) = some (.int (v7 % 4)) := modD_ok (by omega)
  have f7 : fdivD (.int v7) (.int 4) = some (.int (v7 / 4)) := fdiv_s (by omega) (by omega)
  have h7 : modD (.int (v7 / 4)) (.int 20) = some (.int (v7 / 4 % 20)) := modD_ok (by omega)
  have n7 : (v7 % 4).natAbs < 2 ^ 5 := by omega
  have r7 := ratioC_ev (n := v7 % 4) (d := 1 + v7 / 4 % 20) (by omega) (Nat.lt_of_lt_of_le (show (1 + v7 / 4 % 20).natAbs < 2 ^ 10 by omega) (pow2_le (by omega))) (by have := bit_lt n7; omega) S
  have q7 : Bd 5 (Rat.divInt (v7 % 4) (1 + v7 / 4 % 20)) := bd_div (by omega) n7 (by omega)
  have s7 : 0 ≤ Rat.divInt (v7 % 4) (1 + v7 / 4 % 20) := Rat.divInt_nonneg (by omega) (by omega)
  generalize Rat.divInt (v7 % 4) (1 + v7 / 4 % 20) = dr at *
  have i7 : ixD (.lst [tR 0, tR dr]) (.int (v6 / 2 % 2)) = some (tR (if v6 / 2 % 2 = 0 then 0 else dr)) := by
    rw [two (by omega) (by omega)]; split <;> rfl
  have k0 : ixD (.lst [.int a, .int b, .int c]) (.int 0) = some (.int a) := rfl
  have k1 : ixD (.lst [.int a, .int b, .int c]) (.int 1) = some (.int b) := rfl
  have k2 : ixD (.lst [.int a, .int b, .int c]) (.int 2) = some (.int c) := rfl
  have tp : tupD [.int b, .int c, tR q4, tR (if v6 % 2 = 0 then 0 else sh), tR (if v6 / 2 % 2 = 0 then 0 else dr), .int a] = some (tPap ⟨b, c, q4, (if v6 % 2 = 0 then 0 else sh), (if v6 / 2 % 2 = 0 then 0 else dr), a⟩) := rfl
  refine ⟨⟨b, c, q4, (if v6 % 2 = 0 then 0 else sh), (if v6 / 2 % 2 = 0 then 0 else dr), a⟩, ⟨a0, a1, a2, by show c ≤ 999; omega, p4, ?_, ?_, ?_, d4.mono (by omega), ?_, ?_⟩, fnD_rt rfl (en1 := [.val (.lst (nums ns)), .val (.lst [.int a, .int b, .int c]), .val (tR q4), .val (tR (if v6 % 2 = 0 then 0 else sh)), .val (tR (if v6 / 2 % 2 = 0 then 0 else dr)), .no]) ?_⟩
  · show (0 : Rat) ≤ if v6 % 2 = 0 then 0 else sh
    split
    · exact Rat.le_refl
    · exact s5
  · show (if v6 % 2 = 0 then (0 : Rat) else sh) < 1
    split
    · decide +kernel
    · exact u5
  · show (0 : Rat) ≤ if v6 / 2 % 2 = 0 then 0 else dr
    split
    · exact Rat.le_refl
    · exact s7
  · show Bd 20 (if v6 % 2 = 0 then 0 else sh)
    split
    · exact Bd0 (by omega)
    · exact q5.mono (by omega)
  · show Bd 20 (if v6 / 2 % 2 = 0 then 0 else dr)
    split
    · exact Bd0 (by omega)
    · exact q7.mono (by omega)
  · simp only [nums] at *
    have g4' : ixD (.lst (ns.map .int)) (.int 4) = some (.int v4) := g4
    have g5' : ixD (.lst (ns.map .int)) (.int 5) = some (.int v5) := g5
    have g6' : ixD (.lst (ns.map .int)) (.int 6) = some (.int v6) := g6
    have g7' : ixD (.lst (ns.map .int)) (.int 7) = some (.int v7) := g7
    generalize tR (if v6 % 2 = 0 then 0 else sh) = X at *
    generalize tR (if v6 / 2 % 2 = 0 then 0 else dr) = Y at *
    simp [b__law_paperC, c1, c2, g4', f4, t0, g5', e5, f5, h5, r5, g6', e6, i6, g7', e7, f7, h7, r7, f6, h6, i7, k0, k1, k2, tp]
end Ks

set_option linter.all false
set_option maxRecDepth 100000
namespace Ks
open Kb PySem
theorem cutl2 {xs : List D} {a b : Nat} (h : a ≤ b) (h2 : b ≤ xs.length) : slD (.lst xs) (some (a : Int)) (some (b : Int)) = some (.lst ((xs.drop a).take (b - a))) := by
  have h3 : ¬ ((a : Int) < 0) := by omega
  have h4 : ¬ ((b : Int) < 0) := by omega
  have h5 : min a xs.length = a := by omega
  have h6 : min b xs.length = b := by omega
  simp [slD, cut, sIx, h3, h4, h5, h6]
theorem N3.part {ns : List Int} (h : N3 ns) (a k : Nat) : N3 ((ns.drop a).take k) := fun x hx => h x (List.mem_of_mem_drop (List.mem_of_mem_take hx))
theorem slN {ns : List Int} {a b : Nat} (h : a ≤ b) (h2 : b ≤ ns.length) : slD (.lst (ns.map .int)) (some (a : Int)) (some (b : Int)) = some (.lst (((ns.drop a).take (b - a)).map .int)) := by
  rw [cutl2 h (by rw [List.length_map]; exact h2), List.map_take, List.map_drop]
theorem nm3 {k : Int} (h0 : 0 ≤ k) (h1 : k < 3) : ∃ n ∈ names4, ixD (.lst [.str "a", .str "b", .str "zzzz"]) (.int k) = some (.str n) := by
  rcases (by omega : k = 0 ∨ k = 1 ∨ k = 2) with rfl | rfl | rfl
  · exact ⟨"a", by decide, rfl⟩
  · exact ⟨"b", by decide, rfl⟩
  · exact ⟨"zzzz", by decide, rfl⟩
theorem nm4 {k : Int} (h0 : 0 ≤ k) (h1 : k < 4) : ∃ n ∈ names4, ixD (.lst [.str "a", .str "b", .str "zzzz", .str "c"]) (.int k) = some (.str n) := by
  rcases (by omega : k = 0 ∨ k = 1 ∨ k = 2 ∨ k = 3) with rfl | rfl | rfl | rfl
  · exact ⟨"a", by decide, rfl⟩
  · exact ⟨"b", by decide, rfl⟩
  · exact ⟨"zzzz", by decide, rfl⟩
  · exact ⟨"c", by decide, rfl⟩
theorem m1020 {k : Int} (h0 : 0 ≤ k) (h1 : k < 2) : ∃ m : Int, ixD (.lst [.int 1000, .int 20]) (.int k) = some (.int m) ∧ 0 < m ∧ m ≤ 1000 := by
  rcases (by omega : k = 0 ∨ k = 1) with rfl | rfl
  · exact ⟨1000, rfl, by omega, by omega⟩
  · exact ⟨20, rfl, by omega, by omega⟩
def Oks (es : List En) : Prop := ∀ e ∈ es, En.ok e
theorem drawer_1 {ns : List Int} (hN : N3 ns) (most : D) (n : Nat) (hn : n ≤ 12) (hl : 1 + 10 * n ≤ ns.length) (s3 s4 s5 : Slot) (S : Store) : ∃ (es : List En) (t3 t4 t5 : Slot), es.length = n ∧ Oks es ∧ forGo (.nm 3) b__law_drawerC_1 (rngI 0 n) [.val (.lst (nums ns)), .val most, .own [], s3, s4, s5] S = .ok .nx [.val (.lst (nums ns)), .val most, .own (es.map tEn), t3, t4, t5] S := by
  have L : Wp (forGo (.nm 3) b__law_drawerC_1 (rngI 0 n) [.val (.lst (nums ns)), .val most, .own [], s3, s4, s5] S) (fun f e S1 => f = .nx ∧ S1 = S ∧ ∃ (es : List En) (t3 t4 t5 : Slot), es.length = n ∧ Oks es ∧ e = [.val (.lst (nums ns)), .val most, .own (es.map tEn), t3, t4, t5]) := by
    refine wp_rng0 (fun i e S1 => S1 = S ∧ ∃ (es : List En) (t3 t4 t5 : Slot), es.length = i ∧ Oks es ∧ e = [.val (.lst (nums ns)), .val most, .own (es.map tEn), t3, t4, t5]) ⟨rfl, [], _, _, _, rfl, fun x hx => absurd hx List.not_mem_nil, rfl⟩ ?_ ?_
    · rintro i e S1 hi ⟨rfl, es, t3, t4, t5, h1, h2, rfl⟩
      have mi : mulI (.int 10) (.int i) = some (.int (10 * i)) := mulI_ok (by have : bit 10 ≤ 4 := bit_small (by omega) (by omega); have : bit i ≤ 4 := bit_small (by omega) (by omega); omega)
      obtain ⟨rs, hrs⟩ : ∃ rs, rs = (ns.drop (1 + 10 * i)).take 10 := ⟨_, rfl⟩
      have lr : rs.length = 10 := by rw [hrs, List.length_take, List.length_drop]; omega
      have nr : N3 rs := by rw [hrs]; exact hN.part _ _
      have sl : slD (.lst (ns.map .int)) (some (1 + 10 * (i : Int))) (some (11 + 10 * (i : Int))) = some (.lst (rs.map .int)) := by
        have := slN (ns := ns) (a := 1 + 10 * i) (b := 11 + 10 * i) (by omega) (by omega)
        rw [show 11 + 10 * i - (1 + 10 * i) = 10 by omega, ← hrs] at this
        simpa using this
      obtain ⟨p, hp, ep⟩ := paperC_ev nr (by omega) S1
      have g8 : ixD (.lst (rs.map .int)) (.int 8) = some (.int (rs.getD 8 0)) := gets (k := 8) (by omega)
      have g9 : ixD (.lst (rs.map .int)) (.int 9) = some (.int (rs.getD 9 0)) := gets (k := 9) (by omega)
      have b8 := nr.at (k := 8) (by omega)
      have b9 := nr.at (k := 9) (by omega)
      generalize rs.getD 8 0 = v8 at *
      generalize rs.getD 9 0 = v9 at *
      have e8 : modD (.int v8) (.int 3) = some (.int (v8 % 3)) := modD_ok (by omega)
      have f8 : fdivD (.int v8) (.int 3) = some (.int (v8 / 3)) := fdiv_s (by omega) (by omega)
      have h8 : modD (.int (v8 / 3)) (.int 2) = some (.int (v8 / 3 % 2)) := modD_ok (by omega)
      obtain ⟨m, hm, m0, m1⟩ := m1020 (k := v8 / 3 % 2) (by omega) (by omega)
      obtain ⟨u, hu, u0, u1⟩ : ∃ u, modD (.int v9) (.int m) = some (.int u) ∧ 0 ≤ u ∧ u ≤ 999 := ⟨_, modD_ok m0, Int.emod_nonneg _ (by omega), by have := Int.emod_lt_of_pos v9 m0; omega⟩
      have g6 : fdivD (.int v8) (.int 6) = some (.int (v8 / 6)) := fdiv_s (by omega) (by omega)
      have k6 : modD (.int (v8 / 6)) (.int 3) = some (.int (v8 / 6 % 3)) := modD_ok (by omega)
      obtain ⟨nm, hnm, inm⟩ := nm3 (k := v8 / 6 % 3) (by omega) (by omega)
      have hl' : es.length < LN := by unfold LN; omega
      simp only [nums] at ep
      by_cases h3 : v8 % 3 = 0
      · have te : (.tup [.str nm, tPap p, .int u] : D) = tEn ⟨nm, p, some u⟩ := rfl
        simp [b__law_drawerC_1, mi, pSo, sl, g8, g9, e8, h3, f8, h8, hm, hu, g6, k6, inm, ep, sApp, hl', te]
        refine ⟨es ++ [⟨nm, p, some u⟩], by simp; omega, ?_, by simp⟩
        intro e he
        rcases List.mem_append.mp he with he | he
        · exact h2 e he
        · rw [List.mem_singleton.mp he]; exact ⟨hnm, hp, fun _ h => by cases h; exact ⟨u0, u1⟩⟩
      · have te : (.tup [.str nm, tPap p, .non] : D) = tEn ⟨nm, p, none⟩ := rfl
        simp [b__law_drawerC_1, mi, pSo, sl, g8, g9, e8, h3, f8, h8, hm, hu, g6, k6, inm, ep, sApp, hl', te]
        refine ⟨es ++ [⟨nm, p, none⟩], by simp; omega, ?_, by simp⟩
        intro e he
        rcases List.mem_append.mp he with he | he
        · exact h2 e he
        · rw [List.mem_singleton.mp he]; exact ⟨hnm, hp, fun _ h => by cases h⟩
    · rintro e S1 ⟨rfl, es, t3, t4, t5, h1, h2, rfl⟩
      exact ⟨rfl, rfl, es, _, _, _, h1, h2, rfl⟩
  obtain ⟨f, e, S1, h, rfl, rfl, es, t3, t4, t5, h1, h2, rfl⟩ := wp_out L
  exact ⟨es, t3, t4, t5, h1, h2, h⟩
theorem drawerC_ev {ns : List Int} (hN : N3 ns) (most : Nat) (hm : most ≤ 12) (hl : 1 + 10 * most ≤ ns.length) (S : Store) : ∃ es, es.length ≤ most ∧ Oks es ∧ d__law_drawerC [.lst (nums ns), .int most] S = .ok (tDr es) S := by
  have g0 : ixD (.lst (ns.map .int)) (.int 0) = some (.int (ns.getD 0 0)) := gets (k := 0) (by omega)
  generalize ns.getD 0 0 = v0 at *
  have e0 : modD (.int v0) (.int ((most : Int) + 1)) = some (.int (v0 % (most + 1))) := modD_ok (by omega)
  have b0 : 0 ≤ v0 % ((most : Int) + 1) := Int.emod_nonneg _ (by omega)
  have b1 : v0 % ((most : Int) + 1) < most + 1 := Int.emod_lt_of_pos _ (by omega)
  obtain ⟨n, hn⟩ : ∃ n : Nat, v0 % ((most : Int) + 1) = n := ⟨(v0 % ((most : Int) + 1)).toNat, by omega⟩
  rw [hn] at e0 b1
  have hr := rng_nat (n := n) (by omega)
  obtain ⟨es, t3, t4, t5, h1, h2, h3⟩ := drawer_1 hN (.int most) n (by omega) (by omega) .no .no .no S
  refine ⟨es, by omega, h2, fnD_rt rfl (en1 := [.val (.lst (nums ns)), .val (.int most), .own (es.map tEn), t3, t4, t5]) ?_⟩
  simp only [nums] at h3
  simp [b__law_drawerC, g0, e0, hr, h3]
  rfl
theorem dayC_ev {ns : List Int} (hN : N3 ns) (hl : 5 ≤ ns.length) {es : List En} (ho : Oks es) (le : es.length ≤ 20) (S : Store) : ∃ nm day, nm ∈ names4 ∧ 0 ≤ day ∧ day ≤ 999 ∧ d__law_dayC [.lst (nums ns), tDr es] S = .ok (.tup [.str nm, .int day]) S := by
  have g0 : ixD (.lst (ns.map .int)) (.int 0) = some (.int (ns.getD 0 0)) := gets (k := 0) (by omega)
  have g1 : ixD (.lst (ns.map .int)) (.int 1) = some (.int (ns.getD 1 0)) := gets (k := 1) (by omega)
  have g2 : ixD (.lst (ns.map .int)) (.int 2) = some (.int (ns.getD 2 0)) := gets (k := 2) (by omega)
  have g3 : ixD (.lst (ns.map .int)) (.int 3) = some (.int (ns.getD 3 0)) := gets (k := 3) (by omega)
  have g4 : ixD (.lst (ns.map .int)) (.int 4) = some (.int (ns.getD 4 0)) := gets (k := 4) (by omega)
  have b2 := hN.at (k := 2) (by omega)
  generalize ns.getD 0 0 = v0 at *; generalize ns.getD 1 0 = v1 at *; generalize ns.getD 2 0 = v2 at *; generalize ns.getD 3 0 = v3 at *; generalize ns.getD 4 0 = v4 at *
  have e0 : modD (.int v0) (.int 4) = some (.int (v0 % 4)) := modD_ok (by omega)
  have e1 : modD (.int v1) (.int 4) = some (.int (v1 % 4)) := modD_ok (by omega)
  have e2 : modD (.int v2) (.int 1000) = some (.int (v2 % 1000)) := modD_ok (by omega)
  have e3 : modD (.int v3) (.int 4) = some (.int (v3 % 4)) := modD_ok (by omega)
  have e4 : modD (.int v4) (.int 5) = some (.int (v4 % 5)) := modD_ok (by omega)
  obtain ⟨nm, hnm, inm⟩ := nm4 (k := v1 % 4) (by omega) (by omega)
  obtain ⟨dl, hdl⟩ : ∃ dl : Int, ixD (.lst [.int 0, .int 0, .int 0, .int 1, .int (-1)]) (.int (v4 % 5)) = some (.int dl) := by
    rcases (by omega : v4 % 5 = 0 ∨ v4 % 5 = 1 ∨ v4 % 5 = 2 ∨ v4 % 5 = 3 ∨ v4 % 5 = 4) with h | h | h | h | h <;> rw [h] <;> exact ⟨_, rfl⟩
  have l5 : lstD [.int 0, .int 0, .int 0, .int 1, .int (-1)] = some (.lst [.int 0, .int 0, .int 0, .int 1, .int (-1)]) := rfl
  have rest : ∀ (en : Kb.Env), en[0]? = some (.val (.lst (ns.map .int))) → True := fun _ _ => trivial
  by_cases hc : 0 < es.length ∧ 0 < v0 % 4
  · obtain ⟨c1, c2⟩ := hc
    have c1' : (0 : Int) < es.length := by omega
    obtain ⟨k, k1, _, k2⟩ := mod_at (ns := ns) (n := es.length) c1 v1
    obtain ⟨e, he⟩ := get_of k1
    have ie := ix_tDr he
    obtain ⟨on, op, ou⟩ := ho e (List.mem_of_getElem? he)
    have q0 := op.c0; have q1 := op.c1; have q2 := op.c2; have q3 := op.c3
    have hT : ∀ a b c d f : Slot, sTg (.tp [(.nm 2), (.nm 3), (.nm 4)]) (Kb.e2 ixD (eB 1) (Kb.e2 modD (eA intD (aCons (Kb.e2 ixD (eB 0) (eC (.int 1))) aNil)) (eA lenD (aCons (eB 1) aNil)))) [.val (.lst (ns.map .int)), .val (tDr es), a, b, c, d, f] S = .ok .nx [.val (.lst (ns.map .int)), .val (tDr es), .val (.str e.name), .val (tPap e.pap), .val (tU e.til), d, f] S := by
      intro a b c d f
      rw [sTg_is]
      simp [g1, k2, ie, put_en]
    have m2 : modD (.int v2) (.int (e.pap.last - e.pap.first + 1)) = some (.int (v2 % (e.pap.last - e.pap.first + 1))) := modD_ok (by omega)
    obtain ⟨x, hx⟩ : ∃ x, x = e.pap.first + v2 % (e.pap.last - e.pap.first + 1) := ⟨_, rfl⟩
    have l4 : lstD [.int e.pap.first, .int e.pap.last, .int x, tU e.til] = some (.lst [.int e.pap.first, .int e.pap.last, .int x, tU e.til]) := rfl
    obtain ⟨y, hy⟩ : ∃ y, ixD (.lst [.int e.pap.first, .int e.pap.last, .int x, tU e.til]) (.int (v3 % 4)) = some y ∧ (y = .non ∨ ∃ d, y = .int d) := by
      rcases (by omega : v3 % 4 = 0 ∨ v3 % 4 = 1 ∨ v3 % 4 = 2 ∨ v3 % 4 = 3) with h | h | h | h <;> rw [h]
      · exact ⟨_, rfl, .inr ⟨_, rfl⟩⟩
      · exact ⟨_, rfl, .inr ⟨_, rfl⟩⟩
      · exact ⟨_, rfl, .inr ⟨_, rfl⟩⟩
      · refine ⟨_, rfl, ?_⟩
        cases e.til with
        | none => exact .inl rfl
        | some u => exact .inr ⟨u, rfl⟩
    obtain ⟨hy, hk⟩ := hy
    rcases hk with rfl | ⟨d, rfl⟩
    · refine ⟨nm, v2 % 1000, hnm, by omega, by omega, fnD_rt rfl (en1 := [.val (.lst (ns.map .int)), .val (tDr es), .val (.str e.name), .val (tPap e.pap), .val (tU e.til), .val (.lst [.int e.pap.first, .int e.pap.last, .int x, tU e.til]), .val .non]) ?_⟩
      have n1 : isntND .non .non = some (.bl false) := rfl
      simp [b__law_dayC, c1, g0, e0, c2, hT, g2, m2, ← hx, l4, g3, e3, hy, n1, g1, e1, inm, e2]
    · have n1 : isntND (.int d) .non = some (.bl true) := rfl
      have mn : ∀ a b : Int, minD [.int a, .int b] = some (.int (if b < a then b else a)) := fun _ _ => rfl
      have mx : ∀ a b : Int, maxD [.int a, .int b] = some (.int (if b > a then b else a)) := fun _ _ => rfl
      obtain ⟨z, hz, z0, z1⟩ : ∃ z : Int, maxD [.int 0, .int (if d + dl < 999 then d + dl else 999)] = some (.int z) ∧ 0 ≤ z ∧ z ≤ 999 := by
        rw [mx]
        refine ⟨_, rfl, ?_, ?_⟩ <;> (repeat' split) <;> omega
      refine ⟨e.name, z, on, z0, z1, fnD_rt rfl (en1 := [.val (.lst (ns.map .int)), .val (tDr es), .val (.str e.name), .val (tPap e.pap), .val (tU e.til), .val (.lst [.int e.pap.first, .int e.pap.last, .int x, tU e.til]), .val (.int d)]) ?_⟩
      simp [b__law_dayC, c1, g0, e0, c2, hT, g2, m2, ← hx, l4, g3, e3, hy, n1, l5, g4, e4, hdl, mn, hz]
  · have hc' : ¬ ((0 : Int) < es.length) ∨ ¬ (0 < v0 % 4) := by omega
    refine ⟨nm, v2 % 1000, hnm, by omega, by omega, fnD_rt rfl (en1 := [.val (.lst (ns.map .int)), .val (tDr es), .no, .no, .no, .no, .no]) ?_⟩
    by_cases h1 : 0 < es.length
    · have h2 := hc'.resolve_left (fun z => z (by omega))
      simp [b__law_dayC, h1, h2, g0, e0, g1, e1, inm, g2, e2]
    · simp [b__law_dayC, h1, g0, e0, g1, e1, inm, g2, e2]
end Ks

set_option linter.all false
set_option maxRecDepth 100000
namespace Ks
open Kb PySem
/-- does an entry count -/
def act (nm : Str) (day : Int) (e : En) : Bool := (e.name == nm) && (decide (e.pap.first ≤ day) && (decide (day ≤ e.pap.last) && (match e.til with
  | none => true
  | some u => decide (day < u))))
def slk (day : Int) (e : En) : Rat × Rat := (e.pap.zero + e.pap.drift * ((day - e.pap.checked : Int) : Rat), e.pap.share)
def tSl (p : Rat × Rat) : D := .tup [tR p.1, tR p.2]
def sls (nm : Str) (day : Int) (es : List En) : List (Rat × Rat) := (es.filter (act nm day)).map (slk day)
/-- the indexes of what counts -/
def idxF (p : En → Bool) : List En → Nat → List Nat
  | [], _ => []
  | e :: es, n => if p e = true then n :: idxF p es (n + 1) else idxF p es (n + 1)
theorem idxF_get {p : En → Bool} : ∀ {es : List En} {n j i : Nat}, (idxF p es n)[j]? = some i → ∃ e, n ≤ i ∧ es[i - n]? = some e ∧ (es.filter p)[j]? = some e
  | [], n, j, i, h => by cases h
  | e :: es, n, j, i, h => by
    rw [idxF] at h
    by_cases hp : p e = true
    · rw [if_pos hp] at h
      cases j with
      | zero =>
        cases h
        exact ⟨e, Nat.le_refl _, by rw [Nat.sub_self]; rfl, by rw [List.filter_cons_of_pos hp]; rfl⟩
      | succ j =>
        obtain ⟨x, h1, h2, h3⟩ := idxF_get (es := es) (n := n + 1) (by simpa using h)
        refine ⟨x, by omega, ?_, by rw [List.filter_cons_of_pos hp]; simpa using h3⟩
        rw [show i - n = (i - (n + 1)) + 1 by omega]
        simpa using h2
    · rw [if_neg hp] at h
      obtain ⟨x, h1, h2, h3⟩ := idxF_get (es := es) (n := n + 1) h
      refine ⟨x, by omega, ?_, by rw [List.filter_cons_of_neg hp]; exact h3⟩
      rw [show i - n = (i - (n + 1)) + 1 by omega]
      simpa using h2
theorem idxF_len {p : En → Bool} : ∀ (es : List En) (n : Nat), (idxF p es n).length = (es.filter p).length
  | [], _ => rfl
  | e :: es, n => by
    rw [idxF]
    by_cases hp : p e = true
    · rw [if_pos hp, List.filter_cons_of_pos hp, List.length_cons, List.length_cons, idxF_len es]
    · rw [if_neg hp, List.filter_cons_of_neg hp, idxF_len es]
theorem idxF_snoc {p : En → Bool} (e : En) : ∀ (es : List En) (n : Nat), idxF p (es ++ [e]) n = idxF p es n ++ if p e = true then [n + es.length] else []
  | [], n => by simp [idxF]
  | x :: es, n => by
    rw [List.cons_append, idxF, idxF, idxF_snoc e es]
    have : n + 1 + es.length = n + (x :: es).length := by rw [List.length_cons]; omega
    rw [this]
    split <;> rfl
def nD (k : Nat) : D := .int k
def tY : D := .bl true
theorem names_cps {n : Str} (h : n ∈ names4) : (n.cps.all fun c => decide (c < 1114112)) = true := by
  have : ∀ n ∈ names4, (n.cps.all fun c => decide (c < 1114112)) = true := by decide +kernel
  exact this n h
theorem eq_nm {a b : Str} (ha : a ∈ names4) (hb : b ∈ names4) : eqD (.str a) (.str b) = some (.bl (a == b)) := eq_str (names_cps ha) (names_cps hb)
def LETs : List Nat := ("abcdefghijklmnopqrstuvwxyz" : Str).cps.toList
def scOk (z : Str) : Bool := decide (1 ≤ z.length) && (decide (z.length ≤ 4) && z.cps.toList.all fun c => decide (c ∈ LETs))
theorem scale_is {z : Str} (h : z.length ≤ 1000) (S : Store) : d_is_scale [.str z] S = .ok (.bl (scOk z)) S := by
  have hl : lenD [.str z] = some (.int z.length) := if_pos (by unfold LN; omega)
  have sq : seqD (.str z) = some (z.cps.toList.map fun c => .str ⟨#[c]⟩) := rfl
  refine fnD_rt rfl (en1 := [.val (.str z), .no]) ?_
  have c1 : l_is_scale_1 [.val (.str z), .no] S = .ok (z.cps.toList.map fun c => .bl (decide (c ∈ LETs))) S := by
    refine mapU (zs := z.cps.toList) (u := fun c => .str ⟨#[c]⟩) (by simp [sq]) (by rw [Array.length_toList]; exact h) ?_
    intro c hc
    have : inD (.str ⟨#[c]⟩) c_LETTERS = some (.bl (decide (c ∈ LETs))) := rfl
    simp [this]
  have c2 := allP (fun c => decide (c ∈ LETs)) z.cps.toList
  unfold scOk
  by_cases h1 : 1 ≤ z.length
  · have h1' : (1 : Int) ≤ z.length := by omega
    by_cases h4 : z.length ≤ 4
    · have h4' : ((z.length : Int)) ≤ 4 := by omega
      simp [b_is_scale, hl, h1', c_MAX_NAME, h4', c1, c2, h1, h4]
    · have h4' : ¬ ((z.length : Int)) ≤ 4 := by omega
      simp [b_is_scale, hl, h1', c_MAX_NAME, h4', h1, h4]
  · have h1' : ¬ (1 : Int) ≤ z.length := by omega
    simp [b_is_scale, hl, h1', c_MAX_NAME, h1]
theorem scale_yes {n : Str} (h : n ∈ names4) (S : Store) : d_check_scale [.str n] S = .ok .non S := by
  have h1 : ∀ n ∈ names4, scOk n = true ∧ n.length ≤ 1000 := by decide +kernel
  have e := scale_is (h1 n h).2 S
  rw [(h1 n h).1] at e
  refine fnD_nx rfl (en1 := [.val (.str n)]) ?_
  simp [b_check_scale, e]
theorem scale_no {z : Str} (h : scOk z = false) (hl : z.length ≤ 1000) (S : Store) : d_check_scale [.str z] S = .exc "NotAllowed" S := by
  have e := scale_is hl S
  rw [h] at e
  refine fnD_exc rfl (en1 := [.val (.str z)]) ?_
  simp [b_check_scale, e]
theorem isday_ev (d : Int) (S : Store) : d_is_day [.int d] S = .ok (.bl (decide (0 ≤ d) && decide (d ≤ 999))) S := by
  refine fnD_rt rfl (en1 := [.val (.int d)]) ?_
  by_cases h : 0 ≤ d
  · simp [b_is_day, h, c_MAX_DAY]
  · simp [b_is_day, h, c_MAX_DAY]
theorem day_yes {d : Int} (h0 : 0 ≤ d) (h1 : d ≤ 999) (S : Store) : d_check_day [.int d] S = .ok .non S := by
  have e := isday_ev d S
  rw [decide_eq_true h0, decide_eq_true h1] at e
  refine fnD_nx rfl (en1 := [.val (.int d)]) ?_
  simp [b_check_day, e]
theorem day_no {d : Int} (h : ¬ (0 ≤ d ∧ d ≤ 999)) (S : Store) : d_check_day [.int d] S = .exc "NotAllowed" S := by
  have e := isday_ev d S
  have : (decide (0 ≤ d) && decide (d ≤ 999)) = false := by simp; omega
  rw [this] at e
  refine fnD_exc rfl (en1 := [.val (.int d)]) ?_
  simp [b_check_day, e]
@[simp] theorem isD_int (u : Int) : isD (.int u) .non = some (.bl false) := (rfl)
@[simp] theorem isD_non : isD .non .non = some (.bl true) := (rfl)
@[simp] theorem isntD_int (u : Int) : isntND (.int u) .non = some (.bl true) := (rfl)
@[simp] theorem isntD_non : isntND .non .non = some (.bl false) := (rfl)
@[simp] theorem isD_tR (q : Rat) : isD (tR q) .non = some (.bl false) := (rfl)
@[simp] theorem isntD_tR (q : Rat) : isntND (tR q) .non = some (.bl true) := (rfl)
theorem iscount_ev {e : En} {nm : Str} (he : e.name ∈ names4) (hn : nm ∈ names4) (day : Int) (S : Store) : d_is_counting [tEn e, .str nm, .int day] S = .ok (.bl (act nm day e)) S := by
  have q := eq_nm he hn
  have hT : ∀ a b c d f : Slot, sTg (.tp [(.nm 3), (.nm 4), (.nm 5)]) (eN 0) [.val (tEn e), a, b, c, d, f] S = .ok .nx [.val (tEn e), a, b, .val (.str e.name), .val (tPap e.pap), .val (tU e.til)] S := by
    intro a b c d f
    rw [sTg_is]
    simp [put_en]
  refine fnD_rt rfl (en1 := [.val (tEn e), .val (.str nm), .val (.int day), .val (.str e.name), .val (tPap e.pap), .val (tU e.til)]) ?_
  unfold act
  cases hq : e.name == nm
  · rw [hq] at q
    simp [b_is_counting, hT, q]
  · rw [hq] at q
    by_cases h1 : e.pap.first ≤ day
    · by_cases h2 : day ≤ e.pap.last
      · cases hu : e.til with
        | none => simp [b_is_counting, hT, q, h1, h2, hu, tU]
        | some u => simp [b_is_counting, hT, q, h1, h2, hu, tU]
      · simp [b_is_counting, hT, q, h1, h2]
    · simp [b_is_counting, hT, q, h1]
/-- entries and their indexes -/
def eL : List En → Nat → List D
  | [], _ => []
  | e :: es, n => .tup [.int n, tEn e] :: eL es (n + 1)
theorem enum_eL (es : List En) : enumL (es.map tEn) = eL es 0 := by
  have go : ∀ (es : List En) (n : Nat), (es.map tEn).mapIdx (fun i d => D.tup [.int ((n + i : Nat) : Int), d]) = eL es n := by
    intro es
    induction es with
    | nil => intro n; rfl
    | cons e es ih =>
      intro n
      rw [List.map_cons, List.mapIdx_cons, eL, ← ih (n + 1)]
      have : (fun i d => D.tup [.int ((n + 1 + i : Nat) : Int), d]) = (fun i d => D.tup [.int ((n + (i + 1) : Nat) : Int), d]) := by
        funext i d
        rw [show n + 1 + i = n + (i + 1) by omega]
      rw [this]
      rfl
  have := go es 0
  rw [← this]
  unfold enumL
  congr 1
  funext i d
  rw [Nat.zero_add]
theorem eL_len : ∀ (es : List En) (n : Nat), (eL es n).length = es.length
  | [], _ => rfl
  | e :: es, n => by rw [eL, List.length_cons, List.length_cons, eL_len es]
theorem count_lc {nm : Str} (hn : nm ∈ names4) (day : Int) (dr : D) (S : Store) : ∀ (es : List En) (n : Nat) (acc : List D), Oks es → acc.length + es.length ≤ 1000 →
    lcGo (.tp [.nm 3, .nm 4]) (tV (eF d_is_counting (aCons (eN 4) (aCons (eN 1) (aCons (eN 2) aNil))))) (eN 3) [.val dr, .val (.str nm), .val (.int day), .no, .no] (eL es n) acc S = .ok (acc ++ (idxF (act nm day) es n).map nD) S
  | [], n, acc, _, _ => by rw [idxF, List.map_nil, List.append_nil]; rfl
  | e :: es, n, acc, ho, hl => by
    rw [List.length_cons] at hl
    have hc := iscount_ev (ho e List.mem_cons_self).n hn day S
    rw [eL, lcGo, put_2]
    dsimp only
    have ht : tV (eF d_is_counting (aCons (eN 4) (aCons (eN 1) (aCons (eN 2) aNil)))) (([Slot.val dr, .val (.str nm), .val (.int day), .no, .no].set 3 (.val (.int n))).set 4 (.val (tEn e))) S = .ok (act nm day e) S := by
      simp [hc]
    rw [ht]
    rw [idxF]
    cases ha : act nm day e
    · dsimp only
      rw [count_lc hn day dr S es (n + 1) acc (fun x hx => ho x (List.mem_cons_of_mem _ hx)) (by omega)]
      rfl
    · dsimp only
      have hf : eN 3 (([Slot.val dr, .val (.str nm), .val (.int day), .no, .no].set 3 (.val (.int n))).set 4 (.val (tEn e))) S = .ok (.int n) S := rfl
      rw [hf]
      dsimp only
      rw [if_pos (by unfold LN; omega : acc.length < LN), count_lc hn day dr S es (n + 1) (acc ++ [D.int ((n : Nat) : Int)]) (fun x hx => ho x (List.mem_cons_of_mem _ hx)) (by rw [List.length_append, List.length_singleton]; omega), if_pos rfl, List.map_cons, List.append_assoc]
      rfl
theorem counting_ev {es : List En} {nm : Str} {day : Int} (ho : Oks es) (hn : nm ∈ names4) (d0 : 0 ≤ day) (d1 : day ≤ 999) (hl : es.length ≤ 1000) (S : Store) : d_counting [tDr es, .str nm, .int day] S = .ok (.lst ((idxF (act nm day) es 0).map nD)) S := by
  have e1 := scale_yes hn S
  have e2 := day_yes d0 d1 S
  have c1 : l_counting_1 [.val (tDr es), .val (.str nm), .val (.int day), .no, .no] S = .ok ((idxF (act nm day) es 0).map nD) S := by
    refine eLc_of (ds := eL es 0) (S1 := S) ?_ (count_lc hn day (tDr es) S es 0 [] ho (by simpa using hl))
    have : enumD [tDr es] = some (eL es 0) := by rw [← enum_eL]; rfl
    simp [this]
  refine fnD_rt rfl (en1 := [.val (tDr es), .val (.str nm), .val (.int day), .no, .no]) ?_
  simp [-List.map_map, b_counting, e1, e2, c1]
theorem countingC_ev {es : List En} {nm : Str} {day : Int} (ho : Oks es) (hn : nm ∈ names4) (hl : es.length ≤ 1000) (S : Store) : d__law_countingC [tDr es, .str nm, .int day] S = .ok (.lst ((idxF (act nm day) es 0).map nD)) S := by
  have hr := rng_nat (n := es.length) (by omega)
  have L : Wp (forGo (.nm 4) b__law_countingC_1 (rngI 0 es.length) [.val (tDr es), .val (.str nm), .val (.int day), .own [], .no, .no, .no, .no] S) (fun f e S1 => f = .nx ∧ S1 = S ∧ ∃ s4 s5 s6 s7, e = [.val (tDr es), .val (.str nm), .val (.int day), .own ((idxF (act nm day) es 0).map nD), s4, s5, s6, s7]) := by
    refine wp_rng0 (fun i e S1 => S1 = S ∧ i ≤ es.length ∧ ∃ s4 s5 s6 s7, e = [.val (tDr es), .val (.str nm), .val (.int day), .own ((idxF (act nm day) (es.take i) 0).map nD), s4, s5, s6, s7]) ⟨rfl, by omega, _, _, _, _, rfl⟩ ?_ ?_
    · rintro i e S1 hi ⟨rfl, _, s4, s5, s6, s7, rfl⟩
      obtain ⟨e, he⟩ := get_of hi
      have q := eq_nm (ho e (List.mem_of_getElem? he)).n hn
      have ie := ix_tDr he
      have tk : es.take (i + 1) = es.take i ++ [e] := by rw [List.take_succ, he]; rfl
      have ll : (es.take i).length = i := by rw [List.length_take]; omega
      have li : (idxF (act nm day) (es.take i) 0).length < 16777216 := by
        have := List.length_filter_le (act nm day) (es.take i)
        rw [idxF_len]; omega
      have hT : ∀ b c d : Slot, ∀ X : Slot, sTg (.tp [(.nm 5), (.nm 6), (.nm 7)]) (Kb.e2 ixD (eB 0) (eN 4)) [.val (tDr es), .val (.str nm), .val (.int day), X, .val (.int i), b, c, d] S1 = .ok .nx [.val (tDr es), .val (.str nm), .val (.int day), X, .val (.int i), .val (.str e.name), .val (tPap e.pap), .val (tU e.til)] S1 := by
        intro b c d X
        rw [sTg_is]
        simp [ie, put_en]
      have sn : (idxF (act nm day) (es.take (i + 1)) 0).map nD = (idxF (act nm day) (es.take i) 0).map nD ++ if act nm day e = true then [nD i] else [] := by
        rw [tk, idxF_snoc, ll, List.map_append, Nat.zero_add]
        split <;> rfl
      rw [sn]
      generalize hX : (idxF (act nm day) (es.take i) 0).map nD = X
      have lX : X.length < LN := by rw [← hX, List.length_map]; exact li
      have n1 : (D.int i) = nD i := rfl
      have done : ∀ (b : Bool), act nm day e = b → (b_eq : Bool) → True := fun _ _ _ => trivial
      unfold act
      cases hq : e.name == nm
      · rw [hq] at q
        simp [b__law_countingC_1, hT, q]
        omega
      · rw [hq] at q
        by_cases h1 : e.pap.first ≤ day
        · by_cases h2 : day ≤ e.pap.last
          · cases hu : e.til with
            | none =>
              have hT' := fun b c d => hT b c d (.own X)
              rw [hu] at hT'
              simp [b__law_countingC_1, hT', q, h1, h2, tU, sApp, lX]
              exact ⟨by omega, rfl⟩
            | some u =>
              have hT' := fun b c d => hT b c d (.own X)
              rw [hu] at hT'
              by_cases h3 : day < u
              · simp [b__law_countingC_1, hT', q, h1, h2, tU, sApp, lX, h3]
                exact ⟨by omega, rfl⟩
              · simp [b__law_countingC_1, hT', q, h1, h2, tU, sApp, lX, h3]
                omega
          · simp [b__law_countingC_1, hT, q, h1, h2]
            omega
        · simp [b__law_countingC_1, hT, q, h1]
          omega
    · rintro e S1 ⟨rfl, _, s4, s5, s6, s7, rfl⟩
      rw [List.take_length]
      exact ⟨rfl, rfl, _, _, _, _, rfl⟩
  obtain ⟨f, e, S1, h, rfl, rfl, s4, s5, s6, s7, rfl⟩ := wp_out L
  refine fnD_rt rfl (en1 := [.val (tDr es), .val (.str nm), .val (.int day), .val (.lst ((idxF (act nm day) es 0).map nD)), s4, s5, s6, s7]) ?_
  simp [-List.map_map, b__law_countingC, hr, h, frz]
end Ks

set_option linter.all false
set_option maxRecDepth 100000
namespace Ks
open Kb PySem
theorem act_day {nm : Str} {day : Int} {e : En} (h : act nm day e = true) : e.pap.first ≤ day := by
  unfold act at h
  simp only [Bool.and_eq_true] at h
  exact of_decide_eq_true h.2.1
theorem slk_ok {e : En} {nm : Str} {day : Int} (ho : e.ok) (h : act nm day e = true) : 0 ≤ (slk day e).1 := by
  have h1 := act_day h
  have p := ho.p
  have k : (0 : Rat) ≤ ((day - e.pap.checked : Int) : Rat) := by
    have := p.c1
    exact_mod_cast (by omega : (0 : Int) ≤ day - e.pap.checked)
  have := Rat.mul_nonneg p.d0 k
  have := p.z0
  show 0 ≤ e.pap.zero + e.pap.drift * ((day - e.pap.checked : Int) : Rat)
  grind
theorem day_b {e : En} {day : Int} (ho : e.ok) (d0 : 0 ≤ day) (d1 : day ≤ 999) : Bd 10 ((day - e.pap.checked : Int) : Rat) := by
  have p := ho.p
  have := p.c0; have := p.c1; have := p.c2; have := p.c3
  exact Bd.int (by omega) (by omega)
theorem slk_b {e : En} {day : Int} (ho : e.ok) (d0 : 0 ≤ day) (d1 : day ≤ 999) : Bd 51 (slk day e).1 := (ho.p.zb.add (ho.p.db.mul (day_b ho d0 d1))).mono (by omega)
/-- what is known of slacks and shares -/
def Ssl (l : List (Rat × Rat)) : Prop := ∀ p ∈ l, 0 ≤ p.1 ∧ 0 ≤ p.2 ∧ p.2 < 1 ∧ Bd 51 p.1 ∧ Bd 20 p.2
theorem sls_ok {nm : Str} {day : Int} {es : List En} (ho : Oks es) (d0 : 0 ≤ day) (d1 : day ≤ 999) : Ssl (sls nm day es) := by
  intro p hp
  obtain ⟨e, he, rfl⟩ := List.mem_map.mp hp
  obtain ⟨he, ha⟩ := List.mem_filter.mp he
  have o := ho e he
  exact ⟨slk_ok o ha, o.p.s0, o.p.s1, slk_b o d0 d1, o.p.sb⟩
theorem sls_len {nm : Str} {day : Int} {es : List En} : (sls nm day es).length ≤ es.length := by
  unfold sls
  rw [List.length_map]
  exact List.length_filter_le _ _
theorem idx_at {nm : Str} {day : Int} {es : List En} {j i : Nat} (h : (idxF (act nm day) es 0)[j]? = some i) : ∃ e, es[i]? = some e ∧ (sls nm day es)[j]? = some (slk day e) := by
  obtain ⟨e, _, h2, h3⟩ := idxF_get h
  rw [Nat.sub_zero] at h2
  exact ⟨e, h2, by unfold sls; rw [List.getElem?_map, h3]; rfl⟩
theorem snocT {xs : List (Rat × Rat)} {i : Nat} {x : Rat × Rat} (h : xs[i]? = some x) : (xs.take (i + 1)).map tSl = (xs.take i).map tSl ++ [tSl x] := by
  rw [List.take_succ, h, List.map_append]
  rfl
theorem limits_ev {es : List En} {nm : Str} {day : Int} (ho : Oks es) (hn : nm ∈ names4) (d0 : 0 ≤ day) (d1 : day ≤ 999) (hl : es.length ≤ 1000) (S : Store) : d_limits [tDr es, .str nm, .int day] S = .ok (.lst ((sls nm day es).map tSl)) S := by
  have ec := counting_ev ho hn d0 d1 hl S
  have L : Wp (forGo (.nm 4) b_limits_1 ((idxF (act nm day) es 0).map nD) [.val (tDr es), .val (.str nm), .val (.int day), .own [], .no, .no, .no, .no, .no, .no] S) (fun f e S1 => f = .nx ∧ S1 = S ∧ ∃ s4 s5 s6 s7 s8 s9, e = [.val (tDr es), .val (.str nm), .val (.int day), .own ((sls nm day es).map tSl), s4, s5, s6, s7, s8, s9]) := by
    refine wp_for (fun i e S1 => S1 = S ∧ ∃ s4 s5 s6 s7 s8 s9, e = [.val (tDr es), .val (.str nm), .val (.int day), .own (((sls nm day es).take i).map tSl), s4, s5, s6, s7, s8, s9]) ⟨rfl, _, _, _, _, _, _, rfl⟩ ?_ ?_
    · rintro j d e S1 hd ⟨rfl, s4, s5, s6, s7, s8, s9, rfl⟩
      rw [List.getElem?_map] at hd
      cases hj : (idxF (act nm day) es 0)[j]? with
      | none => rw [hj] at hd; cases hd
      | some i =>
        rw [hj] at hd
        cases hd
        obtain ⟨e, he, hs⟩ := idx_at hj
        have o := ho e (List.mem_of_getElem? he)
        have ie := ix_tDr he
        have lj : j < (sls nm day es).length := (List.getElem?_eq_some_iff.mp hs).1
        have ls := sls_len (nm := nm) (day := day) (es := es)
        have f1 := ofint_ev (day - e.pap.checked) S1
        have f2 := times_ev o.p.db (day_b o d0 d1) (by omega) S1
        have f3 := plus_ev o.p.zb (o.p.db.mul (day_b o d0 d1)) (by omega) S1
        have hT : ∀ X a b c d f : Slot, sTg (.tp [(.nm 5), (.nm 5), (.nm 6), (.nm 7), (.nm 8), (.nm 9)]) (Kb.e2 ixD (Kb.e2 ixD (eB 0) (eN 4)) (eC (.int 1))) [.val (tDr es), .val (.str nm), .val (.int day), X, .val (nD i), a, b, c, d, f] S1 = .ok .nx [.val (tDr es), .val (.str nm), .val (.int day), X, .val (nD i), .val (.int e.pap.last), .val (tR e.pap.zero), .val (tR e.pap.share), .val (tR e.pap.drift), .val (.int e.pap.checked)] S1 := by
          intro X a b c d f
          rw [sTg_is]
          simp [nD, ie, put_pap]
        have ts : (.tup [tR (e.pap.zero + e.pap.drift * ((day - e.pap.checked : Int) : Rat)), tR e.pap.share] : D) = tSl (slk day e) := rfl
        have hx : min j (sls nm day es).length < LN := by unfold LN; omega
        refine ⟨_, put_nm, ?_⟩
        rw [snocT hs]
        generalize ((day - e.pap.checked : Int) : Rat) = dq at f1 f2 f3 ts
        simp only [b_limits_1, sSeq_ev, List.set, hT]
        simp [-List.map_take, f1, f2, f3, sApp, hx, ts]
    · rintro e S1 ⟨rfl, s4, s5, s6, s7, s8, s9, rfl⟩
      have : (sls nm day es).take ((idxF (act nm day) es 0).map nD).length = sls nm day es := by
        rw [List.take_of_length_le]
        rw [List.length_map, idxF_len]
        unfold sls
        rw [List.length_map]
        exact Nat.le_refl _
      rw [this]
      exact ⟨rfl, rfl, _, _, _, _, _, _, rfl⟩
  obtain ⟨f, e, S1, h, rfl, rfl, s4, s5, s6, s7, s8, s9, rfl⟩ := wp_out L
  refine fnD_rt rfl (en1 := [.val (tDr es), .val (.str nm), .val (.int day), .val (.lst ((sls nm day es).map tSl)), s4, s5, s6, s7, s8, s9]) ?_
  simp [-List.map_map, b_limits, ec, h, frz]
theorem slacksC_ev {es : List En} {nm : Str} {day : Int} (ho : Oks es) (hn : nm ∈ names4) (d0 : 0 ≤ day) (d1 : day ≤ 999) (hl : es.length ≤ 1000) (S : Store) : d__law_slacksC [tDr es, .str nm, .int day] S = .ok (.lst ((sls nm day es).map tSl)) S := by
  have ec := countingC_ev (day := day) ho hn hl S
  have L : Wp (forGo (.nm 4) b__law_slacksC_1 ((idxF (act nm day) es 0).map nD) [.val (tDr es), .val (.str nm), .val (.int day), .own [], .no, .no] S) (fun f e S1 => f = .nx ∧ S1 = S ∧ ∃ s4 s5, e = [.val (tDr es), .val (.str nm), .val (.int day), .own ((sls nm day es).map tSl), s4, s5]) := by
    refine wp_for (fun i e S1 => S1 = S ∧ ∃ s4 s5, e = [.val (tDr es), .val (.str nm), .val (.int day), .own (((sls nm day es).take i).map tSl), s4, s5]) ⟨rfl, _, _, rfl⟩ ?_ ?_
    · rintro j d e S1 hd ⟨rfl, s4, s5, rfl⟩
      rw [List.getElem?_map] at hd
      cases hj : (idxF (act nm day) es 0)[j]? with
      | none => rw [hj] at hd; cases hd
      | some i =>
        rw [hj] at hd
        cases hd
        obtain ⟨e, he, hs⟩ := idx_at hj
        have o := ho e (List.mem_of_getElem? he)
        have ie := ix_tDr he
        have lj : j < (sls nm day es).length := (List.getElem?_eq_some_iff.mp hs).1
        have ls := sls_len (nm := nm) (day := day) (es := es)
        have f2 := timesC_ev o.p.db (day_b o d0 d1) (by omega) S1
        have f3 := plusC_ev o.p.zb (o.p.db.mul (day_b o d0 d1)) (by omega) S1
        have ts : (.tup [tR (e.pap.zero + e.pap.drift * ((day - e.pap.checked : Int) : Rat)), tR e.pap.share] : D) = tSl (slk day e) := rfl
        have ti : (.tup [.int (day - e.pap.checked), .int 1] : D) = tR ((day - e.pap.checked : Int) : Rat) := tR_int _
        have hx : min j (sls nm day es).length < LN := by unfold LN; omega
        refine ⟨_, put_nm, ?_⟩
        rw [snocT hs]
        generalize ((day - e.pap.checked : Int) : Rat) = dq at ti f2 f3 ts
        simp [-List.map_take, b__law_slacksC_1, nD, ie, ti, f2, f3, sApp, hx, ts]
    · rintro e S1 ⟨rfl, s4, s5, rfl⟩
      have : (sls nm day es).take ((idxF (act nm day) es 0).map nD).length = sls nm day es := by
        rw [List.take_of_length_le]
        rw [List.length_map, idxF_len]
        unfold sls
        rw [List.length_map]
        exact Nat.le_refl _
      rw [this]
      exact ⟨rfl, rfl, _, _, rfl⟩
  obtain ⟨f, e, S1, h, rfl, rfl, s4, s5, rfl⟩ := wp_out L
  refine fnD_rt rfl (en1 := [.val (tDr es), .val (.str nm), .val (.int day), .val (.lst ((sls nm day es).map tSl)), s4, s5]) ?_
  simp [-List.map_map, b__law_slacksC, ec, h, frz]
/-! ends -/
def mx (a b : Rat) : Rat := if a < b then b else a
def mnO (a : Option Rat) (b : Rat) : Option Rat := match a with
  | none => some b
  | some u => if b < u then some b else some u
def oR : Option Rat → D
  | none => .non
  | some q => tR q
theorem greater_ev {k l : Nat} {a b : Rat} (ha : Bd k a) (hb : Bd l b) (h : k + l ≤ 8000) (S : Store) : d_greater_of [tR a, tR b] S = .ok (tR (mx a b)) S := by
  have c := compare_ev ha hb h S
  rw [cmp_lt] at c
  refine fnD_rt rfl (en1 := [.val (tR a), .val (tR b)]) ?_
  unfold mx
  by_cases h1 : a < b
  · rw [if_pos h1] at c
    simp [b_greater_of, c, h1]
  · rw [if_neg h1] at c
    have : (0 : Int) ≤ if b < a then 1 else 0 := by split <;> omega
    generalize (if b < a then (1 : Int) else 0) = z at *
    simp [b_greater_of, c, h1, this]
theorem lesser_ev {k l : Nat} {a : Option Rat} {b : Rat} (ha : ∀ u, a = some u → Bd k u) (hb : Bd l b) (h : k + l ≤ 8000) (S : Store) : d_lesser_of [oR a, tR b] S = .ok (oR (mnO a b)) S := by
  cases a with
  | none =>
    refine fnD_rt rfl (en1 := [.val .non, .val (tR b)]) ?_
    simp [b_lesser_of, oR, mnO]
  | some u =>
    have c := compare_ev (ha u rfl) hb h S
    rw [cmp_lt] at c
    refine fnD_rt rfl (en1 := [.val (tR u), .val (tR b)]) ?_
    by_cases h1 : b < u
    · have h2 : ¬ u < b := by grind
      rw [if_neg h2, if_pos h1] at c
      simp [b_lesser_of, oR, mnO, c, h1]
    · have : ¬ (0 : Int) < (if u < b then -1 else if b < u then 1 else 0) := by rw [if_neg h1]; split <;> omega
      generalize (if u < b then (-1 : Int) else if b < u then 1 else 0) = z at *
      simp [b_lesser_of, oR, mnO, c, h1, this]
theorem weight_yes {q : Rat} (h : 0 ≤ q) (S : Store) : d_check_weight [tR q] S = .ok .non S := by
  have e := signR_ev q S
  have : ¬ sgn q.num < 0 := by rw [sgn_lt, numlt]; grind
  refine fnD_nx rfl (en1 := [.val (tR q)]) ?_
  simp [b_check_weight, e, this]
theorem weight_no {q : Rat} (h : q < 0) (S : Store) : d_check_weight [tR q] S = .exc "NotAllowed" S := by
  have e := signR_ev q S
  have : sgn q.num < 0 := by rw [sgn_lt, numlt]; exact h
  refine fnD_exc rfl (en1 := [.val (tR q)]) ?_
  simp [b_check_weight, e, this]
def loS (r : Rat) (p : Rat × Rat) : Rat := (r - p.1) / (1 + p.2)
def hiS (r : Rat) (p : Rat × Rat) : Rat := (r + p.1) / (1 - p.2)
def loF (r : Rat) (l : List (Rat × Rat)) : Rat := l.foldl (fun lo p => mx lo (loS r p)) 0
def hiF (r : Rat) (l : List (Rat × Rat)) : Option Rat := l.foldl (fun up p => mnO up (hiS r p)) none
theorem Bd1 {k : Nat} (h : 1 ≤ k) : Bd k 1 := (⟨by decide, by decide⟩ : Bd 1 1).mono h
theorem mx_b {k : Nat} {a b : Rat} (ha : Bd k a) (hb : Bd k b) : Bd k (mx a b) := by
  unfold mx
  split
  · exact hb
  · exact ha
theorem mnO_b {k : Nat} {a : Option Rat} {b : Rat} (ha : ∀ u, a = some u → Bd k u) (hb : Bd k b) : ∀ u, mnO a b = some u → Bd k u := by
  intro u h
  unfold mnO at h
  cases a with
  | none => cases h; exact hb
  | some v =>
    dsimp only at h
    split at h
    · cases h; exact hb
    · cases h; exact ha _ rfl
theorem one_plus_b {p : Rat × Rat} (h : Bd 20 p.2) : Bd 22 (1 + p.2) := ((Bd1 (Nat.le_refl 1)).add h).mono (by omega)
theorem one_minus_b {p : Rat × Rat} (h : Bd 20 p.2) : Bd 22 (1 - p.2) := ((Bd1 (Nat.le_refl 1)).sub h).mono (by omega)
theorem plus_ne {p : Rat × Rat} (h : 0 ≤ p.2) : (1 + p.2) ≠ 0 := by grind
theorem minus_ne {p : Rat × Rat} (h : p.2 < 1) : (1 - p.2) ≠ 0 := by grind
theorem loS_b {r : Rat} {p : Rat × Rat} (hr : Bd 200 r) (h1 : Bd 51 p.1) (h2 : Bd 20 p.2) (h0 : 0 ≤ p.2) : Bd 300 (loS r p) := ((hr.sub h1).div (one_plus_b h2) (plus_ne h0)).mono (by omega)
theorem hiS_b {r : Rat} {p : Rat × Rat} (hr : Bd 200 r) (h1 : Bd 51 p.1) (h2 : Bd 20 p.2) (h0 : p.2 < 1) : Bd 300 (hiS r p) := ((hr.add h1).div (one_minus_b h2) (minus_ne h0)).mono (by omega)
theorem take_none {α : Type} {xs : List α} {i : Nat} (h : xs[i]? = none) : xs.take (i + 1) = xs.take i := by
  have : xs.length ≤ i := List.getElem?_eq_none_iff.mp h
  rw [List.take_of_length_le (by omega), List.take_of_length_le (by omega)]
theorem loF_b {r : Rat} {l : List (Rat × Rat)} (hr : Bd 200 r) (hl : Ssl l) : ∀ i, Bd 300 (loF r (l.take i)) := by
  intro i
  induction i with
  | zero => exact Bd0 (by omega)
  | succ i ih =>
    cases hj : l[i]? with
    | none => rw [take_none hj]; exact ih
    | some p =>
      obtain ⟨_, h2, _, h4, h5⟩ := hl p (List.mem_of_getElem? hj)
      unfold loF at ih ⊢
      rw [take_foldl _ _ hj]
      exact mx_b ih (loS_b hr h4 h5 h2)
theorem hiF_b {r : Rat} {l : List (Rat × Rat)} (hr : Bd 200 r) (hl : Ssl l) : ∀ i u, hiF r (l.take i) = some u → Bd 300 u := by
  intro i
  induction i with
  | zero => intro u h; cases h
  | succ i ih =>
    cases hj : l[i]? with
    | none => rw [take_none hj]; exact ih
    | some p =>
      obtain ⟨_, _, h3, h4, h5⟩ := hl p (List.mem_of_getElem? hj)
      unfold hiF at ih ⊢
      rw [take_foldl _ _ hj]
      exact mnO_b ih (hiS_b hr h4 h5 h3)
def never (r : Rat) (l : List (Rat × Rat)) : Bool := match hiF r l with
  | none => false
  | some u => decide (u < loF r l)
theorem slot_at {l : List (Rat × Rat)} {i : Nat} {d : D} (h : (l.map tSl)[i]? = some d) : ∃ p, l[i]? = some p ∧ d = .tup [tR p.1, tR p.2] := by
  rw [List.getElem?_map] at h
  cases e : l[i]? with
  | none => rw [e] at h; cases h
  | some x => rw [e] at h; exact ⟨x, rfl, (Option.some.inj h).symm⟩
theorem ends_loop {r : Rat} {l : List (Rat × Rat)} (a b c d : D) (hr : Bd 200 r) (hl : Ssl l) (S : Store) : ∃ s7 s8, forGo (.tp [.nm 7, .nm 8]) b_ends_1 (l.map tSl) [.val a, .val b, .val c, .val (tR r), .val d, .val (tR 0), .val .non, .no, .no] S = .ok .nx [.val a, .val b, .val c, .val (tR r), .val d, .val (tR (loF r l)), .val (oR (hiF r l)), s7, s8] S := by
  have L : Wp (forGo (.tp [.nm 7, .nm 8]) b_ends_1 (l.map tSl) [.val a, .val b, .val c, .val (tR r), .val d, .val (tR 0), .val .non, .no, .no] S) (fun f e S1 => f = .nx ∧ S1 = S ∧ ∃ s7 s8, e = [.val a, .val b, .val c, .val (tR r), .val d, .val (tR (loF r l)), .val (oR (hiF r l)), s7, s8]) := by
    refine wp_for (fun i e S1 => S1 = S ∧ ∃ s7 s8, e = [.val a, .val b, .val c, .val (tR r), .val d, .val (tR (loF r (l.take i))), .val (oR (hiF r (l.take i))), s7, s8]) ⟨rfl, _, _, rfl⟩ ?_ ?_
    · rintro i x e S1 hd ⟨rfl, s7, s8, rfl⟩
      obtain ⟨p, hp, rfl⟩ := slot_at hd
      obtain ⟨h1, h2, h3, h4, h5⟩ := hl p (List.mem_of_getElem? hp)
      have f1 := minus_ev hr h4 (by omega) S1
      have f2 := plus_ev (Bd1 (Nat.le_refl 1)) h5 (by omega) S1
      have f3 := over_ev (hr.sub h4) (one_plus_b h5) (by omega) (plus_ne h2) S1
      have f4 := greater_ev (loF_b hr hl i) (loS_b hr h4 h5 h2) (by omega) S1
      have f5 := plus_ev hr h4 (by omega) S1
      have f6 := minus_ev (Bd1 (Nat.le_refl 1)) h5 (by omega) S1
      have f7 := over_ev (hr.add h4) (one_minus_b h5) (by omega) (minus_ne h3) S1
      have f8 := lesser_ev (hiF_b hr hl i) (hiS_b hr h4 h5 h3) (by omega) S1
      have n1 : loF r (l.take (i + 1)) = mx (loF r (l.take i)) (loS r p) := take_foldl _ _ hp
      have n2 : hiF r (l.take (i + 1)) = mnO (hiF r (l.take i)) (hiS r p) := take_foldl _ _ hp
      have o1 : c_ONE = tR 1 := rfl
      refine ⟨_, put_2, ?_⟩
      rw [n1, n2]
      unfold loS at f4 ⊢
      unfold hiS at f8 ⊢
      simp [b_ends_1, o1, f1, f2, f3, f4, f5, f6, f7, f8]
    · rintro e S1 ⟨rfl, s7, s8, rfl⟩
      rw [List.length_map, List.take_length]
      exact ⟨rfl, rfl, _, _, rfl⟩
  obtain ⟨f, e, S1, h, rfl, rfl, s7, s8, rfl⟩ := wp_out L
  exact ⟨s7, s8, h⟩
theorem ends_ev {es : List En} {nm : Str} {day : Int} {r : Rat} (ho : Oks es) (hn : nm ∈ names4) (d0 : 0 ≤ day) (d1 : day ≤ 999) (hl : es.length ≤ 1000) (r0 : 0 ≤ r) (hr : Bd 200 r) (S : Store) : d_ends [tDr es, .str nm, .int day, tR r] S = if never r (sls nm day es) = true then .exc "Never" S else .ok (.tup [tR (loF r (sls nm day es)), oR (hiF r (sls nm day es))]) S := by
  have el := limits_ev ho hn d0 d1 hl S
  have ew := weight_yes r0 S
  have hs := sls_ok (nm := nm) ho d0 d1
  generalize sls nm day es = l at *
  obtain ⟨s7, s8, lp⟩ := ends_loop (tDr es) (.str nm) (.int day) (.lst (l.map tSl)) hr hs S
  have z0 : c_ZERO = tR 0 := rfl
  have lb := loF_b hr hs l.length
  have hb := hiF_b hr hs l.length
  rw [List.take_length] at lb hb
  unfold never
  cases hh : hiF r l with
  | none =>
    rw [hh] at lp
    dsimp only
    rw [if_neg Bool.false_ne_true]
    refine fnD_rt rfl (en1 := [.val (tDr es), .val (.str nm), .val (.int day), .val (tR r), .val (.lst (l.map tSl)), .val (tR (loF r l)), .val .non, s7, s8]) ?_
    simp only [oR] at lp ⊢
    simp [-List.map_map, b_ends, el, ew, z0, lp]
  | some u =>
    rw [hh] at lp
    dsimp only
    have cp := compare_ev lb (hb u hh) (by omega) S
    rw [cmp_lt] at cp
    simp only [oR] at lp ⊢
    by_cases h1 : u < loF r l
    · rw [if_pos (decide_eq_true h1)]
      have h2 : ¬ loF r l < u := by grind
      rw [if_neg h2, if_pos h1] at cp
      refine fnD_exc rfl (en1 := [.val (tDr es), .val (.str nm), .val (.int day), .val (tR r), .val (.lst (l.map tSl)), .val (tR (loF r l)), .val (tR u), s7, s8]) ?_
      simp [-List.map_map, b_ends, el, ew, z0, lp, cp]
    · rw [if_neg (fun z => h1 (of_decide_eq_true z))]
      have h2 : ¬ (0 : Int) < (if loF r l < u then -1 else if u < loF r l then 1 else 0) := by rw [if_neg h1]; split <;> omega
      generalize (if loF r l < u then (-1 : Int) else if u < loF r l then 1 else 0) = z at *
      refine fnD_rt rfl (en1 := [.val (tDr es), .val (.str nm), .val (.int day), .val (tR r), .val (.lst (l.map tSl)), .val (tR (loF r l)), .val (tR u), s7, s8]) ?_
      simp [-List.map_map, b_ends, el, ew, z0, lp, cp, h2]
/-- may the weight give the reading -/
def may (r w : Rat) (p : Rat × Rat) : Bool := !(decide (p.1 + p.2 * w < r - w) || decide (p.1 + p.2 * w < w - r))
theorem cmp_gt {k l : Nat} {a b : Rat} (ha : Bd k a) (hb : Bd l b) (h : k + l ≤ 8000) (S : Store) : ∃ z, d_compare [tR a, tR b] S = .ok (.int z) S ∧ (0 < z ↔ b < a) := by
  have c := compare_ev ha hb h S
  rw [cmp_lt] at c
  refine ⟨_, c, ?_⟩
  by_cases h1 : a < b
  · rw [if_pos h1]
    constructor
    · intro z; omega
    · intro z; grind
  · rw [if_neg h1]
    by_cases h2 : b < a
    · rw [if_pos h2]; exact ⟨fun _ => h2, fun _ => by omega⟩
    · rw [if_neg h2]
      constructor
      · intro z; omega
      · intro z; exact absurd z h2
theorem allows_ev {es : List En} {nm : Str} {day : Int} {r w : Rat} (ho : Oks es) (hn : nm ∈ names4) (d0 : 0 ≤ day) (d1 : day ≤ 999) (hl : es.length ≤ 1000) (r0 : 0 ≤ r) (hr : Bd 1000 r) (w0 : 0 ≤ w) (hw : Bd 1000 w) (S : Store) : d_allows [tDr es, .str nm, .int day, tR r, tR w] S = .ok (.bl ((sls nm day es).all (may r w))) S := by
  have el := limits_ev ho hn d0 d1 hl S
  have e1 := weight_yes r0 S
  have e2 := weight_yes w0 S
  have hs := sls_ok (nm := nm) ho d0 d1
  generalize sls nm day es = l at *
  have H := fnD_wp (n := 5) (k := 4) (b := b_allows) (ds := [tDr es, .str nm, .int day, tR r, tR w]) (S := S) (Q := fun d S1 => S1 = S ∧ d = .bl (l.all (may r w))) rfl ?_
  · obtain ⟨d, S1, h1, rfl, rfl⟩ := H
    exact h1
  simp [-List.map_map, b_allows, el, e1, e2]
  refine wp_bind (wp_for (fun i e S1 => S1 = S ∧ (l.take i).all (may r w) = true ∧ ∃ s6 s7 s8, e = [.val (tDr es), .val (.str nm), .val (.int day), .val (tR r), .val (tR w), .val (.lst (l.map tSl)), s6, s7, s8]) ⟨rfl, rfl, _, _, _, rfl⟩ ?_ ?_)
  · rintro i x e S1 hd ⟨rfl, hq, s6, s7, s8, rfl⟩
    obtain ⟨p, hp, rfl⟩ := slot_at hd
    obtain ⟨h1, h2, h3, h4, h5⟩ := hs p (List.mem_of_getElem? hp)
    have f1 := times_ev h5 hw (by omega) S1
    have f2 := plus_ev h4 (h5.mul hw) (by omega) S1
    have f3 := minus_ev hr hw (by omega) S1
    have f4 := minus_ev hw hr (by omega) S1
    obtain ⟨z1, g1, i1⟩ := cmp_gt (hr.sub hw) (h4.add (h5.mul hw)) (by omega) S1
    obtain ⟨z2, g2, i2⟩ := cmp_gt (hw.sub hr) (h4.add (h5.mul hw)) (by omega) S1
    have e3 := all_take (may r w) hp
    rw [hq, Bool.true_and] at e3
    refine ⟨_, put_2, ?_⟩
    rw [e3]
    by_cases c1 : p.1 + p.2 * w < r - w
    · have q : may r w p = false := by unfold may; rw [decide_eq_true c1]; rfl
      have a := i1.mpr c1
      simp [b_allows_1, f1, f2, f3, f4, g1, g2, a]
      exact ⟨p.1, p.2, List.mem_of_getElem? hp, q⟩
    · have a : ¬ 0 < z1 := fun z => c1 (i1.mp z)
      by_cases c2 : p.1 + p.2 * w < w - r
      · have q : may r w p = false := by unfold may; rw [decide_eq_true c2, Bool.or_true]; rfl
        have b := i2.mpr c2
        simp [b_allows_1, f1, f2, f3, f4, g1, g2, a, b]
        exact ⟨p.1, p.2, List.mem_of_getElem? hp, q⟩
      · have q : may r w p = true := by unfold may; rw [decide_eq_false c1, decide_eq_false c2]; rfl
        have b : ¬ 0 < z2 := fun z => c2 (i2.mp z)
        simp [b_allows_1, f1, f2, f3, f4, g1, g2, a, b, q]
  · rintro e S1 ⟨rfl, hq, s6, s7, s8, rfl⟩
    rw [List.length_map, List.take_length] at hq
    simp
    simpa using hq
/-- what the ends say -/
theorem may_iff {r w : Rat} {p : Rat × Rat} (h2 : 0 ≤ p.2) (h3 : p.2 < 1) : may r w p = true ↔ loS r p ≤ w ∧ w ≤ hiS r p := by
  have a1 : loS r p ≤ w ↔ ¬ (p.1 + p.2 * w < r - w) := by
    unfold loS
    have hd : (0 : Rat) < 1 + p.2 := by grind
    rw [← Rat.not_lt, Rat.lt_div_iff hd]
    grind
  have a2 : w ≤ hiS r p ↔ ¬ (p.1 + p.2 * w < w - r) := by
    unfold hiS
    have hd : (0 : Rat) < 1 - p.2 := by grind
    rw [← Rat.not_lt, Rat.div_lt_iff hd]
    grind
  rw [a1, a2]
  unfold may
  simp
theorem lo_iff {r w : Rat} : ∀ (l : List (Rat × Rat)) (a : Rat), (l.foldl (fun lo p => mx lo (loS r p)) a ≤ w ↔ a ≤ w ∧ ∀ p ∈ l, loS r p ≤ w)
  | [], a => by simp
  | p :: l, a => by
    rw [List.foldl_cons, lo_iff l]
    have : mx a (loS r p) ≤ w ↔ a ≤ w ∧ loS r p ≤ w := by unfold mx; split <;> grind
    rw [this]
    simp [and_assoc]
def leO (w : Rat) : Option Rat → Prop
  | none => True
  | some u => w ≤ u
theorem hi_iff {r w : Rat} : ∀ (l : List (Rat × Rat)) (a : Option Rat), (leO w (l.foldl (fun up p => mnO up (hiS r p)) a) ↔ leO w a ∧ ∀ p ∈ l, w ≤ hiS r p)
  | [], a => by simp
  | p :: l, a => by
    rw [List.foldl_cons, hi_iff l]
    have : leO w (mnO a (hiS r p)) ↔ leO w a ∧ w ≤ hiS r p := by
      cases a with
      | none => simp [mnO, leO]
      | some u =>
        unfold mnO
        dsimp only
        split
        · show w ≤ _ ↔ w ≤ u ∧ w ≤ _; grind
        · show w ≤ _ ↔ w ≤ u ∧ w ≤ _; grind
    rw [this]
    simp [and_assoc]
theorem all_iff {r w : Rat} {l : List (Rat × Rat)} (hl : Ssl l) (w0 : 0 ≤ w) : l.all (may r w) = true ↔ loF r l ≤ w ∧ leO w (hiF r l) := by
  unfold loF hiF
  rw [lo_iff, hi_iff, List.all_eq_true]
  constructor
  · intro h
    have h' : ∀ p ∈ l, loS r p ≤ w ∧ w ≤ hiS r p := fun p hp => by
      obtain ⟨_, h2, h3, _, _⟩ := hl p hp
      exact (may_iff h2 h3).mp (h p hp)
    exact ⟨⟨w0, fun p hp => (h' p hp).1⟩, trivial, fun p hp => (h' p hp).2⟩
  · rintro ⟨⟨_, h1⟩, _, h2⟩ p hp
    obtain ⟨_, h3, h4, _, _⟩ := hl p hp
    exact (may_iff h3 h4).mpr ⟨h1 p hp, h2 p hp⟩
end Ks

set_option linter.all false
set_option maxRecDepth 100000
namespace Ks
open Kb PySem
/-! what the laws of scales share besides -/
theorem cell_ev {cs : List Int} (hb : ∀ z ∈ cs, bit z ≤ 1048576) (k : Nat) (S : Store) : ∃ z, bit z ≤ 1048576 ∧ d__law_cell [.scr (cs.map .int), .int k] S = .ok (.int z) S := by
  by_cases h : k < cs.length
  · obtain ⟨z, hz⟩ := get_of h
    have ix : ixD (.scr (cs.map .int)) (.int k) = some (.int z) := ixD_scr (by rw [List.getElem?_map, hz]; rfl)
    have h' : (k : Int) < cs.length := by omega
    refine ⟨z, hb z (List.mem_of_getElem? hz), fnD_rt rfl (en1 := [.val (.scr (cs.map .int)), .val (.int k)]) ?_⟩
    simp [b__law_cell, h, ix]
  · have h' : ¬ (k : Int) < cs.length := by omega
    refine ⟨0, by decide, fnD_rt rfl (en1 := [.val (.scr (cs.map .int)), .val (.int k)]) ?_⟩
    simp [b__law_cell, h]
theorem limits_noS {z : Str} (h : scOk z = false) (hl : z.length ≤ 1000) (dr d : D) (S : Store) : d_limits [dr, .str z, d] S = .exc "NotAllowed" S := by
  have e := scale_no h hl S
  have c : d_counting [dr, .str z, d] S = .exc "NotAllowed" S := by
    refine fnD_exc rfl (en1 := [.val dr, .val (.str z), .val d, .no, .no]) ?_
    simp [b_counting, e]
  refine fnD_exc rfl (en1 := [.val dr, .val (.str z), .val d, .own [], .no, .no, .no, .no, .no, .no]) ?_
  simp [b_limits, c]
theorem limits_noD {nm : Str} (hn : nm ∈ names4) {d : Int} (h : ¬ (0 ≤ d ∧ d ≤ 999)) (dr : D) (S : Store) : d_limits [dr, .str nm, .int d] S = .exc "NotAllowed" S := by
  have e := scale_yes hn S
  have e2 := day_no h S
  have c : d_counting [dr, .str nm, .int d] S = .exc "NotAllowed" S := by
    refine fnD_exc rfl (en1 := [.val dr, .val (.str nm), .val (.int d), .no, .no]) ?_
    simp [b_counting, e, e2]
  refine fnD_exc rfl (en1 := [.val dr, .val (.str nm), .val (.int d), .own [], .no, .no, .no, .no, .no, .no]) ?_
  simp [b_limits, c]
theorem ends_noL {a b c : D} {S : Store} (h : d_limits [a, b, c] S = .exc "NotAllowed" S) (r : D) : d_ends [a, b, c, r] S = .exc "NotAllowed" S := by
  refine fnD_exc rfl (en1 := [.val a, .val b, .val c, .val r, .no, .no, .no, .no, .no]) ?_
  simp [b_ends, h]
theorem allows_noL {a b c : D} {S : Store} (h : d_limits [a, b, c] S = .exc "NotAllowed" S) (r w : D) : d_allows [a, b, c, r, w] S = .exc "NotAllowed" S := by
  refine fnD_exc rfl (en1 := [.val a, .val b, .val c, .val r, .val w, .no, .no, .no, .no]) ?_
  simp [b_allows, h]
theorem readings_noL {a b c : D} {S : Store} (h : d_limits [a, b, c] S = .exc "NotAllowed" S) (w : D) : d_readings [a, b, c, w] S = .exc "NotAllowed" S := by
  refine fnD_exc rfl (en1 := [.val a, .val b, .val c, .val w, .no, .no, .no, .no, .no, .no]) ?_
  simp [b_readings, h]
theorem ends_noW {a b c l : D} {S : Store} (h : d_limits [a, b, c] S = .ok l S) {q : Rat} (hq : q < 0) : d_ends [a, b, c, tR q] S = .exc "NotAllowed" S := by
  have e := weight_no hq S
  refine fnD_exc rfl (en1 := [.val a, .val b, .val c, .val (tR q), .val l, .no, .no, .no, .no]) ?_
  simp [b_ends, h, e]
theorem allows_noR {a b c l : D} {S : Store} (h : d_limits [a, b, c] S = .ok l S) {q : Rat} (hq : q < 0) (w : D) : d_allows [a, b, c, tR q, w] S = .exc "NotAllowed" S := by
  have e := weight_no hq S
  refine fnD_exc rfl (en1 := [.val a, .val b, .val c, .val (tR q), .val w, .val l, .no, .no, .no]) ?_
  simp [b_allows, h, e]
theorem allows_noW {a b c l : D} {S : Store} (h : d_limits [a, b, c] S = .ok l S) {r q : Rat} (hr : 0 ≤ r) (hq : q < 0) : d_allows [a, b, c, tR r, tR q] S = .exc "NotAllowed" S := by
  have e := weight_no hq S
  have e2 := weight_yes hr S
  refine fnD_exc rfl (en1 := [.val a, .val b, .val c, .val (tR r), .val (tR q), .val l, .no, .no, .no]) ?_
  simp [b_allows, h, e, e2]
theorem readings_noW {a b c l : D} {S : Store} (h : d_limits [a, b, c] S = .ok l S) {q : Rat} (hq : q < 0) : d_readings [a, b, c, tR q] S = .exc "NotAllowed" S := by
  have e := weight_no hq S
  refine fnD_exc rfl (en1 := [.val a, .val b, .val c, .val (tR q), .val l, .no, .no, .no, .no, .no]) ?_
  simp [b_readings, h, e]
theorem manyC_ev {ns : List Int} (hN : N3 ns) (hl : 15 ≤ ns.length) (S : Store) : ∃ es, es.length ≤ 20 ∧ Oks es ∧ d__law_manyC [.lst (nums ns)] S = .ok (tDr es) S := by
  have g0 : ixD (.lst (ns.map .int)) (.int 0) = some (.int (ns.getD 0 0)) := gets (k := 0) (by omega)
  generalize ns.getD 0 0 = v0 at *
  have e0 : modD (.int v0) (.int 5) = some (.int (v0 % 5)) := modD_ok (by omega)
  obtain ⟨n, hn⟩ : ∃ n : Nat, 8 + v0 % 5 = n := ⟨(8 + v0 % 5).toNat, by omega⟩
  have hr := rng_nat (n := n) (by omega)
  have L : Wp (forGo (.nm 3) b__law_manyC_1 (rngI 0 n) [.val (.lst (nums ns)), .val (.int n), .own [], .no, .no, .no] S) (fun f e S1 => f = .nx ∧ S1 = S ∧ ∃ (es : List En) (t3 t4 t5 : Slot), es.length = n ∧ Oks es ∧ e = [.val (.lst (nums ns)), .val (.int n), .own (es.map tEn), t3, t4, t5]) := by
    refine wp_rng0 (fun i e S1 => S1 = S ∧ ∃ (es : List En) (t3 t4 t5 : Slot), es.length = i ∧ Oks es ∧ e = [.val (.lst (nums ns)), .val (.int n), .own (es.map tEn), t3, t4, t5]) ⟨rfl, [], _, _, _, rfl, fun x hx => absurd hx List.not_mem_nil, rfl⟩ ?_ ?_
    · rintro i e S1 hi ⟨rfl, es, t3, t4, t5, h1, h2, rfl⟩
      have gi : ixD (.lst (ns.map .int)) (.int (1 + i)) = some (.int (ns.getD (1 + i) 0)) := by
        have := gets (ns := ns) (k := 1 + i) (by omega)
        simpa using this
      have bi := hN.at (k := 1 + i) (by omega)
      generalize ns.getD (1 + i) 0 = v at *
      have m2 : mulI (.int 2) (.int ((n : Int) - i)) = some (.int (2 * ((n : Int) - i))) := mulI_ok (by have : bit 2 ≤ 2 := bit_small (by omega) (by omega); have : bit ((n : Int) - i) ≤ 5 := bit_small (by omega) (by omega); omega)
      obtain ⟨q, q0, qb, eq⟩ := drawnC_ev (x := v) (most := 3) bi.1 bi.2 (by omega) (by omega) S1
      obtain ⟨z, hz⟩ : ∃ z : Int, 2 * ((n : Int) - i) - 2 = z := ⟨_, rfl⟩
      have ti : (.tup [.int z, .int 1] : D) = tR z := tR_int z
      have bz : Bd 6 (z : Rat) := Bd.int (by omega) (by omega)
      have ep := plusC_ev bz qb (by omega) S1
      have f18 : fdivD (.int v) (.int 18) = some (.int (v / 18)) := fdiv_s (by omega) (by omega)
      have m3 : modD (.int (v / 18)) (.int 3) = some (.int (v / 18 % 3)) := modD_ok (by omega)
      have n5 : (v / 18 % 3).natAbs < 2 ^ 5 := by omega
      have es' := ratioC_ev (n := v / 18 % 3) (d := 20) (by omega) (Nat.lt_of_lt_of_le (show (20 : Int).natAbs < 2 ^ 10 by omega) (pow2_le (by omega))) (by have := bit_lt n5; omega) S1
      have sb : Bd 5 (Rat.divInt (v / 18 % 3) 20) := bd_div (by omega) n5 (by omega)
      have s0 : 0 ≤ Rat.divInt (v / 18 % 3) 20 := Rat.divInt_nonneg (by omega) (by omega)
      have s1 : Rat.divInt (v / 18 % 3) 20 < 1 := divInt_lt_one (by omega) (by omega)
      generalize Rat.divInt (v / 18 % 3) 20 = sh at *
      have z0 : (0 : Rat) ≤ (z : Rat) := by exact_mod_cast (by omega : (0 : Int) ≤ z)
      have t0 : (.tup [.int 0, .int 1] : D) = tR 0 := rfl
      have tp : tupD [.int 0, .int 999, tR ((z : Rat) + q), tR sh, tR 0, .int 0] = some (tPap ⟨0, 999, (z : Rat) + q, sh, 0, 0⟩) := rfl
      have te : (.tup [.str "a", tPap ⟨0, 999, (z : Rat) + q, sh, 0, 0⟩, .non] : D) = tEn ⟨"a", ⟨0, 999, (z : Rat) + q, sh, 0, 0⟩, none⟩ := rfl
      have hl' : es.length < LN := by unfold LN; omega
      simp [b__law_manyC_1, m2, hz, ti, gi, eq, ep, f18, m3, es', t0, tp, te, sApp, hl']
      refine ⟨es ++ [⟨"a", ⟨0, 999, (z : Rat) + q, sh, 0, 0⟩, none⟩], by simp; omega, ?_, by simp⟩
      intro e he
      rcases List.mem_append.mp he with he | he
      · exact h2 e he
      · rw [List.mem_singleton.mp he]
        refine ⟨by show ("a" : Str) ∈ names4; decide, ⟨by show (0 : Int) ≤ 0; omega, by show (0 : Int) ≤ 0; omega, by show (0 : Int) ≤ 999; omega, by show (999 : Int) ≤ 999; omega, ?_, s0, s1, Rat.le_refl, (bz.add qb).mono (by omega), sb.mono (by omega), Bd0 (by omega)⟩, fun _ h => by cases h⟩
        show (0 : Rat) ≤ (z : Rat) + q
        grind
    · rintro e S1 ⟨rfl, es, t3, t4, t5, h1, h2, rfl⟩
      exact ⟨rfl, rfl, es, _, _, _, h1, h2, rfl⟩
  obtain ⟨f, e, S1, h, rfl, rfl, es, t3, t4, t5, h1, h2, rfl⟩ := wp_out L
  refine ⟨es, by omega, h2, fnD_rt rfl (en1 := [.val (.lst (nums ns)), .val (.int n), .own (es.map tEn), t3, t4, t5]) ?_⟩
  simp only [nums] at h
  simp [b__law_manyC, g0, e0, hn, hr, h]
  rfl
theorem hiS_0 {r : Rat} {p : Rat × Rat} (r0 : 0 ≤ r) (h1 : 0 ≤ p.1) (h3 : p.2 < 1) : 0 ≤ hiS r p := by
  unfold hiS
  have hd : (0 : Rat) < 1 - p.2 := by grind
  rw [← Rat.not_lt, Rat.div_lt_iff hd]
  grind
theorem loF_0 (r : Rat) (l : List (Rat × Rat)) : 0 ≤ loF r l := by
  have := (lo_iff (r := r) (w := loF r l) l 0).mp Rat.le_refl
  exact this.1
theorem hiF_0 {r : Rat} (r0 : 0 ≤ r) : ∀ (l : List (Rat × Rat)) (a : Option Rat), Ssl l → (∀ u, a = some u → 0 ≤ u) → ∀ u, l.foldl (fun up p => mnO up (hiS r p)) a = some u → 0 ≤ u
  | [], a, _, ha, u, h => ha u h
  | p :: l, a, hl, ha, u, h => by
    rw [List.foldl_cons] at h
    obtain ⟨h1, _, h3, _, _⟩ := hl p List.mem_cons_self
    refine hiF_0 r0 l _ (fun x hx => hl x (List.mem_cons_of_mem _ hx)) ?_ u h
    intro v hv
    unfold mnO at hv
    cases a with
    | none => cases hv; exact hiS_0 r0 h1 h3
    | some w =>
      dsimp only at hv
      split at hv
      · cases hv; exact hiS_0 r0 h1 h3
      · cases hv; exact ha _ rfl
end Ks

set_option linter.all false
set_option maxRecDepth 100000
/-! So: texts of numbers and of ratios. -/
namespace Ks
open Kb PySem
theorem digs_lt {n : Nat} (h : n < 10) : digs n = [48 + n] := by
  unfold digs
  rw [if_pos h]
theorem digs_ge {n : Nat} (h : ¬ n < 10) : digs n = digs (n / 10) ++ [48 + n % 10] := by
  conv => lhs; unfold digs
  rw [if_neg h]
theorem digs_all (n : Nat) : ∀ c ∈ digs n, 48 ≤ c ∧ c ≤ 57 := by
  induction n using Nat.strongRecOn with
  | _ n ih =>
    intro c hc
    by_cases h : n < 10
    · rw [digs_lt h] at hc
      rw [List.mem_singleton.mp hc]
      omega
    · rw [digs_ge h] at hc
      rcases List.mem_append.mp hc with hc | hc
      · exact ih _ (by omega) c hc
      · rw [List.mem_singleton.mp hc]
        omega
theorem digs_ne (n : Nat) : digs n ≠ [] := by
  by_cases h : n < 10
  · rw [digs_lt h]; simp
  · rw [digs_ge h]; simp
theorem dval_digs (n : Nat) : dval (digs n) = n := by
  induction n using Nat.strongRecOn with
  | _ n ih =>
    by_cases h : n < 10
    · rw [digs_lt h]
      show 0 * 10 + (48 + n - 48) = n
      omega
    · rw [digs_ge h]
      unfold dval
      rw [List.foldl_append]
      have e : List.foldl (fun a c => a * 10 + (c - 48)) 0 (digs (n / 10)) = n / 10 := ih _ (by omega)
      rw [e]
      show n / 10 * 10 + (48 + n % 10 - 48) = n
      omega
theorem digs_len {n k : Nat} (hk : 0 < k) (h : n < 10 ^ k) : (digs n).length ≤ k := by
  induction k generalizing n with
  | zero => omega
  | succ k ih =>
    by_cases h1 : n < 10
    · rw [digs_lt h1]; simp
    · rw [digs_ge h1, List.length_append]
      have hk0 : 0 < k := by
        rcases Nat.eq_zero_or_pos k with e | e
        · subst e
          simp at h
          omega
        · exact e
      have := ih hk0 (n := n / 10) (by rw [Nat.pow_succ] at h; omega)
      show _ + 1 ≤ k + 1
      omega
/-- the signs of a number -/
def sig (i : Int) : List Nat := if i < 0 then 45 :: digs i.natAbs else digs i.natAbs
theorem numS_sig (i : Int) : numS i = txS (sig i) := rfl
theorem txt_l (l : List Nat) : (txS l).cps.toList = l := rfl
theorem txt_len (l : List Nat) : (txS l).length = l.length := by simp [txS, Str.length]
theorem txt_sz (l : List Nat) : (txS l).cps.size = l.length := by simp [txS]
/-- the text of a ratio -/
def rsig (q : Rat) : List Nat := if q.den = 1 then sig q.num else sig q.num ++ 47 :: digs q.den
theorem pow_10 {k : Nat} {n : Nat} (h : n < 2 ^ k) : n < 10 ^ (k + 1) := by
  have h1 : 2 ^ k ≤ 10 ^ k := Nat.pow_le_pow_left (by omega) k
  have h2 : 10 ^ k ≤ 10 ^ (k + 1) := Nat.pow_le_pow_right (by omega) (by omega)
  omega
theorem sig_len {i : Int} {k : Nat} (h : i.natAbs < 2 ^ k) : (sig i).length ≤ k + 2 := by
  have := digs_len (k := k + 1) (by omega) (pow_10 h)
  unfold sig
  split
  · rw [List.length_cons]; omega
  · omega
theorem rsig_len {q : Rat} {k : Nat} (h : Bd k q) : (rsig q).length ≤ 2 * k + 4 := by
  have h1 := sig_len h.n
  have h2 := digs_len (k := k + 1) (by omega) (pow_10 h.d)
  unfold rsig
  split
  · omega
  · rw [List.length_append, List.length_cons]; omega
theorem sig_cps (i : Int) : ∀ c ∈ sig i, c < 1114112 := by
  intro c hc
  unfold sig at hc
  split at hc
  · rcases List.mem_cons.mp hc with rfl | hc
    · omega
    · have := digs_all _ c hc; omega
  · have := digs_all _ c hc; omega
theorem rsig_cps (q : Rat) : ∀ c ∈ rsig q, c < 1114112 := by
  intro c hc
  unfold rsig at hc
  split at hc
  · exact sig_cps _ c hc
  · rcases List.mem_append.mp hc with hc | hc
    · exact sig_cps _ c hc
    · rcases List.mem_cons.mp hc with rfl | hc
      · omega
      · have := digs_all _ c hc; omega
theorem txt_inj {l m : List Nat} (h : txS l = txS m) : l = m := by
  have := congrArg (fun z : Str => z.cps.toList) h
  exact this
theorem cps_txt {l : List Nat} (h : ∀ c ∈ l, c < 1114112) : ((txS l).cps.all fun c => decide (c < 1114112)) = true := by
  rw [Array.all_eq_true']
  intro c hc
  have : c ∈ l := by simpa [txS] using hc
  exact decide_eq_true (h c this)
theorem beq_txt (l m : List Nat) : (txS l == txS m) = decide (l = m) := by
  by_cases h : l = m
  · subst h; simp
  · rw [decide_eq_false h]
    exact beq_eq_false_iff_ne.mpr fun e => h (txt_inj e)
theorem eq_txt {l m : List Nat} (hl : ∀ c ∈ l, c < 1114112) (hm : ∀ c ∈ m, c < 1114112) : eqD (.str (txS l)) (.str (txS m)) = some (.bl (decide (l = m))) := by
  rw [eq_str (cps_txt hl) (cps_txt hm), beq_txt]
theorem ne_txt {l m : List Nat} (hl : ∀ c ∈ l, c < 1114112) (hm : ∀ c ∈ m, c < 1114112) : neD (.str (txS l)) (.str (txS m)) = some (.bl (!decide (l = m))) := by
  have e : okd 60 (.str (txS l)) = true := cps_txt hl
  have e2 : okd 60 (.str (txS m)) = true := cps_txt hm
  unfold neD
  rw [e, e2]
  show some (D.bl (!(txS l == txS m))) = _
  rw [beq_txt]
theorem fmt_int {i : Int} (h : bit i < 1920) : fmtD (.int i) = some (.str (txS (sig i))) := if_pos h
theorem str_int {i : Int} (h : bit i < 1920) : strD [.int i] = some (.str (txS (sig i))) := if_pos h
theorem dig_str : ("/" : Str) = txS [47] := rfl
theorem sig_nat (n : Nat) : sig n = digs n := by
  unfold sig
  rw [if_neg (by omega), Int.natAbs_natCast]
theorem ratiotext_ev {q : Rat} {k : Nat} (h : Bd k q) (hk : k ≤ 1900) (S : Store) : d_ratio_text [tR q] S = .ok (.str (txS (rsig q))) S := by
  have b1 : bit q.num < 1920 := by have := h.bn; omega
  have b2 : bit (q.den : Int) < 1920 := by have := h.bd; omega
  have l1 := sig_len h.n
  have l2 := digs_len (k := k + 1) (by omega) (pow_10 h.d)
  refine fnD_rt rfl (en1 := [.val (tR q)]) ?_
  unfold rsig
  by_cases h1 : q.den = 1
  · have e1 : ((q.den : Int) == 1) = true := by rw [h1]; rfl
    simp [b_ratio_text, e1, h1, str_int b1]
  · have e1 : ((q.den : Int) == 1) = false := by
      rw [beq_eq_false_iff_ne]; omega
    have f1 := fmt_int b1
    have f2 := fmt_int b2
    rw [sig_nat] at f2
    have g1 : ((sig q.num).length ≤ LN) := by unfold LN; omega
    have g2 : ((sig q.num ++ [47]).length ≤ LN) := by unfold LN; rw [List.length_append]; show _ + 1 ≤ _; omega
    have g3 : ((sig q.num ++ [47] ++ digs q.den).length ≤ LN) := by unfold LN; rw [List.length_append, List.length_append]; show _ + 1 + _ ≤ _; omega
    have d0 : ("/" : Str).cps.toList = [47] := rfl
    have z0 : (Str.ofString "/").cps.size = 1 := rfl
    have z1 : (sig q.num).length + 1 ≤ LN := by unfold LN; omega
    have z2 : (sig q.num).length + (1 + (digs q.den).length) ≤ LN := by unfold LN; omega
    simp [b_ratio_text, e1, h1, f1, f2, txt_l, d0, txt_sz, z0, g1, z1, z2]
theorem par1_none {c : Nat} : ∀ {l : List Nat}, c ∉ l → par1 c l = none
  | [], _ => rfl
  | x :: r, h => by
    have e : ¬ x = c := fun e => h (by rw [e]; exact List.mem_cons_self)
    show (if x = c then some ([], r) else (par1 c r).map fun p => (x :: p.1, p.2)) = none
    rw [if_neg e, par1_none fun m => h (List.mem_cons_of_mem _ m)]
    rfl
theorem par1_at {c : Nat} {b : List Nat} : ∀ {l : List Nat}, c ∉ l → par1 c (l ++ c :: b) = some (l, b)
  | [], _ => if_pos rfl
  | x :: r, h => by
    have e : ¬ x = c := fun e => h (by rw [e]; exact List.mem_cons_self)
    show (if x = c then some ([], r ++ c :: b) else (par1 c (r ++ c :: b)).map fun p => (x :: p.1, p.2)) = _
    rw [if_neg e, par1_at fun m => h (List.mem_cons_of_mem _ m)]
    rfl
theorem digs_no {n c : Nat} (h : c < 48 ∨ 57 < c) : c ∉ digs n := fun m => by
  have := digs_all n c m
  omega
def isDig (c : Nat) : Bool := decide (48 ≤ c ∧ c ≤ 57)
theorem dig_mem (c : Nat) : decide (c ∈ ("0123456789" : Str).cps.toList) = isDig c := by
  have e : ("0123456789" : Str).cps.toList = [48, 49, 50, 51, 52, 53, 54, 55, 56, 57] := rfl
  unfold isDig
  rw [e, decide_eq_decide]
  simp only [List.mem_cons, List.not_mem_nil, or_false]
  omega
theorem isdigits_ev {l : List Nat} (h : l.length ≤ 1000) (hc : ∀ c ∈ l, c < 1114112) (S : Store) : d_is_digits [.str (txS l)] S = .ok (.bl (decide (l ≠ []) && l.all isDig)) S := by
  have sq : seqD (.str (txS l)) = some (l.map fun c => .str ⟨#[c]⟩) := rfl
  refine fnD_rt rfl (en1 := [.val (.str (txS l)), .no]) ?_
  have c1 : l_is_digits_1 [.val (.str (txS l)), .no] S = .ok (l.map fun c => .bl (isDig c)) S := by
    refine mapU (zs := l) (u := fun c => .str ⟨#[c]⟩) (by simp [sq]) h ?_
    intro c hc
    have : inD (.str ⟨#[c]⟩) c_DIGITS = some (.bl (isDig c)) := by rw [← dig_mem]; rfl
    simp [this]
  have c2 := allP isDig l
  have n1 : neD (.str (txS l)) (.str "") = some (.bl (!decide (l = []))) := ne_txt (m := []) hc (by simp)
  by_cases e : l = []
  · subst e
    simp at n1
    simp [b_is_digits, n1]
  · simp [b_is_digits, n1, c1, c2, e]
theorem isdigits_yes {n : Nat} (h : (digs n).length ≤ 1000) (S : Store) : d_is_digits [.str (txS (digs n))] S = .ok (.bl true) S := by
  rw [isdigits_ev h (fun c hc => by have := digs_all n c hc; omega)]
  have : (digs n).all isDig = true := List.all_eq_true.mpr fun c hc => decide_eq_true (digs_all n c hc)
  rw [this, decide_eq_true (digs_ne n)]
  rfl
theorem sl_1 {l : List Nat} (h : l.length ≤ LN) : slD (.str (txS l)) none (some 1) = some (.str (txS (l.take 1))) := by
  have e : slD (.str (txS l)) none (some 1) = if (txS l).length ≤ LN then some (.str ⟨(cut l none (some 1)).toArray⟩) else none := rfl
  rw [e, if_pos (by rw [txt_len]; exact h)]
  have e2 : cut l none (some 1) = l.take 1 := by
    unfold cut sIx
    simp
  rw [e2]
  rfl
theorem sl_d1 {l : List Nat} (h : l.length ≤ LN) : slD (.str (txS l)) (some 1) none = some (.str (txS (l.drop 1))) := by
  have e : slD (.str (txS l)) (some 1) none = if (txS l).length ≤ LN then some (.str ⟨(cut l (some 1) none).toArray⟩) else none := rfl
  rw [e, if_pos (by rw [txt_len]; exact h)]
  have e2 : cut l (some 1) none = l.drop 1 := by
    unfold cut sIx
    simp
    cases l <;> simp
  rw [e2]
  rfl
theorem int_txt {n : Nat} (h : (digs n).length ≤ 640) : intTD [.str (txS (digs n))] = some (.int n) := by
  have e : ((txS (digs n)).cps.toList.all fun c => decide (48 ≤ c ∧ c ≤ 57)) = true := List.all_eq_true.mpr fun c hc => decide_eq_true (digs_all n c hc)
  have e2 : intTD [.str (txS (digs n))] = if (txS (digs n)).cps.toList ≠ [] ∧ (txS (digs n)).length ≤ 640 ∧ ((txS (digs n)).cps.toList.all fun c => decide (48 ≤ c ∧ c ≤ 57)) = true then some (.int (dval (txS (digs n)).cps.toList)) else none := rfl
  rw [e2, if_pos ⟨digs_ne n, by rw [txt_len]; exact h, e⟩, txt_l, dval_digs]
theorem part_none {l : List Nat} (h : l.length ≤ LN) (h2 : 47 ∉ l) : partD (txS l) (.str "/") = some (.tup [.str (txS l), .str (txS []), .str (txS [])]) := by
  have e : partD (txS l) (.str "/") = if (txS l).length ≤ LN then some (match par1 47 l with
    | some p => .tup [.str (txS p.1), .str ⟨#[47]⟩, .str (txS p.2)]
    | none => .tup [.str (txS l), .str ⟨#[]⟩, .str ⟨#[]⟩]) else none := rfl
  rw [e, if_pos (by rw [txt_len]; exact h), par1_none h2]
  rfl
theorem part_at {l m : List Nat} (h : (l ++ 47 :: m).length ≤ LN) (h2 : 47 ∉ l) : partD (txS (l ++ 47 :: m)) (.str "/") = some (.tup [.str (txS l), .str (txS [47]), .str (txS m)]) := by
  have e : partD (txS (l ++ 47 :: m)) (.str "/") = if (txS (l ++ 47 :: m)).length ≤ LN then some (match par1 47 (l ++ 47 :: m) with
    | some p => .tup [.str (txS p.1), .str ⟨#[47]⟩, .str (txS p.2)]
    | none => .tup [.str (txS (l ++ 47 :: m)), .str ⟨#[]⟩, .str ⟨#[]⟩]) else none := rfl
  rw [e, if_pos (by rw [txt_len]; exact h), par1_at h2]
  rfl
theorem readratio_ev {q : Rat} {k : Nat} (h : Bd k q) (hk : k ≤ 1900) (hl : (rsig q).length ≤ 60) (S : Store) : d_read_ratio [.str (txS (rsig q))] S = .ok (tR q) S := by
  have c0 := rsig_cps q
  obtain ⟨L, l0, g0⟩ : ∃ L : Int, lenD [.str (txS (rsig q))] = some (.int L) ∧ gtD (.int L) c_MAX_TEXT = some (.bl false) := by
    refine ⟨(rsig q).length, ?_, ?_⟩
    · have : lenD [.str (txS (rsig q))] = if (txS (rsig q)).length ≤ LN then some (.int (txS (rsig q)).length) else none := rfl
      rw [this, txt_len, if_pos (by unfold LN; omega)]
    · show some (D.bl (decide ((60 : Int) < (rsig q).length))) = _
      rw [decide_eq_false (by omega)]
  have s1 := sl_1 (l := rsig q) (by unfold LN; omega)
  have s2 := sl_d1 (l := rsig q) (by unfold LN; omega)
  have ir := isratio_ev q.num q.den S
  have ir2 : d_is_ratio [tR q] S = .ok (.bl true) S := by
    unfold tR
    rw [ir, gcd_red]
    have := den_pos q
    rw [decide_eq_true (by omega)]
    rfl
  have rt := ratiotext_ev h hk S
  have nself : neD (.str (txS (rsig q))) (.str (txS (rsig q))) = some (.bl false) := by rw [ne_txt c0 c0]; simp
  have ng : ∀ d : Int, d_negated [.tup [.int q.num.natAbs, .int d]] S = .ok (.tup [.int (-q.num.natAbs), .int d]) S := fun d => by
    refine fnD_rt rfl (en1 := [.val (.tup [.int q.num.natAbs, .int d])]) ?_
    simp [b_negated]
  have eh : ∀ m : List Nat, (∀ c ∈ m, c < 1114112) → eqD (.str (txS m)) (.str "-") = some (.bl (decide (m = [45]))) := fun m hm => eq_txt (m := [45]) hm (by simp)
  have e47 : eqD (.str (txS [47])) (.str "") = some (.bl false) := eq_txt (l := [47]) (m := []) (by simp) (by simp)
  have n47 : neD (.str (txS [47])) (.str "") = some (.bl true) := ne_txt (l := [47]) (m := []) (by simp) (by simp)
  have e00 : eqD (.str (txS [])) (.str "") = some (.bl true) := eq_txt (l := []) (m := []) (by simp) (by simp)
  have n00 : neD (.str (txS [])) (.str "") = some (.bl false) := ne_txt (l := []) (m := []) (by simp) (by simp)
  have la : (digs q.num.natAbs).length ≤ 60 := by
    have : (digs q.num.natAbs).length ≤ (rsig q).length := by
      unfold rsig sig
      split <;> split <;> simp <;> omega
    omega
  have i1 := int_txt (n := q.num.natAbs) (by omega)
  have y1 := isdigits_yes (n := q.num.natAbs) (by omega) S
  have no1 : (47 : Nat) ∉ digs q.num.natAbs := digs_no (by omega)
  have hw : ∀ m : List Nat, m.length ≤ 60 → m.length ≤ LN := fun m h => by unfold LN; omega
  have tq : ∀ n d : Int, n = q.num → d = q.den → (.tup [.int n, .int d] : D) = tR q := fun n d e1 e2 => by rw [e1, e2]; rfl
  have lb : (digs q.den).length ≤ 60 ∨ q.den = 1 := by
    by_cases hd : q.den = 1
    · exact .inr hd
    · left
      have : (digs q.den).length ≤ (rsig q).length := by
        unfold rsig
        rw [if_neg hd, List.length_append, List.length_cons]
        omega
      omega
  by_cases hn : q.num < 0
  · have hq : -(q.num.natAbs : Int) = q.num := by omega
    have h45 := eh [45] (by simp)
    by_cases hd : q.den = 1
    · have er : rsig q = 45 :: digs q.num.natAbs := by unfold rsig sig; rw [if_pos hd, if_pos hn]
      rw [er] at l0 s1 s2 rt nself
      have p1 := part_none (l := digs q.num.natAbs) (hw _ la) no1
      have tq1 := tq (-q.num.natAbs) 1 hq (by rw [hd]; rfl)
      rw [er]
      refine fnD_rt rfl (en1 := [.val (.str (txS (45 :: digs q.num.natAbs))), .val (.str (txS (digs q.num.natAbs))), .val (.str (txS (digs q.num.natAbs))), .val (.str (txS [])), .val (.str (txS [])), .val (tR q)]) ?_
      simp at s1 s2 h45
      simp [b_read_ratio, l0, g0, pSo, s1, s2, h45, p1, sTg_is, put_3, y1, n00, e00, i1, ng, tq1, ir2, rt, nself]
    · have er : rsig q = 45 :: (digs q.num.natAbs ++ 47 :: digs q.den) := by unfold rsig sig; rw [if_neg hd, if_pos hn]; rfl
      have lb := lb.resolve_right hd
      rw [er] at l0 s1 s2 rt nself hl
      have p1 := part_at (l := digs q.num.natAbs) (m := digs q.den) (hw _ (by simpa using Nat.le_of_succ_le hl)) no1
      have tq1 := tq (-q.num.natAbs) q.den hq rfl
      have i2 := int_txt (n := q.den) (by omega)
      have y2 := isdigits_yes (n := q.den) (by omega) S
      rw [er]
      refine fnD_rt rfl (en1 := [.val (.str (txS (45 :: (digs q.num.natAbs ++ 47 :: digs q.den)))), .val (.str (txS (digs q.num.natAbs ++ 47 :: digs q.den))), .val (.str (txS (digs q.num.natAbs))), .val (.str (txS [47])), .val (.str (txS (digs q.den))), .val (tR q)]) ?_
      simp at s1 s2 h45
      simp [b_read_ratio, l0, g0, pSo, s1, s2, h45, p1, sTg_is, put_3, y1, y2, n47, e47, i1, i2, ng, tq1, ir2, rt, nself]
  · have hq : (q.num.natAbs : Int) = q.num := by omega
    obtain ⟨f, r, hf, f1, f2⟩ : ∃ f r, digs q.num.natAbs = f :: r ∧ 48 ≤ f ∧ f ≤ 57 := by
      cases e : digs q.num.natAbs with
      | nil => exact absurd e (digs_ne _)
      | cons f r =>
        have := digs_all q.num.natAbs f (by rw [e]; exact List.mem_cons_self)
        exact ⟨f, r, rfl, this.1, this.2⟩
    have hx : eqD (.str (txS [f])) (.str "-") = some (.bl false) := by
      rw [eh [f] (by simp; omega)]
      simp
      omega
    by_cases hd : q.den = 1
    · have er : rsig q = digs q.num.natAbs := by unfold rsig sig; rw [if_pos hd, if_neg hn]
      rw [er] at l0 s1 s2 rt nself
      have p1 := part_none (l := digs q.num.natAbs) (hw _ la) no1
      have tq1 := tq q.num.natAbs 1 hq (by rw [hd]; rfl)
      have s1' : slD (.str (txS (digs q.num.natAbs))) none (some 1) = some (.str (txS [f])) := by rw [s1, hf]; rfl
      rw [er]
      refine fnD_rt rfl (en1 := [.val (.str (txS (digs q.num.natAbs))), .val (.str (txS (digs q.num.natAbs))), .val (.str (txS (digs q.num.natAbs))), .val (.str (txS [])), .val (.str (txS [])), .val (tR q)]) ?_
      simp [b_read_ratio, l0, g0, pSo, s1', hx, p1, sTg_is, put_3, y1, n00, e00, i1, ng, tq1, ir2, rt, nself]
    · have er : rsig q = digs q.num.natAbs ++ 47 :: digs q.den := by unfold rsig sig; rw [if_neg hd, if_neg hn]
      have lb := lb.resolve_right hd
      rw [er] at l0 s1 s2 rt nself hl
      have p1 := part_at (l := digs q.num.natAbs) (m := digs q.den) (hw _ hl) no1
      have tq1 := tq q.num.natAbs q.den hq rfl
      have i2 := int_txt (n := q.den) (by omega)
      have y2 := isdigits_yes (n := q.den) (by omega) S
      have s1' : slD (.str (txS (digs q.num.natAbs ++ 47 :: digs q.den))) none (some 1) = some (.str (txS [f])) := by rw [s1, hf]; rfl
      rw [er]
      refine fnD_rt rfl (en1 := [.val (.str (txS (digs q.num.natAbs ++ 47 :: digs q.den))), .val (.str (txS (digs q.num.natAbs ++ 47 :: digs q.den))), .val (.str (txS (digs q.num.natAbs))), .val (.str (txS [47])), .val (.str (txS (digs q.den))), .val (tR q)]) ?_
      simp [b_read_ratio, l0, g0, pSo, s1', hx, p1, sTg_is, put_3, y1, y2, n47, e47, i1, i2, ng, tq1, ir2, rt, nself]
end Ks

set_option linter.all false
set_option maxRecDepth 100000
/-! Sp: papers and drawers of any numbers checked. -/
namespace Ks
open Kb PySem
/-- what may be a paper: pairs of any integers -/
structure GP where
  first : Int
  last : Int
  z : Int × Int
  s : Int × Int
  d : Int × Int
  checked : Int
def tI2 (p : Int × Int) : D := .tup [.int p.1, .int p.2]
def tGP (g : GP) : D := .tup [.int g.first, .int g.last, tI2 g.z, tI2 g.s, tI2 g.d, .int g.checked]
def wOk (p : Int × Int) : Bool := (decide (1 ≤ p.2) && ((Int.gcd p.1 p.2 : Int) == 1)) && decide (0 ≤ p.1)
def dOk (g : GP) : Bool := decide (0 ≤ g.checked) && (decide (g.checked ≤ g.first) && (decide (g.first ≤ g.last) && decide (g.last ≤ 999)))
def gOk (g : GP) : Bool := dOk g && ((wOk g.z && (wOk g.s && wOk g.d)) && decide (g.s.1 < g.s.2))
theorem isweight_ev (p : Int × Int) (S : Store) : d_is_weight [tI2 p] S = .ok (.bl (wOk p)) S := by
  have e1 := isratio_ev p.1 p.2 S
  have e2 := sign_ev p.1 p.2 S
  have e3 : geD (.int (sgn p.1)) (.int 0) = some (.bl (decide (0 ≤ p.1))) := by
    show some (D.bl (decide ((0 : Int) ≤ sgn p.1))) = _
    rw [decide_eq_decide.mpr (sgn_ge p.1)]
  refine fnD_rt rfl (en1 := [.val (tI2 p)]) ?_
  unfold wOk
  simp only [tI2] at *
  cases h : (decide (1 ≤ p.2) && ((Int.gcd p.1 p.2 : Int) == 1)) with
  | true =>
    rw [h] at e1
    simp [b_is_weight, e1, e2, e3]
  | false =>
    rw [h] at e1
    simp [b_is_weight, e1]
theorem compare1_ev {p : Int × Int} (h1 : bit p.1 ≤ 1000) (h2 : bit p.2 ≤ 1000) (S : Store) : d_compare [tI2 p, c_ONE] S = .ok (.int (sgn (p.1 - p.2))) S := by
  have o : bit 1 = 0 := rfl
  have u1 : mulI (.int p.1) (.int 1) = some (.int (p.1 * 1)) := mulI_ok (by omega)
  have u2 : mulI (.int 1) (.int p.2) = some (.int (1 * p.2)) := mulI_ok (by omega)
  rw [Int.mul_one] at u1
  rw [Int.one_mul] at u2
  have e := sign_ev (p.1 - p.2) 1 S
  refine fnD_rt rfl (en1 := [.val (tI2 p), .val c_ONE]) ?_
  simp [b_compare, tI2, c_ONE, u1, u2, e]
theorem put_gp {a b c d e f : Nat} {p : GP} {env : Kb.Env} : (Tg.tp [.nm a, .nm b, .nm c, .nm d, .nm e, .nm f]).put (tGP p) env = some ((((((env.set a (.val (.int p.first))).set b (.val (.int p.last))).set c (.val (tI2 p.z))).set d (.val (tI2 p.s))).set e (.val (tI2 p.d))).set f (.val (.int p.checked))) := rfl
theorem checkpaper_ev {g : GP} (h1 : bit g.s.1 ≤ 1000) (h2 : bit g.s.2 ≤ 1000) (S : Store) : d_check_paperS [tGP g] S = if gOk g = true then .ok .non S else .exc "NotAllowed" S := by
  have w1 := isweight_ev g.z S
  have w2 := isweight_ev g.s S
  have w3 := isweight_ev g.d S
  have c := compare1_ev h1 h2 S
  have tp : tupD [tI2 g.z, tI2 g.s, tI2 g.d] = some (.tup [tI2 g.z, tI2 g.s, tI2 g.d]) := rfl
  have l1 : l_check_paperS_1 [.val (tGP g), .val (.int g.first), .val (.int g.last), .val (tI2 g.z), .val (tI2 g.s), .val (tI2 g.d), .val (.int g.checked), .no] S = .ok ([g.z, g.s, g.d].map fun p => .bl (wOk p)) S := by
    refine mapU (zs := [g.z, g.s, g.d]) (u := tI2) (by simp [tp]) (by simp) ?_
    intro p hp
    have := isweight_ev p S
    simp [this]
  have al := allP wOk [g.z, g.s, g.d]
  have ge : geD (.int (sgn (g.s.1 - g.s.2))) (.int 0) = some (.bl (!decide (g.s.1 < g.s.2))) := by
    show some (D.bl (decide ((0 : Int) ≤ sgn (g.s.1 - g.s.2)))) = _
    by_cases h : g.s.1 < g.s.2
    · rw [decide_eq_true h, decide_eq_false fun z => by have := (sgn_ge _).mp z; omega]
      rfl
    · rw [decide_eq_false h, decide_eq_true ((sgn_ge _).mpr (by omega))]
      rfl
  have hd : leD (.int g.last) c_MAX_DAY = some (.bl (decide (g.last ≤ 999))) := rfl
  have ch : tB (eChn (eC (.int 0)) [(leD, eN 6), (leD, eN 1), (leD, eN 2), (leD, eC c_MAX_DAY)]) [.val (tGP g), .val (.int g.first), .val (.int g.last), .val (tI2 g.z), .val (tI2 g.s), .val (tI2 g.d), .val (.int g.checked), .no] S = .ok (dOk g) S := by
    unfold dOk
    by_cases x1 : 0 ≤ g.checked
    · by_cases x2 : g.checked ≤ g.first
      · by_cases x3 : g.first ≤ g.last
        · simp [x1, x2, x3, hd]
        · simp [x1, x2, x3, hd]
      · simp [x1, x2, hd]
    · simp [x1, hd]
  have al2 : [g.z, g.s, g.d].all wOk = (wOk g.z && (wOk g.s && wOk g.d)) := by simp
  rw [al2] at al
  unfold gOk
  cases q1 : dOk g with
  | false =>
    rw [q1] at ch
    rw [Bool.false_and, if_neg (by simp)]
    refine fnD_exc rfl (en1 := [.val (tGP g), .val (.int g.first), .val (.int g.last), .val (tI2 g.z), .val (tI2 g.s), .val (tI2 g.d), .val (.int g.checked), .no]) ?_
    simp only [tB_ev] at ch
    simp [b_check_paperS, sTg_is, put_gp]
    simp at ch
    simp [ch]
  | true =>
    rw [q1] at ch
    simp only [tB_ev] at ch
    simp at ch
    rw [Bool.true_and]
    cases q2 : (wOk g.z && (wOk g.s && wOk g.d)) with
    | false =>
      rw [q2] at al
      rw [Bool.false_and, if_neg (by simp)]
      refine fnD_exc rfl (en1 := [.val (tGP g), .val (.int g.first), .val (.int g.last), .val (tI2 g.z), .val (tI2 g.s), .val (tI2 g.d), .val (.int g.checked), .no]) ?_
      simp only [List.map] at l1 al
      simp [b_check_paperS, sTg_is, put_gp, ch, l1, al]
    | true =>
      rw [q2] at al
      simp only [List.map] at l1 al
      rw [Bool.true_and]
      by_cases q3 : g.s.1 < g.s.2
      · rw [decide_eq_true q3] at ge ⊢
        rw [if_pos rfl]
        refine fnD_nx rfl (en1 := [.val (tGP g), .val (.int g.first), .val (.int g.last), .val (tI2 g.z), .val (tI2 g.s), .val (tI2 g.d), .val (.int g.checked), .no]) ?_
        simp [b_check_paperS, sTg_is, put_gp, ch, l1, al, c, ge]
      · rw [decide_eq_false q3] at ge ⊢
        rw [if_neg (by simp)]
        refine fnD_exc rfl (en1 := [.val (tGP g), .val (.int g.first), .val (.int g.last), .val (tI2 g.z), .val (tI2 g.s), .val (tI2 g.d), .val (.int g.checked), .no]) ?_
        simp [b_check_paperS, sTg_is, put_gp, ch, l1, al, c, ge]
/-- a paper of a drawer is one of these -/
def ofPap (p : Pap) : GP := ⟨p.first, p.last, (p.zero.num, p.zero.den), (p.share.num, p.share.den), (p.drift.num, p.drift.den), p.checked⟩
theorem tPap_gp (p : Pap) : tPap p = tGP (ofPap p) := rfl
theorem wOk_R {q : Rat} (h : 0 ≤ q) : wOk (q.num, q.den) = true := by
  have := den_pos q
  unfold wOk
  rw [gcd_red, decide_eq_true (by show (1 : Int) ≤ q.den; omega), decide_eq_true (Rat.num_nonneg.mpr h)]
  rfl
theorem lt1_num {q : Rat} (h : q < 1) : q.num < q.den := by
  have z := (Rat.lt_iff q 1).mp h
  simpa using z
theorem gOk_pap {p : Pap} (h : p.ok) : gOk (ofPap p) = true := by
  unfold gOk dOk ofPap
  rw [wOk_R h.z0, wOk_R h.s0, wOk_R h.d0, decide_eq_true (lt1_num h.s1), decide_eq_true h.c0, decide_eq_true h.c1, decide_eq_true h.c2, decide_eq_true h.c3]
  rfl
/-- an entry of any kind -/
structure GE where
  name : Str
  pap : GP
  til : Option Int
def tGE (e : GE) : D := .tup [.str e.name, tGP e.pap, tU e.til]
def uOk : Option Int → Bool
  | none => true
  | some u => decide (0 ≤ u) && decide (u ≤ 999)
def eOk (e : GE) : Bool := scOk e.name && (gOk e.pap && uOk e.til)
structure GE.sm (e : GE) : Prop where
  n : e.name.length ≤ 1000
  a : bit e.pap.s.1 ≤ 1000
  b : bit e.pap.s.2 ≤ 1000
theorem put_ge {a b c : Nat} {e : GE} {env : Kb.Env} : (Tg.tp [.nm a, .nm b, .nm c]).put (tGE e) env = some (((env.set a (.val (.str e.name))).set b (.val (tGP e.pap))).set c (.val (tU e.til))) := rfl
theorem checkscale_ev {z : Str} (h : z.length ≤ 1000) (S : Store) : d_check_scale [.str z] S = if scOk z = true then .ok .non S else .exc "NotAllowed" S := by
  cases q : scOk z with
  | true =>
    have e := scale_is h S
    rw [q] at e
    rw [if_pos rfl]
    refine fnD_nx rfl (en1 := [.val (.str z)]) ?_
    simp [b_check_scale, e]
  | false =>
    rw [if_neg (by simp)]
    exact scale_no q h S
theorem checkday_ev (d : Int) (S : Store) : d_check_day [.int d] S = if uOk (some d) = true then .ok .non S else .exc "NotAllowed" S := by
  by_cases h : 0 ≤ d ∧ d ≤ 999
  · rw [day_yes h.1 h.2, if_pos (by show (decide (0 ≤ d) && decide (d ≤ 999)) = true; rw [decide_eq_true h.1, decide_eq_true h.2]; rfl)]
  · rw [day_no h, if_neg (by unfold uOk; simp; omega)]
theorem drawer1_ev {e : GE} (he : e.sm) (s0 s1 s2 s3 : Slot) (S : Store) : b_check_drawer_1 [s0, .val (.str e.name), .val (tGP e.pap), .val (tU e.til)] S = if eOk e = true then .ok .nx [s0, .val (.str e.name), .val (tGP e.pap), .val (tU e.til)] S else .exc "NotAllowed" [s0, .val (.str e.name), .val (tGP e.pap), .val (tU e.til)] S := by
  have a := checkscale_ev he.n S
  have b := checkpaper_ev he.a he.b S
  unfold eOk
  cases q1 : scOk e.name with
  | false => rw [q1] at a; simp at a; simp [b_check_drawer_1, a]
  | true =>
    rw [q1] at a
    simp at a
    cases q2 : gOk e.pap with
    | false => rw [q2] at b; simp at b; simp [b_check_drawer_1, a, b]
    | true =>
      rw [q2] at b
      simp at b
      cases q3 : e.til with
      | none => simp [b_check_drawer_1, a, b, tU, uOk]
      | some u =>
        have c := checkday_ev u S
        cases q4 : uOk (some u) with
        | true => rw [q4] at c; simp at c; simp [b_check_drawer_1, a, b, tU, c]
        | false => rw [q4] at c; simp at c; simp [b_check_drawer_1, a, b, tU, c]
theorem drawerL_ev (s0 : Slot) (S : Store) : ∀ (es : List GE) (s1 s2 s3 : Slot), (∀ e ∈ es, e.sm) → ∃ e1 e2 e3, forGo (.tp [.nm 1, .nm 2, .nm 3]) b_check_drawer_1 (es.map tGE) [s0, s1, s2, s3] S = if es.all eOk = true then .ok .nx [s0, e1, e2, e3] S else .exc "NotAllowed" [s0, e1, e2, e3] S
  | [], s1, s2, s3, _ => ⟨s1, s2, s3, rfl⟩
  | e :: es, s1, s2, s3, h => by
    have h1 := drawer1_ev (h e List.mem_cons_self) s0 s1 s2 s3 S
    cases q : eOk e with
    | true =>
      rw [q] at h1
      simp at h1
      obtain ⟨e1, e2, e3, ih⟩ := drawerL_ev s0 S es (.val (.str e.name)) (.val (tGP e.pap)) (.val (tU e.til)) fun x hx => h x (List.mem_cons_of_mem _ hx)
      refine ⟨e1, e2, e3, ?_⟩
      rw [List.all_cons, q, Bool.true_and, ← ih]
      simp [forGo, put_ge, h1]
    | false =>
      rw [q] at h1
      simp at h1
      refine ⟨.val (.str e.name), .val (tGP e.pap), .val (tU e.til), ?_⟩
      rw [List.all_cons, q, Bool.false_and, if_neg (by simp)]
      simp [forGo, put_ge, h1]
def tGD (es : List GE) : D := .tup (es.map tGE)
theorem checkdrawer_ev {es : List GE} (h : ∀ e ∈ es, e.sm) (S : Store) : d_check_drawer [tGD es] S = if es.length ≤ 12 ∧ es.all eOk = true then .ok .non S else .exc "NotAllowed" S := by
  have hl : lenD [tGD es] = some (.int es.length) := by
    unfold tGD
    rw [lenD_tup, List.length_map]
  obtain ⟨e1, e2, e3, L⟩ := drawerL_ev (.val (tGD es)) S es .no .no .no h
  have sq : seqD (tGD es) = some (es.map tGE) := rfl
  by_cases h12 : es.length ≤ 12
  · have g1 : ¬ (12 : Int) < es.length := by omega
    cases q : es.all eOk with
    | true =>
      rw [q] at L
      simp at L
      rw [if_pos ⟨h12, rfl⟩]
      refine fnD_nx rfl (en1 := [.val (tGD es), e1, e2, e3]) ?_
      simp [b_check_drawer, hl, g1, sq, L, c_MAX_PAPERS]
    | false =>
      rw [q] at L
      simp at L
      rw [if_neg (by simp)]
      refine fnD_exc rfl (en1 := [.val (tGD es), e1, e2, e3]) ?_
      simp [b_check_drawer, hl, g1, sq, L, c_MAX_PAPERS]
  · have g1 : (12 : Int) < es.length := by omega
    rw [if_neg (by omega)]
    refine fnD_exc rfl (en1 := [.val (tGD es), .no, .no, .no]) ?_
    simp [b_check_drawer, hl, g1, sq, c_MAX_PAPERS]
def ofEn (e : En) : GE := ⟨e.name, ofPap e.pap, e.til⟩
theorem tDr_gd (es : List En) : tDr es = tGD (es.map ofEn) := by
  unfold tDr tGD
  rw [List.map_map]
  rfl
theorem sm_en {e : En} (h : e.ok) : (ofEn e).sm := by
  have h1 : ∀ n ∈ names4, n.length ≤ 1000 := by decide +kernel
  exact ⟨h1 _ h.n, by have := h.p.sb.bn; show bit e.pap.share.num ≤ 1000; omega, by have := h.p.sb.bd; show bit (e.pap.share.den : Int) ≤ 1000; omega⟩
theorem eOk_en {e : En} (h : e.ok) : eOk (ofEn e) = true := by
  have h1 : ∀ n ∈ names4, scOk n = true := by decide +kernel
  have h2 : uOk e.til = true := by
    cases q : e.til with
    | none => rfl
    | some u =>
      have := h.u u q
      show (decide (0 ≤ u) && decide (u ≤ 999)) = true
      rw [decide_eq_true this.1, decide_eq_true this.2]
      rfl
  unfold eOk ofEn
  rw [h1 _ h.n, gOk_pap h.p, h2]
  rfl
end Ks

set_option linter.all false
set_option maxRecDepth 100000
namespace Lk20
open Kb Ks PySem
/-! ### an odd paper -/
def oddP (p : Pap) : List GP :=
  let g := ofPap p
  [⟨p.last + 1, p.last, g.z, g.s, g.d, p.checked⟩, ⟨p.first, 1000, g.z, g.s, g.d, p.checked⟩, ⟨p.first, p.last, g.z, g.s, g.d, p.first + 1⟩, ⟨p.first, p.last, g.z, g.s, g.d, -1⟩,
    ⟨p.first, p.last, (-1, 2), g.s, g.d, p.checked⟩, ⟨p.first, p.last, g.z, (1, 1), g.d, p.checked⟩, ⟨p.first, p.last, g.z, (7, 6), g.d, p.checked⟩, ⟨p.first, p.last, g.z, (-1, 9), g.d, p.checked⟩,
    ⟨p.first, p.last, g.z, g.s, (-3, 1), p.checked⟩, ⟨p.first, p.last, (2, 4), g.s, g.d, p.checked⟩, ⟨p.first, p.last, g.z, (0, 2), g.d, p.checked⟩, ⟨p.first, p.last, g.z, g.s, (1, 0), p.checked⟩,
    ⟨p.first, p.last, g.z, g.s, (2, -1), p.checked⟩, ⟨-1, p.last, g.z, g.s, g.d, -1⟩]
theorem oddP_no {p : Pap} : ∀ g ∈ oddP p, gOk g = false := by
  have w1 : wOk (-1, 2) = false := by decide
  have w2 : wOk (-1, 9) = false := by decide
  have w3 : wOk (-3, 1) = false := by decide
  have w4 : wOk (2, 4) = false := by decide
  have w5 : wOk (0, 2) = false := by decide
  have w6 : wOk (1, 0) = false := by decide
  have w7 : wOk (2, -1) = false := by decide
  intro g hg
  simp only [oddP, List.mem_cons, List.not_mem_nil, or_false] at hg
  rcases hg with rfl | rfl | rfl | rfl | rfl | rfl | rfl | rfl | rfl | rfl | rfl | rfl | rfl | rfl <;> simp [gOk, dOk, w1, w2, w3, w4, w5, w6, w7] <;> omega
theorem oddP_sm {p : Pap} (h : p.ok) : ∀ g ∈ oddP p, bit g.s.1 ≤ 1000 ∧ bit g.s.2 ≤ 1000 := by
  have b1 : bit p.share.num ≤ 1000 := by have := h.sb.bn; omega
  have b2 : bit (p.share.den : Int) ≤ 1000 := by have := h.sb.bd; omega
  have k1 : bit 1 ≤ 1000 ∧ bit 7 ≤ 1000 ∧ bit 6 ≤ 1000 ∧ bit (-1) ≤ 1000 ∧ bit 9 ≤ 1000 ∧ bit 0 ≤ 1000 ∧ bit 2 ≤ 1000 := by decide
  intro g hg
  simp only [oddP, List.mem_cons, List.not_mem_nil, or_false] at hg
  rcases hg with rfl | rfl | rfl | rfl | rfl | rfl | rfl | rfl | rfl | rfl | rfl | rfl | rfl | rfl <;> simp [ofPap, b1, b2, k1]
theorem add_l {xs ys : List D} (h : xs.length + ys.length ≤ 1000) : addD (.lst xs) (.lst ys) = some (.lst (xs ++ ys)) := if_pos (by unfold LN; omega)
theorem lst2 {a b : D} : lstD [a, b] = some (.lst [a, b]) := rfl
theorem tup6 {a b c d e f : D} : tupD [a, b, c, d, e, f] = some (.tup [a, b, c, d, e, f]) := rfl
theorem tup2 {a b : D} : tupD [a, b] = some (.tup [a, b]) := rfl
theorem oddpaper_ev {p : Pap} (h : p.ok) {n : Int} (h0 : 0 ≤ n) (S : Store) : ∃ g, gOk g = false ∧ bit g.s.1 ≤ 1000 ∧ bit g.s.2 ≤ 1000 ∧ d__law_odd_paper [tPap p, .int n] S = .ok (tGP g) S := by
  obtain ⟨k, hk, h14⟩ : ∃ k : Nat, n % 14 = k ∧ k < 14 := ⟨(n % 14).toNat, by omega, by omega⟩
  have hl : (oddP p).length = 14 := rfl
  obtain ⟨g, hg⟩ := get_of (xs := oddP p) (i := k) (by omega)
  have hm := List.mem_of_getElem? hg
  refine ⟨g, oddP_no g hm, (oddP_sm h g hm).1, (oddP_sm h g hm).2, ?_⟩
  have m1 : modD (.int n) (.int 14) = some (.int k) := by rw [modD_ok (by omega), hk]
  have ix : ixD (.lst ((oddP p).map tGP)) (.int k) = some (tGP g) := ixD_lst (by rw [List.getElem?_map, hg]; rfl)
  refine fnD_rt rfl (en1 := [.val (tPap p), .val (.int n), .val (.int p.first), .val (.int p.last), .val (tR p.zero), .val (tR p.share), .val (tR p.drift), .val (.int p.checked), .val (.lst ((oddP p).map tGP))]) ?_
  have id : ∀ q : Rat, tI2 (q.num, (q.den : Int)) = tR q := fun _ => rfl
  simp only [oddP, List.map, tGP, ofPap, id] at ix ⊢
  simp only [tI2] at ix ⊢
  simp [b__law_odd_paper, sTg_is, put_pap, add_l, lst2, tup6, tup2, m1, ix]
/-! ### told -/
def yes : D := .lst [.non, .bl true]
def noD : D := .lst [.str "no", .bl true]
theorem ll1 : dsp [("check_paper", Ks.d_check_paperS), ("check_drawer", Ks.d_check_drawer)] (.glo "check_paper") = some Ks.d_check_paperS := rfl
theorem ll2 : dsp [("check_paper", Ks.d_check_paperS), ("check_drawer", Ks.d_check_drawer)] (.glo "check_drawer") = some Ks.d_check_drawer := rfl
theorem told_y {f : Str} {R : List D → M D} {x : D} {S : Store} (hd : dsp [("check_paper", Ks.d_check_paperS), ("check_drawer", Ks.d_check_drawer)] (.glo f) = some R) (h : R [x] S = .ok .non S) : d__law_told [.glo f, x] S = .ok yes S := by
  refine fnD_rt rfl (en1 := [.val (.glo f), .val x, .val .non, .no]) ?_
  simp [b__law_told, sTryAs, hd, h, lst2, yes]
theorem told_n {f : Str} {R : List D → M D} {x : D} {S : Store} (hd : dsp [("check_paper", Ks.d_check_paperS), ("check_drawer", Ks.d_check_drawer)] (.glo f) = some R) (h : R [x] S = .exc "NotAllowed" S) : d__law_told [.glo f, x] S = .ok noD S := by
  refine fnD_rt rfl (en1 := [.val (.glo f), .val x, .no, .no]) ?_
  simp [b__law_told, sTryAs, hd, h, lst2, noD, List.lookup, eIsE, notEx]
theorem ne_yy : neD yes (.lst [.non, .bl true]) = some (.bl false) := rfl
theorem ne_nn : neD noD (.lst [.str "no", .bl true]) = some (.bl false) := neD_self (by decide +kernel)
/-! ### an odd entry -/
theorem oddentry_ev {p : Pap} (h : p.ok) {a b : Int} (ha : 0 ≤ a) (hb : 0 ≤ b) (S : Store) : ∃ e, eOk e = false ∧ e.sm ∧ d__law_odd_entry [.tup [.str "a", tPap p, .non], .lst [.int a, .int b]] S = .ok (tGE e) S := by
  obtain ⟨g, g1, g2, g3, g4⟩ := oddpaper_ev h hb S
  obtain ⟨k, hk, h7⟩ : ∃ k : Nat, a % 7 = k ∧ k < 7 := ⟨(a % 7).toNat, by omega, by omega⟩
  have b1 : bit (ofPap p).s.1 ≤ 1000 := by have := h.sb.bn; show bit p.share.num ≤ 1000; omega
  have b2 : bit (ofPap p).s.2 ≤ 1000 := by have := h.sb.bd; show bit (p.share.den : Int) ≤ 1000; omega
  have c1 : scOk "" = false := by decide +kernel
  have c2 : scOk "abcde" = false := by decide +kernel
  have c3 : scOk "A" = false := by decide +kernel
  have c4 : scOk "a1" = false := by decide +kernel
  have l1 : ("" : Str).length ≤ 1000 ∧ ("abcde" : Str).length ≤ 1000 ∧ ("A" : Str).length ≤ 1000 ∧ ("a1" : Str).length ≤ 1000 ∧ ("a" : Str).length ≤ 1000 := by decide +kernel
  let M : List GE := [⟨"", ofPap p, none⟩, ⟨"abcde", ofPap p, none⟩, ⟨"A", ofPap p, none⟩, ⟨"a1", ofPap p, none⟩, ⟨"a", ofPap p, some 1000⟩, ⟨"a", ofPap p, some (-1)⟩, ⟨"a", g, none⟩]
  have hM : ∀ e ∈ M, eOk e = false ∧ e.sm := by
    intro e he
    simp only [M, List.mem_cons, List.not_mem_nil, or_false] at he
    rcases he with rfl | rfl | rfl | rfl | rfl | rfl | rfl
    · exact ⟨by simp [eOk, c1], l1.1, b1, b2⟩
    · exact ⟨by simp [eOk, c2], l1.2.1, b1, b2⟩
    · exact ⟨by simp [eOk, c3], l1.2.2.1, b1, b2⟩
    · exact ⟨by simp [eOk, c4], l1.2.2.2.1, b1, b2⟩
    · exact ⟨by simp [eOk, uOk], l1.2.2.2.2, b1, b2⟩
    · exact ⟨by simp [eOk, uOk], l1.2.2.2.2, b1, b2⟩
    · exact ⟨by simp [eOk, g1], l1.2.2.2.2, g2, g3⟩
  obtain ⟨e, he⟩ := get_of (xs := M) (i := k) (by show k < 7; omega)
  refine ⟨e, (hM e (List.mem_of_getElem? he)).1, (hM e (List.mem_of_getElem? he)).2, ?_⟩
  have m1 : modD (.int a) (.int 7) = some (.int k) := by rw [modD_ok (by omega), hk]
  have ix : ixD (.lst (M.map tGE)) (.int k) = some (tGE e) := ixD_lst (by rw [List.getElem?_map, he]; rfl)
  have i0 : ixD (.lst [.int a, .int b]) (.int 0) = some (.int a) := rfl
  have i1 : ixD (.lst [.int a, .int b]) (.int 1) = some (.int b) := rfl
  refine fnD_rt rfl (en1 := [.val (.tup [.str "a", tPap p, .non]), .val (.lst [.int a, .int b]), .val (.str "a"), .val (tPap p), .val .non, .val (.lst (M.map tGE))]) ?_
  have l5 : ∀ a b c d e : D, lstD [a, b, c, d, e] = some (.lst [a, b, c, d, e]) := fun _ _ _ _ _ => rfl
  have t3 : ∀ a b c : D, tupD [a, b, c] = some (.tup [a, b, c]) := fun _ _ _ => rfl
  have id : tGP (ofPap p) = tPap p := rfl
  simp only [M, List.map, tGE, tU, id] at ix ⊢
  simp [b__law_odd_entry, sTg_is, put_3, add_l, lst2, l5, t3, m1, i0, i1, g4, ix]
/-! ### the law's own reading of names -/
theorem fnd_sign (c : Nat) : ∀ (l : List Nat) (k : Nat), (fnd c l k < 0) ↔ c ∉ l
  | [], k => by simp [fnd]
  | x :: r, k => by
    unfold fnd
    by_cases h : x = c
    · rw [if_pos h]
      simp [h]
    · rw [if_neg h, fnd_sign c r (k + 1)]
      simp [Ne.symm h]
theorem nameL_ev (v : Slot) (S : Store) : ∀ (l : List Nat) (s1 : Slot), ∃ t, forGo (.nm 1) b__law_is_name_1 (l.map fun c => .str ⟨#[c]⟩) [v, s1] S = if (l.all fun c => decide (c ∈ LETs)) = true then .ok .nx [v, t] S else .ok (.rt (.bl false)) [v, t] S
  | [], s1 => ⟨s1, rfl⟩
  | c :: l, s1 => by
    have f : findD "abcdefghijklmnopqrstuvwxyz" (.str ⟨#[c]⟩) = some (.int (fnd c LETs 0)) := rfl
    by_cases h : c ∈ LETs
    · obtain ⟨t, ih⟩ := nameL_ev v S l (.val (.str ⟨#[c]⟩))
      have g : ¬ fnd c LETs 0 < 0 := fun z => (fnd_sign c LETs 0).mp z h
      have e : b__law_is_name_1 [v, .val (.str ⟨#[c]⟩)] S = .ok .nx [v, .val (.str ⟨#[c]⟩)] S := by
        simp [b__law_is_name_1, f, g]
      refine ⟨t, ?_⟩
      rw [List.all_cons, decide_eq_true h, Bool.true_and, ← ih, List.map_cons]
      exact forGo_cons rfl e
    · have g : fnd c LETs 0 < 0 := (fnd_sign c LETs 0).mpr h
      have e : b__law_is_name_1 [v, .val (.str ⟨#[c]⟩)] S = .ok (.rt (.bl false)) [v, .val (.str ⟨#[c]⟩)] S := by
        simp [b__law_is_name_1, f, g]
      refine ⟨.val (.str ⟨#[c]⟩), ?_⟩
      rw [List.all_cons, decide_eq_false h, Bool.false_and, if_neg (by simp), List.map_cons]
      simp [forGo, e]
theorem name_ev {z : Str} (h : z.length ≤ 1000) (S : Store) : d__law_is_name [.str z] S = .ok (.bl (scOk z)) S := by
  have hl : lenD [.str z] = some (.int z.length) := if_pos (by unfold LN; omega)
  have sq : seqD (.str z) = some (z.cps.toList.map fun c => .str ⟨#[c]⟩) := rfl
  obtain ⟨t, L⟩ := nameL_ev (.val (.str z)) S z.cps.toList .no
  refine fnD_rt rfl (en1 := [.val (.str z), t]) ?_
  unfold scOk
  cases q : z.cps.toList.all fun c => decide (c ∈ LETs) with
  | false =>
    rw [q, if_neg (by simp)] at L
    rw [Bool.and_false, Bool.and_false]
    simp [b__law_is_name, sq, L]
  | true =>
    rw [q, if_pos rfl] at L
    by_cases h1 : 1 ≤ z.length
    · have h1' : (1 : Int) ≤ z.length := by omega
      by_cases h4 : z.length ≤ 4
      · have h4' : ((z.length : Int)) ≤ 4 := by omega
        simp [b__law_is_name, hl, sq, L, h1', h4', h1, h4]
      · have h4' : ¬ ((z.length : Int)) ≤ 4 := by omega
        simp [b__law_is_name, hl, sq, L, h1', h4', h1, h4]
    · have h1' : ¬ (1 : Int) ≤ z.length := by omega
      simp [b__law_is_name, hl, sq, L, h1', h1]
/-! ### a text -/
theorem glue_one : ∀ zs : List Nat, glue [] (zs.map fun c => [c]) = zs
  | [] => rfl
  | [c] => rfl
  | c :: d :: r => by
    have ih := glue_one (d :: r)
    simp only [List.map_cons] at ih ⊢
    show [c] ++ ([] ++ glue [] ([d] :: r.map fun c => [c])) = _
    rw [ih]
    rfl
theorem join_ev {zs : List Nat} (h : zs.length ≤ 1000) : joinD "" (.lst (zs.map fun c => .str ⟨#[c]⟩)) = some (.str (txS zs)) := by
  have e1 : ∀ zs : List Nat, strsOf (zs.map fun c => .str ⟨#[c]⟩) = some (zs.map fun c => (⟨#[c]⟩ : Str)) := by
    intro zs
    induction zs with
    | nil => rfl
    | cons z zs ih => rw [List.map_cons, strsOf, ih]; rfl
  have e2 : ((zs.map fun c => (⟨#[c]⟩ : Str)).map (·.length)).sum = zs.length := by
    clear h
    induction zs with
    | nil => rfl
    | cons z zs ih =>
      rw [List.map_cons, List.map_cons, List.sum_cons, ih, List.length_cons]
      show 1 + _ = _
      omega
  show (strsOf _).bind _ = _
  rw [e1]
  show joinS _ _ = _
  unfold joinS
  rw [if_pos (by rw [e2, List.length_map]; show zs.length + zs.length * 0 ≤ LN; unfold LN; omega), List.map_map]
  have e3 : ((fun x : Str => x.cps.toList) ∘ fun c => (⟨#[c]⟩ : Str)) = fun c => [c] := rfl
  rw [e3]
  have e4 : ("" : Str).cps.toList = [] := rfl
  rw [e4, glue_one]
theorem abz {k : Int} (h0 : 0 ≤ k) (h1 : k < 7) : ∃ c : Nat, ixD (.str "abzA0 _") (.int k) = some (.str ⟨#[c]⟩) := by
  rcases (by omega : k = 0 ∨ k = 1 ∨ k = 2 ∨ k = 3 ∨ k = 4 ∨ k = 5 ∨ k = 6) with rfl | rfl | rfl | rfl | rfl | rfl | rfl <;> exact ⟨_, rfl⟩
theorem text_ev {ns : List Int} (hN : N3 ns) (hl : ns.length = 140) (v0 v1 v3 v5 v6 v7 v8 v9 t4 : Slot) (S : Store) : ∃ zs : List Nat, zs.length ≤ 1000 ∧ l_law_2 [v0, v1, .val (.lst (nums ns)), v3, t4, v5, v6, v7, v8, v9] S = .ok (zs.map fun c => .str ⟨#[c]⟩) S := by
  have g : ∀ k : Nat, k < 140 → ixD (.lst (nums ns)) (.int k) = some (.int (ns.getD k 0)) := fun k h => ix_n (by omega)
  have b := fun (k : Nat) (h : k < 140) => hN.at (k := k) (by omega)
  obtain ⟨m, hm, m7⟩ : ∃ m : Nat, ns.getD 138 0 % 7 = m ∧ m < 7 := ⟨(ns.getD 138 0 % 7).toNat, by have := b 138 (by omega); omega, by omega⟩
  have ch : ∀ i : Nat, ∃ c : Nat, ixD (.str "abzA0 _") (.int (ns.getD (120 + i) 0 % 7)) = some (.str ⟨#[c]⟩) := fun i => abz (by omega) (by omega)
  obtain ⟨fc, hfc⟩ : ∃ f : Nat → Nat, ∀ i : Nat, ixD (.str "abzA0 _") (.int (ns.getD (120 + i) 0 % 7)) = some (.str ⟨#[f i]⟩) := ⟨fun i => (ch i).choose, fun i => (ch i).choose_spec⟩
  have g138 : ixD (.lst (nums ns)) (.int 138) = some (.int (ns.getD 138 0)) := g 138 (by omega)
  have md : modD (.int (ns.getD 138 0)) (.int 7) = some (.int m) := by rw [modD_ok (by omega), hm]
  have hr := rng_nat (n := m) (by omega)
  refine ⟨(List.range m).map fc, by rw [List.length_map, List.length_range]; omega, ?_⟩
  rw [List.map_map]
  simp only [nums] at *
  generalize ns.getD 138 0 = n138 at *
  refine mapIxD (n := m) (by simp [g138, md, hr]) (by rw [List.length_map, List.length_range]) (by omega) ?_
  intro i z hz
  have hi : i < m := by
    have := (List.getElem?_eq_some_iff.mp hz).1
    rw [List.length_map, List.length_range] at this
    exact this
  rw [List.getElem?_map, List.getElem?_range hi] at hz
  cases hz
  have gi := g (120 + i) (by omega)
  have ci := hfc i
  have mi : modD (.int (ns.getD (120 + i) 0)) (.int 7) = some (.int (ns.getD (120 + i) 0 % 7)) := modD_ok (by omega)
  have ea : (((120 + i : Nat)) : Int) = 120 + (i : Int) := by omega
  rw [ea] at gi
  generalize ns.getD (120 + i) 0 = ni at *
  simp [gi, mi, ci]
/-! ### a turn -/
theorem cutl_from {xs : List D} {k : Nat} (h : k ≤ xs.length) : slD (.lst xs) (some (k : Int)) none = some (.lst (xs.drop k)) := by
  have h1 : ¬ ((k : Int) < 0) := by omega
  have h2 : min k xs.length = k := by omega
  simp [slD, cut, sIx, h1, h2]
  rw [List.take_of_length_le]
  simp
theorem one_turn {p : Pap} (hp : p.ok) {ns : List Int} (hN : N3 ns) (hl : ns.length = 140) (v0 v1 v5 v6 v7 v8 v9 : Slot) (j : Nat) (hj : j < 3) (S : Store) : b_law_1 [v0, v1, .val (.lst (nums ns)), .val (tPap p), .val (.int j), v5, v6, v7, v8, v9] S = .ok .nx [v0, v1, .val (.lst (nums ns)), .val (tPap p), .val (.int j), v5, v6, v7, v8, v9] S := by
  have g : ixD (.lst (nums ns)) (.int ((10 + j : Nat) : Int)) = some (.int (ns.getD (10 + j) 0)) := ix_n (by omega)
  have b := hN.at (k := 10 + j) (by omega)
  have ea : ((10 + j : Nat) : Int) = 10 + (j : Int) := by omega
  rw [ea] at g
  obtain ⟨o, o1, o2, o3, o4⟩ := oddpaper_ev hp b.1 S
  have cp := checkpaper_ev o2 o3 S
  rw [o1, if_neg (by simp)] at cp
  have t := told_n ll1 cp
  have nn := ne_nn
  generalize ns.getD (10 + j) 0 = x at *
  simp only [nums] at *
  simp [b_law_1, g, o4, t, lst2, nn]
theorem turn {cs : List Int} (hb : ∀ z ∈ cs, bit z ≤ 1048576) {k : Nat} (hk : k < 6) (s2 s3 s4 s5 s6 s7 s8 s9 : Slot) (S : Store) :
    ∃ t2 t3 t4 t5 t6 t7 t8, b_law_3 [.val (.scr (cs.map .int)), .val (.int k), s2, s3, s4, s5, s6, s7, s8, s9] S = .ok .nx [.val (.scr (cs.map .int)), .val (.int k), t2, t3, t4, t5, t6, t7, t8, s9] S := by
  obtain ⟨z, zb, ez⟩ := cell_ev hb k S
  obtain ⟨ns, ln, hN, en⟩ := numC_ev zb k 140 (by omega) (by omega) S
  have c140 : ((140 : Nat) : Int) = 140 := rfl
  rw [c140] at en
  obtain ⟨p, hp, ep⟩ := paperC_ev hN (by omega) S
  have b1 : bit (ofPap p).s.1 ≤ 1000 := by have := hp.sb.bn; show bit p.share.num ≤ 1000; omega
  have b2 : bit (ofPap p).s.2 ≤ 1000 := by have := hp.sb.bd; show bit (p.share.den : Int) ≤ 1000; omega
  have cp := checkpaper_ev b1 b2 S
  rw [gOk_pap hp, if_pos rfl, ← tPap_gp] at cp
  have t1 := told_y ll1 cp
  have yy := ne_yy
  have nn := ne_nn
  have hr := rng_nat (n := 3) (by omega)
  have c3 : ((3 : Nat) : Int) = 3 := rfl
  rw [c3] at hr
  have L : Wp (forGo (.nm 4) b_law_1 (rngI 0 3) [.val (.scr (cs.map .int)), .val (.int k), .val (.lst (nums ns)), .val (tPap p), s4, s5, s6, s7, s8, s9] S) (fun f e S1 => f = .nx ∧ S1 = S ∧ ∃ t4, e = [.val (.scr (cs.map .int)), .val (.int k), .val (.lst (nums ns)), .val (tPap p), t4, s5, s6, s7, s8, s9]) := by
    refine wp_rng0 (fun i e S1 => S1 = S ∧ ∃ t4, e = [.val (.scr (cs.map .int)), .val (.int k), .val (.lst (nums ns)), .val (tPap p), t4, s5, s6, s7, s8, s9]) ⟨rfl, _, rfl⟩ ?_ ?_
    · rintro i e S1 hi ⟨rfl, t4, rfl⟩
      have ht := one_turn hp hN ln (.val (.scr (cs.map .int))) (.val (.int k)) s5 s6 s7 s8 s9 i hi S1
      simp only [List.set]
      rw [ht]
      exact ⟨rfl, _, rfl⟩
    · rintro e S1 ⟨rfl, t4, rfl⟩
      exact ⟨rfl, rfl, _, rfl⟩
  obtain ⟨f, e, S1, hL, rfl, hS, t4, rfl⟩ := wp_out L
  subst hS
  have s13 : slD (.lst (nums ns)) (some 13) none = some (.lst (nums (ns.drop 13))) := by
    have := cutl_from (xs := nums ns) (k := 13) (by rw [nums, List.length_map]; omega)
    rw [show ((13 : Nat) : Int) = 13 from rfl] at this
    rw [this, nums, nums, List.map_drop]
  have hN2 : N3 (ns.drop 13) := fun x hx => hN x (List.mem_of_mem_drop hx)
  obtain ⟨es, le, ho, ed⟩ := drawerC_ev hN2 12 (by omega) (by rw [List.length_drop]; omega) S1
  have c12 : ((12 : Nat) : Int) = 12 := rfl
  rw [c12] at ed
  have gs : ∀ e ∈ es.map ofEn, e.sm := by
    intro e he
    obtain ⟨x, hx, rfl⟩ := List.mem_map.mp he
    exact sm_en (ho x hx)
  have ga : (es.map ofEn).all eOk = true := List.all_eq_true.mpr fun e he => by
    obtain ⟨x, hx, rfl⟩ := List.mem_map.mp he
    exact eOk_en (ho x hx)
  have cd := checkdrawer_ev gs S1
  rw [List.length_map, if_pos ⟨le, ga⟩, ← tDr_gd] at cd
  have t2 := told_y ll2 cd
  have g135 : ixD (.lst (nums ns)) (.int 135) = some (.int (ns.getD 135 0)) := gets (k := 135) (by omega)
  have x135 := hN.at (k := 135) (by omega)
  have x136 := hN.at (k := 136) (by omega)
  have x137 := hN.at (k := 137) (by omega)
  have s2' : slD (.lst (nums ns)) (some 136) (some 138) = some (.lst [.int (ns.getD 136 0), .int (ns.getD 137 0)]) := by
    have := slN (ns := ns) (a := 136) (b := 138) (by omega) (by omega)
    have e2 : (ns.drop 136).take (138 - 136) = [ns.getD 136 0, ns.getD 137 0] := by
      have gd : ∀ (k : Nat) (h : k < ns.length), ns.getD k 0 = ns[k] := fun k h => by rw [List.getD_eq_getElem?_getD, List.getElem?_eq_getElem h]; rfl
      rw [List.drop_eq_getElem_cons (show 136 < ns.length by omega), List.drop_eq_getElem_cons (show 136 + 1 < ns.length by omega), gd 136 (by omega), gd 137 (by omega)]
      rfl
    rw [e2] at this
    exact this
  obtain ⟨at_, hat, hat2⟩ : ∃ a : Nat, ns.getD 135 0 % ((es.length : Int) + 1) = a ∧ a ≤ es.length := ⟨(ns.getD 135 0 % ((es.length : Int) + 1)).toNat, by
      have := Int.emod_nonneg (ns.getD 135 0) (show (es.length : Int) + 1 ≠ 0 by omega)
      omega, by
      have := Int.emod_nonneg (ns.getD 135 0) (show (es.length : Int) + 1 ≠ 0 by omega)
      have := Int.emod_lt_of_pos (ns.getD 135 0) (show 0 < (es.length : Int) + 1 by omega)
      omega⟩
  have m135 : modD (.int (ns.getD 135 0)) (.int ((es.length : Int) + 1)) = some (.int at_) := by rw [modD_ok (by omega), hat]
  obtain ⟨oe, oe1, oe2, oe3⟩ := oddentry_ev hp x136.1 x137.1 S1
  obtain ⟨zs, zl, et⟩ := text_ev hN ln (.val (.scr (cs.map .int))) (.val (.int k)) (.val (tPap p)) (.val (tDr es)) (.val (.int at_)) (.val (tGD ((es.map ofEn).take at_ ++ ([oe] ++ (es.map ofEn).drop at_)))) s8 s9 t4 S1
  have jn := join_ev zl
  have zl2 : (txS zs).length ≤ 1000 := by rw [txt_len]; exact zl
  have is1 := scale_is zl2 S1
  have is2 := name_ev zl2 S1
  have k1 : slD (tDr es) none (some (at_ : Int)) = some (tGD ((es.map ofEn).take at_)) := by
    rw [tDr_gd]
    have := cut_to (xs := (es.map ofEn).map tGE) (k := at_) (by rw [List.length_map, List.length_map]; omega)
    rw [← List.map_take] at this
    exact this
  have k2 : slD (tDr es) (some (at_ : Int)) none = some (tGD ((es.map ofEn).drop at_)) := by
    rw [tDr_gd]
    have := cut_from (xs := (es.map ofEn).map tGE) (k := at_) (by rw [List.length_map, List.length_map]; omega)
    rw [← List.map_drop] at this
    exact this
  have tg1 : tupD [tGE oe] = some (tGD [oe]) := rfl
  have ad : ∀ xs ys : List GE, xs.length ≤ 100 → ys.length ≤ 100 → addD (tGD xs) (tGD ys) = some (tGD (xs ++ ys)) := fun xs ys h1 h2 => by
    have : addD (tGD xs) (tGD ys) = some (.tup (xs.map tGE ++ ys.map tGE)) := if_pos (by rw [List.length_map, List.length_map]; unfold LN; omega)
    rw [this, ← List.map_append]
    rfl
  have a1 := ad ((es.map ofEn).take at_) [oe] (by rw [List.length_take, List.length_map]; omega) (by simp)
  have a2 := ad ((es.map ofEn).take at_ ++ [oe]) ((es.map ofEn).drop at_) (by rw [List.length_append, List.length_take, List.length_map]; show _ + 1 ≤ _; omega) (by rw [List.length_drop, List.length_map]; omega)
  rw [List.append_assoc] at a2
  have sm3 : ∀ e ∈ (es.map ofEn).take at_ ++ ([oe] ++ (es.map ofEn).drop at_), e.sm := by
    intro e he
    rcases List.mem_append.mp he with he | he
    · exact gs e (List.mem_of_mem_take he)
    · rcases List.mem_append.mp he with he | he
      · rw [List.mem_singleton.mp he]; exact oe2
      · exact gs e (List.mem_of_mem_drop he)
  have al3 : ((es.map ofEn).take at_ ++ ([oe] ++ (es.map ofEn).drop at_)).all eOk = false := by
    rw [List.all_append, List.all_append]
    simp [oe1]
  have cd3 := checkdrawer_ev sm3 S1
  rw [al3, if_neg (by simp)] at cd3
  have t3 := told_n ll2 cd3
  have nb : neD (.bl (scOk (txS zs))) (.bl (scOk (txS zs))) = some (.bl false) := neD_self rfl
  have ty : isTyD "bool" (.bl (scOk (txS zs))) = some (.bl true) := rfl
  have t3' : ∀ a b c : D, tupD [a, b, c] = some (.tup [a, b, c]) := fun _ _ _ => rfl
  have ll := len_tDr es
  generalize tGD ((es.map ofEn).take at_ ++ ([oe] ++ (es.map ofEn).drop at_)) = od at *
  generalize tGD ((es.map ofEn).take at_ ++ [oe]) = od1 at *
  generalize tGD ((es.map ofEn).take at_) = od2 at *
  generalize tGD ((es.map ofEn).drop at_) = od3 at *
  generalize tGD [oe] = od4 at *
  generalize ns.getD 135 0 = n135 at *
  generalize ns.getD 136 0 = n136 at *
  generalize ns.getD 137 0 = n137 at *
  generalize scOk (txS zs) = sc at *
  refine ⟨.val (.lst (nums ns)), .val (tPap p), t4, .val (tDr es), .val (.int at_), .val od, .val (.str (txS zs)), ?_⟩
  simp only [nums] at *
  simp [-List.map_map, -List.map_drop, b_law_3, ez, en, ep, t1, lst2, yy, hr, hL, pSo, s13, ed, t2, g135, ll, m135, k1, k2, t3', s2', oe3, tg1, a1, a2, t3, nn, et, jn, is1, is2, ty, nb]
theorem rep1 (x : D) (n : Nat) (h : n ≤ 1000) : mulTD (.tup [x]) (.int n) = some (.tup (List.replicate n x)) := by
  refine (if_pos (c := [x] ≠ [] ∧ -1000 ≤ (n : Int) ∧ (n : Int) ≤ 1000 ∧ [x].length ≤ 1000) ⟨by simp, by omega, by omega, by simp⟩).trans ?_
  rw [Int.toNat_natCast]
  congr 2
  induction n with
  | zero => rfl
  | succ n ih => rw [List.replicate_succ, List.flatten_cons, ih (by omega)]; rfl
theorem pure_ (cs : List Int) (hc : cs.length ≤ 63) (hb : ∀ z ∈ cs, bit z ≤ 1048576) : ∃ S', d_law [.scr (cs.map .int)] [] = .ok (.bl true) S' := by
  refine ⟨[], ?_⟩
  have mn : ∀ a b : Int, minD [.int a, .int b] = some (.int (if b < a then b else a)) := fun _ _ => rfl
  have mxx : ∀ a b : Int, maxD [.int a, .int b] = some (.int (if b > a then b else a)) := fun _ _ => rfl
  obtain ⟨n, hn, n6⟩ : ∃ n : Nat, maxD [.int 1, .int (if 6 < (cs.length : Int) then 6 else cs.length)] = some (.int n) ∧ n ≤ 6 := by
    rw [mxx]
    refine ⟨(if (if 6 < (cs.length : Int) then 6 else (cs.length : Int)) > 1 then (if 6 < (cs.length : Int) then 6 else (cs.length : Int)) else 1).toNat, ?_, ?_⟩
    · congr 2
      rw [Int.toNat_of_nonneg]
      (repeat' split) <;> omega
    · (repeat' split) <;> omega
  have hr := rng_nat (n := n) (by omega)
  have L : Wp (forGo (.nm 1) b_law_3 (rngI 0 n) [.val (.scr (cs.map .int)), .no, .no, .no, .no, .no, .no, .no, .no, .no] []) (fun f e S1 => f = .nx ∧ S1 = [] ∧ ∃ t1 t2 t3 t4 t5 t6 t7 t8, e = [.val (.scr (cs.map .int)), t1, t2, t3, t4, t5, t6, t7, t8, .no]) := by
    refine wp_rng0 (fun i e S1 => S1 = [] ∧ ∃ t1 t2 t3 t4 t5 t6 t7 t8, e = [.val (.scr (cs.map .int)), t1, t2, t3, t4, t5, t6, t7, t8, .no]) ⟨rfl, _, _, _, _, _, _, _, _, rfl⟩ ?_ ?_
    · rintro i e S1 hi ⟨rfl, t1, t2, t3, t4, t5, t6, t7, t8, rfl⟩
      obtain ⟨u2, u3, u4, u5, u6, u7, u8, ht⟩ := turn hb (k := i) (by omega) t2 t3 t4 t5 t6 t7 t8 .no []
      simp only [List.set]
      rw [ht]
      exact ⟨rfl, _, _, _, _, _, _, _, _, rfl⟩
    · rintro e S1 ⟨rfl, t1, t2, t3, t4, t5, t6, t7, t8, rfl⟩
      exact ⟨rfl, rfl, _, _, _, _, _, _, _, _, rfl⟩
  obtain ⟨f, e, S1, hL, rfl, rfl, t1, t2, t3, t4, t5, t6, t7, t8, rfl⟩ := wp_out L
  let E : GE := ⟨"a", ⟨0, 999, (0, 1), (0, 1), (0, 1), 0⟩, none⟩
  have eE : eOk E = true := by decide +kernel
  have sE : E.sm := ⟨by decide +kernel, by decide +kernel, by decide +kernel⟩
  have tE : tGE E = .tup [.str "a", .tup [.int 0, .int 999, .tup [.int 0, .int 1], .tup [.int 0, .int 1], .tup [.int 0, .int 1], .int 0], .non] := rfl
  have rp : ∀ n : Nat, n ≤ 1000 → mulTD (.tup [tGE E]) (.int n) = some (tGD (List.replicate n E)) := fun n h => by
    rw [rep1 _ n h, tGD, List.map_replicate]
  have smr : ∀ n : Nat, ∀ e ∈ List.replicate n E, e.sm := fun n e he => by rw [(List.mem_replicate.mp he).2]; exact sE
  have c12 := checkdrawer_ev (smr 12) []
  have c13 := checkdrawer_ev (smr 13) []
  rw [List.length_replicate, if_pos ⟨by omega, by rw [List.all_replicate]; simp [eE]⟩] at c12
  rw [List.length_replicate, if_neg (by omega)] at c13
  have t12 := told_y ll2 c12
  have t13 := told_n ll2 c13
  have r12 := rp 12 (by omega)
  have r13 := rp 13 (by omega)
  have k12 : ((12 : Nat) : Int) = 12 := rfl
  have k13 : ((13 : Nat) : Int) = 13 := rfl
  rw [k12, tE] at r12
  rw [k13, tE] at r13
  generalize tGD (List.replicate 12 E) = D12 at *
  generalize tGD (List.replicate 13 E) = D13 at *
  have yy := ne_yy
  have nn := ne_nn
  have a4 := scale_is (z := "abcd") (by decide +kernel) []
  have a5 := scale_is (z := "abcde") (by decide +kernel) []
  rw [show scOk "abcd" = true by decide +kernel] at a4
  rw [show scOk "abcde" = false by decide +kernel] at a5
  have t3' : ∀ a b c : D, tupD [a, b, c] = some (.tup [a, b, c]) := fun _ _ _ => rfl
  have tc : eqD (.tup [c_MAX_DAY, c_MAX_PAPERS]) (.tup [.int 999, .int 12]) = some (.bl true) := rfl
  have i1 : isD (.bl true) (.bl true) = some (.bl true) := rfl
  have i2 : isD (.bl false) (.bl false) = some (.bl true) := rfl
  have t1' : ∀ a : D, tupD [a] = some (.tup [a]) := fun _ => rfl
  refine fnD_rt rfl (en1 := [.val (.scr (cs.map .int)), t1, t2, t3, t4, t5, t6, t7, t8, .val (.tup [.str "a", .tup [.int 0, .int 999, .tup [.int 0, .int 1], .tup [.int 0, .int 1], .tup [.int 0, .int 1], .int 0], .non])]) ?_
  simp [b_law, mn, hn, hr, hL, t3', tup6, tup2, t1', lst2, r12, r13, t12, t13, yy, nn, a4, a5, tc, i1, i2]
end Lk20

theorem PySem.Challenge.cw_kerbwise_k20_papers_and_drawers_holds : PySem.Challenge.rw_kerbwise_k20_papers_and_drawers.Holds := by
  exact Lk20.holds fun ns h hb => Lk20.pure_ ns h hb
