import PyProof.Rows.All
import Wide.All
import OpenK.AllK
import Wide.FinOn
import HandS.ForMost
import HandS.Exc
import HandS.TryMany
import HandS.Lambda
import HandS.Star
import HandS.CallSlots
import HandS.IsInst
import HandS.TupSets
import HandS.Conv
import HandS.Zip
import HandS.SortOrd
import HandS.SortRule
import HandS.SortInts
import HandS.TupLe
import HandS.TupAny
import HandS.TupMul
import HandS.Deep
import HandS.Wide
import HandS.WideMore
import HandS.StrMore
import HandS.RevRange
import HandS.Rev
import HandS.Style
import HandS.HeadHook4
import HandS.HeadEnd
import HandS.HeadWalk
import PyProof.ReprRoads
import HandS.EndBits
import PyProof.Rows.ReprOcc
import KE.KExcSuper
import HandS.ExcInit
import HandS.ExcOwn
import HandS.ExcField
import HandS.EndTab
import HandS.Head0
import HandS.Head1
import HandS.Head2
import HandS.HeadHook1
import HandS.HeadHook2
import PySem.Challenge.RW_tiedblocks_k75_errors_of_packed_systems
section
set_option Elab.async false
set_option linter.all false
set_option maxRecDepth 100000
namespace EV
open PySem L2

/-! ### values, the evaluator's heap, results -/
abbrev D := PyData
/-- a value: plain data, or the n-th changing object -/
inductive W where
  | d (x : D)
  | r (n : Nat)
inductive O where
  | lst (xs : List W)
  | lck (xs : List W)
  | frz (x : D)
abbrev Hs := List O
structure Exn where
  c : Nat
  arg : Option D
inductive Re (α : Type) where
  | ok (a : α) (h : Hs)
  | ex (e : Exn) (h : Hs)
  | no
def Re.then {α β : Type} (m : Re α) (f : α → Hs → Re β) : Re β := match m with
  | .ok a h => f a h
  | .ex e h => .ex e h
  | .no => .no
def liftO {α : Type} (m : Option α) (h : Hs) : Re α := match m with
  | some a => .ok a h
  | none => .no
abbrev En := List (Option W)
/-- what a loop walks over: single values, or pairs -/
inductive IW where
  | one (w : W)
  | two (a b : W)
structure Src where
  items : List IW
  lock : List (Nat × List W)
inductive Fl where
  | nx (ρ : En)
  | rt (w : W)
  | bk (ρ : En)
  | ct (ρ : En)

/-! ### kinds of operations -/
inductive Bop where
  | add | sub | mul | fdiv | mod | pow
inductive Cop where
  | eq | ne | lt | le | gt | ge | is_ | isn | in_ | nin
inductive Ty where
  | int | bool | str | tuple | list | dict
inductive B1 where
  | len | abs | int | all | any | sum | min | max | repr | str | bool
inductive B2 where
  | min | max

/-! ### whole numbers, as the kernel reckons them quickly -/
def ile : Int → Int → Bool
  | .ofNat a, .ofNat b => Nat.ble a b
  | .negSucc a, .negSucc b => Nat.ble b a
  | .negSucc _, .ofNat _ => true
  | .ofNat _, .negSucc _ => false
def ilt (i j : Int) : Bool := !ile j i
def ieq : Int → Int → Bool
  | .ofNat a, .ofNat b => Nat.beq a b
  | .negSucc a, .negSucc b => Nat.beq a b
  | _, _ => false
theorem ile_iff (i j : Int) : ile i j = decide (i ≤ j) := by
  cases i <;> cases j <;> rw [Bool.eq_iff_iff] <;>
    simp only [ile, Int.ofNat_eq_natCast, Int.negSucc_eq, Nat.ble_eq, decide_eq_true_eq, Bool.false_eq_true, true_iff, false_iff] <;> omega
theorem ilt_iff (i j : Int) : ilt i j = decide (i < j) := by
  unfold ilt
  rw [ile_iff, Bool.eq_iff_iff]
  simp
theorem ieq_iff (i j : Int) : ieq i j = decide (i = j) := by
  cases i <;> cases j <;> rw [Bool.eq_iff_iff] <;>
    simp only [ieq, Int.ofNat_eq_natCast, Int.negSucc_eq, Nat.beq_eq, decide_eq_true_eq, Bool.false_eq_true, true_iff, false_iff] <;> omega

/-! ### operations on data -/
def lim : Nat := 16777216
/- depth at most n -/
mutual
def dle : Nat → D → Bool
  | n, .list xs => (match n with | 0 => false | k + 1 => dleAll k xs)
  | n, .tuple xs => (match n with | 0 => false | k + 1 => dleAll k xs)
  | n, .dict kvs => false
  | _, .none => true
  | _, .bool _ => true
  | _, .int _ => true
  | _, .str _ => true
def dleAll : Nat → List D → Bool
  | _, [] => true
  | n, x :: xs => dle n x && dleAll n xs
end
def leqN : List Nat → List Nat → Bool
  | [], [] => true
  | a :: as, b :: bs => Nat.beq a b && leqN as bs
  | _, _ => false
def seq (x y : Str) : Bool := leqN x.cps.toList y.cps.toList
/-- x == y -/
def eqE (x y : D) : Option Bool := match x, y with
  | .int i, .int j => some (ieq i j)
  | .none, .none => some true
  | .str a, .str b => some (seq a b)
  | x, y => if dle 64 x && dle 64 y then some (PyData.eqv x y) else none
def bnd (n : Nat) (i : Int) : Bool := Nat.ble i.natAbs n
def mulOk (i j : Int) : Bool := bnd 18446744073709551615 i || bnd 18446744073709551615 j || (Nat.ble i.natAbs.log2 8999 && Nat.ble j.natAbs.log2 8999)
def binE : Bop → D → D → Option D
  | .add, .int i, .int j => some (.int (i + j))
  | .sub, .int i, .int j => some (.int (i - j))
  | .mul, .int i, .int j => if mulOk i j then some (.int (i * j)) else none
  | .fdiv, .int i, .int j => if ilt 0 j && Nat.ble j.natAbs.log2 7999 then some (.int (i / j)) else none
  | .mod, .int i, .int j => if ilt 0 j then some (.int (i % j)) else none
  | .pow, .int i, .int j => if ile 0 j && bnd 1000 j && bnd 1000 i then some (.int (i ^ j.toNat)) else none
  | .add, .str x, .str y => if Nat.ble (x.length + y.length) lim then some (.str (x ++ y)) else none
  | .add, .tuple xs, .tuple ys => if Nat.ble (xs.length + ys.length) lim then some (.tuple (xs ++ ys)) else none
  | .mul, .tuple xs, .int j => if ile 2 j && ile j 1000 && Nat.ble 1 xs.length && Nat.ble xs.length 1000 then some (.tuple (List.replicate j.toNat xs).flatten) else none
  | _, _, _ => none
def ltN : List Nat → List Nat → Bool
  | [], ys => !ys.isEmpty
  | _ :: _, [] => false
  | a :: as, b :: bs => if Nat.beq a b then ltN as bs else !Nat.ble b a
/-- an order asked -/
inductive Oop where
  | lt | gt | le | ge
def ordI : Oop → Int → Int → Bool
  | .lt, i, j => ilt i j
  | .gt, i, j => ilt j i
  | .le, i, j => ile i j
  | .ge, i, j => ile j i
/-- what the ends of two tuples tell -/
def ordZ : Oop → Bool → Bool → Bool
  | .lt, a, b => a && !b
  | .gt, a, b => !a && b
  | .le, a, _ => a
  | .ge, _, b => b
/- x < y: ints, texts, tuples of such -/
mutual
def ordE : Oop → D → D → Option Bool
  | o, .int i, .int j => some (ordI o i j)
  | .lt, .str x, .str y => some (ltN x.cps.toList y.cps.toList)
  | o, .tuple xs, .tuple ys => ordAll o xs ys
  | _, _, _ => none
def ordAll : Oop → List D → List D → Option Bool
  | o, [], ys => some (ordZ o true ys.isEmpty)
  | o, _ :: _, [] => some (ordZ o false true)
  | o, x :: xs, y :: ys => (match eqE x y with
    | some true => ordAll o xs ys
    | some false => if okAll o xs ys then ordE o x y else none
    | none => none)
/-- the later places can be compared too -/
def okAll : Oop → List D → List D → Bool
  | o, x :: xs, y :: ys => (match ordE o x y with
    | some _ => okAll o xs ys
    | none => (match eqE x y with
      | some true => okAll o xs ys
      | _ => false))
  | _, _, _ => true
end
def ltE (x y : D) : Option Bool := ordE .lt x y
def ordT (o : Oop) (x y : D) : Option Bool := match x, y with
  | .int i, .int j => some (ordI o i j)
  | x, y => if dle 64 x && dle 64 y then ordE o x y else none
def anyEq (x : D) : List D → Option Bool
  | [] => some false
  | y :: ys => (match eqE y x with
    | some b => (anyEq x ys).map (b || ·)
    | none => none)
def anySign (c : Nat) : List Nat → Bool
  | [] => false
  | d :: r => Nat.beq d c || anySign c r
def inE (x y : D) : Option Bool := match x, y with
  | .str x, .str y => (match x.cps.toList with
    | [c] => some (anySign c y.cps.toList)
    | _ => none)
  | x, .list ys => if dle 60 x && dleAll 60 ys then anyEq x ys else none
  | x, .tuple ys => if dle 60 x && dleAll 60 ys then anyEq x ys else none
  | _, _ => none
def isE (x y : D) : Option Bool := match x, y with
  | .none, .none => some true
  | _, .none => some false
  | .bool a, .bool b => some (a == b)
  | _, _ => none
def cmpE : Cop → D → D → Option Bool
  | .eq, x, y => eqE x y
  | .ne, x, y => (eqE x y).map not
  | .lt, x, y => ordT .lt x y
  | .gt, x, y => ordT .gt x y
  | .le, x, y => ordT .le x y
  | .ge, x, y => ordT .ge x y
  | .is_, x, y => isE x y
  | .isn, x, y => (isE x y).map not
  | .in_, x, y => inE x y
  | .nin, x, y => (inE x y).map not
/-- the n-th -/
def nth {α : Type} : List α → Nat → Option α
  | [], _ => none
  | x :: r, n => (match n with
    | 0 => some x
    | k + 1 => nth r k)
/-- places -/
def atD {α : Type} (xs : List α) : Int → Option α
  | .ofNat n => nth xs n
  | .negSucc n => if Nat.ble (n + 1) xs.length then nth xs (xs.length - (n + 1)) else none
/-- a slice's bounds -/
def cutN (n : Nat) : Int → Nat
  | .ofNat i => Nat.min i n
  | .negSucc i => n - (i + 1)
def cutL {α : Type} (xs : List α) (lo hi : Option Int) : List α :=
  let ys := match hi with | some j => xs.take (cutN xs.length j) | none => xs
  match lo with | some i => ys.drop (cutN xs.length i) | none => ys
def rngL (a c : Int) : Nat → List D
  | 0 => []
  | n + 1 => .int a :: rngL (a + c) c n
def rngE (a b c : Int) : Option (List D) :=
  if bnd 4611686018427387903 a && bnd 4611686018427387903 b then
    (if ieq c 1 then some (rngL a 1 (b - a).toNat) else if ieq c (-1) then some (rngL a (-1) (a - b).toNat) else none)
  else none
/-- a stable sort -/
def insI (x : Int) : List Int → List Int
  | [] => [x]
  | y :: ys => if ilt y x then y :: insI x ys else x :: y :: ys
def isortI : List Int → List Int
  | [] => []
  | x :: r => insI x (isortI r)
def lexI : List Int → List Int → Bool
  | [], [] => false
  | [], _ :: _ => true
  | _ :: _, [] => false
  | x :: xs, y :: ys => if ieq x y then lexI xs ys else ilt x y
def insT (x : List Int) : List (List Int) → List (List Int)
  | [] => [x]
  | y :: ys => if lexI y x then y :: insT x ys else x :: y :: ys
def isortT : List (List Int) → List (List Int)
  | [] => []
  | x :: r => insT x (isortT r)
def intsOf : List D → Option (List Int)
  | [] => some []
  | .int i :: r => (intsOf r).map (i :: ·)
  | _ :: _ => none
/-- tuples of ints, none of them empty -/
def tupsOf : List D → Option (List (List Int))
  | [] => some []
  | .tuple xs :: r => (match intsOf xs with
    | some (i :: ns) => (tupsOf r).map ((i :: ns) :: ·)
    | _ => none)
  | _ :: _ => none
def tupD (ns : List Int) : D := .tuple (ns.map .int)
def sortE (xs : List D) : Option (List D) := if Nat.ble xs.length lim then (match intsOf xs with
  | some ns => some ((isortI ns).map .int)
  | none => (match tupsOf xs with
    | some nss => some ((isortT nss).map tupD)
    | none => none)) else none
/-- without doubles, of a sorted list -/
def ddT : List (List Int) → List (List Int)
  | [] => []
  | x :: r => (match r with
    | [] => [x]
    | y :: _ => if lexI x y then x :: ddT r else ddT r)
def allB : List D → Option Bool
  | [] => some true
  | .bool b :: r => (allB r).map (b && ·)
  | _ => none
def anyB : List D → Option Bool
  | [] => some false
  | .bool b :: r => (anyB r).map (b || ·)
  | _ => none
def sumI : List D → Option Int
  | [] => some 0
  | .int i :: r => (sumI r).map (i + ·)
  | _ => none
def minI : Int → List D → Option Int
  | m, [] => some m
  | m, .int i :: r => if ilt i m then minI i r else minI m r
  | _, _ :: _ => none
def maxI : Int → List D → Option Int
  | m, [] => some m
  | m, .int i :: r => if ilt m i then maxI i r else maxI m r
  | _, _ :: _ => none
mutual
def noL : D → Bool
  | .list _ => false
  | .dict _ => false
  | .tuple xs => noLAll xs
  | .none => true
  | .bool _ => true
  | .int _ => true
  | .str _ => true
def noLAll : List D → Bool
  | [] => true
  | x :: xs => noL x && noLAll xs
end
def isTy : Ty → D → Bool
  | .int, .int _ => true
  | .int, .bool _ => true
  | .bool, .bool _ => true
  | .str, .str _ => true
  | .tuple, .tuple _ => true
  | .list, .list _ => true
  | .dict, .dict _ => true
  | _, _ => false

/-! ### reading the evaluator's heap -/
def pureAll : List W → Option (List D)
  | [] => some []
  | .d x :: r => (pureAll r).map (x :: ·)
  | .r _ :: _ => none
def snap (h : Hs) : W → Option D
  | .d x => some x
  | .r n => (match nth h n with
    | some (.lst ws) => (pureAll ws).map .list
    | some (.lck ws) => (pureAll ws).map .list
    | some (.frz x) => some x
    | none => none)
def dsW : List D → List W
  | [] => []
  | x :: r => .d x :: dsW r
def itemsW (h : Hs) : W → Option (List W)
  | .d (.list xs) => some (dsW xs)
  | .d (.tuple xs) => some (dsW xs)
  | .d _ => none
  | .r n => (match nth h n with
    | some (.lst ws) => some ws
    | some (.lck ws) => some ws
    | some (.frz (.list xs)) => some (dsW xs)
    | _ => none)
/-- the items of a list (no tuple) -/
def itemsL (h : Hs) : W → Option (List W)
  | .d (.list xs) => some (dsW xs)
  | .d _ => none
  | .r n => itemsW h (.r n)
def setH : Hs → Nat → O → Hs
  | [], _, _ => []
  | x :: r, n, o => (match n with
    | 0 => o :: r
    | k + 1 => x :: setH r k o)
/-- the object is never written from now on -/
def frzW (h : Hs) : W → Option (D × Hs)
  | .d x => some (x, h)
  | .r n => (match nth h n with
    | some (.lst ws) => (pureAll ws).map fun ds => (.list ds, setH h n (.frz (.list ds)))
    | some (.frz x) => some (x, h)
    | _ => none)
def frzAll (h : Hs) : List W → Option (List D × Hs)
  | [] => some ([], h)
  | w :: r => (match frzW h w with
    | some (x, h1) => (match frzAll h1 r with
      | some (xs, h2) => some (x :: xs, h2)
      | none => none)
    | none => none)
def isOwn (h : Hs) : W → Bool
  | .d _ => false
  | .r n => (match nth h n with
    | some (.frz _) => false
    | _ => true)
def anyOwn (h : Hs) : List W → Bool
  | [] => false
  | w :: r => isOwn h w || anyOwn h r
def snapAll (h : Hs) : List W → Option (List D)
  | [] => some []
  | w :: r => (match snap h w with
    | some x => (match snapAll h r with
      | some xs => some (x :: xs)
      | none => none)
    | none => none)
def unlock (h : Hs) : List (Nat × List W) → Hs
  | [] => h
  | (n, ws) :: r => unlock (setH h n (.lst ws)) r
def lockH (h : Hs) : List (Nat × List W) → Hs
  | [] => h
  | (n, ws) :: r => lockH (setH h n (.lck ws)) r
/-- what a loop walks over, the lists that are closed meanwhile -/
def seqW (h : Hs) : W → Option (List W × List (Nat × List W))
  | .d (.list xs) => some (dsW xs, [])
  | .d (.tuple xs) => some (dsW xs, [])
  | .d _ => none
  | .r n => (match nth h n with
    | some (.lst ws) => some (ws, [(n, ws)])
    | some (.lck ws) => some (ws, [])
    | some (.frz (.list xs)) => some (dsW xs, [])
    | _ => none)
def isTup : W → Bool
  | .d (.tuple _) => true
  | _ => false
def onesL : List W → List IW
  | [] => []
  | w :: r => .one w :: onesL r
def enumL (i : Int) : List W → List IW
  | [] => []
  | w :: r => .two (.d (.int i)) w :: enumL (i + 1) r
def zipL : List W → List W → List IW
  | a :: as, b :: bs => .two a b :: zipL as bs
  | _, _ => []
def ones : List IW → Option (List W)
  | [] => some []
  | .one w :: r => (ones r).map (w :: ·)
  | .two _ _ :: _ => none
def lenW (h : Hs) : W → Option Nat
  | .d (.str x) => some x.length
  | .d (.list xs) => some xs.length
  | .d (.tuple xs) => some xs.length
  | .d _ => none
  | .r n => (itemsW h (.r n)).map List.length
def idxW (h : Hs) (a : W) (i : Int) : Option W := match a with
  | .d (.str x) => (atD x.cps.toList i).map fun c => .d (.str ⟨#[c]⟩)
  | .d (.list xs) => (atD xs i).map .d
  | .d (.tuple xs) => (atD xs i).map .d
  | .d _ => none
  | .r n => (match itemsW h (.r n) with
    | some ws => atD ws i
    | none => none)
/-- a clause's test: no test is a yes -/
def tst : W → Option Bool
  | .d .none => some true
  | .d (.bool b) => some b
  | _ => none
def b1E : B1 → Hs → W → Option D
  | .len, h, w => (lenW h w).map fun n => .int (.ofNat n)
  | .abs, _, .d (.int i) => some (.int (.ofNat i.natAbs))
  | .int, _, .d (.int i) => some (.int i)
  | .int, _, .d (.bool b) => some (.int (if b then 1 else 0))
  | .bool, _, .d (.bool b) => some (.bool b)
  | .all, h, w => (match snap h w with
    | some (.list xs) => (allB xs).map .bool
    | _ => none)
  | .any, h, w => (match snap h w with
    | some (.list xs) => (anyB xs).map .bool
    | _ => none)
  | .sum, h, w => (match snap h w with
    | some (.list xs) => (sumI xs).map .int
    | _ => none)
  | .min, h, w => (match snap h w with
    | some (.list (.int i :: xs)) => (minI i xs).map .int
    | _ => none)
  | .max, h, w => (match snap h w with
    | some (.list (.int i :: xs)) => (maxI i xs).map .int
    | _ => none)
  | .repr, h, w => (match snap h w with
    | some (.list xs) => if dleAll 60 xs && PyData.showableAll xs && PyData.strOk (PyData.shown (.list xs)) && Nat.ble (PyData.shown (.list xs)).length lim then some (.str (PyData.shown (.list xs))) else none
    | some (.tuple xs) => if dleAll 60 xs && PyData.showableAll xs && PyData.strOk (PyData.shown (.tuple xs)) && Nat.ble (PyData.shown (.tuple xs)).length lim then some (.str (PyData.shown (.tuple xs))) else none
    | some (.dict _) => none
    | some x => if PyData.showable x && PyData.strOk (PyData.shown x) && Nat.ble (PyData.shown x).length lim then some (.str (PyData.shown x)) else none
    | none => none)
  | _, _, _ => none
def b2E : B2 → D → D → Option D
  | .min, .int i, .int j => some (.int (if ilt j i then j else i))
  | .max, .int i, .int j => some (.int (if ilt i j then j else i))
  | _, _, _ => none
/-- a balanced tree of the defs -/
inductive BT (α : Type) where
  | lf
  | nd (l : BT α) (v : α) (r : BT α)
def BT.get {α : Type} : BT α → Nat → Option α
  | .lf, _ => none
  | .nd l v r, n => (match n with
    | 0 => some v
    | k + 1 => if Nat.beq (k % 2) 0 then BT.get l (k / 2) else BT.get r (k / 2))
end EV
end

section
set_option Elab.async false
set_option linter.all false
set_option maxRecDepth 100000
namespace EV
open PySem L2
/-! ### the meanings, by combinators -/
structure Cv where
  F : Nat → List W → Hs → Re W
  G : Nat → (Hs → Re W) → Hs → Re W
  wf : Nat
  L : Option (Hs → Re W)
  X : Option D
abbrev SE := Cv → En → Hs → Re W
abbrev SL := Cv → En → Hs → Re (List W)
abbrev SI := Cv → En → Hs → Re Src
abbrev SG := IW → Cv → En → Hs → Re En
abbrev SGs := List W → Cv → En → Hs → Re En
abbrev SS := Cv → En → Hs → Re Fl
def okD (h : Hs) (x : Option D) : Re W := match x with
  | some x => .ok (.d x) h
  | none => .no
def okB (h : Hs) (x : Option Bool) : Re W := match x with
  | some x => .ok (.d (.bool x)) h
  | none => .no
def cSlot (i : Nat) : SE := fun _ ρ h => match nth ρ i with
  | some (some w) => .ok w h
  | _ => .no
def cCon (x : D) : SE := fun _ _ h => .ok (.d x) h
def c2 (a b : SE) (f : D → D → Option D) : SE := fun C ρ h => (a C ρ h).then fun x h1 => (b C ρ h1).then fun y h2 => match x, y with
  | .d x, .d y => okD h2 (f x y)
  | _, _ => .no
def cBin (o : Bop) (a b : SE) : SE := c2 a b (binE o)
def cB2 (o : B2) (a b : SE) : SE := c2 a b (b2E o)
def negE : D → Option D
  | .int i => some (.int (-i))
  | _ => none
def notE : D → Option D
  | .bool b => some (.bool (!b))
  | _ => none
def c1 (a : SE) (f : D → Option D) : SE := fun C ρ h => (a C ρ h).then fun x h1 => match x with
  | .d x => okD h1 (f x)
  | .r _ => .no
/-- an expression where one may stand: none is none -/
def nnE : D → Option D
  | .none => none
  | x => some x
def cYes (a : SE) : SE := c1 a nnE
def cNo : SE := fun _ _ _ => .no
def sNo : SS := fun _ _ _ => .no
def cNeg (a : SE) : SE := c1 a negE
def cNot (a : SE) : SE := c1 a notE
def cIsi (a : SE) (t : Ty) : SE := c1 a fun x => some (.bool (isTy t x))
def cCmp (o : Cop) (a b : SE) : SE := fun C ρ h => (a C ρ h).then fun x h1 => (b C ρ h1).then fun y h2 => match snap h2 x with
  | some x => (match snap h2 y with
    | some y => okB h2 (cmpE o x y)
    | none => .no)
  | none => .no
def cChain (o o' : Cop) (a b c : SE) : SE := fun C ρ h => (a C ρ h).then fun x h1 => (b C ρ h1).then fun y h2 => match x, y with
  | .d x, .d y => (match cmpE o x y with
    | some true => (c C ρ h2).then fun z h3 => (match z with
      | .d z => okB h3 (cmpE o' y z)
      | .r _ => .no)
    | some false => .ok (.d (.bool false)) h2
    | none => .no)
  | _, _ => .no
def cIf (t a b : SE) : SE := fun C ρ h => (t C ρ h).then fun x h1 => match x with
  | .d (.bool true) => a C ρ h1
  | .d (.bool false) => b C ρ h1
  | _ => .no
def cAnd (a b : SE) : SE := cIf a b (cCon (.bool false))
def cOr (a b : SE) : SE := cIf a (cCon (.bool true)) b
def lNil : SL := fun _ _ h => .ok [] h
def lOne (e : SE) (r : SL) : SL := fun C ρ h => (e C ρ h).then fun w h1 => (r C ρ h1).then fun ws h2 => .ok (w :: ws) h2
def lStar (e : SE) (r : SL) : SL := fun C ρ h => (e C ρ h).then fun w h1 => match itemsW h1 w with
  | some us => (r C ρ h1).then fun ws h2 => .ok (us ++ ws) h2
  | none => .no
/-- a new tuple of some values -/
def tupW (ws : List W) (h : Hs) : Re W := if Nat.ble ws.length lim then (match frzAll h ws with
  | some (ds, h2) => .ok (.d (.tuple ds)) h2
  | none => .no) else .no
def cTup (es : SL) : SE := fun C ρ h => (es C ρ h).then fun ws h1 => tupW ws h1
def cIdx (a i : SE) : SE := fun C ρ h => (a C ρ h).then fun x h1 => (i C ρ h1).then fun y h2 => match y with
  | .d (.int i) => liftO (idxW h2 x i) h2
  | _ => .no
def oNo : SE := fun _ _ h => .ok (.d .none) h
def optI : W → Option (Option Int)
  | .d .none => some none
  | .d (.int i) => some (some i)
  | _ => none
def cutE : D → Option Int → Option Int → Option D
  | .tuple xs, i, j => some (.tuple (cutL xs i j))
  | .str x, i, j => some (.str ⟨(cutL x.cps.toList i j).toArray⟩)
  | _, _, _ => none
def cSlc (a lo hi : SE) : SE := fun C ρ h => (a C ρ h).then fun x h1 => (lo C ρ h1).then fun i h2 => match optI i with
  | some i => (hi C ρ h2).then fun j h3 => (match optI j, x with
    | some j, .d x => okD h3 (cutE x i j)
    | _, _ => .no)
  | none => .no
def revE : D → Option D
  | .tuple xs => some (.tuple xs.reverse)
  | _ => none
def cRev (a : SE) : SE := c1 a revE
def cCall (f : Nat) (es : SL) : SE := fun C ρ h => (es C ρ h).then fun ws h1 => match snapAll h1 ws with
  | some ds => (match C.F f (dsW ds) [] with
    | .ok w h' => (match frzW h' w with
      | some (x, _) => if anyOwn h1 ws && !noL x then .no else .ok (.d x) h1
      | none => .no)
    | .ex e _ => (match e.arg with
      | some x => if anyOwn h1 ws && !noL x then .no else .ex e h1
      | none => .ex e h1)
    | .no => .no)
  | none => .no
def cCallR (f : Nat) (es : SL) : SE := fun C ρ h => (es C ρ h).then fun ws h1 => C.F f ws h1
def cB1 (b : B1) (a : SE) : SE := fun C ρ h => (a C ρ h).then fun x h1 => okD h1 (b1E b h1 x)
def cTupOf (it : SI) : SE := fun C ρ h => (it C ρ h).then fun s h1 => match ones s.items with
  | some ws => tupW ws h1
  | none => .no
def setE (x : D) : Option (List D) := match x with
  | .list xs => (match tupsOf xs with
    | some nss => if Nat.ble nss.length 63 then some ((ddT (isortT nss)).map tupD) else none
    | none => none)
  | _ => none
def cSnap (a : SE) (f : D → Option D) : SE := fun C ρ h => (a C ρ h).then fun x h1 => match snap h1 x with
  | some x => okD h1 (f x)
  | none => .no
def cSrtSet (a : SE) : SE := cSnap a fun x => (setE x).map .list
def cLenSet (a : SE) : SE := cSnap a fun x => (setE x).map fun ys => .int (.ofNat ys.length)
def lastW : List W → Option (List W × W)
  | [] => none
  | w :: r => (match r with
    | [] => some ([], w)
    | _ => (match lastW r with
      | some (us, v) => some (w :: us, v)
      | none => none))
def cPop (a : SE) : SE := fun C ρ h => (a C ρ h).then fun x h1 => match x with
  | .r n => (match nth h1 n with
    | some (.lst ws) => (match lastW ws with
      | some (us, w) => .ok w (setH h1 n (.lst us))
      | none => .no)
    | _ => .no)
  | .d _ => .no
def popAtW (n : Nat) (y : W) (h2 : Hs) : Re W := match y with
  | .d (.int (.ofNat i)) => (match nth h2 n with
    | some (.lst ws) => (match nth ws i with
      | some w => if Nat.ble i lim then .ok w (setH h2 n (.lst (ws.take i ++ ws.drop (i + 1)))) else .no
      | none => .no)
    | _ => .no)
  | _ => .no
def cPopAt (a i : SE) : SE := fun C ρ h => (a C ρ h).then fun x h1 => match x with
  | .r n => (i C ρ h1).then fun y h2 => popAtW n y h2
  | .d _ => .no
def appW (n : Nat) (y : W) (h2 : Hs) : Re W := match nth h2 n with
  | some (.lst ws) => if Nat.ble (ws.length + 1) lim then .ok (.d .none) (setH h2 n (.lst (ws ++ [y]))) else .no
  | _ => .no
def cApp (a e : SE) : SE := fun C ρ h => (a C ρ h).then fun x h1 => match x with
  | .r n => (e C ρ h1).then fun y h2 => appW n y h2
  | .d _ => .no
def extW (n : Nat) (y : W) (h2 : Hs) : Re W := match y with
  | .r m => (match nth h2 n with
    | some (.lst ws) => (match nth h2 m with
      | some (.lst zs) => if Nat.ble (ws.length + zs.length) lim then .ok (.d .none) (setH h2 n (.lst (ws ++ zs))) else .no
      | _ => .no)
    | _ => .no)
  | .d _ => .no
def cExt (a e : SE) : SE := fun C ρ h => (a C ρ h).then fun x h1 => match x with
  | .r n => (e C ρ h1).then fun y h2 => extW n y h2
  | .d _ => .no
/-- no exception is let out -/
def nx {α : Type} : Re α → Re α
  | .ok a h => .ok a h
  | .ex _ _ => .no
  | .no => .no
def cClo : SE := fun C _ h => match C.L with
  | some l => l h
  | none => .no
def cLam (g : Nat) (b : SE) : SE := fun C ρ h => nx (C.G g (fun h1 => b C ρ h1) h)
def cFld : SE := fun C _ h => match C.X with
  | some x => .ok (.d x) h
  | none => .no
def retN (m : Bool) (ws : List W) (h : Hs) : Re W := match m with
  | true => .ok (.r h.length) (h ++ [.lst ws])
  | false => (match frzAll h ws with
    | some (ds, h1) => .ok (.d (.list ds)) h1
    | none => .no)
def cNew (m : Bool) (p : SL) : SE := fun C ρ h => (p C ρ h).then fun ws h1 => if Nat.ble ws.length lim then retN m ws h1 else .no
/-- the items that a comprehension makes -/
def compL (step : IW → Hs → Re (List W)) : List IW → Hs → Re (List W)
  | [], h => .ok [] h
  | i :: r, h => (step i h).then fun ws h1 => (compL step r h1).then fun us h2 => .ok (ws ++ us) h2
def wipeE (ρ : En) : List Nat → En
  | [] => ρ
  | v :: vs => (wipeE ρ vs).set v none
def gNm (i : Nat) : SG := fun w _ ρ h => match w with
  | .one w => .ok (ρ.set i (some w)) h
  | .two _ _ => .no
def gTup (n : Nat) (ts : SGs) : SG := fun w C ρ h => match w with
  | .one (.d (.tuple xs)) => if Nat.beq xs.length n then ts (dsW xs) C ρ h else .no
  | .one _ => .no
  | .two a b => if Nat.beq 2 n then ts [a, b] C ρ h else .no
def gSub (o i : SE) : SG := fun w C ρ h => match w with
  | .one w => (o C ρ h).then fun x h1 => (i C ρ h1).then fun y h2 => (match x, y with
    | .r n, .d (.int (.ofNat i)) => (match nth h2 n with
      | some (.lst ws) => if Nat.ble (i + 1) ws.length then .ok ρ (setH h2 n (.lst (ws.set i w))) else .no
      | _ => .no)
    | _, _ => .no)
  | .two _ _ => .no
def gsNil : SGs := fun ws _ ρ h => match ws with
  | [] => .ok ρ h
  | _ :: _ => .no
def gsCons (t : SG) (ts : SGs) : SGs := fun ws C ρ h => match ws with
  | [] => .no
  | w :: r => (t (.one w) C ρ h).then fun ρ1 h1 => ts r C ρ1 h1
def stepT (e : SL) (C : Cv) (ρ1 : En) (b : W) (h4 : Hs) : Re (List W) := match tst b with
  | some true => e C ρ1 h4
  | some false => .ok [] h4
  | none => .no
def stepC (own : List Nat) (tg : SG) (c : SE) (e : SL) (C : Cv) (ρ : En) (i : IW) (h : Hs) : Re (List W) := (tg i C (wipeE ρ own) h).then fun ρ1 h3 => (c C ρ1 h3).then (stepT e C ρ1)
def lComp (own : List Nat) (tg : SG) (it : SI) (c e : SE) : SL := fun C ρ h => (it C ρ h).then fun s h1 =>
  (compL (fun i h2 => nx (stepC own tg c (lOne e lNil) C ρ i h2)) s.items (lockH h1 s.lock)).then fun ws h2 => .ok ws (unlock h2 s.lock)
/-- the inner loop of two -/
def lIn (own : List Nat) (tg : SG) (it : SI) (c e : SE) : SL := fun C ρ h => (it C ρ h).then fun s h1 =>
  (compL (fun i h2 => stepC own tg c (lOne e lNil) C ρ i h2) s.items (lockH h1 s.lock)).then fun ws h2 => .ok ws (unlock h2 s.lock)
def lComp2 (own : List Nat) (tg : SG) (it : SI) (c : SE) (inn : SL) : SL := fun C ρ h => (it C ρ h).then fun s h1 =>
  (compL (fun i h2 => nx (stepC own tg c inn C ρ i h2)) s.items (lockH h1 s.lock)).then fun ws h2 => .ok ws (unlock h2 s.lock)
def lList (it : SI) : SL := fun C ρ h => (it C ρ h).then fun s h1 => match ones s.items with
  | some ws => .ok ws h1
  | none => .no
def srtE (x : D) : Option (List D) := match x with
  | .list xs => sortE xs
  | .tuple xs => sortE xs
  | _ => none
def lSrt (a : SE) : SL := fun C ρ h => (a C ρ h).then fun x h1 => match snap h1 x with
  | some x => (match srtE x with
    | some ys => .ok (dsW ys) h1
    | none => .no)
  | none => .no
def catW (x y : W) (h : Hs) : Re (List W) := match itemsL h x with
  | some xs => (match itemsL h y with
    | some ys => .ok (xs ++ ys) h
    | none => .no)
  | none => .no
def lCat (a b : SE) : SL := fun C ρ h => (a C ρ h).then fun x h1 => (b C ρ h1).then fun y h2 => catW x y h2
def repW (x y : W) (h : Hs) : Re (List W) := match itemsL h x, y with
  | some xs, .d (.int (.ofNat j)) => if Nat.ble (xs.length * j) lim && Nat.ble j 1000000 then .ok (List.replicate j xs).flatten h else .no
  | _, _ => .no
def lRep (a b : SE) : SL := fun C ρ h => (a C ρ h).then fun x h1 => (b C ρ h1).then fun y h2 => repW x y h2
def lSlc (a lo hi : SE) : SL := fun C ρ h => (a C ρ h).then fun x h1 => (lo C ρ h1).then fun i h2 => match optI i with
  | some i => (hi C ρ h2).then fun j h3 => (match optI j, itemsL h3 x with
    | some j, some ws => .ok (cutL ws i j) h3
    | _, _ => .no)
  | none => .no
def lRev (a : SE) : SL := fun C ρ h => (a C ρ h).then fun x h1 => match itemsL h1 x with
  | some ws => .ok ws.reverse h1
  | none => .no
def iSeq (e : SE) : SI := fun C ρ h => (e C ρ h).then fun w h1 => match seqW h1 w with
  | some (ws, lk) => .ok ⟨onesL ws, lk⟩ h1
  | none => .no
def iRg (h : Hs) (x : Option (List D)) : Re Src := match x with
  | some xs => .ok ⟨onesL (dsW xs), []⟩ h
  | none => .no
def iRng1 (a : SE) : SI := fun C ρ h => (a C ρ h).then fun x h1 => match x with
  | .d (.int i) => iRg h1 (rngE 0 i 1)
  | _ => .no
def iRng3 (a b : SE) (c : Int) : SI := fun C ρ h => (a C ρ h).then fun x h1 => (b C ρ h1).then fun y h2 => match x, y with
  | .d (.int i), .d (.int j) => iRg h2 (rngE i j c)
  | _, _ => .no
def iRng2 (a b : SE) : SI := iRng3 a b 1
def iEnm (e : SE) : SI := fun C ρ h => (e C ρ h).then fun w h1 => match seqW h1 w with
  | some (ws, lk) => .ok ⟨enumL 0 ws, lk⟩ h1
  | none => .no
def iZip (a b : SE) : SI := fun C ρ h => (a C ρ h).then fun x h1 => (b C ρ h1).then fun y h2 => match seqW h2 x with
  | some (ws, lk) => (match seqW h2 y with
    | some (us, lk2) => (match isTup x, isTup y with
      | true, true => .ok ⟨zipL ws us, lk ++ lk2⟩ h2
      | false, false => .ok ⟨zipL ws us, lk ++ lk2⟩ h2
      | _, _ => .no)
    | none => .no)
  | none => .no
/-- a for loop -/
def forL (step : IW → En → Hs → Re Fl) : List IW → En → Hs → Re Fl
  | [], ρ, h => .ok (.nx ρ) h
  | i :: r, ρ, h => (step i ρ h).then fun f h1 => match f with
    | .nx ρ1 => forL step r ρ1 h1
    | .ct ρ1 => forL step r ρ1 h1
    | .bk ρ1 => .ok (.nx ρ1) h1
    | .rt w => .ok (.rt w) h1
def whL (t : En → Hs → Re W) (b : En → Hs → Re Fl) : Nat → En → Hs → Re Fl
  | 0, _, _ => .no
  | n + 1, ρ, h => (t ρ h).then fun x h1 => match x with
    | .d (.bool true) => (b ρ h1).then fun f h2 => (match f with
      | .nx ρ1 => whL t b n ρ1 h2
      | .ct ρ1 => whL t b n ρ1 h2
      | .bk ρ1 => .ok (.nx ρ1) h2
      | .rt w => .ok (.rt w) h2)
    | .d (.bool false) => .ok (.nx ρ) h1
    | _ => .no
def sAsg (t : SG) (e : SE) : SS := fun C ρ h => (e C ρ h).then fun w h1 => (t (.one w) C ρ h1).then fun ρ1 h2 => .ok (.nx ρ1) h2
def sPar (ts : SGs) (es : SL) : SS := fun C ρ h => (es C ρ h).then fun ws h1 => (ts ws C ρ h1).then fun ρ1 h2 => .ok (.nx ρ1) h2
def sAug (i : Nat) (o : Bop) (e : SE) : SS := fun C ρ h => match nth ρ i with
  | some (some (.d (.int x))) => (e C ρ h).then fun y h1 => (match y with
    | .d (.int y) => (match binE o (.int x) (.int y) with
      | some z => .ok (.nx (ρ.set i (some (.d z)))) h1
      | none => .no)
    | _ => .no)
  | _ => .no
def sExpr (e : SE) : SS := fun C ρ h => (e C ρ h).then fun _ h1 => .ok (.nx ρ) h1
def sIf (c : SE) (a b : SS) : SS := fun C ρ h => (c C ρ h).then fun x h1 => match x with
  | .d (.bool true) => a C ρ h1
  | .d (.bool false) => b C ρ h1
  | _ => .no
def sFor (t : SG) (it : SI) (b : SS) : SS := fun C ρ h => (it C ρ h).then fun s h1 =>
  (forL (fun i ρ1 h2 => (t i C ρ1 h2).then fun ρ2 h3 => b C ρ2 h3) s.items ρ (lockH h1 s.lock)).then fun f h2 => .ok f (unlock h2 s.lock)
def sWhile (c : SE) (b : SS) : SS := fun C ρ h => whL (fun ρ h => c C ρ h) (fun ρ h => b C ρ h) C.wf ρ h
def sRet (e : SE) : SS := fun C ρ h => (e C ρ h).then fun w h1 => .ok (.rt w) h1
def sRaise0 (c : Nat) : SS := fun _ _ h => .ex ⟨c, none⟩ h
def sRaise (c : Nat) (e : SE) : SS := fun C ρ h => (e C ρ h).then fun w h1 => match frzW h1 w with
  | some (x, h2) => .ex ⟨c, some x⟩ h2
  | none => .no
/-- the handler of an exception: none where the table does not tell -/
def pick (sub : Nat → Nat → Option Bool) (c : Nat) : List (Nat × SE) → Option (Option SE)
  | [] => some none
  | (q, e) :: r => (match sub c q with
    | some true => some (some e)
    | some false => pick sub c r
    | none => none)
def hNil : List (Nat × SE) := []
def hCons (c : Nat) (e : SE) (r : List (Nat × SE)) : List (Nat × SE) := (c, e) :: r
def sTry (sub : Nat → Nat → Option Bool) (b : SS) (hs : List (Nat × SE)) : SS := fun C ρ h => match b C ρ h with
  | .ex e h1 => (match pick sub e.c hs with
    | some (some a) => (match a { C with X := e.arg, L := none } [] h1 with
      | .ok w h2 => .ok (.rt w) h2
      | _ => .no)
    | some none => .ex e h1
    | none => .no)
  | .ok f h1 => .ok f h1
  | .no => .no
def sPass : SS := fun _ ρ h => .ok (.nx ρ) h
def sBrk : SS := fun _ ρ h => .ok (.bk ρ) h
def sCnt : SS := fun _ ρ h => .ok (.ct ρ) h
def sSeq (s r : SS) : SS := fun C ρ h => (s C ρ h).then fun f h1 => match f with
  | .nx ρ1 => r C ρ1 h1
  | .rt w => .ok (.rt w) h1
  | .bk ρ1 => .ok (.bk ρ1) h1
  | .ct ρ1 => .ok (.ct ρ1) h1
/-- a def: how many parameters, whether the last takes the rest, how many names, the body -/
structure Fn where
  np : Nat
  va : Bool
  ns : Nat
  body : SS
def finF : Re Fl → Re W
  | .ok (.rt w) h => .ok w h
  | .ok (.nx _) h => .ok (.d .none) h
  | .ok _ _ => .no
  | .ex e h => .ex e h
  | .no => .no
def bindA (fn : Fn) (ws : List W) : Option (List W) := match fn.va with
  | true => if Nat.ble fn.np (ws.length + 1) && Nat.ble ws.length lim then (match pureAll (ws.drop (fn.np - 1)) with
    | some ds => some (ws.take (fn.np - 1) ++ [.d (.tuple ds)])
    | none => none) else none
  | false => if Nat.beq ws.length fn.np then some ws else none
def startE (n : Nat) : List W → En
  | [] => List.replicate n none
  | w :: r => some w :: (match n with
    | 0 => startE 0 r
    | k + 1 => startE k r)
structure Pg where
  tab : BT Fn
  wf : Nat
def runG (p : Pg) (F : Nat → List W → Hs → Re W) (g : Nat) (lam : Hs → Re W) (h : Hs) : Re W := match p.tab.get g with
  | some fn => finF (fn.body ⟨F, fun _ _ _ => .no, p.wf, some lam, none⟩ (List.replicate fn.ns none) h)
  | none => .no
def runF (p : Pg) : Nat → Nat → List W → Hs → Re W
  | 0, _, _, _ => .no
  | n + 1, f, ws, h => (match p.tab.get f with
    | some fn => (match bindA fn ws with
      | some us => finF (fn.body ⟨runF p n, runG p (runF p n), p.wf, none, none⟩ (startE fn.ns us) h)
      | none => .no)
    | none => .no)

end EV
end

section
set_option Elab.async false
set_option linter.all false
set_option maxRecDepth 100000
namespace EV
open PySem L2

/-! ### lists by places -/
theorem nth_eq {α : Type} : ∀ (l : List α) (n : Nat), nth l n = l[n]?
  | [], n => by simp [nth]
  | x :: r, 0 => by simp [nth]
  | x :: r, n + 1 => by
    show nth r n = _
    rw [nth_eq r n]
    simp
theorem setH_eq : ∀ (h : Hs) (n : Nat) (o : O), setH h n o = h.set n o
  | [], n, o => by simp [setH]
  | x :: r, 0, o => by simp [setH]
  | x :: r, n + 1, o => by
    show x :: setH r n o = _
    rw [setH_eq r n o]
    simp
theorem dsW_eq : ∀ xs : List D, dsW xs = xs.map W.d
  | [] => rfl
  | x :: r => by
    show W.d x :: dsW r = _
    rw [dsW_eq r]
    rfl

/-- a list of the written part -/
def KL (K : PySem.W.Frag) (a : Addr) (xs : List V) : Prop := ∃ (its : List Value) (n : Nat), K.lookup a = some { cls := .type "list", data := .seq its.toArray n } ∧ Vals xs its ∧ xs.length ≤ sizeLine
def Ls (K : PySem.W.Frag) (H : Hp) (a : Addr) (xs : List V) : Prop := Rd H a (.lst xs) ∨ KL K a xs
theorem KL.sq {K : PySem.W.Frag} {H : Hp} {a : Addr} {xs : List V} (h : KL K a xs) : SqL K H a xs := by
  obtain ⟨its, n, e, r, z⟩ := h
  exact .inr ⟨_, its.toArray, n, e, rfl, rfl, rfl, by rw [List.size_toArray, ← r.length]; exact z, by simpa using r⟩
theorem Ls.sq {K : PySem.W.Frag} {H : Hp} {a : Addr} {xs : List V} (h : Ls K H a xs) : SqL K H a xs := h.elim .inl KL.sq
/-! ### plain data: what stands for it -/
mutual
/-- no dict is within -/
def noD : D → Bool
  | .dict _ => false
  | .list xs => noDAll xs
  | .tuple xs => noDAll xs
  | .none => true
  | .bool _ => true
  | .int _ => true
  | .str _ => true
def noDAll : List D → Bool
  | [] => true
  | x :: xs => noD x && noDAll xs
end
mutual
theorem dle_noD : ∀ (n : Nat) (x : D), dle n x = true → noD x = true
  | n, .list xs, h => by
    cases n with
    | zero => cases h
    | succ k => simpa [noD] using dleAll_noD k xs h
  | n, .tuple xs, h => by
    cases n with
    | zero => cases h
    | succ k => simpa [noD] using dleAll_noD k xs h
  | n, .dict kvs, h => by simp [dle] at h
  | n, .none, _ => by simp [noD]
  | n, .bool _, _ => by simp [noD]
  | n, .int _, _ => by simp [noD]
  | n, .str _, _ => by simp [noD]
theorem dleAll_noD : ∀ (n : Nat) (xs : List D), dleAll n xs = true → noDAll xs = true
  | _, [], _ => by simp [noDAll]
  | n, x :: xs, h => by
    have h2 : dle n x = true ∧ dleAll n xs = true := by simpa [dleAll] using h
    simp [noDAll, dle_noD n x h2.1, dleAll_noD n xs h2.2]
end
mutual
inductive RV (K : PySem.W.Frag) (H : Hp) (M : Addr → Prop) : V → D → Prop where
  | non : RV K H M .non .none
  | bl (b : Bool) : RV K H M (.bl b) (.bool b)
  | int (i : Int) : RV K H M (.int i) (.int i)
  | str (x : Str) : PyData.strOk x = true → x.length ≤ sizeLine → RV K H M (.str x) (.str x)
  | lst {a : Addr} {xs : List V} {ds : List D} : Rd H a (.lst xs) → ¬ M a → RVs K H M xs ds → RV K H M (.ref a) (.list ds)
  | kls {a : Addr} {xs : List V} {ds : List D} : KL K a xs → RVs K H M xs ds → RV K H M (.ref a) (.list ds)
  | tup {a : Addr} {xs : List V} {ds : List D} : SqT K H a xs → RVs K H M xs ds → RV K H M (.ref a) (.tuple ds)
  | dct {a : Addr} : H a = some (.dK []) → RV K H M (.ref a) (.dict [])
inductive RVs (K : PySem.W.Frag) (H : Hp) (M : Addr → Prop) : List V → List D → Prop where
  | nil : RVs K H M [] []
  | cons {v : V} {vs : List V} {x : D} {xs : List D} : RV K H M v x → RVs K H M vs xs → RVs K H M (v :: vs) (x :: xs)
end
section
variable {K : PySem.W.Frag} {H H' : Hp} {M M' : Addr → Prop}
theorem RVs.length : ∀ {vs : List V} {xs : List D}, RVs K H M vs xs → vs.length = xs.length
  | _, _, .nil => rfl
  | _, _, .cons _ r => by simp [RVs.length r]
mutual
/-- carried to another heap -/
theorem RV.mono (hl : ∀ a xs, Rd H a (.lst xs) → ¬ M a → Rd H' a (.lst xs) ∧ ¬ M' a) (ht : ∀ a xs, SqT K H a xs → SqT K H' a xs) (hd : ∀ a, H a = some (.dK []) → H' a = some (.dK [])) : ∀ {v : V} {x : D}, RV K H M v x → RV K H' M' v x
  | _, _, .non => .non
  | _, _, .bl b => .bl b
  | _, _, .int i => .int i
  | _, _, .str x h z => .str x h z
  | _, _, .lst h m r => .lst (hl _ _ h m).1 (hl _ _ h m).2 (RVs.mono hl ht hd r)
  | _, _, .kls h r => .kls h (RVs.mono hl ht hd r)
  | _, _, .tup h r => .tup (ht _ _ h) (RVs.mono hl ht hd r)
  | _, _, .dct h => .dct (hd _ h)
theorem RVs.mono (hl : ∀ a xs, Rd H a (.lst xs) → ¬ M a → Rd H' a (.lst xs) ∧ ¬ M' a) (ht : ∀ a xs, SqT K H a xs → SqT K H' a xs) (hd : ∀ a, H a = some (.dK []) → H' a = some (.dK [])) : ∀ {vs : List V} {xs : List D}, RVs K H M vs xs → RVs K H' M' vs xs
  | _, _, .nil => .nil
  | _, _, .cons p q => .cons (RV.mono hl ht hd p) (RVs.mono hl ht hd q)
end
mutual
/-- as data of the library, where no dict is within -/
theorem RV.dp : ∀ {v : V} {x : D}, noD x = true → RV K H M v x → Dp K H v x
  | _, _, _, .non => .non
  | _, _, _, .bl b => .bl b
  | _, _, _, .int i => .int i
  | _, _, _, .str x _ _ => .str x
  | _, _, n, .lst h _ r => .lst (.inl h) (RVs.dp (by simpa [noD] using n) r)
  | _, _, n, .kls h r => .lst h.sq (RVs.dp (by simpa [noD] using n) r)
  | _, _, n, .tup h r => .tup h (RVs.dp (by simpa [noD] using n) r)
  | _, _, n, .dct h => by simp [noD] at n
theorem RVs.dp : ∀ {vs : List V} {xs : List D}, noDAll xs = true → RVs K H M vs xs → DpAll K H vs xs
  | _, _, _, .nil => .nil
  | _, _, n, .cons p q => by
    simp only [noDAll, Bool.and_eq_true] at n
    exact .cons (RV.dp n.1 p) (RVs.dp n.2 q)
end
mutual
theorem RV.lay : ∀ {v : V} {x : D}, noD x = true → RV K H M v x → x.canLay0 = true
  | _, _, _, .non => by simp [PyData.canLay0]
  | _, _, _, .bl b => by simp [PyData.canLay0]
  | _, _, _, .int i => by simp [PyData.canLay0]
  | _, _, _, .str x h _ => by simpa [PyData.canLay0] using h
  | _, _, n, .lst _ _ r => by simpa [PyData.canLay0] using RVs.lay (by simpa [noD] using n) r
  | _, _, n, .kls _ r => by simpa [PyData.canLay0] using RVs.lay (by simpa [noD] using n) r
  | _, _, n, .tup _ r => by simpa [PyData.canLay0] using RVs.lay (by simpa [noD] using n) r
  | _, _, n, .dct h => by simp [noD] at n
theorem RVs.lay : ∀ {vs : List V} {xs : List D}, noDAll xs = true → RVs K H M vs xs → PyData.canLayAll0 xs = true
  | _, _, _, .nil => by simp [PyData.canLayAll0]
  | _, _, n, .cons p q => by
    simp only [noDAll, Bool.and_eq_true] at n
    simp [PyData.canLayAll0, RV.lay n.1 p, RVs.lay n.2 q]
end
mutual
/-- without a list within, M is no matter -/
theorem RV.free : ∀ {v : V} {x : D}, noL x = true → RV K H M v x → RV K H M' v x
  | _, _, _, .non => .non
  | _, _, _, .bl b => .bl b
  | _, _, _, .int i => .int i
  | _, _, _, .str x h z => .str x h z
  | _, _, h, .lst _ _ _ => nomatch h
  | _, _, h, .kls _ _ => nomatch h
  | _, _, h, .tup t r => .tup t (RVs.free (by simpa [noL] using h) r)
  | _, _, h, .dct _ => nomatch h
theorem RVs.free : ∀ {vs : List V} {xs : List D}, noLAll xs = true → RVs K H M vs xs → RVs K H M' vs xs
  | _, _, _, .nil => .nil
  | _, _, h, .cons p q => by
    simp only [noLAll, Bool.and_eq_true] at h
    exact .cons (RV.free h.1 p) (RVs.free h.2 q)
end
theorem RVs.get : ∀ {vs : List V} {xs : List D} {i : Nat} {x : D}, RVs K H M vs xs → xs[i]? = some x → ∃ v, vs[i]? = some v ∧ RV K H M v x
  | _, _, _, _, .nil, e => by simp at e
  | _, _, 0, _, .cons p q, e => by
    simp at e
    subst e
    exact ⟨_, rfl, p⟩
  | _, _, i + 1, _, .cons p q, e => by
    obtain ⟨v, h1, h2⟩ := RVs.get q (i := i) (by simpa using e)
    exact ⟨v, by simpa using h1, h2⟩
theorem RVs.app : ∀ {vs us : List V} {xs ys : List D}, RVs K H M vs xs → RVs K H M us ys → RVs K H M (vs ++ us) (xs ++ ys)
  | _, _, _, _, .nil, s => s
  | _, _, _, _, .cons p q, s => .cons p (RVs.app q s)
end
mutual
theorem dle_depth : ∀ (n : Nat) (x : D), dle n x = true → x.depth ≤ n
  | n, .list xs, h => by
    cases n with
    | zero => cases h
    | succ k =>
      have := dleAll_depth k xs h
      simp only [PyData.depth]
      omega
  | n, .tuple xs, h => by
    cases n with
    | zero => cases h
    | succ k =>
      have := dleAll_depth k xs h
      simp only [PyData.depth]
      omega
  | n, .dict kvs, h => by simp [dle] at h
  | n, .none, _ => by simp [PyData.depth]
  | n, .bool _, _ => by simp [PyData.depth]
  | n, .int _, _ => by simp [PyData.depth]
  | n, .str _, _ => by simp [PyData.depth]
theorem dleAll_depth : ∀ (n : Nat) (xs : List D), dleAll n xs = true → PyData.depthAll xs ≤ n
  | _, [], _ => by simp [PyData.depthAll]
  | n, x :: xs, h => by
    have h2 : dle n x = true ∧ dleAll n xs = true := by simpa [dleAll] using h
    have a := dle_depth n x h2.1
    have b := dleAll_depth n xs h2.2
    simp only [PyData.depthAll]
    omega
end
theorem RV.shaped {K : PySem.W.Frag} {H : Hp} {M : Addr → Prop} {v : V} {x : D} (r : RV K H M v x) (h : dle 64 x = true) : SeqAt.shaped x = true := by
  unfold SeqAt.shaped
  rw [r.lay (dle_noD 64 x h), decide_eq_true (dle_depth 64 x h)]
  rfl

/-! ### the evaluator's heap and the abstract one -/
def isMut (h : Hs) (n : Nat) : Prop := ∃ ws, h[n]? = some (.lst ws) ∨ h[n]? = some (.lck ws)
/-- the addresses of what may change -/
def mutA (η : List Addr) (h : Hs) (a : Addr) : Prop := ∃ n : Nat, η[n]? = some a ∧ isMut h n
def MM (Z : Addr → Prop) (η : List Addr) (h : Hs) (a : Addr) : Prop := Z a ∨ mutA η h a
def RW (K : PySem.W.Frag) (H : Hp) (M : Addr → Prop) (η : List Addr) : V → W → Prop
  | v, .d x => RV K H M v x
  | v, .r n => ∃ a : Addr, η[n]? = some a ∧ v = .ref a
abbrev RWs (K : PySem.W.Frag) (H : Hp) (M : Addr → Prop) (η : List Addr) : List V → List W → Prop := Paired (RW K H M η)
def ObjR (K : PySem.W.Frag) (H : Hp) (M : Addr → Prop) (η : List Addr) (a : Addr) : O → Prop
  | .lst ws => ∃ vs, H a = some (.lst vs) ∧ RWs K H M η vs ws
  | .lck ws => ∃ vs, H a = some (.lst vs) ∧ RWs K H M η vs ws
  | .frz x => ∃ xs ds, x = .list ds ∧ Rd H a (.lst xs) ∧ ¬ M a ∧ RVs K H M xs ds
/-- what is fixed through the whole law: the tables of code objects; where the classes stand, the field that they keep -/
structure Sc where
  T : List (Addr × Str)
  cls : Nat → Addr
  fld : Nat → Str
structure HR (S : Sc) (K : PySem.W.Frag) (Z : Addr → Prop) (η : List Addr) (h : Hs) (H : Hp) : Prop where
  len : η.length = h.length
  nd : η.Nodup
  obj : ∀ (n : Nat) (a : Addr) (o : O), η[n]? = some a → h[n]? = some o → ObjR K H (MM Z η h) η a o
  zk : ∀ a, Z a → ∃ vs, H a = some (.lst vs)
  zd : ∀ a, Z a → a ∉ η
  tabs : LamX.Tabs S.T H
def SR (K : PySem.W.Frag) (H : Hp) (M : Addr → Prop) (η : List Addr) (σ : L2.St) (ρ : En) : Prop :=
  ρ.length ≤ σ.length ∧ ∀ (i : Nat) (w : W), ρ[i]? = some (some w) → ∃ v, σ[i]? = some (some v) ∧ RW K H M η v w
/-- what a piece of the run leaves -/
structure FR0 (η : List Addr) (h : Hs) (H : Hp) (η' : List Addr) (h' : Hs) (H' : Hp) : Prop where
  ext : ∃ t, η' = η ++ t
  keep : ∀ a o, H a = some o → ¬ mutA η h a → (∀ ps, o ≠ .tbl ps) → H' a = some o
  new : ∀ a, mutA η' h' a → mutA η h a ∨ H a = none
  here : ∀ a o, H a = some o → ∃ o', H' a = some o'
section
variable {S : Sc} {K : PySem.W.Frag} {Z Z' : Addr → Prop} {η η' η2 : List Addr} {h h' h2 : Hs} {H H' H2 : Hp} {σ : L2.St} {ρ : En}
theorem FR0.refl : FR0 η h H η h H := ⟨⟨[], by simp⟩, fun _ _ e _ _ => e, fun _ m => .inl m, fun _ o e => ⟨o, e⟩⟩
theorem HR.mutK (R : HR S K Z η h H) {a : Addr} (m : mutA η h a) : ∃ vs, H a = some (.lst vs) := by
  obtain ⟨n, e, ws, q⟩ := m
  rcases q with q | q
  · obtain ⟨vs, x, _⟩ := R.obj n a _ e q
    exact ⟨vs, x⟩
  · obtain ⟨vs, x, _⟩ := R.obj n a _ e q
    exact ⟨vs, x⟩
theorem HR.mmK (R : HR S K Z η h H) {a : Addr} (m : MM Z η h a) : ∃ vs, H a = some (.lst vs) := m.elim (R.zk a) R.mutK
theorem FR0.trans (a : FR0 η h H η' h' H') (b : FR0 η' h' H' η2 h2 H2) (R : HR S K Z η h H) : FR0 η h H η2 h2 H2 where
  ext := by
    obtain ⟨t, e⟩ := a.ext
    obtain ⟨u, f⟩ := b.ext
    exact ⟨t ++ u, by rw [f, e, List.append_assoc]⟩
  keep := fun c o e n t => b.keep c o (a.keep c o e n t) (fun m => by
    rcases a.new c m with z | z
    · exact n z
    · rw [e] at z; cases z) t
  new := fun c m => by
    rcases b.new c m with z | z
    · exact a.new c z
    · refine .inr ?_
      cases q : H c with
      | none => rfl
      | some o =>
        obtain ⟨o', e⟩ := a.here c o q
        rw [e] at z; cases z
  here := fun c o e => by
    obtain ⟨o', q⟩ := a.here c o e
    exact b.here c o' q
theorem FR0.eta (f : FR0 η h H η' h' H') {n : Nat} {a : Addr} (e : η[n]? = some a) : η'[n]? = some a := by
  obtain ⟨t, q⟩ := f.ext
  rw [q, List.getElem?_append_left (List.getElem?_eq_some_iff.mp e).1]
  exact e
theorem FR0.lst (f : FR0 η h H η' h' H') (a : Addr) (xs : List V) (r : Rd H a (.lst xs)) (m : ¬ MM Z η h a) : Rd H' a (.lst xs) ∧ ¬ MM Z η' h' a := by
  have nm : ¬ mutA η h a := fun q => m (.inr q)
  have hs : ∃ o, H a = some o := by
    rcases r with r | ⟨o, r⟩
    · exact ⟨_, r⟩
    · exact ⟨_, r⟩
  refine ⟨?_, fun q => ?_⟩
  · rcases r with r | ⟨o, r⟩
    · exact .inl (f.keep a _ r nm fun ps z => nomatch z)
    · exact .inr ⟨o, f.keep a _ r nm fun ps z => nomatch z⟩
  · rcases q with q | q
    · exact m (.inl q)
    · rcases f.new a q with z | z
      · exact nm z
      · obtain ⟨o, e⟩ := hs
        rw [e] at z; cases z
theorem FR0.tup (f : FR0 η h H η' h' H') (R : HR S K Z η h H) (a : Addr) (xs : List V) (r : SqT K H a xs) : SqT K H' a xs := by
  rcases r with (r | ⟨o, r⟩) | r
  · exact .inl (.inl (f.keep a _ r (fun m => by
      obtain ⟨vs, e⟩ := R.mutK m
      rw [r] at e; cases e) fun ps z => nomatch z))
  · exact .inl (.inr ⟨o, f.keep a _ r (fun m => by
      obtain ⟨vs, e⟩ := R.mutK m
      rw [r] at e; cases e) fun ps z => nomatch z⟩)
  · exact .inr r
theorem FR0.dct (f : FR0 η h H η' h' H') (R : HR S K Z η h H) (a : Addr) (r : H a = some (.dK [])) : H' a = some (.dK []) := f.keep a _ r (fun m => by
  obtain ⟨vs, e⟩ := R.mutK m
  rw [r] at e; cases e) fun ps z => nomatch z
theorem FR0.rv (f : FR0 η h H η' h' H') (R : HR S K Z η h H) {v : V} {x : D} (r : RV K H (MM Z η h) v x) : RV K H' (MM Z η' h') v x := r.mono f.lst (f.tup R) (f.dct R)
theorem FR0.rvs (f : FR0 η h H η' h' H') (R : HR S K Z η h H) {v : List V} {x : List D} (r : RVs K H (MM Z η h) v x) : RVs K H' (MM Z η' h') v x := r.mono f.lst (f.tup R) (f.dct R)
theorem FR0.rw (f : FR0 η h H η' h' H') (R : HR S K Z η h H) {v : V} {w : W} (r : RW K H (MM Z η h) η v w) : RW K H' (MM Z η' h') η' v w := by
  cases w with
  | d x => exact f.rv R r
  | r n =>
    obtain ⟨a, e, q⟩ := r
    exact ⟨a, f.eta e, q⟩
theorem FR0.rws (f : FR0 η h H η' h' H') (R : HR S K Z η h H) : ∀ {vs : List V} {ws : List W}, RWs K H (MM Z η h) η vs ws → RWs K H' (MM Z η' h') η' vs ws
  | _, _, .nil => .nil
  | _, _, .cons p q => .cons (f.rw R p) (FR0.rws f R q)
theorem FR0.sr (f : FR0 η h H η' h' H') (R : HR S K Z η h H) (s : SR K H (MM Z η h) η σ ρ) : SR K H' (MM Z η' h') η' σ ρ :=
  ⟨s.1, fun i w e => let ⟨v, a, b⟩ := s.2 i w e; ⟨v, a, f.rw R b⟩⟩
/-- .. and no closed list is opened -/
structure FR (η : List Addr) (h : Hs) (H : Hp) (η' : List Addr) (h' : Hs) (H' : Hp) : Prop extends FR0 η h H η' h' H' where
  lk : ∀ (n : Nat) (ws : List W), h[n]? = some (.lck ws) → h'[n]? = some (.lck ws)
theorem FR.refl : FR η h H η h H := ⟨FR0.refl, fun _ _ e => e⟩
theorem FR.trans (a : FR η h H η' h' H') (b : FR η' h' H' η2 h2 H2) (R : HR S K Z η h H) : FR η h H η2 h2 H2 := ⟨a.toFR0.trans b.toFR0 R, fun n ws e => b.lk n ws (a.lk n ws e)⟩
theorem FR.eta (f : FR η h H η' h' H') {n : Nat} {a : Addr} (e : η[n]? = some a) : η'[n]? = some a := f.toFR0.eta e
theorem FR.lst (f : FR η h H η' h' H') (a : Addr) (xs : List V) (r : Rd H a (.lst xs)) (m : ¬ MM Z η h a) : Rd H' a (.lst xs) ∧ ¬ MM Z η' h' a := f.toFR0.lst a xs r m
theorem FR.rv (f : FR η h H η' h' H') (R : HR S K Z η h H) {v : V} {x : D} (r : RV K H (MM Z η h) v x) : RV K H' (MM Z η' h') v x := f.toFR0.rv R r
theorem FR.rvs (f : FR η h H η' h' H') (R : HR S K Z η h H) {v : List V} {x : List D} (r : RVs K H (MM Z η h) v x) : RVs K H' (MM Z η' h') v x := f.toFR0.rvs R r
theorem FR.rw (f : FR η h H η' h' H') (R : HR S K Z η h H) {v : V} {w : W} (r : RW K H (MM Z η h) η v w) : RW K H' (MM Z η' h') η' v w := f.toFR0.rw R r
theorem FR.rws (f : FR η h H η' h' H') (R : HR S K Z η h H) {vs : List V} {ws : List W} (r : RWs K H (MM Z η h) η vs ws) : RWs K H' (MM Z η' h') η' vs ws := f.toFR0.rws R r
theorem FR.sr (f : FR η h H η' h' H') (R : HR S K Z η h H) (s : SR K H (MM Z η h) η σ ρ) : SR K H' (MM Z η' h') η' σ ρ := f.toFR0.sr R s
end
end EV
end

section
set_option Elab.async false
set_option linter.all false
set_option maxRecDepth 100000
namespace EV
open PySem L2
section
variable {S : Sc} {K : PySem.W.Frag} {Z Z' : Addr → Prop} {M M' : Addr → Prop} {η η' : List Addr} {h h' : Hs} {H H' : Hp} {σ : L2.St} {ρ : En} {p : Addr}
theorem RV.less (hm : ∀ a, M' a → M a) {v : V} {x : D} (r : RV K H M v x) : RV K H M' v x := r.mono (fun _ _ a b => ⟨a, fun q => b (hm _ q)⟩) (fun _ _ a => a) fun _ a => a
theorem RVs.less (hm : ∀ a, M' a → M a) {v : List V} {x : List D} (r : RVs K H M v x) : RVs K H M' v x := r.mono (fun _ _ a b => ⟨a, fun q => b (hm _ q)⟩) (fun _ _ a => a) fun _ a => a
theorem RW.less (hm : ∀ a, M' a → M a) {v : V} {w : W} (r : RW K H M η v w) : RW K H M' η v w := by
  cases w with
  | d x => exact RV.less hm r
  | r n => exact r
theorem RWs.imp {F G : V → W → Prop} (f : ∀ v w, F v w → G v w) : ∀ {vs : List V} {ws : List W}, Paired F vs ws → Paired G vs ws
  | _, _, .nil => .nil
  | _, _, .cons a b => .cons (f _ _ a) (RWs.imp f b)
theorem RWs.less (hm : ∀ a, M' a → M a) {v : List V} {x : List W} (r : RWs K H M η v x) : RWs K H M' η v x := RWs.imp (fun _ _ a => RW.less hm a) r
theorem SR.less (hm : ∀ a, M' a → M a) (s : SR K H M η σ ρ) : SR K H M' η σ ρ := ⟨s.1, fun i w e => let ⟨v, a, b⟩ := s.2 i w e; ⟨v, a, RW.less hm b⟩⟩
theorem HR.tracked (R : HR S K Z η h H) {n : Nat} {a : Addr} (e : η[n]? = some a) : ∃ o, H a = some o := by
  have hn : n < h.length := by rw [← R.len]; exact (List.getElem?_eq_some_iff.mp e).1
  have q : h[n]? = some h[n] := by simp [hn]
  have z := R.obj n a _ e q
  cases w : h[n] with
  | lst ws =>
    rw [w] at z
    obtain ⟨vs, x, _⟩ := z
    exact ⟨_, x⟩
  | lck ws =>
    rw [w] at z
    obtain ⟨vs, x, _⟩ := z
    exact ⟨_, x⟩
  | frz x =>
    rw [w] at z
    obtain ⟨xs, ds, _, r, _⟩ := z
    rcases r with r | ⟨o, r⟩
    · exact ⟨_, r⟩
    · exact ⟨_, r⟩
theorem HR.fresh (R : HR S K Z η h H) (hp : H p = none) : p ∉ η := fun m => by
  obtain ⟨n, e⟩ := List.getElem?_of_mem m
  obtain ⟨o, q⟩ := R.tracked e
  rw [hp] at q; cases q
/-! #### a new thing that never changes -/
theorem FR.alloc (hp : H p = none) (o : HO) : FR η h H η h (upd H p o) :=
  ⟨⟨⟨[], by simp⟩, fun a u e _ _ => by rw [upd_ne (ne_of_none e hp)]; exact e, fun _ m => .inl m, fun a u e => ⟨u, by rw [upd_ne (ne_of_none e hp)]; exact e⟩⟩, fun _ _ e => e⟩
theorem ObjR.mono (f : FR0 η h H η' h' H') (R : HR S K Z η h H) {a : Addr} : ∀ {o : O}, (∀ ws, o ≠ .lst ws) → (∀ ws, o ≠ .lck ws) → ObjR K H (MM Z η h) η a o → ObjR K H' (MM Z η' h') η' a o
  | .lst ws, n, _, _ => absurd rfl (n ws)
  | .lck ws, _, n, _ => absurd rfl (n ws)
  | .frz x, _, _, ⟨xs, ds, e, r, m, q⟩ => ⟨xs, ds, e, (f.lst a xs r m).1, (f.lst a xs r m).2, f.rvs R q⟩
theorem HR.alloc (R : HR S K Z η h H) (hp : H p = none) (o : HO) : HR S K Z η h (upd H p o) := by
  have f : FR η h H η h (upd H p o) := FR.alloc hp o
  refine ⟨R.len, R.nd, fun n a ob e q => ?_, fun a z => ?_, R.zd, R.tabs.ext fun b u e => by rw [upd_ne (ne_of_none e hp)]; exact e⟩
  · have z := R.obj n a ob e q
    cases ob with
    | lst ws =>
      obtain ⟨vs, x, r⟩ := z
      exact ⟨vs, by rw [upd_ne (ne_of_none x hp)]; exact x, f.rws R r⟩
    | lck ws =>
      obtain ⟨vs, x, r⟩ := z
      exact ⟨vs, by rw [upd_ne (ne_of_none x hp)]; exact x, f.rws R r⟩
    | frz x => exact ObjR.mono f.toFR0 R (fun _ q => nomatch q) (fun _ q => nomatch q) z
  · obtain ⟨vs, e⟩ := R.zk a z
    exact ⟨vs, by rw [upd_ne (ne_of_none e hp)]; exact e⟩
/-! #### a new list that may change -/
theorem isMut_app {o : O} {n : Nat} : isMut (h ++ [o]) n → isMut h n ∨ n = h.length := by
  rintro ⟨ws, q⟩
  by_cases hn : n < h.length
  · rw [List.getElem?_append_left hn] at q
    exact .inl ⟨ws, q⟩
  · refine .inr ?_
    have : n < (h ++ [o]).length := by
      rcases q with q | q <;> exact (List.getElem?_eq_some_iff.mp q).1
    simp at this
    omega
theorem mutA_app {o : O} {a : Addr} (hl : η.length = h.length) (m : mutA (η ++ [p]) (h ++ [o]) a) : mutA η h a ∨ a = p := by
  obtain ⟨n, e, q⟩ := m
  rcases isMut_app q with q | q
  · have hn : n < h.length := by
      obtain ⟨ws, q⟩ := q
      rcases q with q | q <;> exact (List.getElem?_eq_some_iff.mp q).1
    rw [List.getElem?_append_left (by omega)] at e
    exact .inl ⟨n, e, q⟩
  · refine .inr ?_
    rw [q, ← hl, List.getElem?_append_right (Nat.le_refl _)] at e
    simp at e
    exact e.symm
theorem mutA_old {o : O} {a : Addr} (m : mutA η h a) : mutA (η ++ [p]) (h ++ [o]) a := by
  obtain ⟨n, e, ws, q⟩ := m
  refine ⟨n, ?_, ws, ?_⟩
  · rw [List.getElem?_append_left (List.getElem?_eq_some_iff.mp e).1]
    exact e
  · rcases q with q | q
    · exact .inl (by rw [List.getElem?_append_left (List.getElem?_eq_some_iff.mp q).1]; exact q)
    · exact .inr (by rw [List.getElem?_append_left (List.getElem?_eq_some_iff.mp q).1]; exact q)
theorem FR.newL (R : HR S K Z η h H) (hp : H p = none) (o : O) (u : HO) : FR η h H (η ++ [p]) (h ++ [o]) (upd H p u) :=
  ⟨⟨⟨[p], rfl⟩, fun a w e _ _ => by rw [upd_ne (ne_of_none e hp)]; exact e, fun a m => by
    rcases mutA_app R.len m with z | z
    · exact .inl z
    · exact .inr (by rw [z]; exact hp), fun a w e => ⟨w, by rw [upd_ne (ne_of_none e hp)]; exact e⟩⟩, fun n ws e => by
    rw [List.getElem?_append_left (List.getElem?_eq_some_iff.mp e).1]
    exact e⟩
theorem HR.newL (R : HR S K Z η h H) (hp : H p = none) {vs : List V} {ws : List W} (r : RWs K H (MM Z η h) η vs ws) : HR S K Z (η ++ [p]) (h ++ [.lst ws]) (upd H p (.lst vs)) := by
  have f : FR η h H (η ++ [p]) (h ++ [.lst ws]) (upd H p (.lst vs)) := FR.newL R hp _ _
  refine ⟨by simp [R.len], ?_, fun n a ob e q => ?_, fun a z => ?_, fun a z m => ?_, R.tabs.ext fun b u e => by rw [upd_ne (ne_of_none e hp)]; exact e⟩
  · rw [List.nodup_append]
    refine ⟨R.nd, by simp, fun a ha b hb => ?_⟩
    simp at hb
    rintro rfl
    exact R.fresh hp (hb ▸ ha)
  · by_cases hn : n < h.length
    · rw [List.getElem?_append_left (by rw [R.len]; exact hn)] at e
      rw [List.getElem?_append_left hn] at q
      have z := R.obj n a ob e q
      cases ob with
      | lst ws =>
        obtain ⟨vs, x, r⟩ := z
        exact ⟨vs, by rw [upd_ne (ne_of_none x hp)]; exact x, f.rws R r⟩
      | lck ws =>
        obtain ⟨vs, x, r⟩ := z
        exact ⟨vs, by rw [upd_ne (ne_of_none x hp)]; exact x, f.rws R r⟩
      | frz x => exact ObjR.mono f.toFR0 R (fun _ q => nomatch q) (fun _ q => nomatch q) z
    · have hn2 : n = h.length := by
        have : n < (h ++ [O.lst ws]).length := (List.getElem?_eq_some_iff.mp q).1
        simp at this
        omega
      subst hn2
      rw [← R.len, List.getElem?_append_right (Nat.le_refl _)] at e
      rw [List.getElem?_append_right (Nat.le_refl _)] at q
      simp at e q
      subst e
      subst q
      exact ⟨vs, upd_same, f.rws R r⟩
  · obtain ⟨us, e⟩ := R.zk a z
    exact ⟨us, by rw [upd_ne (ne_of_none e hp)]; exact e⟩
  · rw [List.mem_append] at m
    rcases m with m | m
    · exact R.zd a z m
    · obtain ⟨us, e⟩ := R.zk a z
      simp at m
      rw [m, hp] at e
      cases e
theorem eta_new (R : HR S K Z η h H) : (η ++ [p])[h.length]? = some p := by
  rw [← R.len, List.getElem?_append_right (Nat.le_refl _)]
  simp
/-! #### a list is written -/
theorem mutA_set {n : Nat} {ws : List W} {a : Addr} (hm : isMut h n) : mutA η (h.set n (.lst ws)) a ↔ mutA η h a := by
  have hn : n < h.length := by
    obtain ⟨us, q⟩ := hm
    rcases q with q | q <;> exact (List.getElem?_eq_some_iff.mp q).1
  constructor
  · rintro ⟨k, e, us, q⟩
    by_cases hk : k = n
    · subst hk
      exact ⟨k, e, hm⟩
    · rw [List.getElem?_set_ne (Ne.symm hk)] at q
      exact ⟨k, e, us, q⟩
  · rintro ⟨k, e, us, q⟩
    by_cases hk : k = n
    · subst hk
      exact ⟨k, e, ws, .inl (List.getElem?_set_self hn)⟩
    · exact ⟨k, e, us, by rw [List.getElem?_set_ne (Ne.symm hk)]; exact q⟩
theorem lk_set {n : Nat} {us : List W} {o : O} (hl : h[n]? = some (.lst us)) (k : Nat) (ws : List W) (e : h[k]? = some (.lck ws)) : (h.set n o)[k]? = some (.lck ws) := by
  rw [List.getElem?_set_ne (fun z => by rw [← z, hl] at e; cases e)]
  exact e
theorem FR.write {n : Nat} {a : Addr} {us ws : List W} {u : HO} (hl : h[n]? = some (.lst us)) (e : η[n]? = some a) : FR η h H η (h.set n (.lst ws)) (upd H a u) :=
  have hm : isMut h n := ⟨us, .inl hl⟩
  ⟨⟨⟨[], by simp⟩, fun b o q nm _ => by
    rw [upd_ne (fun z => nm (by rw [z]; exact ⟨n, e, hm⟩))]
    exact q, fun b m => .inl ((mutA_set hm).mp m), fun b o q => by
    by_cases hb : b = a
    · rw [hb]
      exact ⟨u, upd_same⟩
    · exact ⟨o, by rw [upd_ne hb]; exact q⟩⟩, lk_set hl⟩
theorem tabs_lst {T : List (Addr × Str)} {a : Addr} {vs us : List V} (t : LamX.Tabs T H) (e : H a = some (.lst vs)) : LamX.Tabs T (upd H a (.lst us)) := fun q hq => by
  obtain ⟨ps, h1, h2, h3⟩ := t q hq
  refine ⟨ps, by rw [upd_ne (ne_of h1 e (fun z => nomatch z))]; exact h1, h2, fun pos cv hc => ?_⟩
  obtain ⟨c, e1, e2⟩ := h3 pos cv hc
  refine ⟨c, e1, ?_⟩
  rw [upd_ne (ne_of e2 e (fun z => by unfold LamX.CodeO at z; cases z))]
  exact e2
theorem nodup_ixA {l : List Addr} (nd : l.Nodup) {i j : Nat} {a : Addr} (e : l[i]? = some a) (f : l[j]? = some a) : i = j := by
  exact (List.getElem?_inj (List.getElem?_eq_some_iff.mp e).1 nd).mp (e.trans f.symm)
theorem HR.write (R : HR S K Z η h H) {n : Nat} {a : Addr} {us : List W} (hl : h[n]? = some (.lst us)) (e : η[n]? = some a) {vs : List V} {ws : List W} (r : RWs K H (MM Z η h) η vs ws) : HR S K Z η (h.set n (.lst ws)) (upd H a (.lst vs)) := by
  have f : FR η h H η (h.set n (.lst ws)) (upd H a (.lst vs)) := FR.write hl e
  have hm : isMut h n := ⟨us, .inl hl⟩
  have hn : n < h.length := by
    obtain ⟨us, q⟩ := hm
    rcases q with q | q <;> exact (List.getElem?_eq_some_iff.mp q).1
  obtain ⟨v0, e0⟩ := R.mutK ⟨n, e, hm⟩
  refine ⟨by simp [R.len], R.nd, fun k b ob e1 q => ?_, fun b z => ?_, R.zd, tabs_lst R.tabs e0⟩
  · by_cases hk : k = n
    · subst hk
      rw [e] at e1
      cases e1
      rw [List.getElem?_set_self hn] at q
      cases q
      exact ⟨vs, upd_same, f.rws R r⟩
    · rw [List.getElem?_set_ne (Ne.symm hk)] at q
      have nb : b ≠ a := fun z => hk (nodup_ixA R.nd e1 (z ▸ e))
      have z := R.obj k b ob e1 q
      cases ob with
      | lst us =>
        obtain ⟨w, x, r⟩ := z
        exact ⟨w, by rw [upd_ne nb]; exact x, f.rws R r⟩
      | lck us =>
        obtain ⟨w, x, r⟩ := z
        exact ⟨w, by rw [upd_ne nb]; exact x, f.rws R r⟩
      | frz x => exact ObjR.mono f.toFR0 R (fun _ q => nomatch q) (fun _ q => nomatch q) z
  · by_cases hb : b = a
    · rw [hb]
      exact ⟨vs, upd_same⟩
    · obtain ⟨us, x⟩ := R.zk b z
      exact ⟨us, by rw [upd_ne hb]; exact x⟩
/-! #### a list is closed to writing for good -/
theorem mutA_frz {n : Nat} {x : D} {a : Addr} : mutA η (h.set n (.frz x)) a → mutA η h a ∧ η[n]? ≠ some a ∨ (mutA η h a ∧ ∃ k, k ≠ n ∧ η[k]? = some a) := by
  rintro ⟨k, e, us, q⟩
  by_cases hk : k = n
  · subst hk
    by_cases hn : k < h.length
    · rw [List.getElem?_set_self hn] at q
      rcases q with q | q <;> cases q
    · rw [List.getElem?_eq_none (by simpa using hn)] at q
      rcases q with q | q <;> cases q
  · rw [List.getElem?_set_ne (Ne.symm hk)] at q
    exact .inr ⟨⟨k, e, us, q⟩, k, hk, e⟩
theorem mutA_frz_sub {n : Nat} {x : D} {a : Addr} (m : mutA η (h.set n (.frz x)) a) : mutA η h a := by
  rcases mutA_frz m with z | z
  · exact z.1
  · exact z.1
theorem FR.frz {n : Nat} {x : D} {us : List W} (hl : h[n]? = some (.lst us)) : FR η h H η (h.set n (.frz x)) H :=
  ⟨⟨⟨[], by simp⟩, fun _ _ e _ _ => e, fun _ m => .inl (mutA_frz_sub m), fun _ o e => ⟨o, e⟩⟩, lk_set hl⟩
theorem pureAll_rv : ∀ {vs : List V} {ws : List W} {ds : List D}, RWs K H M η vs ws → pureAll ws = some ds → RVs K H M vs ds
  | _, _, _, .nil, e => by
    simp [pureAll] at e
    subst e
    exact .nil
  | _, .d x :: r, ds, .cons p q, e => by
    cases c : pureAll r with
    | none => simp [pureAll, c] at e
    | some us =>
      simp [pureAll, c] at e
      subst e
      exact .cons p (pureAll_rv q c)
  | _, .r n :: r, ds, .cons p q, e => by simp [pureAll] at e
theorem HR.frz (R : HR S K Z η h H) {n : Nat} {ws : List W} {ds : List D} (q : h[n]? = some (.lst ws)) (c : pureAll ws = some ds)  : HR S K Z η (h.set n (.frz (.list ds))) H := by
  have hz : ∀ a, η[n]? = some a → ¬ Z a := fun a e z => R.zd a z (List.mem_of_getElem? e)
  have f : FR η h H η (h.set n (.frz (.list ds))) H := FR.frz q
  have hn : n < h.length := (List.getElem?_eq_some_iff.mp q).1
  refine ⟨by simp [R.len], R.nd, fun k b ob e1 w => ?_, R.zk, R.zd, R.tabs⟩
  by_cases hk : k = n
  · subst hk
    rw [List.getElem?_set_self hn] at w
    cases w
    obtain ⟨vs, x, r⟩ := R.obj k b _ e1 q
    refine ⟨vs, ds, rfl, .inl x, fun m => ?_, f.rvs R (pureAll_rv r c)⟩
    rcases m with m | m
    · exact hz b e1 m
    · rcases mutA_frz m with z | ⟨_, j, hj, e2⟩
      · exact z.2 e1
      · exact hj (nodup_ixA R.nd e2 e1)
  · rw [List.getElem?_set_ne (Ne.symm hk)] at w
    have z := R.obj k b ob e1 w
    cases ob with
    | lst us =>
      obtain ⟨v, x, r⟩ := z
      exact ⟨v, x, f.rws R r⟩
    | lck us =>
      obtain ⟨v, x, r⟩ := z
      exact ⟨v, x, f.rws R r⟩
    | frz x => exact ObjR.mono f.toFR0 R (fun _ q => nomatch q) (fun _ q => nomatch q) z
/-! #### a list is locked, unlocked -/
theorem mutA_lock {n : Nat} {o : O} {a : Addr} (hm : isMut h n) (ho : ∃ ws, o = .lst ws ∨ o = .lck ws) : mutA η (h.set n o) a ↔ mutA η h a := by
  have hn : n < h.length := by
    obtain ⟨us, q⟩ := hm
    rcases q with q | q <;> exact (List.getElem?_eq_some_iff.mp q).1
  constructor
  · rintro ⟨k, e, us, q⟩
    by_cases hk : k = n
    · subst hk
      exact ⟨k, e, hm⟩
    · rw [List.getElem?_set_ne (Ne.symm hk)] at q
      exact ⟨k, e, us, q⟩
  · rintro ⟨k, e, us, q⟩
    by_cases hk : k = n
    · subst hk
      obtain ⟨ws, r⟩ := ho
      refine ⟨k, e, ws, ?_⟩
      rw [List.getElem?_set_self hn]
      rcases r with r | r
      · exact .inl (by rw [r])
      · exact .inr (by rw [r])
    · exact ⟨k, e, us, by rw [List.getElem?_set_ne (Ne.symm hk)]; exact q⟩
theorem FR0.lock {n : Nat} {o : O} (hm : isMut h n) (ho : ∃ ws, o = .lst ws ∨ o = .lck ws) : FR0 η h H η (h.set n o) H :=
  ⟨⟨[], by simp⟩, fun _ _ e _ _ => e, fun _ m => .inl ((mutA_lock hm ho).mp m), fun _ o e => ⟨o, e⟩⟩
theorem HR.lock (R : HR S K Z η h H) {n : Nat} {ws : List W} {o o' : O} (q : h[n]? = some o) (ho : o = .lst ws ∨ o = .lck ws) (ho' : o' = .lst ws ∨ o' = .lck ws) : HR S K Z η (h.set n o') H := by
  have hm : isMut h n := by
    refine ⟨ws, ?_⟩
    rcases ho with e | e
    · exact .inl (by rw [q, e])
    · exact .inr (by rw [q, e])
  have f : FR0 η h H η (h.set n o') H := FR0.lock hm ⟨ws, ho'⟩
  have hn : n < h.length := (List.getElem?_eq_some_iff.mp q).1
  refine ⟨by simp [R.len], R.nd, fun k b ob e1 w => ?_, R.zk, R.zd, R.tabs⟩
  by_cases hk : k = n
  · subst hk
    rw [List.getElem?_set_self hn] at w
    cases w
    have z := R.obj k b _ e1 q
    have z2 : ∃ vs, H b = some (.lst vs) ∧ RWs K H (MM Z η h) η vs ws := by
      rcases ho with e | e
      · subst e; exact z
      · subst e; exact z
    obtain ⟨vs, x, r⟩ := z2
    rcases ho' with e | e
    · subst e; exact ⟨vs, x, f.rws R r⟩
    · subst e; exact ⟨vs, x, f.rws R r⟩
  · rw [List.getElem?_set_ne (Ne.symm hk)] at w
    have z := R.obj k b ob e1 w
    cases ob with
    | lst us =>
      obtain ⟨v, x, r⟩ := z
      exact ⟨v, x, f.rws R r⟩
    | lck us =>
      obtain ⟨v, x, r⟩ := z
      exact ⟨v, x, f.rws R r⟩
    | frz x => exact ObjR.mono f R (fun _ q => nomatch q) (fun _ q => nomatch q) z
end
end EV
end

section
set_option Elab.async false
set_option linter.all false
set_option maxRecDepth 100000
namespace EV
open PySem L2
/-! ### what a run is to lead to -/
/-- an exception, as the rules tell it -/
def RX (S : Sc) (K : PySem.W.Frag) (H : Hp) (M : Addr → Prop) (e : Exn) (cls : Value) (da : Option Addr) : Prop :=
  cls = .ref (S.cls e.c) ∧ match e.arg with
    | none => True
    | some x => ∃ (dd : Addr) (v : V), da = some dd ∧ H dd = some (.xd [(S.fld e.c, v)]) ∧ RV K H M v x
/-- what else is to hold at each state of the code -/
abbrev JT := L2.St → (Addr → Prop) → List Addr → Hs → Hp → Prop
structure JOk (S : Sc) (K : PySem.W.Frag) (J : JT) : Prop where
  step : ∀ {σ : L2.St} {Z : Addr → Prop} {η η' : List Addr} {h h' : Hs} {H H' : Hp}, HR S K Z η h H → FR0 η h H η' h' H' → J σ Z η h H → J σ Z η' h' H'
def JSet (J : JT) (i : Nat) : Prop := ∀ {σ : L2.St} {Z : Addr → Prop} {η : List Addr} {h : Hs} {H : Hp} {v : Option V}, J σ Z η h H → J (σ.set i v) Z η h H
/-- the state -/
structure At (S : Sc) (K : PySem.W.Frag) (J : JT) (σ : L2.St) (H : Hp) (Z : Addr → Prop) (η : List Addr) (ρ : En) (h : Hs) : Prop where
  hr : HR S K Z η h H
  sr : SR K H (MM Z η h) η σ ρ
  jj : J σ Z η h H
def KG {α : Type} (S : Sc) (K : PySem.W.Frag) (J : JT) (W : WX) (Z : Addr → Prop) (η : List Addr) (h : Hs) (H : Hp) (P : α → Hs → List Addr → Hp → Prop) : Re α → Prop
  | .ok a h' => ∀ η' H', FR η h H η' h' H' → HR S K Z η' h' H' → P a h' η' H'
  | .ex e h' => ∀ η' H' cls da σ, FR η h H η' h' H' → HR S K Z η' h' H' → J σ Z η' h' H' → RX S K H' (MM Z η' h') e cls da → W cls da σ H'
  | .no => False
section
variable {S : Sc} {K : PySem.W.Frag} {J : JT} {W : WX} {σ : L2.St} {Z : Addr → Prop} {η η' : List Addr} {ρ : En} {h h' : Hs} {H H' : Hp}
theorem At.step (jo : JOk S K J) (A : At S K J σ H Z η ρ h) (f : FR η h H η' h' H') (R : HR S K Z η' h' H') : At S K J σ H' Z η' ρ h' := ⟨R, f.sr A.hr A.sr, jo.step A.hr f.toFR0 A.jj⟩
theorem KG.step {α : Type} {P : α → Hs → List Addr → Hp → Prop} {r : Re α} (k : KG S K J W Z η h H P r) (f : FR η h H η' h' H') (R : HR S K Z η h H) : KG S K J W Z η' h' H' P r := by
  cases r with
  | ok a h2 => exact fun η2 H2 f2 R2 => k η2 H2 (f.trans f2 R) R2
  | ex e h2 => exact fun η2 H2 cls da σ f2 R2 j x => k η2 H2 cls da σ (f.trans f2 R) R2 j x
  | no => exact k
theorem KG.bind {α β : Type} {P : β → Hs → List Addr → Hp → Prop} {P2 : α → Hs → List Addr → Hp → Prop} {r : Re α} {k : α → Hs → Re β} (R : HR S K Z η h H) (q : KG S K J W Z η h H P (r.then k))
    (f : ∀ a h1 η1 H1, FR η h H η1 h1 H1 → HR S K Z η1 h1 H1 → KG S K J W Z η1 h1 H1 P (k a h1) → P2 a h1 η1 H1) : KG S K J W Z η h H P2 r := by
  cases r with
  | ok a h2 => exact fun η2 H2 f2 R2 => f a h2 η2 H2 f2 R2 (KG.step (r := k a h2) q f2 R)
  | ex e h2 => exact q
  | no => exact q
theorem KG.mono {α : Type} {P P2 : α → Hs → List Addr → Hp → Prop} {r : Re α} (k : KG S K J W Z η h H P r) (f : ∀ a h2 η2 H2, P a h2 η2 H2 → P2 a h2 η2 H2) : KG S K J W Z η h H P2 r := by
  cases r with
  | ok a h2 => exact fun η2 H2 f2 R2 => f a h2 η2 H2 (k η2 H2 f2 R2)
  | ex e h2 => exact k
  | no => exact k
/-- .. keeping where it began -/
theorem KG.bind0 {α β : Type} {η1 : List Addr} {h1 : Hs} {H1 : Hp} {P : β → Hs → List Addr → Hp → Prop} {P2 : α → Hs → List Addr → Hp → Prop} {r : Re α} {k : α → Hs → Re β} (R : HR S K Z η h H) (q : KG S K J W Z η h H P (r.then k)) (F : FR η h H η1 h1 H1)
    (f : ∀ a h2 η2 H2, FR η1 h1 H1 η2 h2 H2 → HR S K Z η2 h2 H2 → KG S K J W Z η h H P (k a h2) → P2 a h2 η2 H2) : KG S K J W Z η1 h1 H1 P2 r := by
  cases r with
  | ok a h2 => exact fun η2 H2 f2 R2 => f a h2 η2 H2 f2 R2 q
  | ex e h2 => exact fun η2 H2 cls da σ f2 R2 j x => q η2 H2 cls da σ (F.trans f2 R) R2 j x
  | no => exact q
theorem KG.ok {α : Type} {P : α → Hs → List Addr → Hp → Prop} {a : α} (R : HR S K Z η h H) (k : KG S K J W Z η h H P (.ok a h)) : P a h η H := k η H FR.refl R
end
/-- the reading of an expression, by its meaning -/
def VP (K : PySem.W.Frag) (Z : Addr → Prop) (Q : VK) (w : EV.W) (h : Hs) (η : List Addr) (H : Hp) : Prop := ∀ v, RW K H (MM Z η h) η v w → Q v H
def LP (K : PySem.W.Frag) (Z : Addr → Prop) (Q : List V → Hp → Prop) (ws : List EV.W) (h : Hs) (η : List Addr) (H : Hp) : Prop := ∀ vs, RWs K H (MM Z η h) η vs ws → Q vs H
def tE (S : Sc) (K : PySem.W.Frag) (J : JT) (W : WX) (m : En → Hs → Re EV.W) : TE := fun σ H Q => ∃ Z η ρ h, At S K J σ H Z η ρ h ∧ KG S K J W Z η h H (VP K Z Q) (m ρ h)
def tL (S : Sc) (K : PySem.W.Frag) (J : JT) (W : WX) (m : En → Hs → Re (List EV.W)) : TA := fun σ H Q => ∃ Z η ρ h, At S K J σ H Z η ρ h ∧ KG S K J W Z η h H (LP K Z Q) (m ρ h)
/-- a test -/
def BP (Q : Bool → Hp → Prop) (w : EV.W) (h : Hs) (η : List Addr) (H : Hp) : Prop := ∃ b, w = .d (.bool b) ∧ Q b H
def tT (S : Sc) (K : PySem.W.Frag) (J : JT) (W : WX) (m : En → Hs → Re EV.W) : TT := fun σ H Q => ∃ Z η ρ h, At S K J σ H Z η ρ h ∧ KG S K J W Z η h H (BP Q) (m ρ h)
section
variable {X : Cx}
theorem PE.conseq {e : Expr} {t t' : TE} (p : PE X e t) (h : ∀ σ H Q, t' σ H Q → t σ H Q) : PE X e t' := ⟨fun pins s σ H Q I q => p.run pins s σ H Q I (h σ H Q q)⟩
theorem PT.conseq {e : Expr} {t t' : TT} (p : PT X e t) (h : ∀ σ H Q, t' σ H Q → t σ H Q) : PT X e t' := ⟨fun pins s σ H Q I q => p.run pins s σ H Q I (h σ H Q q)⟩
theorem PA.conseq {e : List Expr} {t t' : TA} (p : PA X e t) (h : ∀ σ H Q, t' σ H Q → t σ H Q) : PA X e t' := ⟨fun pos pins s σ H Q I q => p.run pos pins s σ H Q I (h σ H Q q)⟩
theorem PS.conseq {e : Stmt} {t t' : TS} (p : PS X e t) (h : ∀ D σ H, t' D σ H → t D σ H) : PS X e t' := ⟨fun pins s σ H D I q => p.run pins s σ H D I (h D σ H q)⟩
theorem PSs.conseq {e : List Stmt} {t t' : TS} (p : PSs X e t) (h : ∀ D σ H, t' D σ H → t D σ H) : PSs X e t' := ⟨fun pins s σ H D I q => p.run pins s σ H D I (h D σ H q)⟩
variable {S : Sc} {J : JT} {W : WX} {C : Cv}
abbrev SPE (S : Sc) (X : Cx) (J : JT) (W : WX) (C : Cv) (e : Expr) (m : SE) : Prop := PE X e (tE S X.K J W (m C))
abbrev SPA (S : Sc) (X : Cx) (J : JT) (W : WX) (C : Cv) (e : List Expr) (m : SL) : Prop := PA X e (tL S X.K J W (m C))
abbrev SPT (S : Sc) (X : Cx) (J : JT) (W : WX) (C : Cv) (e : Expr) (m : SE) : Prop := PT X e (tT S X.K J W (m C))
/-- a result in hand -/
theorem KG.give {Z : Addr → Prop} {η : List Addr} {h : Hs} {H : Hp} {Q : VK} {w : EV.W} {v : V} (R : HR S X.K Z η h H) (k : KG S X.K J W Z η h H (VP X.K Z Q) (.ok w h)) (r : RW X.K H (MM Z η h) η v w) : Q v H := KG.ok R k v r
theorem KG.giveD {Z : Addr → Prop} {η : List Addr} {h : Hs} {H : Hp} {Q : VK} {o : Option D} (R : HR S X.K Z η h H) (k : KG S X.K J W Z η h H (VP X.K Z Q) (okD h o)) : ∃ x, o = some x ∧ ∀ v, RV X.K H (MM Z η h) v x → Q v H := by
  cases o with
  | none => exact k.elim
  | some x => exact ⟨x, rfl, fun v r => KG.give R k r⟩
theorem KG.giveB {Z : Addr → Prop} {η : List Addr} {h : Hs} {H : Hp} {Q : VK} {o : Option Bool} (R : HR S X.K Z η h H) (k : KG S X.K J W Z η h H (VP X.K Z Q) (okB h o)) : ∃ b, o = some b ∧ Q (.bl b) H := by
  cases o with
  | none => exact k.elim
  | some b => exact ⟨b, rfl, KG.give R k (RV.bl b)⟩

/-! ### names, constants -/
theorem s_slot {i : Nat} {x : Str} {pos : Pos} (hN : X.N[i]? = some x) (hv : Vis X.env.scope x) (hd : (x == ("__debug__" : Str)) = false) (hc : (x == ("__classdict__" : Str)) = false) : SPE S X J W C (.Name x pos) (cSlot i) :=
  PE.conseq (pe_var hN hv hd hc) fun σ H Q ⟨Z, η, ρ, h, A, k⟩ => by
    unfold cSlot at k
    rw [nth_eq] at k
    cases e : ρ[i]? with
    | none => rw [e] at k; exact k.elim
    | some o =>
      cases o with
      | none => rw [e] at k; exact k.elim
      | some w =>
        rw [e] at k
        obtain ⟨v, q, r⟩ := A.sr.2 i w e
        exact ⟨v, q, KG.give A.hr k r⟩
def conV : PySem.Const → Option D
  | .none => some .none
  | .bool b => some (.bool b)
  | .int i => some (.int i)
  | .str x => if PyData.strOk x && Nat.ble x.length lim then some (.str x) else none
  | _ => none
theorem s_con {c : PySem.Const} {x : D} {k : Nat} {pos : Pos} (hc : conV c = some x) : SPE S X J W C (.Constant c k pos) (cCon x) := by
  cases c with
  | none =>
    simp only [conV, Option.some.injEq] at hc
    subst hc
    exact PE.conseq pe_non fun σ H Q ⟨Z, η, ρ, h, A, k⟩ => KG.give A.hr k RV.non
  | bool b =>
    simp only [conV, Option.some.injEq] at hc
    subst hc
    exact PE.conseq pe_bl fun σ H Q ⟨Z, η, ρ, h, A, k⟩ => KG.give A.hr k (RV.bl b)
  | int i =>
    simp only [conV, Option.some.injEq] at hc
    subst hc
    exact PE.conseq pe_int fun σ H Q ⟨Z, η, ρ, h, A, k⟩ => KG.give A.hr k (RV.int i)
  | str y =>
    simp only [conV] at hc
    split at hc
    · rename_i g
      simp only [Option.some.injEq] at hc
      subst hc
      rw [Bool.and_eq_true, Nat.ble_eq] at g
      exact PE.conseq pe_str fun σ H Q ⟨Z, η, ρ, h, A, k⟩ => KG.give A.hr k (RV.str y g.1 (by rw [sizeLine_eq]; exact g.2))
    · cases hc
  | _ => cases hc

/-! ### operations on plain data -/
/-- an operation of two places, by values, that gives what f tells -/
def Op2 (X : Cx) (S : Sc) (op : Value → Value → Sem Value) (f : D → D → Option D) : Prop :=
  OpR X op (fun v u H Q => ∃ Z η h x y z, HR S X.K Z η h H ∧ RV X.K H (MM Z η h) v x ∧ RV X.K H (MM Z η h) u y ∧ f x y = some z ∧
    ∀ H' w, FR η h H η h H' → HR S X.K Z η h H' → RV X.K H' (MM Z η h) w z → Q w H')
theorem s_bin {op : Operator} {a b : Expr} {ma mb : SE} {f : D → D → Option D} {pos : Pos} (jo : JOk S X.K J) (ho : Op2 X S (binaryOp op) f) (ha : SPE S X J W C a ma) (hb : SPE S X J W C b mb) : SPE S X J W C (.BinOp a op b pos) (c2 ma mb f) :=
  PE.conseq (pe_op ho ha hb) fun σ H Q ⟨Z, η, ρ, h, A, k⟩ => ⟨Z, η, ρ, h, A, k.bind A.hr fun w h1 η1 H1 f1 R1 k1 v r1 => ⟨Z, η1, ρ, h1, A.step jo f1 R1, k1.bind R1 fun w2 h2 η2 H2 f2 R2 k2 v2 r2 => by
    have r1' := f2.rw R1 r1
    cases w with
    | r n => exact k2.elim
    | d x =>
      cases w2 with
      | r n => exact k2.elim
      | d y =>
        obtain ⟨z, e, q⟩ := KG.giveD (o := f x y) R2 k2
        refine ⟨Z, η2, h2, x, y, z, R2, r1', r2, e, fun H' w f3 R3 r3 => ?_⟩
        have k3 : KG S X.K J W Z η2 h2 H' (VP X.K Z Q) (okD h2 (some z)) := by
          have k2' : KG S X.K J W Z η2 h2 H2 (VP X.K Z Q) (okD h2 (f x y)) := k2
          rw [e] at k2'
          exact KG.step k2' f3 R2
        exact KG.give R3 k3 r3⟩⟩
end
end EV
end

section
set_option Elab.async false
set_option linter.all false
set_option maxRecDepth 100000
namespace EV
open PySem L2
/-! ### the orders -/
def Oop.cmp : Oop → CmpOp
  | .lt => .Lt
  | .gt => .Gt
  | .le => .LtE
  | .ge => .GtE
def zN : Oop → Nat → Nat → Bool
  | .lt, a, b => decide (a < b)
  | .gt, a, b => decide (b < a)
  | .le, a, b => decide (a ≤ b)
  | .ge, a, b => decide (b ≤ a)
def eL (xs ys : List D) (j : Nat) : Bool := match xs[j]?, ys[j]? with
  | some x, some y => PyData.eqv x y
  | _, _ => false
def rL (o : Oop) (xs ys : List D) (j : Nat) : Bool := match xs[j]?, ys[j]? with
  | some x, some y => (ordE o x y).getD false
  | _, _ => false
theorem leqN_iff : ∀ a b : List Nat, leqN a b = decide (a = b)
  | [], [] => by simp [leqN]
  | [], b :: bs => by simp [leqN]
  | a :: as, [] => by simp [leqN]
  | a :: as, b :: bs => by
    rw [leqN, leqN_iff as bs, Bool.eq_iff_iff]
    simp
theorem seq_iff (x y : Str) : seq x y = (x == y) := by
  unfold seq
  rw [leqN_iff, Bool.eq_iff_iff]
  obtain ⟨a⟩ := x
  obtain ⟨b⟩ := y
  simp [Array.toList_inj]
theorem eqE_some {x y : D} {b : Bool} (h : eqE x y = some b) : b = PyData.eqv x y ∧ x.depth ≤ 64 ∧ y.depth ≤ 64 := by
  have slow : (if dle 64 x && dle 64 y then some (PyData.eqv x y) else none) = some b → b = PyData.eqv x y ∧ x.depth ≤ 64 ∧ y.depth ≤ 64 := fun h => by
    split at h
    · rename_i g
      rw [Bool.and_eq_true] at g
      exact ⟨(Option.some.inj h).symm, dle_depth _ _ g.1, dle_depth _ _ g.2⟩
    · cases h
  unfold eqE at h
  split at h
  · rw [← Option.some.inj h, ieq_iff]
    refine ⟨?_, by simp [PyData.depth], by simp [PyData.depth]⟩
    rfl
  · rw [← Option.some.inj h]
    exact ⟨rfl, by simp [PyData.depth], by simp [PyData.depth]⟩
  · rw [← Option.some.inj h, seq_iff]
    exact ⟨rfl, by simp [PyData.depth], by simp [PyData.depth]⟩
  · exact slow h
theorem lexAt_shift (x y : D) (xs ys : List D) (o : Oop) (z : Bool) : ∀ (k i : Nat), Ob.lexAt (eL (x :: xs) (y :: ys)) (rL o (x :: xs) (y :: ys)) z (i + 1) k = Ob.lexAt (eL xs ys) (rL o xs ys) z i k
  | 0, i => rfl
  | k + 1, i => by
    rw [Ob.lexAt_succ, Ob.lexAt_succ, lexAt_shift x y xs ys o z k (i + 1)]
    have e1 : eL (x :: xs) (y :: ys) (i + 1) = eL xs ys i := by simp [eL]
    have e2 : rL o (x :: xs) (y :: ys) (i + 1) = rL o xs ys i := by simp [rL]
    rw [e1, e2]
theorem ordAll_lex (o : Oop) : ∀ (xs ys : List D) (b : Bool), ordAll o xs ys = some b → Ob.lexAt (eL xs ys) (rL o xs ys) (zN o xs.length ys.length) 0 (min xs.length ys.length) = b
  | [], [], b, h => by
    simp [ordAll] at h
    rw [← h]
    cases o <;> simp [Ob.lexAt, zN, ordZ]
  | [], y :: ys, b, h => by
    simp [ordAll] at h
    rw [← h]
    cases o <;> simp [Ob.lexAt, zN, ordZ]
  | x :: xs, [], b, h => by
    simp [ordAll] at h
    rw [← h]
    cases o <;> simp [Ob.lexAt, zN, ordZ]
  | x :: xs, y :: ys, b, h => by
    have hm : min (x :: xs).length (y :: ys).length = min xs.length ys.length + 1 := by simp
    have hz : zN o (x :: xs).length (y :: ys).length = zN o xs.length ys.length := by cases o <;> simp [zN]
    rw [hm, hz, Ob.lexAt_succ, lexAt_shift]
    have e1 : eL (x :: xs) (y :: ys) 0 = PyData.eqv x y := by simp [eL]
    have e2 : rL o (x :: xs) (y :: ys) 0 = (ordE o x y).getD false := by simp [rL]
    rw [e1, e2]
    simp only [ordAll] at h
    cases c : eqE x y with
    | none => rw [c] at h; cases h
    | some q =>
      obtain ⟨hq, _⟩ := eqE_some c
      rw [c] at h
      cases q with
      | true =>
        rw [← hq, if_pos rfl]
        exact ordAll_lex o xs ys b h
      | false =>
        rw [← hq, if_neg (by simp)]
        have h' : (if okAll o xs ys then ordE o x y else none) = some b := h
        split at h'
        · rw [h']
          rfl
        · cases h'
theorem ltN_iff : ∀ a b : List Nat, ltN a b = decide (a < b)
  | [], [] => by simp [ltN]
  | [], b :: bs => by simp [ltN]
  | a :: as, [] => by simp [ltN]
  | a :: as, b :: bs => by
    simp only [ltN]
    rw [ltN_iff as bs, Bool.eq_iff_iff]
    by_cases e : a = b
    · subst e
      simp [Nat.beq_refl]
    · have e1 : Nat.beq a b = false := by
        rw [Bool.eq_false_iff]
        intro q
        exact e (Nat.eq_of_beq_eq_true q)
      rw [e1]
      simp only [Bool.false_eq_true, if_false, Bool.not_eq_true', decide_eq_true_eq]
      rw [List.cons_lt_cons_iff]
      constructor
      · intro q
        refine .inl ?_
        rw [← Bool.not_eq_true, Nat.ble_eq] at q
        omega
      · intro q
        rw [← Bool.not_eq_true, Nat.ble_eq]
        rcases q with q | q
        · omega
        · exact absurd q.1 e

theorem rd_get {h : Heap} : ∀ {vs : List Value} {xs : List D} {as : List Addr}, ReadsAll h vs xs as → vs.length = xs.length ∧ ∀ (j : Nat) (v : Value), vs[j]? = some v → ∃ x bs, xs[j]? = some x ∧ Reads h v x bs
  | _, _, _, .nil => ⟨rfl, fun j v e => by simp at e⟩
  | _, _, _, .cons r s => by
    obtain ⟨a, b⟩ := rd_get s
    refine ⟨by simp [a], fun j v e => ?_⟩
    cases j with
    | zero =>
      simp at e
      subst e
      exact ⟨_, _, rfl, r⟩
    | succ j =>
      obtain ⟨x, bs, e1, e2⟩ := b j v (by simpa using e)
      exact ⟨x, bs, by simpa using e1, e2⟩
theorem layAll_get : ∀ {xs : List D} {j : Nat} {x : D}, PyData.canLayAll0 xs = true → xs[j]? = some x → x.canLay0 = true ∧ x.depth ≤ PyData.depthAll xs
  | [], _, _, _, e => by simp at e
  | x :: xs, 0, y, h, e => by
    simp at e
    subst e
    have h2 : x.canLay0 = true ∧ PyData.canLayAll0 xs = true := by simpa [PyData.canLayAll0] using h
    exact ⟨h2.1, by simp only [PyData.depthAll]; omega⟩
  | x :: xs, j + 1, y, h, e => by
    have h2 : x.canLay0 = true ∧ PyData.canLayAll0 xs = true := by simpa [PyData.canLayAll0] using h
    have z := layAll_get (j := j) h2.2 (by simpa using e)
    exact ⟨z.1, by simp only [PyData.depthAll]; omega⟩
theorem okAll_get (o : Oop) : ∀ (xs ys : List D), okAll o xs ys = true → ∀ (j : Nat) (x y : D), xs[j]? = some x → ys[j]? = some y → PyData.eqv x y = true ∨ ordE o x y ≠ none
  | [], _, _, j, x, y, e, _ => by simp at e
  | _ :: _, [], _, j, x, y, _, e => by simp at e
  | a :: xs, c :: ys, h, j, x, y, e, f => by
    have hh : okAll o xs ys = true ∧ (PyData.eqv a c = true ∨ ordE o a c ≠ none) := by
      rw [okAll] at h
      split at h
      · rename_i q hq
        exact ⟨h, .inr (by rw [hq]; simp)⟩
      · split at h
        · rename_i q
          exact ⟨h, .inl (eqE_some q).1.symm⟩
        · cases h
    cases j with
    | zero =>
      simp at e f
      subst e
      subst f
      exact hh.2
    | succ j => exact okAll_get o xs ys hh.1 j x y (by simpa using e) (by simpa using f)
theorem ordAll_get (o : Oop) : ∀ (xs ys : List D) (b : Bool), ordAll o xs ys = some b → ∀ (j : Nat) (x y : D), xs[j]? = some x → ys[j]? = some y → PyData.eqv x y = true ∨ ordE o x y ≠ none
  | [], _, _, _, j, x, y, e, _ => by simp at e
  | _ :: _, [], _, _, j, x, y, _, e => by simp at e
  | a :: xs, c :: ys, b, h, j, x, y, e, f => by
    simp only [ordAll] at h
    cases q : eqE a c with
    | none => rw [q] at h; cases h
    | some z =>
      have hz := (eqE_some q).1
      rw [q] at h
      cases z with
      | true =>
        cases j with
        | zero =>
          simp at e f
          subst e
          subst f
          exact .inl hz.symm
        | succ j => exact ordAll_get o xs ys b h j x y (by simpa using e) (by simpa using f)
      | false =>
        have h' : (if okAll o xs ys then ordE o a c else none) = some b := h
        split at h'
        · rename_i ok
          cases j with
          | zero =>
            simp at e f
            subst e
            subst f
            exact .inr (by rw [h']; simp)
          | succ j => exact okAll_get o xs ys ok j x y (by simpa using e) (by simpa using f)
        · cases h'
theorem rc_ord (o : Oop) : ∀ (n : Nat) (x y : D) (A : Around) (s : Shared) (u v : Value) (as bs : List Addr) (b : Bool), x.depth ≤ n → Reads s.heap u x as → Reads s.heap v y bs → x.canLay0 = true → y.canLay0 = true →
    A.units + n < cLine → ordE o x y = some b → Ob.RcOp o.cmp A s u v b := by
  intro n
  have flat : ∀ (x y : D) (A : Around) (s : Shared) (u v : Value) (as bs : List Addr) (b : Bool), x.depth ≤ 0 → Reads s.heap u x as → Reads s.heap v y bs → ordE o x y = some b → Ob.RcOp o.cmp A s u v b := by
    intro x y A s u v as bs b hx ru rv h
    cases ru with
    | int i t =>
      cases rv with
      | int j t' =>
        simp only [ordE, Option.some.injEq] at h
        subst h
        cases o
        · show Ob.RcOp .Lt A s _ _ (ilt i j)
          rw [ilt_iff]
          exact Ob.RcOp.lt_int i j t t'
        · show Ob.RcOp .Gt A s _ _ (ilt j i)
          rw [ilt_iff]
          exact Ob.RcOp.gt_int i j t t'
        · show Ob.RcOp .LtE A s _ _ (ile i j)
          rw [ile_iff]
          exact Ob.RcOp.le_int i j t t'
        · show Ob.RcOp .GtE A s _ _ (ile j i)
          rw [ile_iff]
          exact Ob.RcOp.ge_int i j t t'
      | _ => cases o <;> simp [ordE] at h
    | str i t =>
      cases rv with
      | str j t' =>
        cases o
        · simp only [ordE, Option.some.injEq] at h
          subst h
          intro prog w E Q q
          rw [ltN_iff] at q
          exact PyProof.Rows.lt_str q
        · simp [ordE] at h
        · simp [ordE] at h
        · simp [ordE] at h
      | _ => cases o <;> simp [ordE] at h
    | tuple => simp [PyData.depth] at hx
    | list => cases o <;> cases rv <;> simp [ordE] at h
    | dict => cases o <;> cases rv <;> simp [ordE] at h
    | none => cases o <;> cases rv <;> simp [ordE] at h
    | bool => cases o <;> cases rv <;> simp [ordE] at h
  induction n with
  | zero =>
    intro x y A s u v as bs b hx ru rv _ _ _ h
    exact flat x y A s u v as bs b hx ru rv h
  | succ n ih =>
    intro x y A s u v as bs b hx ru rv lx ly hu h
    by_cases ht : ∃ xs, x = .tuple xs
    · obtain ⟨xs, rfl⟩ := ht
      cases ru with
      | @tuple l ob vs k xs as₁ h1 h2 h3 h4 =>
        cases rv with
        | @tuple l' ob' vs' k' ys bs₁ k1 k2 k3 k4 =>
          have hl : s.heap.IsTuple l vs := ⟨_, h1, h2, _, h3⟩
          have hl' : s.heap.IsTuple l' vs' := ⟨_, k1, k2, _, k3⟩
          have hs : ordAll o xs ys = some b := by cases o <;> simpa [ordE] using h
          have n1 : vs.size = xs.length := by simpa using (rd_get h4).1
          have n2 : vs'.size = ys.length := by simpa using (rd_get k4).1
          have lxs : PyData.canLayAll0 xs = true := by simpa [PyData.canLay0] using lx
          have lys : PyData.canLayAll0 ys = true := by simpa [PyData.canLay0] using ly
          have hd : PyData.depthAll xs ≤ n := by simp only [PyData.depth] at hx; omega
          have hA : A.in1.units = A.units + 1 := rfl
          have item : ∀ (j : Nat) (j1 : j < vs.size) (j2 : j < vs'.size), ∃ x y bx bY, xs[j]? = some x ∧ ys[j]? = some y ∧ Reads s.heap vs[j] x bx ∧ Reads s.heap vs'[j] y bY := fun j j1 j2 => by
            obtain ⟨x, bx, e1, r1⟩ := (rd_get h4).2 j vs[j] (by simp [j1])
            obtain ⟨y, bY, e2, r2⟩ := (rd_get k4).2 j vs'[j] (by simp [j2])
            exact ⟨x, y, bx, bY, e1, e2, r1, r2⟩
          have he : ∀ (j : Nat) (j1 : j < vs.size) (j2 : j < vs'.size), SeqAt.EqAt A.in1 s vs[j] vs'[j] (eL xs ys j) := fun j j1 j2 => by
            obtain ⟨x, y, bx, bY, e1, e2, r1, r2⟩ := item j j1 j2
            have z1 := layAll_get lxs e1
            have z2 := layAll_get lys e2
            unfold eL
            rw [e1, e2]
            exact SeqAt.eqAt_reads x y A.in1 s _ _ _ _ r1 r2 z1.1 z2.1 (by rw [hA]; omega)
          have hr : ∀ (j : Nat) (j1 : j < vs.size) (j2 : j < vs'.size), eL xs ys j = false → Ob.RcOp o.cmp A.in1 s vs[j] vs'[j] (rL o xs ys j) := fun j j1 j2 hne => by
            obtain ⟨x, y, bx, bY, e1, e2, r1, r2⟩ := item j j1 j2
            have z1 := layAll_get lxs e1
            have z2 := layAll_get lys e2
            have hne : ordE o x y ≠ none := by
              rcases ordAll_get o xs ys b hs j x y e1 e2 with q | q
              · unfold eL at hne
                rw [e1, e2] at hne
                simp only [q] at hne
                cases hne
              · exact q
            unfold rL
            rw [e1, e2]
            obtain ⟨q, hq⟩ := Option.ne_none_iff_exists'.mp hne
            simp only [hq, Option.getD_some]
            exact ih x y A.in1 s _ _ _ _ q (by omega) r1 r2 z1.1 z2.1 (by rw [hA]; omega) hq
          have hlex := ordAll_lex o xs ys b hs
          rw [← hlex, ← n1, ← n2]
          cases o
          · exact Ob.RcOp.tuples_lt hl hl' (by omega) he hr
          · exact Ob.RcOp.tuples_gt hl hl' (by omega) he hr
          · exact Ob.RcOp.tuples_le hl hl' (by omega) he hr
          · exact Ob.RcOp.tuples_ge hl hl' (by omega) he hr
        | _ => cases o <;> simp [ordE] at h
    · cases x with
      | tuple xs => exact absurd ⟨xs, rfl⟩ ht
      | list xs => cases o <;> cases y <;> simp [ordE] at h
      | dict xs => cases o <;> cases y <;> simp [ordE] at h
      | _ => exact flat _ y A s u v as bs b (by simp [PyData.depth]) ru rv h
end EV
end

section
set_option Elab.async false
set_option linter.all false
set_option maxRecDepth 100000
namespace EV
open PySem L2
def Cop.op : Cop → CmpOp
  | .eq => .Eq
  | .ne => .NotEq
  | .lt => .Lt
  | .le => .LtE
  | .gt => .Gt
  | .ge => .GtE
  | .is_ => .Is
  | .isn => .IsNot
  | .in_ => .In
  | .nin => .NotIn
def isBox : D → Bool
  | .list _ => true
  | .tuple _ => true
  | .dict _ => true
  | _ => false
/-- plain data for a comparison: where a dict is within, all that is known is that it is an object -/
def DL (K : PySem.W.Frag) (H : Hp) (v : V) (x : D) : Prop := (noD x = true → Dp K H v x ∧ x.canLay0 = true) ∧ (isBox x = true → ∃ a, v = .ref a)
theorem RV.dl {K : PySem.W.Frag} {H : Hp} {M : Addr → Prop} {v : V} {x : D} (r : RV K H M v x) : DL K H v x := ⟨fun n => ⟨r.dp n, r.lay n⟩, fun b => by
  cases r with
  | lst _ _ _ => exact ⟨_, rfl⟩
  | kls _ _ => exact ⟨_, rfl⟩
  | tup _ _ => exact ⟨_, rfl⟩
  | dct _ => exact ⟨_, rfl⟩
  | _ => cases b⟩
def CmpV (X : Cx) (op : CmpOp) (f : D → D → Option Bool) : Prop :=
  OpR X (compareOp op) (fun v u H Q => ∃ x y b, DL X.K H v x ∧ DL X.K H u y ∧ f x y = some b ∧ Q (.bl b) H)
theorem shaped_of {x : D} (l : x.canLay0 = true) (d : x.depth ≤ 64) : SeqAt.shaped x = true := by
  unfold SeqAt.shaped
  rw [l, decide_eq_true d]
  rfl
theorem anyEq_some {x : D} : ∀ {ys : List D} {b : Bool}, anyEq x ys = some b → b = ys.any fun y => PyData.eqv y x
  | [], b, h => by
    simp [anyEq] at h
    simp [← h]
  | y :: ys, b, h => by
    simp only [anyEq] at h
    cases q : eqE y x with
    | none => rw [q] at h; cases h
    | some z =>
      rw [q] at h
      cases r : anyEq x ys with
      | none => rw [r] at h; cases h
      | some t =>
        rw [r] at h
        have h2 : (z || t) = b := Option.some.inj h
        rw [← h2, (eqE_some q).1, anyEq_some r]
        simp
theorem anySign_iff (c : Nat) : ∀ l : List Nat, anySign c l = decide (c ∈ l)
  | [] => by simp [anySign]
  | d :: r => by
    rw [anySign, anySign_iff c r, Bool.eq_iff_iff]
    simp only [Bool.or_eq_true, Nat.beq_eq, decide_eq_true_eq, List.mem_cons]
    constructor
    · rintro (q | q)
      · exact .inl q.symm
      · exact .inr q
    · rintro (q | q)
      · exact .inl q.symm
      · exact .inr q
section
variable {X : Cx}
theorem ord_ok (hu : X.A.units + 200 < cLine) (o : Oop) : CmpV X o.cmp (ordT o) := by
  intro pins s σ H v u v' u' Q I rv ru h
  obtain ⟨x, y, b, hx0, hy0, e, q⟩ := h
  have e3 : noD x = true ∧ noD y = true ∧ x.depth ≤ 64 ∧ ordE o x y = some b := by
    unfold ordT at e
    split at e
    · exact ⟨rfl, rfl, by simp [PyData.depth], by cases o <;> simpa [ordE] using e⟩
    · split at e
      · rename_i g
        rw [Bool.and_eq_true] at g
        exact ⟨dle_noD _ _ g.1, dle_noD _ _ g.2, dle_depth _ _ g.1, e⟩
      · cases e
  obtain ⟨n1, n2, e2⟩ := e3
  obtain ⟨hx, lx⟩ := hx0.1 n1
  obtain ⟨hy, ly⟩ := hy0.1 n2
  obtain ⟨as, r1⟩ := Dp.reads I x v v' hx rv
  obtain ⟨bs, r2⟩ := Dp.reads I y u u' hy ru
  have key := rc_ord o 64 x y X.A s v' u' as bs b e2.1 r1 r2 lx ly (by omega) e2.2
  have k2 := key X.prog X.w X.xe (EP X pins σ Q) ⟨.bl b, H, I, rfl, q⟩
  cases o
  · exact k2
  · exact k2
  · exact k2
  · exact k2
theorem eqE_noD {x y : D} {b : Bool} (e : eqE x y = some b) : noD x = true ∧ noD y = true := by
  unfold eqE at e
  split at e
  · exact ⟨rfl, rfl⟩
  · exact ⟨rfl, rfl⟩
  · exact ⟨rfl, rfl⟩
  · split at e
    · rename_i g
      rw [Bool.and_eq_true] at g
      exact ⟨dle_noD _ _ g.1, dle_noD _ _ g.2⟩
    · cases e
theorem eq_ok (hu : X.A.units + 200 < cLine) : CmpV X .Eq eqE := by
  intro pins s σ H v u v' u' Q I rv ru h
  obtain ⟨x, y, b, hx0, hy0, e, q⟩ := h
  obtain ⟨hx, lx⟩ := hx0.1 (eqE_noD e).1
  obtain ⟨hy, ly⟩ := hy0.1 (eqE_noD e).2
  obtain ⟨as, r1⟩ := Dp.reads I x v v' hx rv
  obtain ⟨bs, r2⟩ := Dp.reads I y u u' hy ru
  obtain ⟨eb, d1, d2⟩ := eqE_some e
  subst eb
  exact SeqAt.compareEq_shaped r1 r2 (shaped_of lx d1) (shaped_of ly d2) (by omega) ⟨.bl _, H, I, rfl, q⟩
theorem ne_ok (hu : X.A.units + 200 < cLine) : CmpV X .NotEq (fun x y => (eqE x y).map not) := by
  intro pins s σ H v u v' u' Q I rv ru h
  obtain ⟨x, y, b, hx0, hy0, e, q⟩ := h
  have e : (eqE x y).map not = some b := e
  cases c : eqE x y with
  | none => rw [c] at e; cases e
  | some z =>
    obtain ⟨hx, lx⟩ := hx0.1 (eqE_noD c).1
    obtain ⟨hy, ly⟩ := hy0.1 (eqE_noD c).2
    obtain ⟨as, r1⟩ := Dp.reads I x v v' hx rv
    obtain ⟨bs, r2⟩ := Dp.reads I y u u' hy ru
    rw [c] at e
    have e' : (!z) = b := Option.some.inj e
    obtain ⟨eb, d1, d2⟩ := eqE_some c
    subst eb
    subst e'
    exact SeqAt.compareNe_shaped r1 r2 (shaped_of lx d1) (shaped_of ly d2) (by omega) ⟨.bl _, H, I, rfl, q⟩
theorem dp_non {K : PySem.W.Frag} {H : Hp} {v : V} {x : D} (d : Dp K H v x) : decide (v = .non) = (match x with | .none => true | _ => false) := by cases d <;> simp
theorem dl_non {K : PySem.W.Frag} {H : Hp} {v : V} {x : D} (d : DL K H v x) : decide (v = .non) = (match x with | .none => true | _ => false) := by
  cases x with
  | list xs => obtain ⟨a, rfl⟩ := d.2 rfl; simp
  | tuple xs => obtain ⟨a, rfl⟩ := d.2 rfl; simp
  | dict xs => obtain ⟨a, rfl⟩ := d.2 rfl; simp
  | none => exact dp_non (d.1 rfl).1
  | bool b => exact dp_non (d.1 rfl).1
  | int i => exact dp_non (d.1 rfl).1
  | str z => exact dp_non (d.1 rfl).1
theorem isE_bl {x y : D} {b : Bool} (hn : y ≠ .none) (e : isE x y = some b) : ∃ p r, x = .bool p ∧ y = .bool r ∧ (p == r) = b := by
  cases x <;> cases y <;> first | exact absurd rfl hn | (simp [isE] at e; done) | skip
  rename_i p r
  exact ⟨p, r, rfl, rfl, by simpa [isE] using e⟩
theorem is_ok : CmpV X .Is isE := by
  intro pins s σ H v u v' u' Q I rv ru h
  obtain ⟨x, y, b, hx, hy, e, q⟩ := h
  by_cases hn : y = .none
  · subst hn
    cases (hy.1 rfl).1
    refine op_isN pins s σ H v .non v' u' Q I rv ru ⟨rfl, ?_⟩
    rw [dl_non hx]
    cases x <;> (simp [isE] at e; subst e; exact q)
  · obtain ⟨p, r, rfl, rfl, e3⟩ := isE_bl hn e
    cases (hx.1 rfl).1
    cases (hy.1 rfl).1
    refine op_is_bl pins s σ H _ _ v' u' Q I rv ru ⟨p, r, rfl, rfl, ?_⟩
    rw [← Bool.beq_eq_decide_eq, e3]
    exact q
theorem isn_ok : CmpV X .IsNot (fun x y => (isE x y).map not) := by
  intro pins s σ H v u v' u' Q I rv ru h
  obtain ⟨x, y, b, hx, hy, e, q⟩ := h
  have e : (isE x y).map not = some b := e
  by_cases hn : y = .none
  · subst hn
    cases (hy.1 rfl).1
    refine op_notN pins s σ H v .non v' u' Q I rv ru ⟨rfl, ?_⟩
    rw [dl_non hx]
    cases x <;> (simp [isE] at e; subst e; exact q)
  · cases c : isE x y with
    | none => rw [c] at e; cases e
    | some t =>
      rw [c] at e
      have e4 : (!t) = b := Option.some.inj e
      obtain ⟨p, r, rfl, rfl, e3⟩ := isE_bl hn c
      cases (hx.1 rfl).1
      cases (hy.1 rfl).1
      refine op_isnot_bl pins s σ H _ _ v' u' Q I rv ru ⟨p, r, rfl, rfl, ?_⟩
      have e2 : (!decide (p = r)) = b := by
        rw [← Bool.beq_eq_decide_eq, e3]
        exact e4
      rw [e2]
      exact q
/-- in, not in: what is asked of a list or a tuple -/
theorem inE_seq {x : D} {ys : List D} {b : Bool} (h : (if dle 60 x && dleAll 60 ys then anyEq x ys else none) = some b) : x.depth ≤ 60 ∧ PyData.depthAll ys ≤ 60 ∧ noD x = true ∧ noDAll ys = true ∧ b = ys.any fun y => PyData.eqv y x := by
  split at h
  · rename_i g
    rw [Bool.and_eq_true] at g
    exact ⟨dle_depth _ _ g.1, dleAll_depth _ _ g.2, dle_noD _ _ g.1, dleAll_noD _ _ g.2, anyEq_some h⟩
  · cases h
theorem sign_of {x : Str} {c : Nat} (h : x.cps.toList = [c]) : x = ⟨#[c]⟩ := by
  obtain ⟨a⟩ := x
  have : a = #[c] := by
    apply Array.toList_inj.mp
    simpa using h
  rw [this]
theorem inE_cases {x y : D} {b : Bool} (h : inE x y = some b) : (∃ c p q, x = .str p ∧ y = .str q ∧ p = ⟨#[c]⟩ ∧ b = decide (c ∈ q.cps.toList)) ∨
    (∃ ys, (y = .list ys ∨ y = .tuple ys) ∧ x.depth ≤ 60 ∧ PyData.depthAll ys ≤ 60 ∧ noD x = true ∧ noDAll ys = true ∧ b = ys.any fun z => PyData.eqv z x) := by
  unfold inE at h
  split at h
  · rename_i p q
    split at h
    · rename_i c hc
      refine .inl ⟨c, p, q, rfl, rfl, sign_of hc, ?_⟩
      rw [← Option.some.inj h, anySign_iff]
    · cases h
  · exact .inr ⟨_, .inl rfl, inE_seq h⟩
  · exact .inr ⟨_, .inr rfl, inE_seq h⟩
  · cases h
theorem in_ok (hu : X.A.units + 200 < cLine) : CmpV X .In inE := by
  intro pins s σ H v u v' u' Q I rv ru h
  obtain ⟨x, y, b, hx0, hy0, e, q⟩ := h
  rcases inE_cases e with ⟨c, p, z, rfl, rfl, rfl, rfl⟩ | ⟨ys, hy2, d1, d2, n1, n2, rfl⟩
  · cases (hx0.1 rfl).1
    cases (hy0.1 rfl).1
    exact op_in_sign pins s σ H _ _ v' u' Q I rv ru ⟨c, z, rfl, rfl, q⟩
  · obtain ⟨hx, lx⟩ := hx0.1 n1
    obtain ⟨hy, ly⟩ := hy0.1 (by rcases hy2 with rfl | rfl <;> simpa [noD] using n2)
    obtain ⟨as, r1⟩ := Dp.reads I x v v' hx rv
    obtain ⟨bs, r2⟩ := Dp.reads I y u u' hy ru
    rcases hy2 with rfl | rfl
    · exact SeqAt.in_list_reads r2 r1 (by simpa [PyData.canLay0] using ly) lx (by omega) ⟨.bl _, H, I, rfl, q⟩
    · exact SeqAt.in_tuple_reads r2 r1 (by simpa [PyData.canLay0] using ly) lx (by omega) ⟨.bl _, H, I, rfl, q⟩
theorem nin_ok (hu : X.A.units + 200 < cLine) : CmpV X .NotIn (fun x y => (inE x y).map not) := by
  intro pins s σ H v u v' u' Q I rv ru h
  obtain ⟨x, y, b, hx0, hy0, e, q⟩ := h
  have e : (inE x y).map not = some b := e
  cases cc : inE x y with
  | none => rw [cc] at e; cases e
  | some t =>
    rw [cc] at e
    have e' : (!t) = b := Option.some.inj e
    rcases inE_cases cc with ⟨c, p, z, rfl, rfl, rfl, rfl⟩ | ⟨ys, hy2, d1, d2, n1, n2, rfl⟩
    · cases (hx0.1 rfl).1
      cases (hy0.1 rfl).1
      refine op_notIn_sign pins s σ H _ _ v' u' Q I rv ru ⟨c, z, rfl, rfl, ?_⟩
      subst e'
      exact q
    · obtain ⟨hx, lx⟩ := hx0.1 n1
      obtain ⟨hy, ly⟩ := hy0.1 (by rcases hy2 with rfl | rfl <;> simpa [noD] using n2)
      obtain ⟨as, r1⟩ := Dp.reads I x v v' hx rv
      obtain ⟨bs, r2⟩ := Dp.reads I y u u' hy ru
      subst e'
      rcases hy2 with rfl | rfl
      · exact SeqAt.notIn_list_reads r2 r1 (by simpa [PyData.canLay0] using ly) lx (by omega) ⟨.bl _, H, I, rfl, q⟩
      · exact SeqAt.notIn_tuple_reads r2 r1 (by simpa [PyData.canLay0] using ly) lx (by omega) ⟨.bl _, H, I, rfl, q⟩
theorem cmp_ok (hu : X.A.units + 200 < cLine) : ∀ o : Cop, CmpV X o.op (cmpE o)
  | .eq => eq_ok hu
  | .ne => ne_ok hu
  | .lt => ord_ok hu .lt
  | .gt => ord_ok hu .gt
  | .le => ord_ok hu .le
  | .ge => ord_ok hu .ge
  | .is_ => is_ok
  | .isn => isn_ok
  | .in_ => in_ok hu
  | .nin => nin_ok hu
end
end EV
end

section
set_option Elab.async false
set_option linter.all false
set_option maxRecDepth 100000
namespace EV
open PySem L2
section
variable {S : Sc} {K : PySem.W.Frag} {Z : Addr → Prop} {M : Addr → Prop} {η : List Addr} {h : Hs} {H : Hp} {σ : L2.St} {ρ : En}
theorem snap_rv (R : HR S K Z η h H) {v : V} {w : W} {x : D} (r : RW K H (MM Z η h) η v w) (e : snap h w = some x) : RV K H (fun _ => False) v x := by
  cases w with
  | d y =>
    simp [snap] at e
    subst e
    exact RV.less (fun _ z => z.elim) r
  | r n =>
    obtain ⟨a, ea, rfl⟩ := r
    simp only [snap, nth_eq] at e
    cases q : h[n]? with
    | none => rw [q] at e; cases e
    | some o =>
      rw [q] at e
      have z := R.obj n a o ea q
      cases o with
      | lst ws =>
        obtain ⟨vs, x1, r1⟩ := z
        cases c : pureAll ws with
        | none => simp [c] at e
        | some ds =>
          simp [c] at e
          subst e
          exact .lst (.inl x1) (fun z => z) (RVs.less (fun _ z => z.elim) (pureAll_rv r1 c))
      | lck ws =>
        obtain ⟨vs, x1, r1⟩ := z
        cases c : pureAll ws with
        | none => simp [c] at e
        | some ds =>
          simp [c] at e
          subst e
          exact .lst (.inl x1) (fun z => z) (RVs.less (fun _ z => z.elim) (pureAll_rv r1 c))
      | frz y =>
        obtain ⟨xs, ds, rfl, r1, nm, p⟩ := z
        simp at e
        subst e
        exact .lst r1 (fun z => z) (RVs.less (fun _ z => z.elim) p)
theorem snap_dl (R : HR S K Z η h H) {v : V} {w : W} {x : D} (r : RW K H (MM Z η h) η v w) (e : snap h w = some x) : DL K H v x := (snap_rv R r e).dl
theorem snap_dp (R : HR S K Z η h H) {v : V} {w : W} {x : D} (r : RW K H (MM Z η h) η v w) (e : snap h w = some x) (n : noD x = true) : Dp K H v x ∧ x.canLay0 = true := (snap_dl R r e).1 n
end
/-- what is fixed of a context -/
structure Xk (S : Sc) (X : Cx) (J : JT) (W : WX) : Prop where
  jo : JOk S X.K J
  un : X.A.units + 200 < cLine
  gd : X.A.guards = some []
  tk : Takes X W
  nd : X.N.Nodup
section
variable {S : Sc} {X : Cx} {J : JT} {W : WX} {C : Cv} {a b c : Expr} {ma mb mc : SE} {pos : Pos}
/-- two values, one after the other -/
theorem two_  {σ : L2.St} {H : Hp} {Z : Addr → Prop} {η : List Addr} {ρ : En} {h : Hs} {P : α → Hs → List Addr → Hp → Prop} {k : EV.W → EV.W → Hs → Re α} {T : V → V → Hp → Prop} (jo : JOk S X.K J) (A : At S X.K J σ H Z η ρ h)
    (q : KG S X.K J W Z η h H P ((ma C ρ h).then fun x h1 => (mb C ρ h1).then fun y h2 => k x y h2))
    (f : ∀ x y h2 η2 H2 v u, FR η h H η2 h2 H2 → At S X.K J σ H2 Z η2 ρ h2 → RW X.K H2 (MM Z η2 h2) η2 v x → RW X.K H2 (MM Z η2 h2) η2 u y → KG S X.K J W Z η2 h2 H2 P (k x y h2) → T v u H2) :
    tE S X.K J W (ma C) σ H fun v H1 => tE S X.K J W (mb C) σ H1 fun u H2 => T v u H2 :=
  ⟨Z, η, ρ, h, A, q.bind A.hr fun w h1 η1 H1 f1 R1 k1 v r1 => ⟨Z, η1, ρ, h1, A.step jo f1 R1, k1.bind R1 fun w2 h2 η2 H2 f2 R2 k2 v2 r2 =>
    f w w2 h2 η2 H2 v v2 (f1.trans f2 A.hr) ((A.step jo f1 R1).step jo f2 R2) (f2.rw R1 r1) r2 k2⟩⟩
theorem s_cmp {o : Cop} (x : Xk S X J W) (ha : SPE S X J W C a ma) (hb : SPE S X J W C b mb) (hm : behindInMarks o.op b = false) : SPE S X J W C (.Compare a [o.op] [b] pos) (cCmp o ma mb) :=
  PE.conseq (pe_cmpR (cmp_ok x.un o) ha hb hm) fun σ H Q ⟨Z, η, ρ, h, A, k⟩ => two_ x.jo A k fun w w2 h2 η2 H2 v u f2 A2 r1 r2 k2 => by
    cases e1 : snap h2 w with
    | none => simp only [e1] at k2; exact k2.elim
    | some p =>
      simp only [e1] at k2
      cases e2 : snap h2 w2 with
      | none => simp only [e2] at k2; exact k2.elim
      | some q =>
        simp only [e2] at k2
        have d1 := snap_dl A2.hr r1 e1
        have d2 := snap_dl A2.hr r2 e2
        obtain ⟨b, eb, q⟩ := KG.giveB A2.hr k2
        exact ⟨p, _, b, d1, d2, eb, q⟩
theorem KG.giveT {Z : Addr → Prop} {η : List Addr} {h : Hs} {H : Hp} {Q : Bool → Hp → Prop} {o : Option Bool} (R : HR S X.K Z η h H) (k : KG S X.K J W Z η h H (BP Q) (okB h o)) : ∃ b, o = some b ∧ Q b H := by
  cases o with
  | none => exact k.elim
  | some b =>
    obtain ⟨b', e, q⟩ := KG.ok R k
    cases e
    exact ⟨b, rfl, q⟩
theorem t_cmp {o : Cop} (x : Xk S X J W) (ha : SPE S X J W C a ma) (hb : SPE S X J W C b mb) (hm : behindInMarks o.op b = false) : SPT S X J W C (.Compare a [o.op] [b] pos) (cCmp o ma mb) :=
  PT.conseq (pt_cmpR (cmp_ok x.un o) ha hb hm) fun σ H Q ⟨Z, η, ρ, h, A, k⟩ => two_ x.jo A k fun w w2 h2 η2 H2 v u f2 A2 r1 r2 k2 => by
    cases e1 : snap h2 w with
    | none => simp only [e1] at k2; exact k2.elim
    | some p =>
      simp only [e1] at k2
      cases e2 : snap h2 w2 with
      | none => simp only [e2] at k2; exact k2.elim
      | some q =>
        simp only [e2] at k2
        have d1 := snap_dl A2.hr r1 e1
        have d2 := snap_dl A2.hr r2 e2
        obtain ⟨b, eb, q⟩ := KG.giveT A2.hr k2
        exact ⟨p, _, b, d1, d2, eb, b, rfl, q⟩
theorem chain_core {o o' : Cop} {σ : L2.St} {H : Hp} {Z : Addr → Prop} {η : List Addr} {ρ : En} {h : Hs} {Q : VK} (jo : JOk S X.K J) (A : At S X.K J σ H Z η ρ h) (k : KG S X.K J W Z η h H (VP X.K Z Q) (cChain o o' ma mb mc C ρ h)) :
    tChain (fun v u H Q => ∃ x y b, DL X.K H v x ∧ DL X.K H u y ∧ cmpE o x y = some b ∧ Q (.bl b) H)
      (fun v u H Q => ∃ x y b, DL X.K H v x ∧ DL X.K H u y ∧ cmpE o' x y = some b ∧ Q (.bl b) H) (tE S X.K J W (ma C)) (tE S X.K J W (mb C)) (tE S X.K J W (mc C)) σ H Q :=
  two_ jo A k fun w w2 h2 η2 H2 v u f2 A2 r1 r2 k2 => by
    cases w with
    | r n => exact k2.elim
    | d p =>
      cases w2 with
      | r n => exact k2.elim
      | d q =>
        cases e : cmpE o p q with
        | none => simp only [e] at k2; exact k2.elim
        | some b =>
          simp only [e] at k2
          refine ⟨p, q, b, RV.dl r1, RV.dl r2, e, b, rfl, ?_⟩
          cases b with
          | false =>
            rw [if_neg Bool.false_ne_true]
            exact KG.give (S := S) (W := W) A2.hr k2 (RV.bl false)
          | true =>
            rw [if_pos rfl]
            refine ⟨Z, η2, ρ, h2, A2, KG.bind (S := S) (K := X.K) A2.hr k2 fun w3 h3 η3 H3 f3 R3 k3 z r3 => ?_⟩
            cases w3 with
            | r n => exact k3.elim
            | d t =>
              obtain ⟨b, eb, q3⟩ := KG.giveB R3 k3
              exact ⟨q, t, b, RV.dl (f3.rv A2.hr r2), RV.dl r3, eb, q3⟩
theorem s_chain {o o' : Cop} (x : Xk S X J W) (ha : SPE S X J W C a ma) (hb : SPE S X J W C b mb) (hc : SPE S X J W C c mc) (hm : lastMarks [o.op, o'.op] [b, c] = false) : SPE S X J W C (.Compare a [o.op, o'.op] [b, c] pos) (cChain o o' ma mb mc) :=
  PE.conseq (pe_chain (cmp_ok x.un o) (cmp_ok x.un o') ha hb hc hm) fun σ H Q ⟨Z, η, ρ, h, A, k⟩ => chain_core x.jo A k
/-- a value that is a truth, asked -/
theorem vp_of_bp {H : Hp} {Z : Addr → Prop} {η : List Addr} {h : Hs} {Q : Bool → Hp → Prop} {r : Re EV.W} (k : KG S X.K J W Z η h H (BP Q) r) : KG S X.K J W Z η h H (VP X.K Z fun v H' => ∃ b, v = .bl b ∧ Q b H') r := by
  cases r with
  | ok w h' =>
    intro η' H' f R v rv
    obtain ⟨b, rfl, q⟩ := k η' H' f R
    cases rv
    exact ⟨b, rfl, q⟩
  | ex e h' => exact k
  | no => exact k
theorem t_chain {o o' : Cop} (x : Xk S X J W) (ha : SPE S X J W C a ma) (hb : SPE S X J W C b mb) (hc : SPE S X J W C c mc) (hm : lastMarks [o.op, o'.op] [b, c] = false) : SPT S X J W C (.Compare a [o.op, o'.op] [b, c] pos) (cChain o o' ma mb mc) :=
  PT.conseq (pt_chain (cmp_ok x.un o) (cmp_ok x.un o') ha hb hc hm) fun σ H Q ⟨Z, η, ρ, h, A, k⟩ => chain_core x.jo A (vp_of_bp k)
theorem t_val {e : Expr} {m : SE} (p : SPE S X J W C e m) (he : ∀ whole, isTrue e X.env whole = (do let v ← whole; standAt e.pos; holding [v] (truthy v))) : SPT S X J W C e m :=
  PT.conseq (pt_val p he) fun σ H Q ⟨Z, η, ρ, h, A, k⟩ => ⟨Z, η, ρ, h, A, vp_of_bp k⟩
/-! ### if, and, or, not -/
theorem s_if (x : Xk S X J W) (hc : SPT S X J W C c mc) (ha : SPE S X J W C a ma) (hb : SPE S X J W C b mb) : SPE S X J W C (.IfExp c a b pos) (cIf mc ma mb) :=
  PE.conseq (pe_ifExp hc ha hb) fun σ H Q ⟨Z, η, ρ, h, A, k⟩ => ⟨Z, η, ρ, h, A, KG.bind A.hr k fun w h1 η1 H1 f1 R1 k1 => by
    cases w with
    | r n => exact k1.elim
    | d y =>
      cases y with
      | bool t =>
        refine ⟨t, rfl, ?_⟩
        cases t with
        | true => exact (if_pos rfl).mpr ⟨Z, η1, ρ, h1, A.step x.jo f1 R1, k1⟩
        | false => exact (if_neg Bool.false_ne_true).mpr ⟨Z, η1, ρ, h1, A.step x.jo f1 R1, k1⟩
      | _ => exact k1.elim⟩
theorem s_and {rest : List Expr} (x : Xk S X J W) (ha : SPE S X J W C a ma) (hb : SPE S X J W C (.BoolOp .And (b :: rest) pos) mb) : SPE S X J W C (.BoolOp .And (a :: b :: rest) pos) (cAnd ma mb) :=
  PE.conseq (pe_and ha hb) fun σ H Q ⟨Z, η, ρ, h, A, k⟩ => ⟨Z, η, ρ, h, A, KG.bind A.hr k fun w h1 η1 H1 f1 R1 k1 v r1 => by
    cases w with
    | r n => exact k1.elim
    | d y =>
      cases y with
      | bool t =>
        cases r1
        refine ⟨t, rfl, ?_⟩
        cases t with
        | true => exact (if_pos rfl).mpr ⟨Z, η1, ρ, h1, A.step x.jo f1 R1, k1⟩
        | false => exact (if_neg Bool.false_ne_true).mpr (KG.give (S := S) (W := W) R1 k1 (RV.bl false))
      | _ => exact k1.elim⟩
theorem s_or {rest : List Expr} (x : Xk S X J W) (ha : SPE S X J W C a ma) (hb : SPE S X J W C (.BoolOp .Or (b :: rest) pos) mb) : SPE S X J W C (.BoolOp .Or (a :: b :: rest) pos) (cOr ma mb) :=
  PE.conseq (pe_or ha hb) fun σ H Q ⟨Z, η, ρ, h, A, k⟩ => ⟨Z, η, ρ, h, A, KG.bind A.hr k fun w h1 η1 H1 f1 R1 k1 v r1 => by
    cases w with
    | r n => exact k1.elim
    | d y =>
      cases y with
      | bool t =>
        cases r1
        refine ⟨t, rfl, ?_⟩
        cases t with
        | true => exact (if_pos rfl).mpr (KG.give (S := S) (W := W) R1 k1 (RV.bl true))
        | false => exact (if_neg Bool.false_ne_true).mpr ⟨Z, η1, ρ, h1, A.step x.jo f1 R1, k1⟩
      | _ => exact k1.elim⟩
/-- tests, whatever the whole is -/
abbrev SPW (S : Sc) (X : Cx) (J : JT) (W : WX) (C : Cv) (e : Expr) (m : SE) : Prop := PW X e (tT S X.K J W (m C))
theorem PW.conseq {e : Expr} {t t' : TT} (p : PW X e t) (h : ∀ σ H Q, t' σ H Q → t σ H Q) : PW X e t' := ⟨fun wh pins s σ H Q I q => p.run wh pins s σ H Q I (h σ H Q q)⟩
theorem bp_con {H : Hp} {Z : Addr → Prop} {η : List Addr} {h : Hs} {Q : Bool → Hp → Prop} {t : Bool} (R : HR S X.K Z η h H) (k : KG S X.K J W Z η h H (BP Q) (.ok (.d (.bool t)) h)) : Q t H := by
  obtain ⟨b, e, q⟩ := KG.ok R k
  cases e
  exact q
theorem w_and {rest : List Expr} (x : Xk S X J W) (ha : SPT S X J W C a ma) (hb : SPW S X J W C (.BoolOp .And (b :: rest) pos) mb) : SPW S X J W C (.BoolOp .And (a :: b :: rest) pos) (cAnd ma mb) :=
  PW.conseq (pw_and ha hb) fun σ H Q ⟨Z, η, ρ, h, A, k⟩ => ⟨Z, η, ρ, h, A, KG.bind A.hr k fun w h1 η1 H1 f1 R1 k1 => by
    cases w with
    | r n => exact k1.elim
    | d y =>
      cases y with
      | bool t =>
        refine ⟨t, rfl, ?_⟩
        cases t with
        | true => exact (if_pos rfl).mpr ⟨Z, η1, ρ, h1, A.step x.jo f1 R1, k1⟩
        | false => exact (if_neg Bool.false_ne_true).mpr (bp_con R1 k1)
      | _ => exact k1.elim⟩
theorem w_or {rest : List Expr} (x : Xk S X J W) (ha : SPT S X J W C a ma) (hb : SPW S X J W C (.BoolOp .Or (b :: rest) pos) mb) : SPW S X J W C (.BoolOp .Or (a :: b :: rest) pos) (cOr ma mb) :=
  PW.conseq (pw_or ha hb) fun σ H Q ⟨Z, η, ρ, h, A, k⟩ => ⟨Z, η, ρ, h, A, KG.bind A.hr k fun w h1 η1 H1 f1 R1 k1 => by
    cases w with
    | r n => exact k1.elim
    | d y =>
      cases y with
      | bool t =>
        refine ⟨t, rfl, ?_⟩
        cases t with
        | true => exact (if_pos rfl).mpr (bp_con R1 k1)
        | false => exact (if_neg Bool.false_ne_true).mpr ⟨Z, η1, ρ, h1, A.step x.jo f1 R1, k1⟩
      | _ => exact k1.elim⟩
theorem t_not (x : Xk S X J W) (ha : SPT S X J W C a ma) : SPT S X J W C (.UnaryOp .Not a pos) (cNot ma) :=
  PT.conseq (pt_not ha) fun σ H Q ⟨Z, η, ρ, h, A, k⟩ => ⟨Z, η, ρ, h, A, KG.bind A.hr k fun w h1 η1 H1 f1 R1 k1 => by
    cases w with
    | r n => exact k1.elim
    | d y =>
      cases y with
      | bool t => exact ⟨t, rfl, bp_con R1 k1⟩
      | _ => exact k1.elim⟩
theorem s_not (x : Xk S X J W) (ha : SPE S X J W C a ma) : SPE S X J W C (.UnaryOp .Not a pos) (cNot ma) :=
  PE.conseq (pe_not ha) fun σ H Q ⟨Z, η, ρ, h, A, k⟩ => ⟨Z, η, ρ, h, A, KG.bind A.hr k fun w h1 η1 H1 f1 R1 k1 v r1 => by
    cases w with
    | r n => exact k1.elim
    | d y =>
      cases y with
      | bool t =>
        cases r1
        exact ⟨t, rfl, KG.give (S := S) (W := W) R1 k1 (RV.bl (!t))⟩
      | _ => exact k1.elim⟩
theorem s_neg (x : Xk S X J W) (ha : SPE S X J W C a ma) : SPE S X J W C (.UnaryOp .USub a pos) (cNeg ma) :=
  PE.conseq (pe_un un_neg ha) fun σ H Q ⟨Z, η, ρ, h, A, k⟩ => ⟨Z, η, ρ, h, A, KG.bind A.hr k fun w h1 η1 H1 f1 R1 k1 v r1 => by
    cases w with
    | r n => exact k1.elim
    | d y =>
      cases y with
      | int t =>
        cases r1
        exact ⟨t, rfl, KG.give (S := S) (W := W) R1 k1 (RV.int (-t))⟩
      | _ => exact k1.elim⟩
end
end EV
end

section
set_option Elab.async false
set_option linter.all false
set_option maxRecDepth 100000
namespace EV
open PySem L2
def Bop.op : Bop → Operator
  | .add => .Add
  | .sub => .Sub
  | .mul => .Mult
  | .fdiv => .FloorDiv
  | .mod => .Mod
  | .pow => .Pow
section
variable {S : Sc} {X : Cx}
/-- a list, locked perhaps -/
theorem lstR {pins : List (Addr × Obj)} {σ : L2.St} {H : Hp} {s : Shared} {l : Addr} {xs : List V} (I : Inv X pins σ H s) (r : Ls X.K H l xs) :
    xs.length ≤ sizeLine ∧ ∃ (its : List Value) (n : Nat), Vals xs its ∧ xs.length = its.length ∧
      s.heap.get? l = some { cls := .type "list", data := .seq its.toArray n } := by
  rcases r with r | ⟨its, n, e, q, z⟩
  · obtain ⟨z, its, n, q, e⟩ := r.ok I.hok
    exact ⟨z, its, n, q, q.length, e⟩
  · exact ⟨z, its, n, q, q.length, I.kIn l _ e⟩
def rCatR (K : PySem.W.Frag) : R2 := fun x y H Q => ∃ l b xs zs, x = .ref l ∧ y = .ref b ∧
  Ls K H l xs ∧ Ls K H b zs ∧ xs.length + zs.length ≤ sizeLine ∧
  ∀ p, H p = none → Q (.ref p) (upd H p (.lst (xs ++ zs)))
theorem op_catR : OpR X (binaryOp .Add) (rCatR X.K) := by
  intro pins s σ H x y v u Q I rx ry h
  obtain ⟨l, b, xs, zs, rfl, rfl, hL, hB, hz, q⟩ := h
  cases rx
  cases ry
  obtain ⟨z, its, n, r, hl, e⟩ := lstR I hL
  obtain ⟨z2, its2, n2, r2, hl2, e2⟩ := lstR I hB
  refine PySem.P.add_list e e2 ?_
    (by simp only [List.size_toArray]; omega)
  have ea : its.toArray ++ its2.toArray = (its ++ its2).toArray := by simp
  rw [ea]
  refine ⟨.ref _, _, I.lnew (t' := s.toks) (r.append r2) ?_, rfl, q _ I.fresh⟩
  rw [List.length_append]
  omega
def rRepR (K : PySem.W.Frag) : R2 := fun x y H Q => ∃ l k xs, x = .ref l ∧ y = .int k ∧
  Ls K H l xs ∧ 0 ≤ k ∧ k < 2 ^ 63 ∧ xs.length * k.toNat ≤ sizeLine ∧
  ∀ p, H p = none → Q (.ref p) (upd H p (.lst (List.replicate k.toNat xs).flatten))
theorem op_repR : OpR X (binaryOp .Mult) (rRepR X.K) := by
  intro pins s σ H x y v u Q I rx ry h
  obtain ⟨l, k, xs, rfl, rfl, hL, h1, h2, hz, q⟩ := h
  cases rx
  obtain ⟨t, rfl⟩ := ry
  obtain ⟨z, its, n, r, hl, e⟩ := lstR I hL
  have hlen : its.toArray.size * k.toNat ≤ sizeLine := by simpa [← hl] using hz
  have hcap : ¬ its.toArray.size * k.toNat > (2 ^ 63 - 1) / 8 := by
    have : (sizeLine : Nat) ≤ (2 ^ 63 - 1) / 8 := by decide
    omega
  have hfit : ¬ (!Builtin.List.listFitsIndex k) = true := by simp [fitsIndex_both (by omega) h2]
  have hlong : ¬ Builtin.List.listTooLong (its.toArray.size * k.toNat) = true := by rw [notLongL hlen]; simp
  have f0 : ∀ m : Nat, List.foldl (fun a b => a ++ b) #[] (List.replicate m its.toArray) = (List.replicate m its).flatten.toArray := fun m => by
    simpa using foldl_rep its m []
  have hnew : List.foldl (fun a b => a ++ b) #[] (List.replicate (if its.toArray.isEmpty = true then 0 else k.toNat) its.toArray) = (List.replicate k.toNat its).flatten.toArray := by
    rw [f0]
    cases its <;> simp
  refine wpAny_binaryOp_repeat_ref (T := "list") (U := "int") (by decide) ⟨_, e, rfl⟩
    (fun _ => typeIs_int _ k t) noFill_list_mul F.fills_int_mul F.slot_int_rmul repeat_list
    F.slot_int_index.lookup
    (call_meets F.slot_int_rmul (typeIs_int s k t) F.entry_int_rmul
      (F.args_int_rmul_2 _ _) (int___rmul___int_list k t l its.toArray n) ⟨e, rfl, ⟨_, e, rfl⟩,
        call_meets F.slot_list_mul ⟨_, e, rfl⟩ F.entry_list_mul (F.args_list_mul_2 _ _)
          (AutoListH.list___mul___list_int_3 l its.toArray n k t hfit hcap hlong) ⟨e, ?_⟩⟩)
  rw [hnew]
  refine ⟨.ref _, _, I.lnew (t' := s.toks) (r.rep k.toNat) ?_, rfl, q _ I.fresh⟩
  rw [PyProof.Rows.lm_len_rep_flat, Nat.mul_comm]
  exact hz

/-! ### two values, an operation -/
theorem RVs.nil_of {K : PySem.W.Frag} {H : Hp} {M : Addr → Prop} {ds : List D} (r : RVs K H M [] ds) : ds = [] := by cases r; rfl
theorem bnd_iff {n : Nat} {i : Int} : bnd n i = true ↔ i.natAbs ≤ n := by unfold bnd; rw [Nat.ble_eq]
theorem mulOk_ok {i j : Int} (h : mulOk i j = true) : CMul i j ∨ CMulW i j := by
  unfold mulOk at h
  rw [Bool.or_eq_true, Bool.or_eq_true, bnd_iff, bnd_iff, Bool.and_eq_true, Nat.ble_eq, Nat.ble_eq] at h
  rcases h with (h | h) | h
  · exact .inl (.inl (by omega))
  · exact .inl (.inr (by omega))
  · exact .inr (by unfold CMulW; omega)
theorem strOk_app {x y : Str} (a : PyData.strOk x = true) (b : PyData.strOk y = true) : PyData.strOk (x ++ y) = true := by
  unfold PyData.strOk at a b ⊢
  have : (x ++ y).cps = x.cps ++ y.cps := rfl
  rw [this, Array.all_append, a, b]
  rfl
theorem len_app {x y : Str} : (x ++ y).length = x.length + y.length := by
  show (x.cps ++ y.cps).size = _
  rw [Array.size_append]
  rfl
theorem RV.alloc {S : Sc} {K : PySem.W.Frag} {Z : Addr → Prop} {η : List Addr} {h : Hs} {H : Hp} {p : Addr} {xs : List V} {ds : List D} (R : HR S K Z η h H) (hp : H p = none) (r : RVs K H (MM Z η h) xs ds) : RV K (upd H p (.tup xs)) (MM Z η h) (.ref p) (.tuple ds) :=
  .tup (.inl (.inl upd_same)) ((FR.alloc hp _).rvs R r)
theorem bin_ok : ∀ o : Bop, Op2 X S (binaryOp o.op) (binE o) := by
  intro o pins s σ H v u v' u' Q I rv ru h
  obtain ⟨Z, η, hh, x, y, z, R, rx, ry, e, q⟩ := h
  cases o with
  | add =>
    cases rx with
    | int i =>
      cases ry with
      | int j =>
        cases e
        exact op_add pins s σ H _ _ v' u' Q I rv ru ⟨i, j, rfl, rfl, q H _ FR.refl R (RV.int _)⟩
      | _ => cases e
    | str a oa la =>
      cases ry with
      | str b ob lb =>
        simp only [binE] at e
        split at e
        · rename_i g
          rw [Nat.ble_eq] at g
          cases e
          exact op_add_str pins s σ H _ _ v' u' Q I rv ru ⟨a, b, rfl, rfl, by rw [sizeLine_eq]; exact g, q H _ FR.refl R (RV.str _ (strOk_app oa ob) (by rw [len_app, sizeLine_eq]; exact g))⟩
        · cases e
      | _ => cases e
    | @tup a xs ds ta ra =>
      cases ry with
      | @tup b ys es tb rb =>
        simp only [binE] at e
        split at e
        · rename_i g
          rw [Nat.ble_eq] at g
          cases e
          refine op_catA pins s σ H _ _ v' u' Q I rv ru ⟨a, b, xs, ys, rfl, rfl, ta, tb, by rw [ra.length, rb.length, sizeLine_eq]; exact g, fun he => ?_, fun _ he => ?_, fun _ _ p hp => ?_⟩
          · subst he
            rw [ra.nil_of] at q
            exact q H _ FR.refl R (RV.tup tb rb)
          · subst he
            rw [rb.nil_of, List.append_nil] at q
            exact q H _ FR.refl R (RV.tup ta ra)
          · exact q _ _ (FR.alloc hp _) (R.alloc hp _) (RV.alloc R hp (ra.app rb))
        · cases e
      | _ => cases e
    | _ => cases e
  | sub =>
    cases rx with
    | int i =>
      cases ry with
      | int j =>
        cases e
        exact op_sub pins s σ H _ _ v' u' Q I rv ru ⟨i, j, rfl, rfl, q H _ FR.refl R (RV.int _)⟩
      | _ => cases e
    | _ => cases e
  | mul =>
    cases rx with
    | int i =>
      cases ry with
      | int j =>
        simp only [binE] at e
        split at e
        · rename_i g
          cases e
          rcases mulOk_ok g with c | c
          · exact op_mul pins s σ H _ _ v' u' Q I rv ru ⟨i, j, rfl, rfl, c, q H _ FR.refl R (RV.int _)⟩
          · exact op_mulW pins s σ H _ _ v' u' Q I rv ru ⟨i, j, rfl, rfl, c, q H _ FR.refl R (RV.int _)⟩
        · cases e
      | _ => cases e
    | @tup a xs ds ta ra =>
      cases ry with
      | int j =>
        simp only [binE] at e
        split at e
        · rename_i g
          rw [Bool.and_eq_true, Bool.and_eq_true, Bool.and_eq_true, ile_iff, ile_iff, decide_eq_true_eq, decide_eq_true_eq, Nat.ble_eq, Nat.ble_eq] at g
          cases e
          have hl := ra.length
          refine op_repT pins s σ H _ _ v' u' Q I rv ru ⟨a, j, xs, rfl, rfl, ta, fun he => ?_, g.1.1.1, g.1.1.2, by omega, fun p hp => ?_⟩
          · subst he
            simp at hl
            omega
          · refine q _ _ (FR.alloc hp _) (R.alloc hp _) (RV.alloc R hp ?_)
            generalize j.toNat = n
            induction n with
            | zero => exact .nil
            | succ n ih =>
              simp only [List.replicate_succ, List.flatten_cons]
              exact ra.app ih
        · cases e
      | _ => cases e
    | _ => cases e
  | fdiv =>
    cases rx with
    | int i =>
      cases ry with
      | int j =>
        simp only [binE] at e
        split at e
        · rename_i g
          rw [Bool.and_eq_true, ilt_iff, decide_eq_true_eq, Nat.ble_eq] at g
          cases e
          exact op_fdivW pins s σ H _ _ v' u' Q I rv ru ⟨i, j, rfl, rfl, ⟨g.1, by omega⟩, q H _ FR.refl R (RV.int _)⟩
        · cases e
      | _ => cases e
    | _ => cases e
  | mod =>
    cases rx with
    | int i =>
      cases ry with
      | int j =>
        simp only [binE] at e
        split at e
        · rename_i g
          rw [ilt_iff, decide_eq_true_eq] at g
          cases e
          exact op_mod pins s σ H _ _ v' u' Q I rv ru ⟨i, j, rfl, rfl, g, q H _ FR.refl R (RV.int _)⟩
        · cases e
      | _ => cases e
    | _ => cases e
  | pow =>
    cases rx with
    | int i =>
      cases ry with
      | int j =>
        simp only [binE] at e
        split at e
        · rename_i g
          rw [Bool.and_eq_true, Bool.and_eq_true, ile_iff, decide_eq_true_eq, bnd_iff, bnd_iff] at g
          cases e
          exact op_pow pins s σ H _ _ v' u' Q I rv ru ⟨i, j, rfl, rfl, ⟨g.1.1, by omega, by omega⟩, q H _ FR.refl R (RV.int _)⟩
        · cases e
      | _ => cases e
    | _ => cases e
end
end EV
end

section
set_option Elab.async false
set_option linter.all false
set_option maxRecDepth 100000
namespace EV
open PySem L2
section
variable {S : Sc} {K : PySem.W.Frag} {Z : Addr → Prop} {M : Addr → Prop} {η : List Addr} {h h' : Hs} {H : Hp} {σ : L2.St} {ρ : En}
theorem rvs_dsW : ∀ {vs : List V} {ds : List D}, RVs K H M vs ds → RWs K H M η vs (dsW ds)
  | _, _, .nil => .nil
  | _, _, .cons p q => .cons p (rvs_dsW q)
theorem RWs.length : ∀ {vs : List V} {ws : List W}, RWs K H M η vs ws → vs.length = ws.length
  | _, _, .nil => rfl
  | _, _, .cons _ r => by simp [RWs.length r]
theorem RWs.get : ∀ {vs : List V} {ws : List W} {i : Nat} {w : W}, RWs K H M η vs ws → ws[i]? = some w → ∃ v, vs[i]? = some v ∧ RW K H M η v w
  | _, _, _, _, .nil, e => by simp at e
  | _, _, 0, _, .cons p q, e => by
    simp at e
    subst e
    exact ⟨_, rfl, p⟩
  | _, _, i + 1, _, .cons p q, e => by
    obtain ⟨v, h1, h2⟩ := RWs.get q (i := i) (by simpa using e)
    exact ⟨v, by simpa using h1, h2⟩
theorem RWs.app : ∀ {vs us : List V} {xs ys : List W}, RWs K H M η vs xs → RWs K H M η us ys → RWs K H M η (vs ++ us) (xs ++ ys)
  | _, _, _, _, .nil, s => s
  | _, _, _, _, .cons p q, s => .cons p (RWs.app q s)
/-- a value is closed to writing -/
theorem frzW_ok (R : HR S K Z η h H) {v : V} {w : W} {x : D} (r : RW K H (MM Z η h) η v w) (e : frzW h w = some (x, h')) :
    FR η h H η h' H ∧ HR S K Z η h' H ∧ RV K H (MM Z η h') v x := by
  cases w with
  | d y =>
    simp only [frzW, Option.some.injEq, Prod.mk.injEq] at e
    obtain ⟨rfl, rfl⟩ := e
    exact ⟨FR.refl, R, r⟩
  | r n =>
    obtain ⟨a, ea, rfl⟩ := r
    simp only [frzW, nth_eq] at e
    cases q : h[n]? with
    | none => rw [q] at e; cases e
    | some o =>
      rw [q] at e
      cases o with
      | lst ws =>
        cases c : pureAll ws with
        | none => simp [c] at e
        | some ds =>
          simp only [c, Option.map_some, Option.some.injEq, Prod.mk.injEq] at e
          obtain ⟨rfl, rfl⟩ := e
          have R2 := R.frz q c
          rw [setH_eq]
          have hn : n < h.length := (List.getElem?_eq_some_iff.mp q).1
          obtain ⟨xs, es, q1, q2, q3, q4⟩ := R2.obj n a (.frz (.list ds)) ea (List.getElem?_set_self hn)
          cases q1
          exact ⟨FR.frz q, R2, .lst q2 q3 q4⟩
      | lck ws => cases e
      | frz y =>
        simp only [Option.some.injEq, Prod.mk.injEq] at e
        obtain ⟨rfl, rfl⟩ := e
        obtain ⟨xs, es, q1, q2, q3, q4⟩ := R.obj n a _ ea q
        subst q1
        exact ⟨FR.refl, R, .lst q2 q3 q4⟩
theorem frzAll_ok : ∀ {vs : List V} {ws : List W} {ds : List D} {h h' : Hs}, HR S K Z η h H → RWs K H (MM Z η h) η vs ws → frzAll h ws = some (ds, h') →
    FR η h H η h' H ∧ HR S K Z η h' H ∧ RVs K H (MM Z η h') vs ds
  | _, _, ds, h, h', R, .nil, e => by
    simp only [frzAll, Option.some.injEq, Prod.mk.injEq] at e
    obtain ⟨rfl, rfl⟩ := e
    exact ⟨FR.refl, R, .nil⟩
  | _, _, ds, h, h', R, .cons p q, e => by
    rename_i v w vs ws
    simp only [frzAll] at e
    cases c : frzW h w with
    | none => simp [c] at e
    | some y =>
      obtain ⟨x, h1⟩ := y
      simp only [c] at e
      obtain ⟨f1, R1, r1⟩ := frzW_ok R p c
      cases c2 : frzAll h1 ws with
      | none => simp [c2] at e
      | some y =>
        obtain ⟨xs, h2⟩ := y
        simp only [c2, Option.some.injEq, Prod.mk.injEq] at e
        obtain ⟨rfl, rfl⟩ := e
        obtain ⟨f2, R2, r2⟩ := frzAll_ok R1 (f1.rws R q) c2
        exact ⟨f1.trans f2 R, R2, .cons (f2.rv R1 r1) r2⟩
theorem itemsW_ok (R : HR S K Z η h H) {v : V} {w : W} {ws : List W} (r : RW K H (MM Z η h) η v w) (e : itemsW h w = some ws) :
    ∃ a xs, v = .ref a ∧ (SqT K H a xs ∨ Ls K H a xs) ∧ RWs K H (MM Z η h) η xs ws := by
  cases w with
  | d y =>
    cases r with
    | lst a b c =>
      simp only [itemsW, Option.some.injEq] at e
      subst e
      exact ⟨_, _, rfl, .inr (.inl a), rvs_dsW c⟩
    | kls a c =>
      simp only [itemsW, Option.some.injEq] at e
      subst e
      exact ⟨_, _, rfl, .inr (.inr a), rvs_dsW c⟩
    | tup a b =>
      simp only [itemsW, Option.some.injEq] at e
      subst e
      exact ⟨_, _, rfl, .inl a, rvs_dsW b⟩
    | _ => cases e
  | r n =>
    obtain ⟨a, ea, rfl⟩ := r
    simp only [itemsW, nth_eq] at e
    cases q : h[n]? with
    | none => rw [q] at e; cases e
    | some o =>
      rw [q] at e
      have z := R.obj n a o ea q
      cases o with
      | lst us =>
        simp only [Option.some.injEq] at e
        subst e
        obtain ⟨xs, e1, e2⟩ := z
        exact ⟨a, xs, rfl, .inr (.inl (.inl e1)), e2⟩
      | lck us =>
        simp only [Option.some.injEq] at e
        subst e
        obtain ⟨xs, e1, e2⟩ := z
        exact ⟨a, xs, rfl, .inr (.inl (.inl e1)), e2⟩
      | frz y =>
        obtain ⟨xs, ds, rfl, e1, e2, e3⟩ := z
        simp only [Option.some.injEq] at e
        subst e
        exact ⟨a, xs, rfl, .inr (.inl e1), rvs_dsW e3⟩
theorem itemsL_ok (R : HR S K Z η h H) {v : V} {w : W} {ws : List W} (r : RW K H (MM Z η h) η v w) (e : itemsL h w = some ws) :
    ∃ a xs, v = .ref a ∧ Ls K H a xs ∧ RWs K H (MM Z η h) η xs ws := by
  cases w with
  | d y =>
    cases r with
    | lst a b c =>
      simp only [itemsL, Option.some.injEq] at e
      subst e
      exact ⟨_, _, rfl, .inl a, rvs_dsW c⟩
    | kls a c =>
      simp only [itemsL, Option.some.injEq] at e
      subst e
      exact ⟨_, _, rfl, .inr a, rvs_dsW c⟩
    | _ => cases e
  | r n =>
    obtain ⟨a, ea, rfl⟩ := r
    simp only [itemsL, itemsW, nth_eq] at e
    cases q : h[n]? with
    | none => rw [q] at e; cases e
    | some o =>
      rw [q] at e
      have z := R.obj n a o ea q
      cases o with
      | lst us =>
        simp only [Option.some.injEq] at e
        subst e
        obtain ⟨xs, e1, e2⟩ := z
        exact ⟨a, xs, rfl, .inl (.inl e1), e2⟩
      | lck us =>
        simp only [Option.some.injEq] at e
        subst e
        obtain ⟨xs, e1, e2⟩ := z
        exact ⟨a, xs, rfl, .inl (.inl e1), e2⟩
      | frz y =>
        obtain ⟨xs, ds, rfl, e1, e2, e3⟩ := z
        simp only [Option.some.injEq] at e
        subst e
        exact ⟨a, xs, rfl, .inl e1, rvs_dsW e3⟩
/-! ### places -/
theorem atD_eq {α : Type} (xs : List α) (i : Int) : atD xs i = atI xs i := by
  cases i with
  | ofNat n =>
    simp only [atD, atI, ixN, nth_eq, Int.ofNat_eq_natCast]
    rw [if_pos (by omega)]
    by_cases hn : n < xs.length
    · rw [if_pos (by omega)]
      simp
    · rw [if_neg (by omega)]
      simp [List.getElem?_eq_none (Nat.le_of_not_lt hn)]
  | negSucc n =>
    simp only [atD, atI, ixN, nth_eq, Nat.ble_eq]
    rw [if_neg (show ¬ (0 ≤ Int.negSucc n) by omega)]
    by_cases hn : n + 1 ≤ xs.length
    · rw [if_pos hn, if_pos (by omega)]
      have : (Int.negSucc n + (xs.length : Int)).toNat = xs.length - (n + 1) := by omega
      simp [this]
    · rw [if_neg hn, if_neg (by omega)]
      rfl
theorem atI_rws {vs : List V} {ws : List W} {i : Int} {w : W} (r : RWs K H M η vs ws) (e : atI ws i = some w) : ∃ v, atI vs i = some v ∧ RW K H M η v w := by
  unfold atI at e ⊢
  rw [r.length]
  cases c : ixN ws.length i with
  | none => rw [c] at e; cases e
  | some j =>
    rw [c] at e
    exact r.get e
theorem atD_dsW : ∀ (xs : List D) (i : Int), (atD xs i).map W.d = atD (dsW xs) i := by
  intro xs i
  rw [atD_eq, atD_eq, dsW_eq]
  unfold atI
  rw [List.length_map]
  cases c : ixN xs.length i with
  | none => rfl
  | some j => simp
theorem sign_ok {z : Str} {c : Nat} (hz : PyData.strOk z = true) (hc : c ∈ z.cps.toList) : PyData.strOk ⟨#[c]⟩ = true := by
  unfold PyData.strOk at hz ⊢
  rw [Array.all_eq_true_iff_forall_mem] at hz ⊢
  intro x hx
  simp at hx
  subst hx
  exact hz _ (by simpa using hc)
theorem idxW_ok (R : HR S K Z η h H) {v : V} {w : W} {i : Int} {y : W} (r : RW K H (MM Z η h) η v w) (e : idxW h w i = some y) {Q : VK}
    (q : ∀ u, RW K H (MM Z η h) η u y → Q u H) : rIx K v (.int i) H Q := by
  have seqs : ∀ {ws : List W}, itemsW h w = some ws → atD ws i = some y → rIx K v (.int i) H Q := fun hw hy => by
    obtain ⟨a, xs, rfl, t, rs⟩ := itemsW_ok R r hw
    rw [atD_eq] at hy
    obtain ⟨u, e1, e2⟩ := atI_rws rs hy
    rcases t with t | t
    · exact .inr (.inl ⟨a, xs, i, u, rfl, rfl, t, e1, q u e2⟩)
    · exact .inl ⟨a, xs, i, u, rfl, rfl, t.sq, e1, q u e2⟩
  cases w with
  | d x =>
    cases x with
    | str z =>
      cases r with
      | str _ hz hl =>
        simp only [idxW, Option.map_eq_some_iff, atD_eq] at e
        obtain ⟨c, e1, rfl⟩ := e
        refine .inr (.inr ⟨z, i, c, rfl, rfl, hl, e1, q _ (RV.str _ ?_ ?_)⟩)
        · obtain ⟨j, _, hj, _⟩ := atI_get e1
          exact sign_ok hz (List.mem_of_getElem? hj)
        · rw [sizeLine_eq]
          show (#[c] : Array Nat).size ≤ _
          simp
    | list xs =>
      simp only [idxW] at e
      rw [atD_dsW] at e
      exact seqs rfl e
    | tuple xs =>
      simp only [idxW] at e
      rw [atD_dsW] at e
      exact seqs rfl e
    | _ => cases e
  | r n =>
    simp only [idxW] at e
    cases c : itemsW h (.r n) with
    | none => rw [c] at e; cases e
    | some ws =>
      rw [c] at e
      exact seqs c e
end
section
variable {S : Sc} {X : Cx} {J : JT} {W : WX} {C : Cv} {a b c e : Expr} {es : List Expr} {ma mb mc me : SE} {mr : SL} {pos p2 : Pos}
/-! ### lists of values -/
theorem a_nil : SPA S X J W C [] lNil := PA.conseq pa_nil fun σ H Q ⟨Z, η, ρ, h, A, k⟩ => KG.ok A.hr k _ .nil
theorem a_one (x : Xk S X J W) (he : SPE S X J W C e me) (hr : SPA S X J W C es mr) (hs : starEach (e :: es) X.env = (false, eval e X.env) :: starEach es X.env := by rfl) : SPA S X J W C (e :: es) (lOne me mr) :=
  PA.conseq (pa_cons he hr hs) fun σ H Q ⟨Z, η, ρ, h, A, k⟩ => ⟨Z, η, ρ, h, A, KG.bind A.hr k fun w h1 η1 H1 f1 R1 k1 v r1 => ⟨Z, η1, ρ, h1, A.step x.jo f1 R1,
    KG.bind R1 k1 fun ws h2 η2 H2 f2 R2 k2 vs r2 => KG.ok R2 k2 _ (.cons (f2.rw R1 r1) r2)⟩⟩
theorem a_star (x : Xk S X J W) (he : SPE S X J W C e me) (hr : SPA S X J W C es mr) (hs : starEach (.Starred e pos :: es) X.env = (true, eval e X.env) :: starEach es X.env := by rfl) : SPA S X J W C (.Starred e pos :: es) (lStar me mr) :=
  PA.conseq (StX.pa_star he hr hs) fun σ H Q ⟨Z, η, ρ, h, A, k⟩ => ⟨Z, η, ρ, h, A, KG.bind A.hr k fun w h1 η1 H1 f1 R1 k1 v r1 => by
    cases c : itemsW h1 w with
    | none => simp only [c] at k1; exact k1.elim
    | some us =>
      simp only [c] at k1
      obtain ⟨p, xs, e1, e2, e3⟩ := itemsW_ok R1 r1 c
      exact ⟨p, xs, e1, e2.elim .inl fun z => .inr z.sq, Z, η1, ρ, h1, A.step x.jo f1 R1, KG.bind R1 k1 fun ws h2 η2 H2 f2 R2 k2 vs r2 => KG.ok R2 k2 _ ((f2.rws R1 e3).app r2)⟩⟩
/-- a new tuple -/
theorem tupW_ok {H : Hp} {Z : Addr → Prop} {η : List Addr} {h : Hs} {Q : VK} {ws : List EV.W} {vs : List V} (R : HR S X.K Z η h H) (r : RWs X.K H (MM Z η h) η vs ws) (k : KG S X.K J W Z η h H (VP X.K Z Q) (tupW ws h)) :
    vs.length ≤ sizeLine ∧ ∀ p, H p = none → Q (.ref p) (upd H p (.tup vs)) := by
  unfold tupW at k
  split at k
  · rename_i g
    rw [Nat.ble_eq] at g
    refine ⟨by rw [r.length, sizeLine_eq]; exact g, fun p hp => ?_⟩
    cases c : frzAll h ws with
    | none => rw [c] at k; exact k.elim
    | some y =>
      obtain ⟨ds, h2⟩ := y
      rw [c] at k
      obtain ⟨f, R2, rs⟩ := frzAll_ok R r c
      exact k η (upd H p (.tup vs)) (f.trans (FR.alloc hp _) R) (R2.alloc hp _) _ (RV.alloc R2 hp rs)
  · exact k.elim
theorem s_tup (x : Xk S X J W) (h : SPA S X J W C es mr) {q1 : Nat} : SPE S X J W C (.Tuple es q1 pos) (cTup mr) :=
  PE.conseq (pe_tup h) fun σ H Q ⟨Z, η, ρ, h, A, k⟩ => ⟨Z, η, ρ, h, A, KG.bind A.hr k fun ws h1 η1 H1 f1 R1 k1 vs r1 => tupW_ok R1 r1 k1⟩
/-! ### places, slices -/
theorem s_idx (x : Xk S X J W) (ha : SPE S X J W C a ma) (hb : SPE S X J W C b mb) (hs : PlainIx b) : SPE S X J W C (.Subscript a b pos) (cIdx ma mb) :=
  PE.conseq (pe_ix ix_seq ha hb hs) fun σ H Q ⟨Z, η, ρ, h, A, k⟩ => two_ x.jo A k fun w w2 h2 η2 H2 v u f2 A2 r1 r2 k2 => by
    cases w2 with
    | r n => exact k2.elim
    | d y =>
      cases y with
      | int i =>
        cases r2
        simp only at k2
        cases c : idxW h2 w i with
        | none => rw [c] at k2; exact k2.elim
        | some z =>
          rw [c] at k2
          exact idxW_ok A2.hr r1 c fun u ru => KG.give A2.hr k2 ru
      | _ => exact k2.elim
def ofO : Option Int → EV.W
  | none => .d .none
  | some i => .d (.int i)
def tP (S : Sc) (K : PySem.W.Frag) (J : JT) (W : WX) (m : En → Hs → Re EV.W) : TO := fun σ H Q => ∃ Z η ρ h, At S K J σ H Z η ρ h ∧
  KG S K J W Z η h H (fun w h' η' H' => ∃ o, w = ofO o ∧ Q o H') (m ρ h)
abbrev SPO (S : Sc) (X : Cx) (J : JT) (W : WX) (C : Cv) (e : Option Expr) (m : SE) : Prop := PO X e (tP S X.K J W (m C))
theorem PO.conseq {e : Option Expr} {t t' : TO} (p : PO X e t) (h : ∀ σ H Q, t' σ H Q → t σ H Q) : PO X e t' := ⟨fun pins s σ H Q I q => p.run pins s σ H Q I (h σ H Q q)⟩
theorem o_no : SPO S X J W C none oNo := PO.conseq po_none fun σ H Q ⟨Z, η, ρ, h, A, k⟩ => by
  obtain ⟨o, e, q⟩ := KG.ok A.hr k
  cases o with
  | none => exact q
  | some i => cases e
theorem o_yes (x : Xk S X J W) (he : SPE S X J W C e me) : SPO S X J W C (some e) (cYes me) :=
  PO.conseq (po_some he) fun σ H Q ⟨Z, η, ρ, h, A, k⟩ => ⟨Z, η, ρ, h, A, KG.bind A.hr k fun w h1 η1 H1 f1 R1 k1 v r1 => by
    cases w with
    | r n => exact k1.elim
    | d y =>
      cases y with
      | none => exact k1.elim
      | int i =>
        cases r1
        obtain ⟨o, e, q⟩ := KG.ok R1 k1
        cases o with
        | none => cases e
        | some j =>
          cases e
          exact ⟨i, rfl, q⟩
      | _ =>
        obtain ⟨o, e, q⟩ := KG.ok R1 k1
        cases o <;> cases e⟩
theorem cutN_eq (n d : Nat) (i : Int) : HT.sIx n d (some i) = cutN n i := by
  show (if i < 0 then (i + (n : Int)).toNat else min i.toNat n) = _
  cases i with
  | ofNat k =>
    simp only [cutN, Int.ofNat_eq_natCast]
    rw [if_neg (by omega), Int.toNat_natCast]
  | negSucc k =>
    simp only [cutN]
    rw [if_pos (by omega)]
    omega
def cutP {α : Type} (xs : List α) (lo hi : Option Int) : List α := (xs.drop (HT.sIx xs.length 0 lo)).take (HT.sIx xs.length xs.length hi - HT.sIx xs.length 0 lo)
theorem cutL_eq {α : Type} (xs : List α) (lo hi : Option Int) : cutL xs lo hi = cutP xs lo hi := by
  unfold cutL cutP
  cases lo with
  | none =>
    cases hi with
    | none => simp [HT.sIx]
    | some j => simp [HT.sIx_none, cutN_eq]
  | some i =>
    cases hi with
    | none =>
      simp only [HT.sIx_none, cutN_eq]
      rw [List.take_of_length_le (by simp)]
    | some j =>
      simp only [cutN_eq]
      rw [List.drop_take]
theorem RVs.cut {K : PySem.W.Frag} {H : Hp} {M : Addr → Prop} : ∀ {vs : List V} {xs : List D}, RVs K H M vs xs → ∀ (i j : Nat), RVs K H M ((vs.drop i).take j) ((xs.drop i).take j) := by
  have tk : ∀ {vs : List V} {xs : List D}, RVs K H M vs xs → ∀ j : Nat, RVs K H M (vs.take j) (xs.take j) := by
    intro vs xs r
    induction vs generalizing xs with
    | nil =>
      intro j
      cases r
      simpa using RVs.nil
    | cons v vs ih =>
      intro j
      cases r with
      | cons p q =>
        cases j with
        | zero => exact .nil
        | succ j => exact .cons p (ih q j)
  intro vs xs r
  induction vs generalizing xs with
  | nil =>
    intro i j
    cases r
    simpa using RVs.nil
  | cons v vs ih =>
    intro i j
    cases r with
    | cons p q =>
      cases i with
      | zero => exact tk (.cons p q) j
      | succ i => exact ih q i j
theorem RVs.cutL_ok {K : PySem.W.Frag} {H : Hp} {M : Addr → Prop} {vs : List V} {xs : List D} (r : RVs K H M vs xs) (lo hi : Option Int) : RVs K H M (cutV vs lo hi) (cutL xs lo hi) := by
  rw [cutL_eq]
  show RVs K H M ((vs.drop (HT.sIx vs.length 0 lo)).take _) ((xs.drop _).take _)
  rw [r.length]
  exact r.cut _ _
theorem RWs.cut {K : PySem.W.Frag} {H : Hp} {M : Addr → Prop} {η : List Addr} {vs : List V} {ws : List EV.W} (r : RWs K H M η vs ws) (lo hi : Option Int) : RWs K H M η (cutV vs lo hi) (cutL ws lo hi) := by
  have tk : ∀ {vs : List V} {xs : List EV.W}, RWs K H M η vs xs → ∀ j : Nat, RWs K H M η (vs.take j) (xs.take j) := by
    intro vs xs r
    induction vs generalizing xs with
    | nil =>
      intro j
      cases r
      simpa using Paired.nil
    | cons v vs ih =>
      intro j
      cases r with
      | cons p q =>
        cases j with
        | zero => exact .nil
        | succ j => exact .cons p (ih q j)
  have dr : ∀ {vs : List V} {xs : List EV.W}, RWs K H M η vs xs → ∀ j : Nat, RWs K H M η (vs.drop j) (xs.drop j) := by
    intro vs xs r
    induction vs generalizing xs with
    | nil =>
      intro j
      cases r
      simpa using Paired.nil
    | cons v vs ih =>
      intro j
      cases r with
      | cons p q =>
        cases j with
        | zero => exact .cons p q
        | succ j => exact ih q j
  rw [cutL_eq]
  show RWs K H M η ((vs.drop (HT.sIx vs.length 0 lo)).take _) ((ws.drop _).take _)
  rw [r.length]
  exact tk (dr r _) _
theorem cutP_all {α : Type} (xs : List α) (lo hi : Option Int) (h : HT.sIx xs.length 0 lo = 0 ∧ HT.sIx xs.length xs.length hi = xs.length) : cutP xs lo hi = xs := by
  unfold cutP
  rw [h.1, h.2]
  simp
theorem cutL_mem {α : Type} (xs : List α) (lo hi : Option Int) : (∀ y ∈ cutL xs lo hi, y ∈ xs) ∧ (cutL xs lo hi).length ≤ xs.length := by
  rw [cutL_eq]
  unfold cutP
  exact ⟨fun y hy => List.mem_of_mem_drop (List.mem_of_mem_take hy), by simp; omega⟩
theorem cutS_ok {z : Str} (lo hi : Option Int) (hz : PyData.strOk z = true) (hl : z.length ≤ sizeLine) : cutS z lo hi = ⟨(cutL z.cps.toList lo hi).toArray⟩ ∧ PyData.strOk ⟨(cutL z.cps.toList lo hi).toArray⟩ = true ∧ (⟨(cutL z.cps.toList lo hi).toArray⟩ : Str).length ≤ sizeLine := by
  refine ⟨?_, ?_, ?_⟩
  · rw [cutL_eq]
    rfl
  · unfold PyData.strOk at hz ⊢
    rw [Array.all_eq_true_iff_forall_mem] at hz ⊢
    intro y hy
    exact hz y (Array.mem_toList_iff.mp ((cutL_mem _ lo hi).1 y (by simpa using hy)))
  · refine Nat.le_trans ?_ hl
    show (cutL z.cps.toList lo hi).toArray.size ≤ z.cps.size
    simpa using (cutL_mem z.cps.toList lo hi).2
theorem optI_some {w : EV.W} {o : Option Int} (e : optI w = some o) : w = ofO o := by
  cases w with
  | r n => cases e
  | d y => cases y <;> cases e <;> rfl
theorem optI_of {w : EV.W} {o : Option Int} (e : w = ofO o) : optI w = some o := by
  subst e
  cases o <;> rfl
theorem s_slc {lo hi : Option Expr} {ml mh : SE} (x : Xk S X J W) (ha : SPE S X J W C a ma) (hl : SPO S X J W C lo ml) (hh : SPO S X J W C hi mh) : SPE S X J W C (.Subscript a (.Slice lo hi none p2) pos) (cSlc ma ml mh) :=
  PE.conseq (pe_slice (sl_tupA.or sl_str) ha hl hh) fun σ H Q ⟨Z, η, ρ, h, A, k⟩ => ⟨Z, η, ρ, h, A, KG.bind A.hr k fun w h1 η1 H1 f1 R1 k1 v r1 => ⟨Z, η1, ρ, h1, A.step x.jo f1 R1,
    KG.bind R1 k1 fun w2 h2 η2 H2 f2 R2 k2 => by
      cases c : optI w2 with
      | none => simp only [c] at k2; exact k2.elim
      | some i =>
        simp only [c] at k2
        refine ⟨i, optI_some c, Z, η2, ρ, h2, (A.step x.jo f1 R1).step x.jo f2 R2, KG.bind R2 k2 fun w3 h3 η3 H3 f3 R3 k3 => ?_⟩
        cases d : optI w3 with
        | none => simp only [d] at k3; exact k3.elim
        | some j =>
          simp only [d] at k3
          refine ⟨j, optI_some d, ?_⟩
          cases w with
          | r n => exact k3.elim
          | d y =>
            have r3 := f3.rw R2 (f2.rw R1 r1)
            cases r3 with
            | @tup a xs ds t rs =>
              have z := rs.cutL_ok i j
              refine .inl ⟨a, xs, rfl, t, fun all => ?_, fun _ p hp => ?_⟩
              · have e : cutV xs i j = xs := cutP_all xs i j all
                rw [e] at z
                exact KG.give (S := S) (W := W) R3 k3 (RV.tup t z)
              · exact k3 η3 _ (FR.alloc hp _) (R3.alloc hp _) _ (RV.alloc R3 hp z)
            | str z hz hl =>
              obtain ⟨e1, e2, e3⟩ := cutS_ok i j hz hl
              refine .inr ⟨z, rfl, hl, ?_⟩
              rw [e1]
              exact KG.give (S := S) (W := W) R3 k3 (RV.str _ e2 e3)
            | _ => exact k3.elim⟩⟩
end
end EV
end

section
set_option Elab.async false
set_option linter.all false
set_option maxRecDepth 100000
namespace EV
open PySem L2
section
variable {S : Sc} {K : PySem.W.Frag} {Z : Addr → Prop} {M : Addr → Prop} {η η' η2 : List Addr} {h h' h2 : Hs} {H H' H2 : Hp} {σ : L2.St} {ρ : En}
/-- what a piece of the run leaves, where it fills lists of P -/
structure FRX (P : Addr → Prop) (η : List Addr) (h : Hs) (H : Hp) (η' : List Addr) (h' : Hs) (H' : Hp) : Prop where
  ext : ∃ t, η' = η ++ t
  keep : ∀ a o, H a = some o → ¬ mutA η h a → ¬ P a → (∀ ps, o ≠ .tbl ps) → H' a = some o
  new : ∀ a, mutA η' h' a → mutA η h a ∨ H a = none
  here : ∀ a o, H a = some o → ∃ o', H' a = some o'
  lk : ∀ (n : Nat) (ws : List W), h[n]? = some (.lck ws) → h'[n]? = some (.lck ws)
  lst : ∀ a vs, P a → H a = some (.lst vs) → ∃ us, H' a = some (.lst us)
theorem FR.x (f : FR η h H η' h' H') : FRX (fun _ => False) η h H η' h' H' := ⟨f.ext, fun a o e m _ t => f.keep a o e m t, f.new, f.here, f.lk, fun _ _ q => q.elim⟩
theorem FR.xz {P : Addr → Prop} (f : FR η h H η' h' H') (R : HR S K Z η h H) (hp : ∀ a, P a → Z a) : FRX P η h H η' h' H' := ⟨f.ext, fun a o e m _ t => f.keep a o e m t, f.new, f.here, f.lk, fun a vs q e => ⟨vs, f.keep a _ e (fun m => by
  obtain ⟨n, e1, _⟩ := m
  exact R.zd a (hp a q) (List.mem_of_getElem? e1)) fun ps z => nomatch z⟩⟩
theorem FRX.trans {P : Addr → Prop} (a : FRX P η h H η' h' H') (b : FRX P η' h' H' η2 h2 H2) : FRX P η h H η2 h2 H2 where
  ext := by
    obtain ⟨t, e⟩ := a.ext
    obtain ⟨u, f⟩ := b.ext
    exact ⟨t ++ u, by rw [f, e, List.append_assoc]⟩
  keep := fun c o e n p t => b.keep c o (a.keep c o e n p t) (fun m => by
    rcases a.new c m with z | z
    · exact n z
    · rw [e] at z; cases z) p t
  new := fun c m => by
    rcases b.new c m with z | z
    · exact a.new c z
    · refine .inr ?_
      cases q : H c with
      | none => rfl
      | some o =>
        obtain ⟨o', e⟩ := a.here c o q
        rw [e] at z; cases z
  here := fun c o e => by
    obtain ⟨o', q⟩ := a.here c o e
    exact b.here c o' q
  lk := fun n ws e => b.lk n ws (a.lk n ws e)
  lst := fun c vs p e => by
    obtain ⟨us, q⟩ := a.lst c vs p e
    exact b.lst c us p q
theorem FRX.eta {P : Addr → Prop} (f : FRX P η h H η' h' H') {n : Nat} {a : Addr} (e : η[n]? = some a) : η'[n]? = some a := by
  obtain ⟨t, q⟩ := f.ext
  rw [q, List.getElem?_append_left (List.getElem?_eq_some_iff.mp e).1]
  exact e
section
variable {P : Addr → Prop} (f : FRX P η h H η' h' H') (R : HR S K Z η h H) (hp : ∀ a, P a → Z a)
include f hp in
theorem FRX.ll (a : Addr) (xs : List V) (r : Rd H a (.lst xs)) (m : ¬ MM Z η h a) : Rd H' a (.lst xs) ∧ ¬ MM Z η' h' a := by
  have nm : ¬ mutA η h a := fun q => m (.inr q)
  have np : ¬ P a := fun q => m (.inl (hp a q))
  have hs : ∃ o, H a = some o := by
    rcases r with r | ⟨o, r⟩
    · exact ⟨_, r⟩
    · exact ⟨_, r⟩
  refine ⟨?_, fun q => ?_⟩
  · rcases r with r | ⟨o, r⟩
    · exact .inl (f.keep a _ r nm np fun ps z => nomatch z)
    · exact .inr ⟨o, f.keep a _ r nm np fun ps z => nomatch z⟩
  · rcases q with q | q
    · exact m (.inl q)
    · rcases f.new a q with z | z
      · exact nm z
      · obtain ⟨o, e⟩ := hs
        rw [e] at z; cases z
include f R hp in
theorem FRX.tup (a : Addr) (xs : List V) (r : SqT K H a xs) : SqT K H' a xs := by
  have np : ∀ o, H a = some o → (∀ vs, o ≠ .lst vs) → ¬ mutA η h a ∧ ¬ P a := fun o e ne => ⟨fun m => by
    obtain ⟨vs, q⟩ := R.mutK m
    rw [e] at q
    cases q
    exact ne vs rfl, fun p => by
    obtain ⟨vs, q⟩ := R.zk a (hp a p)
    rw [e] at q
    cases q
    exact ne vs rfl⟩
  rcases r with (r | ⟨o, r⟩) | r
  · exact .inl (.inl (f.keep a _ r (np _ r fun vs z => nomatch z).1 (np _ r fun vs z => nomatch z).2 fun ps z => nomatch z))
  · exact .inl (.inr ⟨o, f.keep a _ r (np _ r fun vs z => nomatch z).1 (np _ r fun vs z => nomatch z).2 fun ps z => nomatch z⟩)
  · exact .inr r
include f R hp in
theorem FRX.dct (a : Addr) (r : H a = some (.dK [])) : H' a = some (.dK []) := f.keep a _ r (fun m => by
    obtain ⟨vs, q⟩ := R.mutK m
    rw [r] at q
    cases q) (fun p => by
    obtain ⟨vs, q⟩ := R.zk a (hp a p)
    rw [r] at q
    cases q) fun ps z => nomatch z
include f R hp in
theorem FRX.rv {v : V} {x : D} (r : RV K H (MM Z η h) v x) : RV K H' (MM Z η' h') v x := r.mono (f.ll hp) (f.tup R hp) (f.dct R hp)
include f R hp in
theorem FRX.rvs {v : List V} {x : List D} (r : RVs K H (MM Z η h) v x) : RVs K H' (MM Z η' h') v x := r.mono (f.ll hp) (f.tup R hp) (f.dct R hp)
include f R hp in
theorem FRX.rw {v : V} {w : W} (r : RW K H (MM Z η h) η v w) : RW K H' (MM Z η' h') η' v w := by
  cases w with
  | d x => exact f.rv R hp r
  | r n =>
    obtain ⟨a, e, q⟩ := r
    exact ⟨a, f.eta e, q⟩
include f R hp in
theorem FRX.rws {vs : List V} {ws : List W} (r : RWs K H (MM Z η h) η vs ws) : RWs K H' (MM Z η' h') η' vs ws := RWs.imp (fun v w q => f.rw R hp q) r
include f R hp in
theorem FRX.sr (s : SR K H (MM Z η h) η σ ρ) : SR K H' (MM Z η' h') η' σ ρ :=
  ⟨s.1, fun i w e => let ⟨v, a, b⟩ := s.2 i w e; ⟨v, a, f.rw R hp b⟩⟩
end
/-- one more item, as a step -/
theorem FRX.push {B : Addr} {us : List V} : FRX (fun a => a = B) η h H η h (upd H B (.lst us)) :=
  ⟨⟨[], by simp⟩, fun a o e _ np _ => by rw [upd_ne np]; exact e, fun a m => .inl m, fun a o e => by
    by_cases q : a = B
    · exact ⟨.lst us, by rw [q, upd_same]⟩
    · exact ⟨o, by rw [upd_ne q]; exact e⟩, fun _ _ e => e, fun a vs p e => ⟨us, by rw [show a = B from p, upd_same]⟩⟩
/-- one more item -/
theorem HR.grow (R : HR S K Z η h H) {B : Addr} {acc us : List V} (hZ : Z B) (e : H B = some (.lst acc)) : HR S K Z η h (upd H B (.lst us)) := by
  have nd : B ∉ η := R.zd B hZ
  have hp : ∀ a, (fun a => a = B) a → Z a := fun a q => by rw [show a = B from q]; exact hZ
  have f : FRX (fun a => a = B) η h H η h (upd H B (.lst us)) := FRX.push
  refine ⟨R.len, R.nd, fun n a o ea q => ?_, fun a z => ?_, R.zd, tabs_lst R.tabs e⟩
  · have ne : a ≠ B := fun z => nd (z ▸ List.mem_of_getElem? ea)
    have z := R.obj n a o ea q
    cases o with
    | lst ws =>
      obtain ⟨vs, x, r⟩ := z
      exact ⟨vs, by rw [upd_ne ne]; exact x, f.rws R hp r⟩
    | lck ws =>
      obtain ⟨vs, x, r⟩ := z
      exact ⟨vs, by rw [upd_ne ne]; exact x, f.rws R hp r⟩
    | frz x =>
      obtain ⟨xs, ds, a1, a2, a3, a4⟩ := z
      exact ⟨xs, ds, a1, (f.ll hp a xs a2 a3).1, a3, f.rvs R hp a4⟩
  · by_cases q : a = B
    · rw [q]
      exact ⟨us, upd_same⟩
    · obtain ⟨vs, x⟩ := R.zk a z
      exact ⟨vs, by rw [upd_ne q]; exact x⟩
/-! ### lists closed for the time of a loop -/
def LckOk (h : Hs) (lk : List (Nat × List W)) : Prop := ∀ p ∈ lk, h[p.1]? = some (.lst p.2) ∨ h[p.1]? = some (.lck p.2)
theorem lck_same {h : Hs} {n : Nat} {ws us : List W} (a : h[n]? = some (.lst ws) ∨ h[n]? = some (.lck ws)) (b : h[n]? = some (.lst us) ∨ h[n]? = some (.lck us)) : us = ws := by
  rcases a with a | a <;> rcases b with b | b <;> rw [a] at b <;> cases b <;> rfl
theorem LckOk.set {h : Hs} {n : Nat} {ws : List W} {o : O} {r : List (Nat × List W)} (a : LckOk h ((n, ws) :: r)) (ho : o = .lst ws ∨ o = .lck ws) : LckOk (h.set n o) r := fun p hp => by
  have p1 := a p (List.mem_cons_of_mem _ hp)
  have p0 := a (n, ws) (by simp)
  by_cases hk : p.1 = n
  · have hn : n < h.length := by rcases p0 with q | q <;> exact (List.getElem?_eq_some_iff.mp q).1
    rw [hk] at p1 ⊢
    rw [lck_same p0 p1, List.getElem?_set_self hn]
    rcases ho with e | e
    · exact .inl (by rw [e])
    · exact .inr (by rw [e])
  · rw [List.getElem?_set_ne (Ne.symm hk)]
    exact p1
theorem lock_ok : ∀ (lk : List (Nat × List W)) {h : Hs}, HR S K Z η h H → LckOk h lk → HR S K Z η (lockH h lk) H ∧ FR η h H η (lockH h lk) H ∧ ∀ p ∈ lk, (lockH h lk)[p.1]? = some (.lck p.2)
  | [], h, R, _ => ⟨R, FR.refl, fun p q => by simp at q⟩
  | (n, ws) :: r, h, R, a => by
    have p0 := a (n, ws) (by simp)
    have hn : n < h.length := by rcases p0 with q | q <;> exact (List.getElem?_eq_some_iff.mp q).1
    have R1 : HR S K Z η (h.set n (.lck ws)) H := by
      rcases p0 with q | q
      · exact R.lock q (.inl rfl) (.inr rfl)
      · exact R.lock q (.inr rfl) (.inr rfl)
    have hm : isMut h n := ⟨ws, p0⟩
    have f1 : FR η h H η (h.set n (.lck ws)) H := ⟨FR0.lock hm ⟨ws, .inr rfl⟩, fun k us e => by
      by_cases hk : k = n
      · subst hk
        rw [lck_same p0 (.inr e), List.getElem?_set_self hn]
      · rw [List.getElem?_set_ne (Ne.symm hk)]
        exact e⟩
    obtain ⟨R2, f2, g⟩ := lock_ok r R1 (a.set (.inr rfl))
    unfold lockH
    rw [setH_eq]
    refine ⟨R2, f1.trans f2 R, fun p hp => ?_⟩
    rcases List.mem_cons.mp hp with e | e
    · subst e
      exact f2.lk n ws (List.getElem?_set_self hn)
    · exact g p e
theorem unlock_ok : ∀ (lk : List (Nat × List W)) {h : Hs}, HR S K Z η h H → LckOk h lk → HR S K Z η (unlock h lk) H ∧ FR0 η h H η (unlock h lk) H ∧ ∀ k, (∀ p ∈ lk, p.1 ≠ k) → (unlock h lk)[k]? = h[k]?
  | [], h, R, _ => ⟨R, FR0.refl, fun _ _ => rfl⟩
  | (n, ws) :: r, h, R, a => by
    have p0 := a (n, ws) (by simp)
    have R1 : HR S K Z η (h.set n (.lst ws)) H := by
      rcases p0 with q | q
      · exact R.lock q (.inl rfl) (.inl rfl)
      · exact R.lock q (.inr rfl) (.inl rfl)
    have hm : isMut h n := ⟨ws, p0⟩
    obtain ⟨R2, f2, g⟩ := unlock_ok r R1 (a.set (.inl rfl))
    unfold unlock
    rw [setH_eq]
    refine ⟨R2, (FR0.lock hm ⟨ws, .inl rfl⟩).trans f2 R, fun k hk => ?_⟩
    rw [g k fun p hp => hk p (List.mem_cons_of_mem _ hp), List.getElem?_set_ne (hk (n, ws) (by simp))]
/-- open again: what the loop leaves -/
theorem reopen {Z0 : Addr → Prop} (R : HR S K Z0 η h H) {lk : List (Nat × List W)} (a : ∀ p ∈ lk, h[p.1]? = some (.lst p.2)) (f : FR η (lockH h lk) H η2 h2 H2) (R2 : HR S K Z η2 h2 H2) :
    HR S K Z η2 (unlock h2 lk) H2 ∧ FR η h H η2 (unlock h2 lk) H2 ∧ FR0 η2 h2 H2 η2 (unlock h2 lk) H2 := by
  obtain ⟨R1, f1, g1⟩ := lock_ok lk R fun p hp => .inl (a p hp)
  have a2 : LckOk h2 lk := fun p hp => .inr (f.lk _ _ (g1 p hp))
  obtain ⟨R3, f3, g3⟩ := unlock_ok lk R2 a2
  refine ⟨R3, ⟨(f1.trans f R).toFR0.trans f3 R, fun k ws e => ?_⟩, f3⟩
  rw [g3 k fun p hp z => by rw [← z, a p hp] at e; cases e]
  exact f.lk k ws (f1.lk k ws e)
theorem reopenX {Z0 : Addr → Prop} {P : Addr → Prop} (R : HR S K Z0 η h H) {lk : List (Nat × List W)} (a : ∀ p ∈ lk, h[p.1]? = some (.lst p.2)) (f : FRX P η (lockH h lk) H η2 h2 H2) (R2 : HR S K Z η2 h2 H2) :
    HR S K Z η2 (unlock h2 lk) H2 ∧ FRX P η h H η2 (unlock h2 lk) H2 ∧ FR0 η2 h2 H2 η2 (unlock h2 lk) H2 := by
  obtain ⟨R1, f1, g1⟩ := lock_ok lk R fun p hp => .inl (a p hp)
  have a2 : LckOk h2 lk := fun p hp => .inr (f.lk _ _ (g1 p hp))
  obtain ⟨R3, f3, g3⟩ := unlock_ok lk R2 a2
  have z : FRX P η h H η2 h2 H2 := FRX.trans ⟨f1.ext, fun a o e m _ t => f1.keep a o e m t, f1.new, f1.here, f1.lk, fun a vs q e => ⟨vs, e⟩⟩ f
  refine ⟨R3, ⟨z.ext, z.keep, fun c m => ?_, z.here, fun k ws e => ?_, z.lst⟩, f3⟩
  · rcases f3.new c m with q | q
    · exact z.new c q
    · refine .inr ?_
      cases q2 : H c with
      | none => rfl
      | some o =>
        obtain ⟨o', e⟩ := z.here c o q2
        rw [e] at q; cases q
  · rw [g3 k fun p hp z => by rw [← z, a p hp] at e; cases e]
    exact f.lk k ws (f1.lk k ws e)
/-! ### what is walked over -/
/-- a value of a walk -/
def IWR (K : PySem.W.Frag) (H : Hp) (M : Addr → Prop) (η : List Addr) (v : V) : IW → Prop
  | .one w => RW K H M η v w
  | .two a b => ∃ T p q, v = .ref T ∧ H T = some (.tup [p, q]) ∧ RW K H M η p a ∧ RW K H M η q b
structure WalkW (S : Sc) (K : PySem.W.Frag) (Z : Addr → Prop) (Jt : L2.It) (items : List IW) (G : List Addr → Hs → Hp → Prop) : Prop where
  pers : ∀ {P : Addr → Prop} {η η' h h' H H'}, (∀ a, P a → Z a) → G η h H → HR S K Z η h H → FRX P η h H η' h' H' → G η' h' H'
  goes : ∀ {η h H} i, G η h H → HR S K Z η h H → i < items.length → Jt.go i H
  stops : ∀ {η h H}, G η h H → HR S K Z η h H → Jt.stop items.length H
  yld : ∀ {η h H} i x H', G η h H → HR S K Z η h H → i < items.length → Jt.yld i H x H' → ∃ it, items[i]? = some it ∧ FR η h H η h H' ∧ HR S K Z η h H' ∧ IWR K H' (MM Z η h) η x it
theorem onesL_get : ∀ (ws : List W) (i : Nat), (onesL ws)[i]? = (ws[i]?).map .one
  | [], i => by simp [onesL]
  | w :: r, 0 => by simp [onesL]
  | w :: r, i + 1 => by simp [onesL, onesL_get r i]
theorem onesL_len : ∀ ws : List W, (onesL ws).length = ws.length
  | [] => rfl
  | w :: r => by simp [onesL, onesL_len r]
theorem enumL_get : ∀ (ws : List W) (k : Int) (i : Nat), (enumL k ws)[i]? = (ws[i]?).map fun w => .two (.d (.int (k + i))) w
  | [], k, i => by simp [enumL]
  | w :: r, k, 0 => by simp [enumL]
  | w :: r, k, i + 1 => by
    have e : k + ((i + 1 : Nat) : Int) = (k + 1) + (i : Int) := by omega
    rw [e]
    simp [enumL, enumL_get r (k + 1) i]
theorem enumL_len : ∀ (ws : List W) (k : Int), (enumL k ws).length = ws.length
  | [], _ => rfl
  | w :: r, k => by simp [enumL, enumL_len r]
theorem zipL_get : ∀ (ws us : List W) (i : Nat) (w u : W), ws[i]? = some w → us[i]? = some u → (zipL ws us)[i]? = some (.two w u)
  | [], _, i, _, _, e, _ => by simp at e
  | _ :: _, [], i, _, _, _, e => by simp at e
  | a :: as, b :: bs, 0, w, u, e, f => by
    simp at e f
    simp [zipL, e, f]
  | a :: as, b :: bs, i + 1, w, u, e, f => by simpa [zipL] using zipL_get as bs i w u (by simpa using e) (by simpa using f)
theorem zipL_len : ∀ ws us : List W, (zipL ws us).length = min ws.length us.length
  | [], us => by simp [zipL]
  | _ :: _, [] => by simp [zipL]
  | a :: as, b :: bs => by simp [zipL, zipL_len as bs]
/-- something whose items are these, for the time of a loop -/
structure Held (S : Sc) (K : PySem.W.Frag) (Z : Addr → Prop) (Sq : Hp → List V → Prop) (ws : List W) (G : List Addr → Hs → Hp → Prop) : Prop where
  pers : ∀ {P : Addr → Prop} {η η' h h' H H'}, (∀ a, P a → Z a) → G η h H → HR S K Z η h H → FRX P η h H η' h' H' → G η' h' H'
  its : ∀ {η h H}, G η h H → HR S K Z η h H → ∃ xs, Sq H xs ∧ RWs K H (MM Z η h) η xs ws
theorem Held.and {Sq : Hp → List V → Prop} {ws : List W} {G G' : List Addr → Hs → Hp → Prop} (a : Held S K Z Sq ws G) (b : ∀ {P : Addr → Prop} {η η' h h' H H'}, (∀ a, P a → Z a) → G' η h H → HR S K Z η h H → FRX P η h H η' h' H' → G' η' h' H') : Held S K Z Sq ws (fun η h H => G η h H ∧ G' η h H) ∧ Held S K Z Sq ws (fun η h H => G' η h H ∧ G η h H) :=
  ⟨⟨fun hp g R f => ⟨a.pers hp g.1 R f, b hp g.2 R f⟩, fun g R => a.its g.1 R⟩, ⟨fun hp g R f => ⟨b hp g.1 R f, a.pers hp g.2 R f⟩, fun g R => a.its g.2 R⟩⟩
theorem walk_l {a : Addr} {ws : List W} {G : List Addr → Hs → Hp → Prop} (hd : Held S K Z (fun H xs => SqL K H a xs) ws G) : WalkW S K Z (Itl K a) (onesL ws) G where
  pers := hd.pers
  goes := fun i g R hi => by
    obtain ⟨xs, q, r⟩ := hd.its g R
    rw [onesL_len] at hi
    have hi' : i < xs.length := by rw [r.length]; exact hi
    exact ⟨xs, xs[i], q, by simp [hi']⟩
  stops := fun g R => by
    obtain ⟨xs, q, r⟩ := hd.its g R
    exact ⟨xs, q, by rw [onesL_len, r.length]; exact Nat.le_refl _⟩
  yld := fun i x H' g R hi y => by
    obtain ⟨xs, q, r⟩ := hd.its g R
    obtain ⟨rfl, y⟩ := y
    rw [onesL_len] at hi
    have e : ws[i]? = some ws[i] := by simp [hi]
    obtain ⟨v, e1, e2⟩ := r.get e
    rw [y xs q] at e1
    cases e1
    exact ⟨.one ws[i], by rw [onesL_get, e]; rfl, FR.refl, R, e2⟩
theorem walk_t {a : Addr} {ws : List W} {G : List Addr → Hs → Hp → Prop} (hd : Held S K Z (fun H xs => SqT K H a xs) ws G) : WalkW S K Z (Itt K a) (onesL ws) G where
  pers := hd.pers
  goes := fun i g R hi => by
    obtain ⟨xs, q, r⟩ := hd.its g R
    rw [onesL_len] at hi
    have hi' : i < xs.length := by rw [r.length]; exact hi
    exact ⟨xs, xs[i], q, by simp [hi']⟩
  stops := fun g R => by
    obtain ⟨xs, q, r⟩ := hd.its g R
    exact ⟨xs, q, by rw [onesL_len, r.length]; exact Nat.le_refl _⟩
  yld := fun i x H' g R hi y => by
    obtain ⟨xs, q, r⟩ := hd.its g R
    obtain ⟨rfl, y⟩ := y
    rw [onesL_len] at hi
    have e : ws[i]? = some ws[i] := by simp [hi]
    obtain ⟨v, e1, e2⟩ := r.get e
    rw [y xs q] at e1
    cases e1
    exact ⟨.one ws[i], by rw [onesL_get, e]; rfl, FR.refl, R, e2⟩
theorem pair_at {T : Addr} {p q : V} {a b : W} (hT : H T = none) (R : HR S K Z η h H) (r1 : RW K H (MM Z η h) η p a) (r2 : RW K H (MM Z η h) η q b) :
    FR η h H η h (upd H T (.tup [p, q])) ∧ HR S K Z η h (upd H T (.tup [p, q])) ∧ IWR K (upd H T (.tup [p, q])) (MM Z η h) η (.ref T) (.two a b) :=
  ⟨FR.alloc hT _, R.alloc hT _, T, p, q, rfl, upd_same, (FR.alloc hT _).rw R r1, (FR.alloc hT _).rw R r2⟩
theorem walk_e {a : Addr} {ws : List W} {G : List Addr → Hs → Hp → Prop} (hd : Held S K Z (fun H xs => SqL K H a xs) ws G) : WalkW S K Z (Ite K a) (enumL 0 ws) G where
  pers := hd.pers
  goes := fun i g R hi => by
    obtain ⟨xs, q, r⟩ := hd.its g R
    rw [enumL_len] at hi
    have hi' : i < xs.length := by rw [r.length]; exact hi
    exact ⟨xs, xs[i], q, by simp [hi']⟩
  stops := fun g R => by
    obtain ⟨xs, q, r⟩ := hd.its g R
    exact ⟨xs, q, by rw [enumL_len, r.length]; exact Nat.le_refl _⟩
  yld := fun i x H' g R hi y => by
    obtain ⟨xs, q, r⟩ := hd.its g R
    obtain ⟨T, y0, rfl, hT, rfl, y⟩ := y
    rw [enumL_len] at hi
    have e : ws[i]? = some ws[i] := by simp [hi]
    obtain ⟨v, e1, e2⟩ := r.get e
    rw [y xs q] at e1
    cases e1
    obtain ⟨z1, z2, z3⟩ := pair_at (a := .d (.int (0 + (i : Nat)))) (b := ws[i]) (p := .int (i : Nat)) hT R (by rw [Int.zero_add]; exact RV.int _) e2
    exact ⟨_, by rw [enumL_get, e]; rfl, z1, z2, z3⟩
theorem walk_zl {a b : Addr} {ws us : List W} {G : List Addr → Hs → Hp → Prop} (hd : Held S K Z (fun H xs => SqL K H a xs) ws G) (hd2 : Held S K Z (fun H xs => SqL K H b xs) us G) : WalkW S K Z (Itz K a b) (zipL ws us) G where
  pers := hd.pers
  goes := fun i g R hi => by
    obtain ⟨xs, q, r⟩ := hd.its g R
    obtain ⟨ys, q2, r2⟩ := hd2.its g R
    rw [zipL_len] at hi
    have hi' : i < xs.length := by rw [r.length]; omega
    have hi2 : i < ys.length := by rw [r2.length]; omega
    exact ⟨xs, ys, xs[i], ys[i], q, q2, by simp [hi'], by simp [hi2]⟩
  stops := fun g R => by
    obtain ⟨xs, q, r⟩ := hd.its g R
    obtain ⟨ys, q2, r2⟩ := hd2.its g R
    exact ⟨xs, ys, q, q2, by rw [zipL_len, r.length, r2.length]; omega⟩
  yld := fun i x H' g R hi y => by
    obtain ⟨xs, q, r⟩ := hd.its g R
    obtain ⟨ys, q2, r2⟩ := hd2.its g R
    obtain ⟨T, y0, y1, rfl, hT, rfl, y, y'⟩ := y
    rw [zipL_len] at hi
    have e : ws[i]? = some (ws[i]'(by omega)) := by simp
    have e' : us[i]? = some (us[i]'(by omega)) := by simp
    obtain ⟨v, e1, e2⟩ := r.get e
    obtain ⟨v', e1', e2'⟩ := r2.get e'
    rw [y xs q] at e1
    cases e1
    rw [y' ys q2] at e1'
    cases e1'
    obtain ⟨z1, z2, z3⟩ := pair_at hT R e2 e2'
    exact ⟨_, zipL_get ws us i _ _ e e', z1, z2, z3⟩
theorem walk_zt {a b : Addr} {ws us : List W} {G : List Addr → Hs → Hp → Prop} (hd : Held S K Z (fun H xs => SqT K H a xs) ws G) (hd2 : Held S K Z (fun H xs => SqT K H b xs) us G) : WalkW S K Z (RZ.ItzT K a b) (zipL ws us) G where
  pers := hd.pers
  goes := fun i g R hi => by
    obtain ⟨xs, q, r⟩ := hd.its g R
    obtain ⟨ys, q2, r2⟩ := hd2.its g R
    rw [zipL_len] at hi
    have hi' : i < xs.length := by rw [r.length]; omega
    have hi2 : i < ys.length := by rw [r2.length]; omega
    exact ⟨xs, ys, xs[i], ys[i], q, q2, by simp [hi'], by simp [hi2]⟩
  stops := fun g R => by
    obtain ⟨xs, q, r⟩ := hd.its g R
    obtain ⟨ys, q2, r2⟩ := hd2.its g R
    exact ⟨xs, ys, q, q2, by rw [zipL_len, r.length, r2.length]; omega⟩
  yld := fun i x H' g R hi y => by
    obtain ⟨xs, q, r⟩ := hd.its g R
    obtain ⟨ys, q2, r2⟩ := hd2.its g R
    obtain ⟨T, y0, y1, rfl, hT, rfl, y, y'⟩ := y
    rw [zipL_len] at hi
    have e : ws[i]? = some (ws[i]'(by omega)) := by simp
    have e' : us[i]? = some (us[i]'(by omega)) := by simp
    obtain ⟨v, e1, e2⟩ := r.get e
    obtain ⟨v', e1', e2'⟩ := r2.get e'
    rw [y xs q] at e1
    cases e1
    rw [y' ys q2] at e1'
    cases e1'
    obtain ⟨z1, z2, z3⟩ := pair_at hT R e2 e2'
    exact ⟨_, zipL_get ws us i _ _ e e', z1, z2, z3⟩
theorem rngL_get (c : Int) : ∀ (n : Nat) (a : Int) (i : Nat), i < n → (rngL a c n)[i]? = some (.int (a + i * c))
  | 0, _, _, h => by omega
  | n + 1, a, 0, _ => by simp [rngL]
  | n + 1, a, i + 1, h => by
    have := rngL_get c n (a + c) i (by omega)
    have e : a + ((i + 1 : Nat) : Int) * c = a + c + (i : Int) * c := by
      have : ((i + 1 : Nat) : Int) = (i : Int) + 1 := by omega
      rw [this, Int.add_mul, Int.one_mul]
      omega
    rw [e]
    simpa [rngL] using this
theorem rngL_len (c : Int) : ∀ (n : Nat) (a : Int), (rngL a c n).length = n
  | 0, _ => rfl
  | n + 1, a => by simp [rngL, rngL_len c n]
theorem dsW_len (xs : List D) : (dsW xs).length = xs.length := by rw [dsW_eq, List.length_map]
theorem walk_rc {a c : Int} {n : Nat} : WalkW S K Z (Itc a c n) (onesL (dsW (rngL a c n))) (fun _ _ _ => True) where
  pers := fun _ _ _ _ => trivial
  goes := fun i _ _ hi => by rw [onesL_len, dsW_len, rngL_len] at hi; exact hi
  stops := fun _ _ => by rw [onesL_len, dsW_len, rngL_len]; exact Nat.le_refl _
  yld := fun i x H' _ R hi y => by
    obtain ⟨rfl, rfl⟩ := y
    rw [onesL_len, dsW_len, rngL_len] at hi
    refine ⟨.one (.d (.int (a + i * c))), ?_, FR.refl, R, RV.int _⟩
    rw [onesL_get, dsW_eq, List.getElem?_map, rngL_get c n a i hi]
    rfl
end
end EV
end

section
set_option Elab.async false
set_option linter.all false
set_option maxRecDepth 100000
namespace EV
open PySem L2
/-- for the time of a loop: whatever else is changed, and through new things -/
def HoldI (S : Sc) (K : PySem.W.Frag) (Z : Addr → Prop) (η1 : List Addr) (h1 : Hs) (H1 : Hp) (lk : List (Nat × List W)) (Jt : L2.It) (items : List IW) : Prop :=
  ∀ (Z1 : Addr → Prop) (H2 : Hp), (∀ a, Z1 a → Z a ∨ H1 a = none) → (∀ a o, H1 a = some o → H2 a = some o) → ∃ G, WalkW S K Z1 Jt items G ∧ G η1 (lockH h1 lk) H2
def SeqH (S : Sc) (K : PySem.W.Frag) (Z : Addr → Prop) (η1 : List Addr) (h1 : Hs) (H1 : Hp) (lk : List (Nat × List W)) (Sq : Hp → List V → Prop) (ws : List W) : Prop :=
  ∀ (Z1 : Addr → Prop) (H2 : Hp) (lkA : List (Nat × List W)), (∀ p ∈ lk, p ∈ lkA) → (∀ p ∈ lkA, h1[p.1]? = some (.lst p.2)) → (∀ a, Z1 a → Z a ∨ H1 a = none) → (∀ a o, H1 a = some o → H2 a = some o) →
    ∃ G, Held S K Z1 Sq ws G ∧ G η1 (lockH h1 lkA) H2
section
variable {S : Sc} {K : PySem.W.Frag} {Z : Addr → Prop} {M : Addr → Prop} {η η' η2 : List Addr} {h h' h2 : Hs} {H H' H2 : Hp} {σ : L2.St} {ρ : En}
theorem rd_ne {a B : Addr} {u x : HO} (ne : a ≠ B) (r : Rd H a u) : Rd (upd H B x) a u := by
  rcases r with r | ⟨o, r⟩
  · exact .inl (by rw [upd_ne ne]; exact r)
  · exact .inr ⟨o, by rw [upd_ne ne]; exact r⟩
theorem not_mm (R : HR S K Z η h H) {a : Addr} {u : HO} (e : H a = some u) (m : ¬ MM Z η h a) {Z1 : Addr → Prop} {lk : List (Nat × List W)} (hl : ∀ p ∈ lk, h[p.1]? = some (.lst p.2)) (hz : ∀ a, Z1 a → Z a ∨ H a = none) : ¬ MM Z1 η (lockH h lk) a := by
  obtain ⟨_, f, _⟩ := lock_ok lk R fun p hp => .inl (hl p hp)
  rintro (q | q)
  · rcases hz a q with z | z
    · exact m (.inl z)
    · rw [e] at z; cases z
  · rcases f.new a q with z | z
    · exact m (.inr z)
    · rw [e] at z; cases z
theorem rvs_hold (R : HR S K Z η h H) {Z1 : Addr → Prop} {lk : List (Nat × List W)} (hl : ∀ p ∈ lk, h[p.1]? = some (.lst p.2)) (hz : ∀ a, Z1 a → Z a ∨ H a = none) (hh : ∀ a o, H a = some o → H2 a = some o) {xs : List V} {ds : List D}
    (r : RVs K H (MM Z η h) xs ds) : RVs K H2 (MM Z1 η (lockH h lk)) xs ds :=
  r.mono (fun a ys rd m => by
    rcases rd with rd | ⟨o, rd⟩
    · exact ⟨.inl (hh _ _ rd), not_mm R rd m hl hz⟩
    · exact ⟨.inr ⟨o, hh _ _ rd⟩, not_mm R rd m hl hz⟩) (fun a ys t => by
    rcases t with (t | ⟨o, t⟩) | t
    · exact .inl (.inl (hh _ _ t))
    · exact .inl (.inr ⟨o, hh _ _ t⟩)
    · exact .inr t) fun a e => hh _ _ e
theorem hold_dl (R : HR S K Z η h H) {a : Addr} {xs : List V} {ds : List D} (rd : Rd H a (.lst xs)) (m : ¬ MM Z η h a) (r : RVs K H (MM Z η h) xs ds) : SeqH S K Z η h H [] (fun H xs => SqL K H a xs) (dsW ds) := by
  intro Z1 H2 lkA _ hl hz hh
  refine ⟨fun η h H => ∃ xs, Rd H a (.lst xs) ∧ ¬ MM Z1 η h a ∧ RVs K H (MM Z1 η h) xs ds, ⟨fun hp ⟨xs, q1, q2, q3⟩ R f => ⟨xs, (f.ll hp a xs q1 q2).1, (f.ll hp a xs q1 q2).2, f.rvs R hp q3⟩, fun ⟨xs, q1, q2, q3⟩ R => ⟨xs, .inl q1, rvs_dsW q3⟩⟩, xs, ?_, ?_, rvs_hold R hl hz hh r⟩
  · rcases rd with rd | ⟨o, rd⟩
    · exact .inl (hh _ _ rd)
    · exact .inr ⟨o, hh _ _ rd⟩
  · rcases rd with rd | ⟨o, rd⟩
    · exact not_mm R rd m hl hz
    · exact not_mm R rd m hl hz
theorem hold_kl (R : HR S K Z η h H) {a : Addr} {xs : List V} {ds : List D} (t : KL K a xs) (r : RVs K H (MM Z η h) xs ds) : SeqH S K Z η h H [] (fun H xs => SqL K H a xs) (dsW ds) := by
  intro Z1 H2 lkA _ hl hz hh
  exact ⟨fun η h H => RVs K H (MM Z1 η h) xs ds, ⟨fun hp q3 R f => f.rvs R hp q3, fun q3 R => ⟨xs, t.sq, rvs_dsW q3⟩⟩, rvs_hold R hl hz hh r⟩
theorem hold_dt (R : HR S K Z η h H) {a : Addr} {xs : List V} {ds : List D} (t : SqT K H a xs) (r : RVs K H (MM Z η h) xs ds) : SeqH S K Z η h H [] (fun H xs => SqT K H a xs) (dsW ds) := by
  intro Z1 H2 lkA _ hl hz hh
  refine ⟨fun η h H => ∃ xs, SqT K H a xs ∧ RVs K H (MM Z1 η h) xs ds, ⟨fun hp ⟨xs, q1, q3⟩ R f => ⟨xs, f.tup R hp a xs q1, f.rvs R hp q3⟩, fun ⟨xs, q1, q3⟩ R => ⟨xs, q1, rvs_dsW q3⟩⟩, xs, ?_, rvs_hold R hl hz hh r⟩
  rcases t with (t | ⟨o, t⟩) | t
  · exact .inl (.inl (hh _ _ t))
  · exact .inl (.inr ⟨o, hh _ _ t⟩)
  · exact .inr t
theorem hold_r {n : Nat} {a : Addr} {ws : List W} (R : HR S K Z η h H) (ea : η[n]? = some a) {lk : List (Nat × List W)} (hq : ∀ lkA, (∀ p ∈ lk, p ∈ lkA) → (∀ p ∈ lkA, h[p.1]? = some (.lst p.2)) → (lockH h lkA)[n]? = some (.lck ws)) : SeqH S K Z η h H lk (fun H xs => SqL K H a xs) ws := by
  intro Z1 H2 lkA hs hl hz hh
  refine ⟨fun η h H => η[n]? = some a ∧ h[n]? = some (.lck ws), ⟨fun hp ⟨q1, q2⟩ R f => ⟨f.eta q1, f.lk _ _ q2⟩, fun ⟨q1, q2⟩ R => ?_⟩, ea, hq lkA hs hl⟩
  obtain ⟨vs, e1, e2⟩ := R.obj n a _ q1 q2
  exact ⟨vs, .inl (.inl e1), e2⟩
theorem seqW_ok (R : HR S K Z η h H) {v : V} {w : W} {ws : List W} {lk : List (Nat × List W)} (r : RW K H (MM Z η h) η v w) (e : seqW h w = some (ws, lk)) :
    ∃ a, v = .ref a ∧ ((isTup w = false ∧ ∃ xs, SqL K H a xs ∧ SeqH S K Z η h H lk (fun H xs => SqL K H a xs) ws) ∨ (isTup w = true ∧ ∃ xs, SqT K H a xs ∧ SeqH S K Z η h H lk (fun H xs => SqT K H a xs) ws)) ∧ ∀ p ∈ lk, h[p.1]? = some (.lst p.2) := by
  cases w with
  | d y =>
    cases r with
    | lst a b c =>
      simp only [seqW, Option.some.injEq, Prod.mk.injEq] at e
      obtain ⟨rfl, rfl⟩ := e
      exact ⟨_, rfl, .inl ⟨rfl, _, .inl a, hold_dl R a b c⟩, by simp⟩
    | kls a c =>
      simp only [seqW, Option.some.injEq, Prod.mk.injEq] at e
      obtain ⟨rfl, rfl⟩ := e
      exact ⟨_, rfl, .inl ⟨rfl, _, a.sq, hold_kl R a c⟩, by simp⟩
    | tup a b =>
      simp only [seqW, Option.some.injEq, Prod.mk.injEq] at e
      obtain ⟨rfl, rfl⟩ := e
      exact ⟨_, rfl, .inr ⟨rfl, _, a, hold_dt R a b⟩, by simp⟩
    | _ => cases e
  | r n =>
    obtain ⟨a, ea, rfl⟩ := r
    simp only [seqW, nth_eq] at e
    cases q : h[n]? with
    | none => rw [q] at e; cases e
    | some o =>
      rw [q] at e
      have z := R.obj n a o ea q
      cases o with
      | lst us =>
        simp only [Option.some.injEq, Prod.mk.injEq] at e
        obtain ⟨rfl, rfl⟩ := e
        obtain ⟨xs, e1, e2⟩ := z
        refine ⟨a, rfl, .inl ⟨rfl, xs, .inl (.inl e1), hold_r R ea fun lkA hs hl => ?_⟩, fun p hp => ?_⟩
        · obtain ⟨_, _, g⟩ := lock_ok lkA R fun p hp => .inl (hl p hp)
          exact g (n, us) (hs _ (by simp))
        · simp at hp
          subst hp
          exact q
      | lck us =>
        simp only [Option.some.injEq, Prod.mk.injEq] at e
        obtain ⟨rfl, rfl⟩ := e
        obtain ⟨xs, e1, e2⟩ := z
        refine ⟨a, rfl, .inl ⟨rfl, xs, .inl (.inl e1), hold_r R ea fun lkA hs hl => ?_⟩, by simp⟩
        obtain ⟨_, f, _⟩ := lock_ok lkA R fun p hp => .inl (hl p hp)
        exact f.lk _ _ q
      | frz y =>
        obtain ⟨xs, ds, rfl, e1, e2, e3⟩ := z
        simp only [Option.some.injEq, Prod.mk.injEq] at e
        obtain ⟨rfl, rfl⟩ := e
        exact ⟨a, rfl, .inl ⟨rfl, xs, .inl e1, hold_dl R e1 e2 e3⟩, by simp⟩
end
/-! ### iterators -/
def tI (S : Sc) (K : PySem.W.Frag) (J : JT) (W : WX) (m : En → Hs → Re Src) : TI := fun σ H R => ∃ Z η ρ h, At S K J σ H Z η ρ h ∧
  KG S K J W Z η h H (fun s h1 η1 H1 => ∀ Jt, (∀ p ∈ s.lock, h1[p.1]? = some (.lst p.2)) → HoldI S K Z η1 h1 H1 s.lock Jt s.items → R Jt H1) (m ρ h)
section
variable {X : Cx} {S : Sc} {J : JT} {W : WX} {C : Cv} {a b c e tg : Expr} {es : List Expr} {ma mb mc me : SE} {mr : SL} {pos p p2 : Pos}
abbrev SPI (S : Sc) (X : Cx) (J : JT) (W : WX) (C : Cv) (tg e : Expr) (m : SI) : Prop := PI X tg e (tI S X.K J W (m C))
theorem PI.conseq {tg e : Expr} {t t' : TI} (p : PI X tg e t) (h : ∀ σ H Q, t' σ H Q → t σ H Q) : PI X tg e t' := ⟨fun pins s σ H Q I q => p.run pins s σ H Q I (h σ H Q q)⟩
/-- a list or a tuple -/
def iAny (K : PySem.W.Frag) (tl : TE) : TI := fun σ H R => tl σ H fun x H1 => ∃ a, x = .ref a ∧ ((∃ xs, SqL K H1 a xs ∧ R (Itl K a) H1) ∨ ∃ xs, SqT K H1 a xs ∧ R (Itt K a) H1)
theorem pi_any {l : Expr} {tl : TE} (hl : PE X l tl) : PI X tg l (iAny X.K tl) := by
  refine ⟨fun pins s σ H R I h => thn (hl.run pins s σ H _ I h) fun v s1 ⟨x, H1, I1, r1, q1⟩ => ?_⟩
  obtain ⟨a, rfl, q⟩ := q1
  cases r1
  have fr : ∀ b ∈ [s1.heap.objs.size], FpOk X pins H1 b := fun b hb => by
    rw [List.mem_singleton.mp hb]
    exact I1.fpOk (Nat.le_refl _) (I1.hok.fresh (Nat.le_refl _))
  rcases q with ⟨xs, hq, q⟩ | ⟨xs, hq, q⟩
  · obtain ⟨its, rv, p, hz⟩ := I1.list hq
    exact wpAny_pyIter_list p.isList ⟨s1.heap.objs.size, [s1.heap.objs.size], _, _, H1, rfl, I1.kept (t' := s1.toks) fun _ _ e => Heap.get?_push_of_some _ e,
      turn_list a _, ⟨_, Heap.get?_push_size _ rfl, rfl, rfl⟩, fr, q⟩
  · obtain ⟨its, rv, p, hz⟩ := I1.tuple hq
    exact wpAny_pyIter_tuple (show s1.heap.IsTuple a its.toArray from p) ⟨s1.heap.objs.size, [s1.heap.objs.size], _, _, H1, rfl, I1.kept (t' := s1.toks) fun _ _ e => Heap.get?_push_of_some _ e,
      turn_tuple a _, ⟨_, Heap.get?_push_size _ rfl, rfl, rfl⟩, fr, q⟩
theorem i_seq (x : Xk S X J W) (he : SPE S X J W C e me) : SPI S X J W C tg e (iSeq me) :=
  PI.conseq (pi_any he) fun σ H R ⟨Z, η, ρ, h, A, k⟩ => ⟨Z, η, ρ, h, A, KG.bind A.hr k fun w h1 η1 H1 f1 R1 k1 v r1 => by
    cases c : seqW h1 w with
    | none => simp only [c] at k1; exact k1.elim
    | some y =>
      obtain ⟨ws, lk⟩ := y
      simp only [c] at k1
      obtain ⟨a, e, q, hl⟩ := seqW_ok R1 r1 c
      refine ⟨a, e, ?_⟩
      rcases q with ⟨_, xs, q1, q2⟩ | ⟨_, xs, q1, q2⟩
      · refine .inl ⟨xs, q1, KG.ok R1 k1 _ hl fun Z1 H2 hz hh => ?_⟩
        obtain ⟨G, g1, g2⟩ := q2 Z1 H2 lk (fun _ z => z) hl hz hh
        exact ⟨G, walk_l g1, g2⟩
      · refine .inr ⟨xs, q1, KG.ok R1 k1 _ hl fun Z1 H2 hz hh => ?_⟩
        obtain ⟨G, g1, g2⟩ := q2 Z1 H2 lk (fun _ z => z) hl hz hh
        exact ⟨G, walk_t g1, g2⟩⟩
theorem rng_hold {Z : Addr → Prop} {η : List Addr} {h : Hs} {H : Hp} {a c : Int} {n : Nat} {K : PySem.W.Frag} : HoldI S K Z η h H [] (Itc a c n) (onesL (dsW (rngL a c n))) := fun Z1 H2 _ _ => ⟨_, walk_rc, trivial⟩
theorem itr_itc (lo : Int) (n : Nat) : Itr lo n = Itc lo 1 n := by
  unfold Itr Itc
  simp
/-- the bounds of a range -/
theorem rngE_some {i j c : Int} {xs : List D} (e : rngE i j c = some xs) : (-(2 ^ 62) ≤ i ∧ i < 2 ^ 62 ∧ -(2 ^ 62) ≤ j ∧ j < 2 ^ 62) ∧ ((c = 1 ∧ xs = rngL i 1 (j - i).toNat) ∨ (c = -1 ∧ xs = rngL i (-1) (i - j).toNat)) := by
  unfold rngE at e
  split at e
  · rename_i g
    rw [Bool.and_eq_true, bnd_iff, bnd_iff] at g
    refine ⟨by omega, ?_⟩
    rw [ieq_iff, ieq_iff] at e
    split at e
    · rename_i g1
      exact .inl ⟨by simpa using g1, (Option.some.inj e).symm⟩
    · split at e
      · rename_i g2
        exact .inr ⟨by simpa using g2, (Option.some.inj e).symm⟩
      · cases e
  · cases e
theorem kg_one {α : Type} {P : α → Hs → List Addr → Hp → Prop} {P2 : List EV.W → Hs → List Addr → Hp → Prop} {k : EV.W → Hs → Re α} {Z : Addr → Prop} {η : List Addr} {h : Hs} {H : Hp} {ρ : En} (R : HR S X.K Z η h H) (q : KG S X.K J W Z η h H P ((ma C ρ h).then k))
    (f : ∀ x h2 η2 H2, FR η h H η2 h2 H2 → HR S X.K Z η2 h2 H2 → KG S X.K J W Z η2 h2 H2 P (k x h2) → P2 [x] h2 η2 H2) : KG S X.K J W Z η h H P2 (lOne ma lNil C ρ h) := by
  unfold lOne lNil
  cases e : ma C ρ h with
  | ok x h1 =>
    rw [e] at q
    exact fun η2 H2 f2 R2 => f x h1 η2 H2 f2 R2 (KG.step (r := k x h1) q f2 R)
  | ex y h1 => rw [e] at q; exact q
  | no => rw [e] at q; exact q
theorem kg_two {α : Type} {P : α → Hs → List Addr → Hp → Prop} {P2 : List EV.W → Hs → List Addr → Hp → Prop} {k : EV.W → EV.W → Hs → Re α} {Z : Addr → Prop} {η : List Addr} {h : Hs} {H : Hp} {ρ : En} (R : HR S X.K Z η h H) (q : KG S X.K J W Z η h H P ((ma C ρ h).then fun x h1 => (mb C ρ h1).then fun y h2 => k x y h2))
    (f : ∀ x y h2 η2 H2, FR η h H η2 h2 H2 → HR S X.K Z η2 h2 H2 → KG S X.K J W Z η2 h2 H2 P (k x y h2) → P2 [x, y] h2 η2 H2) : KG S X.K J W Z η h H P2 (lOne ma (lOne mb lNil) C ρ h) := by
  unfold lOne lNil
  cases e : ma C ρ h with
  | ok x h1 =>
    rw [e] at q
    dsimp only [Re.then] at q ⊢
    cases e2 : mb C ρ h1 with
    | ok y h2 =>
      rw [e2] at q
      exact fun η2 H2 f2 R2 => f x y h2 η2 H2 f2 R2 (KG.step (r := k x y h2) q f2 R)
    | ex y h2 => rw [e2] at q; exact q
    | no => rw [e2] at q; exact q
  | ex y h1 => rw [e] at q; exact q
  | no => rw [e] at q; exact q
theorem rws_one {K : PySem.W.Frag} {H : Hp} {M : Addr → Prop} {η : List Addr} {vs : List V} {w : EV.W} (r : RWs K H M η vs [w]) : ∃ v, vs = [v] ∧ RW K H M η v w := by
  cases r with
  | cons a b =>
    cases b
    exact ⟨_, rfl, a⟩
theorem rws_two {K : PySem.W.Frag} {H : Hp} {M : Addr → Prop} {η : List Addr} {vs : List V} {w w2 : EV.W} (r : RWs K H M η vs [w, w2]) : ∃ v v2, vs = [v, v2] ∧ RW K H M η v w ∧ RW K H M η v2 w2 := by
  cases r with
  | cons a b =>
    obtain ⟨v2, rfl, c⟩ := rws_one b
    exact ⟨_, _, rfl, a, c⟩
theorem i_rng1 (x : Xk S X J W) (hg : Gl X "range") (hm : X.mg "range" = none) (ha : SPE S X J W C a ma) (hs : starEach [a] X.env = (false, eval a X.env) :: starEach [] X.env := by rfl) : SPI S X J W C tg (.Call (.Name "range" p) [a] [] pos) (iRng1 ma) :=
  PI.conseq (pi_range1 hg hm (a_one x ha a_nil hs) hs) fun σ H R ⟨Z, η, ρ, h, A, k⟩ => ⟨Z, η, ρ, h, A, kg_one A.hr k fun w h1 η1 H1 f1 R1 k1 vs r1 => by
    obtain ⟨v, rfl, r⟩ := rws_one r1
    cases w with
    | r n => exact k1.elim
    | d y =>
      cases y with
      | int i =>
        cases r
        cases c : rngE 0 i 1 with
        | none => simp only [c] at k1; exact k1.elim
        | some xs =>
          simp only [c] at k1
          obtain ⟨b, q⟩ := rngE_some c
          rcases q with ⟨_, rfl⟩ | ⟨q, _⟩
          · refine ⟨i, rfl, b.2.2.1, b.2.2.2, ?_⟩
            rw [itr_itc]
            have e : (i - 0).toNat = i.toNat := by rw [Int.sub_zero]
            rw [e] at k1
            exact KG.ok R1 k1 _ (by simp) rng_hold
          · simp at q
      | _ => exact k1.elim⟩
theorem i_rng2 (x : Xk S X J W) (hg : Gl X "range") (hm : X.mg "range" = none) (ha : SPE S X J W C a ma) (hb : SPE S X J W C b mb) (hs : starEach [a, b] X.env = (false, eval a X.env) :: starEach [b] X.env := by rfl) (hs2 : starEach [b] X.env = (false, eval b X.env) :: starEach [] X.env := by rfl) :
    SPI S X J W C tg (.Call (.Name "range" p) [a, b] [] pos) (iRng2 ma mb) :=
  PI.conseq (pi_range2 hg hm (a_one x ha (a_one x hb a_nil hs2) hs) (by rw [hs, hs2]; rfl) hs2) fun σ H R ⟨Z, η, ρ, h, A, k⟩ => ⟨Z, η, ρ, h, A, kg_two A.hr k fun w w2 h1 η1 H1 f1 R1 k1 vs r1 => by
    obtain ⟨v, v2, rfl, r, r2⟩ := rws_two r1
    cases w with
    | r n => exact k1.elim
    | d y =>
      cases y with
      | int i =>
        cases r
        cases w2 with
        | r n => exact k1.elim
        | d y2 =>
          cases y2 with
          | int j =>
            cases r2
            cases c : rngE i j 1 with
            | none => simp only [c] at k1; exact k1.elim
            | some xs =>
              simp only [c] at k1
              obtain ⟨b, q⟩ := rngE_some c
              rcases q with ⟨_, rfl⟩ | ⟨q, _⟩
              · refine ⟨i, j, rfl, b, ?_⟩
                rw [itr_itc]
                exact KG.ok R1 k1 _ (by simp) rng_hold
              · simp at q
          | _ => exact k1.elim
      | _ => exact k1.elim⟩
/-- -1 as a third bound -/
theorem s_mone {k : Nat} {p1 p2 : Pos} (x : Xk S X J W) : SPE S X J W C (.UnaryOp .USub (.Constant (.int 1) k p1) p2) (cCon (.int (-1))) := s_neg x (s_con (c := .int 1) (x := .int 1) rfl)
theorem i_rng3 {n : Int} (x : Xk S X J W) (hg : Gl X "range") (hm : X.mg "range" = none) (ha : SPE S X J W C a ma) (hb : SPE S X J W C b mb) (hc : SPE S X J W C c (cCon (.int n))) (hs : starEach [a, b, c] X.env = (false, eval a X.env) :: starEach [b, c] X.env := by rfl) (hs2 : starEach [b, c] X.env = (false, eval b X.env) :: starEach [c] X.env := by rfl)
    (hs3 : starEach [c] X.env = (false, eval c X.env) :: starEach [] X.env := by rfl) :
    SPI S X J W C tg (.Call (.Name "range" p) [a, b, c] [] pos) (iRng3 ma mb n) :=
  PI.conseq (pi_range3 hg hm (a_one x ha (a_one x hb (a_one x hc a_nil hs3) hs2) hs) hs (by rw [hs2, hs3]; rfl)) fun σ H R ⟨Z, η, ρ, h, A, k⟩ => ⟨Z, η, ρ, h, A, by
    have e0 : lOne ma (lOne mb (lOne (cCon (.int n)) lNil)) C ρ h = (lOne ma (lOne mb lNil) C ρ h).then fun ws h2 => .ok (ws ++ [.d (.int n)]) h2 := by
      unfold lOne lNil cCon
      cases ma C ρ h with
      | ok x h1 =>
        dsimp only [Re.then]
        cases mb C ρ h1 <;> rfl
      | ex e h1 => rfl
      | no => rfl
    rw [e0]
    have z := kg_two (P2 := fun ws h1 η1 H1 => ∀ vs, RWs X.K H1 (MM Z η1 h1) η1 vs (ws ++ [.d (.int n)]) → ∃ (i j c : Int) (n : Nat), vs = [.int i, .int j, .int c] ∧ RgC i j c n ∧ R (Itc i c n) H1) A.hr k fun w w2 h1 η1 H1 f1 R1 k1 vs r1 => by
      cases r1 with
      | cons r r1 =>
        obtain ⟨v2, v3, rfl, r2, r3⟩ := rws_two r1
        cases r3
        cases w with
        | r n => exact k1.elim
        | d y =>
          cases y with
          | int i =>
            cases r
            cases w2 with
            | r n => exact k1.elim
            | d y2 =>
              cases y2 with
              | int j =>
                cases r2
                cases c : rngE i j n with
                | none => simp only [c] at k1; exact k1.elim
                | some xs =>
                  simp only [c] at k1
                  obtain ⟨b, q⟩ := rngE_some c
                  rcases q with ⟨rfl, rfl⟩ | ⟨rfl, rfl⟩
                  · exact ⟨i, j, 1, _, rfl, ⟨by decide, by decide, small_one b.1 b.2.1 b.2.2.1 b.2.2.2, PyProof.Rows.rangeSize_nat i j⟩, KG.ok R1 k1 _ (by simp) rng_hold⟩
                  · exact ⟨i, j, -1, _, rfl, RgC.neg b.1 b.2.1 b.2.2.1 b.2.2.2, KG.ok R1 k1 _ (by simp) rng_hold⟩
              | _ => exact k1.elim
          | _ => exact k1.elim
    generalize lOne ma (lOne mb lNil) C ρ h = r at z
    cases r with
    | ok ws h2 => exact z
    | ex e h2 => exact z
    | no => exact z⟩
end
end EV
end

section
set_option Elab.async false
set_option linter.all false
set_option maxRecDepth 100000
namespace EV
open PySem L2
theorem then_assoc {α β γ : Type} (r : Re α) (f : α → Hs → Re β) (g : β → Hs → Re γ) : (r.then f).then g = r.then fun a h => (f a h).then g := by cases r <;> rfl
/-- a run that ends well -/
def KN {α : Type} (P : α → Hs → Prop) : Re α → Prop
  | .ok a h => P a h
  | .ex _ _ => False
  | .no => False
theorem KN.bind {α β : Type} {P : β → Hs → Prop} {r : Re α} {k : α → Hs → Re β} (q : KN P (r.then k)) : KN (fun a h => KN P (k a h)) r := by
  cases r with
  | ok a h => exact q
  | ex e h => exact q
  | no => exact q
theorem KN.nx {α : Type} {P : α → Hs → Prop} {r : Re α} (q : KN P (EV.nx r)) : KN P r := by
  cases r with
  | ok a h => exact q
  | ex e h => exact q
  | no => exact q
theorem KN.mono {α : Type} {P P' : α → Hs → Prop} {r : Re α} (q : KN P r) (f : ∀ a h, P a h → P' a h) : KN P' r := by
  cases r with
  | ok a h => exact f a h q
  | ex e h => exact q
  | no => exact q
theorem KN.some {α : Type} {P : α → Hs → Prop} {r : Re α} (q : KN P r) : ∃ a h, r = .ok a h ∧ P a h := by
  cases r with
  | ok a h => exact ⟨a, h, rfl, q⟩
  | ex e h => exact q.elim
  | no => exact q.elim
section
variable {S : Sc} {K : PySem.W.Frag} {J : JT} {W : WX} {Z Z1 : Addr → Prop} {M : Addr → Prop} {η η' η1 η2 : List Addr} {h h' h1 h2 : Hs} {H H' H1 H2 : Hp} {σ : L2.St} {ρ : En}
theorem KG.ofN {α : Type} {P : α → Hs → Prop} {P2 : α → Hs → List Addr → Hp → Prop} {r : Re α} (q : KN P r) (f : ∀ a h2 η2 H2, FR η h H η2 h2 H2 → HR S K Z η2 h2 H2 → P a h2 → P2 a h2 η2 H2) : KG S K J W Z η h H P2 r := by
  cases r with
  | ok a h2 => exact fun η2 H2 f2 R2 => f a h2 η2 H2 f2 R2 q
  | ex e h2 => exact q.elim
  | no => exact q
theorem compL_nx {β : Type} {P : β → Hs → List Addr → Hp → Prop} {f : IW → Hs → Re (List EV.W)} {g : List EV.W → Hs → Re β} : ∀ (items : List IW) {h' : Hs}, KG S K J W Z η h H P ((compL (fun i h2 => nx (f i h2)) items h').then g) → KN (fun us h2 => KG S K J W Z η h H P (g us h2)) (compL (fun i h2 => nx (f i h2)) items h') := by
  have noex : ∀ (items : List IW) (h' : Hs) (e : Exn) (h3 : Hs), compL (fun i h2 => nx (f i h2)) items h' ≠ .ex e h3 := by
    intro items
    induction items with
    | nil => intro h' e h3 q; cases q
    | cons i r ih =>
      intro h' e h3 q
      unfold compL at q
      cases c : f i h' with
      | ok ws h4 =>
        simp only [c, nx, Re.then] at q
        cases c2 : compL (fun i h2 => nx (f i h2)) r h4 with
        | ok us h5 =>
          have q2 : (compL (fun i h2 => nx (f i h2)) r h4).then (fun us h2 => Re.ok (ws ++ us) h2) = .ex e h3 := q
          rw [c2] at q2
          cases q2
        | ex e' h5 => exact ih h4 e' h5 c2
        | no =>
          have q2 : (compL (fun i h2 => nx (f i h2)) r h4).then (fun us h2 => Re.ok (ws ++ us) h2) = .ex e h3 := q
          rw [c2] at q2
          cases q2
      | ex e' h4 =>
        simp only [c, nx, Re.then] at q
        cases q
      | no =>
        simp only [c, nx, Re.then] at q
        cases q
  intro items h' q
  cases c : compL (fun i h2 => nx (f i h2)) items h' with
  | ok us h2 => rw [c] at q; exact q
  | ex e h2 => exact absurd c (noex items h' e h2)
  | no => rw [c] at q; exact q.elim
theorem HR.zless (R : HR S K Z1 η h H) (hz : ∀ a, Z a → Z1 a) : HR S K Z η h H := by
  have hm : ∀ a, MM Z η h a → MM Z1 η h a := fun a m => m.imp (hz a) id
  refine ⟨R.len, R.nd, fun n a o e q => ?_, fun a z => R.zk a (hz a z), fun a z => R.zd a (hz a z), R.tabs⟩
  have z := R.obj n a o e q
  cases o with
  | lst ws =>
    obtain ⟨vs, x, r⟩ := z
    exact ⟨vs, x, r.less hm⟩
  | lck ws =>
    obtain ⟨vs, x, r⟩ := z
    exact ⟨vs, x, r.less hm⟩
  | frz x =>
    obtain ⟨xs, ds, a1, a2, a3, a4⟩ := z
    exact ⟨xs, ds, a1, a2, fun q => a3 (hm _ q), a4.less hm⟩
/-- a list that is to be filled: new, of no name -/
theorem HR.build (R : HR S K Z η h H) {B : Addr} (hB : H B = none) : HR S K (fun a => Z a ∨ a = B) η h (upd H B (.lst [])) ∧ ∀ {v : V} {w : EV.W}, RW K H (MM Z η h) η v w → RW K (upd H B (.lst [])) (MM (fun a => Z a ∨ a = B) η h) η v w := by
  have f : FR η h H η h (upd H B (.lst [])) := FR.alloc hB _
  have hz : ∀ a, Z a → a ≠ B := fun a z e => by
    obtain ⟨vs, q⟩ := R.zk a z
    rw [e, hB] at q
    cases q
  have dn : ∀ {v : V} {x : D}, RV K H (MM Z η h) v x → RV K (upd H B (.lst [])) (MM (fun a => Z a ∨ a = B) η h) v x := fun r => r.mono (fun a xs rd m => by
    have ne : a ≠ B := by
      rcases rd with rd | ⟨o, rd⟩
      · exact ne_of_none rd hB
      · exact ne_of_none rd hB
    refine ⟨(f.lst a xs rd m).1, ?_⟩
    rintro ((q | q) | q)
    · exact m (.inl q)
    · exact ne q
    · exact m (.inr q)) (f.toFR0.tup R) (f.toFR0.dct R)
  have dns : ∀ {v : List V} {x : List D}, RVs K H (MM Z η h) v x → RVs K (upd H B (.lst [])) (MM (fun a => Z a ∨ a = B) η h) v x := by
    intro v x r
    induction v generalizing x with
    | nil => cases r; exact .nil
    | cons a b ih =>
      cases r with
      | cons p q => exact .cons (dn p) (ih q)
  have rw1 : ∀ {v : V} {w : EV.W}, RW K H (MM Z η h) η v w → RW K (upd H B (.lst [])) (MM (fun a => Z a ∨ a = B) η h) η v w := fun {v w} q => by
    cases w with
    | d x => exact dn q
    | r n => exact q
  have rws : ∀ {vs : List V} {ws : List EV.W}, RWs K H (MM Z η h) η vs ws → RWs K (upd H B (.lst [])) (MM (fun a => Z a ∨ a = B) η h) η vs ws := fun r => RWs.imp (fun v w q => rw1 q) r
  refine ⟨⟨R.len, R.nd, fun n a o e q => ?_, fun a z => ?_, fun a z => ?_, R.tabs.ext fun b u e => by rw [upd_ne (ne_of_none e hB)]; exact e⟩, rw1⟩
  · have z := R.obj n a o e q
    cases o with
    | lst ws =>
      obtain ⟨vs, x, r⟩ := z
      exact ⟨vs, by rw [upd_ne (ne_of_none x hB)]; exact x, rws r⟩
    | lck ws =>
      obtain ⟨vs, x, r⟩ := z
      exact ⟨vs, by rw [upd_ne (ne_of_none x hB)]; exact x, rws r⟩
    | frz x =>
      obtain ⟨xs, ds, a1, a2, a3, a4⟩ := z
      have ne : a ≠ B := fun q => R.fresh hB (q ▸ List.mem_of_getElem? e)
      refine ⟨xs, ds, a1, (f.lst a xs a2 a3).1, ?_, dns a4⟩
      rintro ((q | q) | q)
      · exact a3 (.inl q)
      · exact ne q
      · exact a3 (.inr q)
  · rcases z with z | z
    · obtain ⟨vs, q⟩ := R.zk a z
      exact ⟨vs, by rw [upd_ne (hz a z)]; exact q⟩
    · rw [z]
      exact ⟨[], upd_same⟩
  · rcases z with z | z
    · exact R.zd a z
    · rw [z]
      exact R.fresh hB
/-- a list is given a place in the evaluator's heap -/
theorem HR.adopt {B : Addr} (R : HR S K (fun a => Z a ∨ a = B) η h H) {vs : List V} {ws : List EV.W} (nz : ¬ Z B) (e : H B = some (.lst vs)) (r : RWs K H (MM (fun a => Z a ∨ a = B) η h) η vs ws) :
    HR S K Z (η ++ [B]) (h ++ [.lst ws]) H := by
  have hd : B ∉ η := R.zd B (.inr rfl)
  have hm : ∀ a, MM Z (η ++ [B]) (h ++ [.lst ws]) a → MM (fun a => Z a ∨ a = B) η h a := fun a m => by
    rcases m with m | m
    · exact .inl (.inl m)
    · rcases mutA_app R.len m with z | z
      · exact .inr z
      · exact .inl (.inr z)
  have rw1 : ∀ {v : V} {w : EV.W}, RW K H (MM (fun a => Z a ∨ a = B) η h) η v w → RW K H (MM Z (η ++ [B]) (h ++ [.lst ws])) (η ++ [B]) v w := fun {v w} q => by
    cases w with
    | d x => exact RV.less hm q
    | r n =>
      obtain ⟨a, ea, ev⟩ := q
      exact ⟨a, by rw [List.getElem?_append_left (List.getElem?_eq_some_iff.mp ea).1]; exact ea, ev⟩
  have rws : ∀ {vs : List V} {us : List EV.W}, RWs K H (MM (fun a => Z a ∨ a = B) η h) η vs us → RWs K H (MM Z (η ++ [B]) (h ++ [.lst ws])) (η ++ [B]) vs us := fun q => RWs.imp (fun _ _ q => rw1 q) q
  refine ⟨by simp [R.len], ?_, fun n a o e1 q => ?_, fun a z => R.zk a (.inl z), fun a z m => ?_, R.tabs⟩
  · rw [List.nodup_append]
    refine ⟨R.nd, by simp, fun a ha b hb => ?_⟩
    simp at hb
    rintro rfl
    exact hd (hb ▸ ha)
  · by_cases hn : n < h.length
    · rw [List.getElem?_append_left (by rw [R.len]; exact hn)] at e1
      rw [List.getElem?_append_left hn] at q
      have z := R.obj n a o e1 q
      cases o with
      | lst us =>
        obtain ⟨vs, x, r⟩ := z
        exact ⟨vs, x, rws r⟩
      | lck us =>
        obtain ⟨vs, x, r⟩ := z
        exact ⟨vs, x, rws r⟩
      | frz x =>
        obtain ⟨xs, ds, a1, a2, a3, a4⟩ := z
        exact ⟨xs, ds, a1, a2, fun q => a3 (hm _ q), a4.less hm⟩
    · have hn2 : n = h.length := by
        have : n < (h ++ [O.lst ws]).length := (List.getElem?_eq_some_iff.mp q).1
        simp at this
        omega
      subst hn2
      rw [← R.len, List.getElem?_append_right (Nat.le_refl _)] at e1
      rw [List.getElem?_append_right (Nat.le_refl _)] at q
      simp at e1 q
      subst e1
      subst q
      exact ⟨vs, e, rws r⟩
  · rw [List.mem_append] at m
    rcases m with m | m
    · exact R.zd a (.inl z) m
    · simp at m
      exact nz (m ▸ z)
/-- a new list, filled: what the evaluator makes of it -/
theorem retN_ok {Q : VK} {m : Bool} {B : Addr} {vs : List V} {ws : List EV.W} (R0 : HR S K Z η1 h1 H1) (k : KG S K J W Z η1 h1 H1 (VP K Z Q) (retN m ws h)) (f : FR η1 h1 H1 η h H) (R : HR S K (fun a => Z a ∨ a = B) η h H)
    (hB : H1 B = none) (e : H B = some (.lst vs)) (r : RWs K H (MM (fun a => Z a ∨ a = B) η h) η vs ws) : Q (.ref B) H := by
  have nz : ¬ Z B := fun z => by
    obtain ⟨us, q⟩ := R0.zk B z
    rw [hB] at q; cases q
  cases m with
  | true =>
    have R2 := R.adopt nz e r
    refine k (η ++ [B]) H ⟨⟨?_, f.keep, fun a m => ?_, f.here⟩, fun n us q => ?_⟩ R2 _ ⟨B, ?_, rfl⟩
    · obtain ⟨t, q⟩ := f.ext
      exact ⟨t ++ [B], by rw [q, List.append_assoc]⟩
    · rcases mutA_app R.len m with z | z
      · exact f.new a z
      · exact .inr (z ▸ hB)
    · have q2 := f.lk n us q
      rw [List.getElem?_append_left (List.getElem?_eq_some_iff.mp q2).1]
      exact q2
    · rw [← R.len, List.getElem?_append_right (Nat.le_refl _)]
      simp
  | false =>
    unfold retN at k
    cases c : frzAll h ws with
    | none => simp only [c] at k; exact k.elim
    | some y =>
      obtain ⟨ds, h3⟩ := y
      simp only [c] at k
      obtain ⟨f2, R2, rs⟩ := frzAll_ok R r c
      refine k η H (f.trans f2 R0) (R2.zless fun _ z => .inl z) _ (.lst (.inl e) ?_ (rs.less fun a m => m.imp .inl id))
      rintro (q | q)
      · exact nz q
      · obtain ⟨n, e1, _⟩ := q
        exact R.zd B (.inr rfl) (List.mem_of_getElem? e1)
end
end EV
end

section
set_option Elab.async false
set_option linter.all false
set_option maxRecDepth 100000
namespace EV
open PySem L2
/-! ### targets -/
def Same (own : List Nat) (σ σ' : L2.St) : Prop := σ'.length = σ.length ∧ ∀ i, i ∉ own → σ'[i]? = σ[i]?
theorem Same.refl {own : List Nat} {σ : L2.St} : Same own σ σ := ⟨rfl, fun _ _ => rfl⟩
theorem Same.trans {a b : List Nat} {σ σ' σ2 : L2.St} (p : Same a σ σ') (q : Same b σ' σ2) : Same (a ++ b) σ σ2 :=
  ⟨q.1.trans p.1, fun i hi => by
    rw [List.mem_append, not_or] at hi
    rw [q.2 i hi.2, p.2 i hi.1]⟩
theorem wipe_get {σ : L2.St} {i : Nat} : ∀ {vs : List Nat}, i ∉ vs → (wipe σ vs)[i]? = σ[i]?
  | [], _ => rfl
  | v :: vs, h => by
    simp only [List.mem_cons, not_or] at h
    unfold wipe
    rw [List.getElem?_set_ne (Ne.symm h.1), wipe_get h.2]
theorem wipe_none {σ : L2.St} {i : Nat} : ∀ {vs : List Nat}, i ∈ vs → i < σ.length → (wipe σ vs)[i]? = some none
  | [], h, _ => by simp at h
  | v :: vs, h, hl => by
    unfold wipe
    by_cases e : v = i
    · subst e
      rw [List.getElem?_set_self (by rw [wipe_length]; exact hl)]
    · rw [List.getElem?_set_ne e]
      rcases List.mem_cons.mp h with q | q
      · exact absurd q.symm e
      · exact wipe_none q hl
theorem Same.wipe {own vs : List Nat} {σ σ' : L2.St} (p : Same own σ σ') (h : ∀ i ∈ own, i ∈ vs) : L2.wipe σ' vs = L2.wipe σ vs := by
  apply List.ext_getElem?
  intro i
  by_cases hi : i ∈ vs
  · by_cases hl : i < σ.length
    · rw [wipe_none hi hl, wipe_none hi (by rw [p.1]; exact hl)]
    · rw [List.getElem?_eq_none (by rw [wipe_length, p.1]; omega), List.getElem?_eq_none (by rw [wipe_length]; omega)]
  · rw [wipe_get hi, wipe_get hi, p.2 i fun q => hi (h i q)]
section
variable {K : PySem.W.Frag} {M : Addr → Prop} {η : List Addr} {H : Hp} {σ : L2.St} {ρ : En}
theorem SR.set {i : Nat} {v : V} {w : W} (s : SR K H M η σ ρ) (r : RW K H M η v w) : SR K H M η (σ.set i (some v)) (ρ.set i (some w)) := by
  refine ⟨by simpa using s.1, fun j u e => ?_⟩
  by_cases hj : i = j
  · subst hj
    by_cases hl : i < ρ.length
    · rw [List.getElem?_set_self hl] at e
      cases e
      exact ⟨v, List.getElem?_set_self (Nat.lt_of_lt_of_le hl s.1), r⟩
    · rw [List.getElem?_eq_none (by simpa using hl)] at e
      cases e
  · rw [List.getElem?_set_ne hj] at e ⊢
    exact s.2 j u e
theorem SR.wipe (s : SR K H M η σ ρ) : ∀ own : List Nat, SR K H M η (L2.wipe σ own) (wipeE ρ own)
  | [] => s
  | v :: vs => by
    have q := SR.wipe s vs
    refine ⟨by simpa [L2.wipe, wipeE] using q.1, fun j u e => ?_⟩
    unfold L2.wipe
    unfold wipeE at e
    by_cases hj : v = j
    · subst hj
      by_cases hl : v < (wipeE ρ vs).length
      · rw [List.getElem?_set_self hl] at e
        cases e
      · rw [List.getElem?_eq_none (by simpa using hl)] at e
        cases e
    · rw [List.getElem?_set_ne hj] at e ⊢
      exact q.2 j u e
end
/-- where a target's value comes from, what is then known of the slots -/
def TP (K : PySem.W.Frag) (J : JT) (Z : Addr → Prop) (own : List Nat) (σ : L2.St) (Q : L2.St → Hp → Prop) (ρ' : En) (h' : Hs) (η' : List Addr) (H' : Hp) : Prop :=
  ∀ σ', SR K H' (MM Z η' h') η' σ' ρ' → J σ' Z η' h' H' → Same own σ σ' → Q σ' H'
def tG (S : Sc) (K : PySem.W.Frag) (J : JT) (W : WX) (own : List Nat) (m : IW → En → Hs → Re En) : TG := fun v σ H Q => ∃ Z η ρ h iw, At S K J σ H Z η ρ h ∧ IWR K H (MM Z η h) η v iw ∧
  KG S K J W Z η h H (TP K J Z own σ Q) (m iw ρ h)
def tGs (S : Sc) (K : PySem.W.Frag) (J : JT) (W : WX) (own : List Nat) (m : List EV.W → En → Hs → Re En) : TGs := fun vs σ H Q => ∃ Z η ρ h ws, At S K J σ H Z η ρ h ∧ RWs K H (MM Z η h) η vs ws ∧
  KG S K J W Z η h H (TP K J Z own σ Q) (m ws ρ h)
section
variable {X : Cx} {S : Sc} {J : JT} {W : WX} {C : Cv} {a b c e tg : Expr} {es : List Expr} {ma mb mc me : SE} {mr : SL} {mg : SG} {mgs : SGs} {own own2 : List Nat} {pos p p2 : Pos}
abbrev SPG (S : Sc) (X : Cx) (J : JT) (W : WX) (C : Cv) (own : List Nat) (e : Expr) (m : SG) : Prop := PG X e (tG S X.K J W own fun iw => m iw C)
abbrev SPGs (S : Sc) (X : Cx) (J : JT) (W : WX) (C : Cv) (own : List Nat) (es : List Expr) (m : SGs) : Prop := PGs X es (tGs S X.K J W own fun ws => m ws C)
theorem PG.conseq {e : Expr} {t t' : TG} (p : PG X e t) (h : ∀ v σ H Q, t' v σ H Q → t v σ H Q) : PG X e t' := ⟨fun pins s σ H v u Q I r q => p.run pins s σ H v u Q I r (h v σ H Q q)⟩
theorem PGs.conseq {e : List Expr} {t t' : TGs} (p : PGs X e t) (h : ∀ v σ H Q, t' v σ H Q → t v σ H Q) : PGs X e t' := ⟨fun pins s σ H v u Q I r q => p.run pins s σ H v u Q I r (h v σ H Q q)⟩
theorem At.set {σ : L2.St} {H : Hp} {Z : Addr → Prop} {η : List Addr} {ρ : En} {h : Hs} {i : Nat} {v : V} {w : EV.W} (A : At S X.K J σ H Z η ρ h) (js : JSet J i) (r : RW X.K H (MM Z η h) η v w) : At S X.K J (σ.set i (some v)) H Z η (ρ.set i (some w)) h :=
  ⟨A.hr, A.sr.set r, js A.jj⟩
theorem g_nm {i : Nat} {y : Str} (x : Xk S X J W) (js : JSet J i) (hi : X.N[i]? = some y) (hx : Loc X.env.scope y) (hf : X.fn y = true ∨ X.env.scope.names.lookup y = some .local := by first | exact .inl rfl | exact .inr rfl | assumption) : SPG S X J W C [i] (.Name y pos) (gNm i) :=
  PG.conseq (pg_name x.nd hi hx hf) fun v σ H Q ⟨Z, η, ρ, h, iw, A, r, k⟩ => by
    cases iw with
    | two _ _ => exact k.elim
    | one w =>
      have A2 := A.set (i := i) js r
      refine KG.ok A.hr k _ A2.sr A2.jj ⟨by simp, fun j hj => ?_⟩
      rw [List.getElem?_set_ne]
      simp at hj
      exact fun q => hj q.symm
theorem gs_nil : SPGs S X J W C [] [] gsNil := PGs.conseq pgs_nil fun vs σ H Q ⟨Z, η, ρ, h, ws, A, r, k⟩ => by
  cases r with
  | nil => exact ⟨rfl, KG.ok A.hr k _ A.sr A.jj Same.refl⟩
  | cons _ _ => exact k.elim
theorem gs_cons (x : Xk S X J W) (h1 : SPG S X J W C own e mg) (h2 : SPGs S X J W C own2 es mgs) (hs : (assignEach (e :: es) X.env).map (·.2) = assign e X.env :: (assignEach es X.env).map (·.2) := by rfl) : SPGs S X J W C (own ++ own2) (e :: es) (gsCons mg mgs) :=
  PGs.conseq (pgs_cons h1 h2 hs) fun vs σ H Q ⟨Z, η, ρ, h, ws, A, r, k⟩ => by
    cases r with
    | nil => exact k.elim
    | @cons v w vs ws r0 rs =>
      exact ⟨v, vs, rfl, Z, η, ρ, h, .one w, A, r0, KG.bind A.hr k fun ρ1 h1 η1 H1 f1 R1 k1 σ1 s1 j1 m1 => ⟨Z, η1, ρ1, h1, ws, ⟨R1, s1, j1⟩, f1.rws A.hr rs,
        KG.mono k1 fun ρ2 h2 η2 H2 q σ2 s2 j2 m2 => q σ2 s2 j2 (m1.trans m2)⟩⟩
theorem g_tup {n : Nat} {q : Nat} (x : Xk S X J W) (hc : X.calm = true) (h : SPGs S X J W C own es mgs) (hn : (assignEach es X.env).length = n := by rfl) (hst : (assignEach es X.env).findIdx? (·.1) = none := by rfl) : SPG S X J W C own (.Tuple es q pos) (gTup n mgs) :=
  PG.conseq (pg_tup hc h hn hst) fun v σ H Q ⟨Z, η, ρ, h, iw, A, r, k⟩ => by
    cases iw with
    | one w =>
      cases w with
      | r m => exact k.elim
      | d y =>
        cases r with
        | @tup a xs ds t rs =>
          unfold gTup at k
          simp only at k
          split at k
          · rename_i g
            exact ⟨a, xs, rfl, t, by rw [rs.length]; exact Nat.eq_of_beq_eq_true g, Z, η, ρ, h, dsW ds, A, rvs_dsW rs, k⟩
          · exact k.elim
        | _ => exact k.elim
    | two w w2 =>
      obtain ⟨T, p1, p2, rfl, hT, r1, r2⟩ := r
      unfold gTup at k
      simp only at k
      split at k
      · rename_i g
        exact ⟨T, [p1, p2], rfl, .inl (.inl hT), by rw [← Nat.eq_of_beq_eq_true g]; rfl, Z, η, ρ, h, [w, w2], A, .cons r1 (.cons r2 .nil), k⟩
      · exact k.elim
theorem g_sub (x : Xk S X J W) (ha : SPE S X J W C a ma) (hb : SPE S X J W C b mb)
    (he : ∀ v, assign (.Subscript a b pos) X.env v = (do
      let ov ← holding [v] (eval a X.env)
      let iv ← holding [v, ov] (eval b X.env)
      standAt pos
      holding [v, ov, iv] (setItem ov iv v)
      release [v, ov, iv] []) := by intro _; rfl) : SPG S X J W C own (.Subscript a b pos) (gSub ma mb) :=
  PG.conseq (pg_sub ha hb set_list he) fun v σ H Q ⟨Z, η, ρ, h, iw, A, r, k⟩ => by
    cases iw with
    | two _ _ => exact k.elim
    | one w =>
      refine two_ x.jo A k fun x1 y1 h2 η2 H2 o i f2 A2 r1 r2 k2 => ?_
      cases x1 with
      | d _ => exact k2.elim
      | r n =>
        cases y1 with
        | r _ => exact k2.elim
        | d y =>
          cases y with
          | int i =>
            cases i with
            | negSucc i => exact k2.elim
            | ofNat i =>
              obtain ⟨l, el, rfl⟩ := r1
              cases r2
              simp only [nth_eq] at k2
              cases q : h2[n]? with
              | none => rw [q] at k2; exact k2.elim
              | some ob =>
                rw [q] at k2
                cases ob with
                | lst ws =>
                  simp only at k2
                  split at k2
                  · rename_i g
                    rw [Nat.ble_eq] at g
                    obtain ⟨vs, e1, rs⟩ := A2.hr.obj n l _ el q
                    refine ⟨l, vs, Int.ofNat i, i, rfl, rfl, e1, ?_, ?_⟩
                    · rw [rs.length]
                      unfold ixN
                      rw [if_pos (by simp), if_pos (by simp; omega)]
                      rfl
                    · have rw' : RWs X.K H2 (MM Z η2 h2) η2 (vs.set i v) (ws.set i w) := by
                        have r' := f2.rw A.hr r
                        clear k2 g e1 q el
                        induction rs generalizing i with
                        | nil => exact .nil
                        | cons a b ih =>
                          cases i with
                          | zero => exact .cons r' b
                          | succ i => exact .cons a (ih i)
                      have R3 := A2.hr.write q el rw'
                      have f3 : FR η2 h2 H2 η2 (h2.set n (.lst (ws.set i w))) (upd H2 l (.lst (vs.set i v))) := FR.write q el
                      rw [setH_eq] at k2
                      have A3 := A2.step x.jo f3 R3
                      exact k2 η2 _ f3 R3 σ A3.sr A3.jj Same.refl
                  · exact k2.elim
                | lck _ => exact k2.elim
                | frz _ => exact k2.elim
          | _ => exact k2.elim
end
end EV
end

section
set_option Elab.async false
set_option linter.all false
set_option maxRecDepth 100000
namespace EV
open PySem L2
theorem upd_upd {H : Hp} {p : Addr} {a b : HO} : upd (upd H p a) p b = upd H p b := by
  funext q
  by_cases e : q = p
  · rw [e, upd_same, upd_same]
  · rw [upd_ne e, upd_ne e, upd_ne e]
/-- the context of a block -/
def J0 : JT := fun _ _ _ _ _ => True
def W0 : WX := fun _ _ _ _ => False
theorem j0_ok {S : Sc} {K : PySem.W.Frag} : JOk S K J0 := ⟨fun _ _ _ => trivial⟩
theorem j0_set (i : Nat) : JSet J0 i := fun _ => trivial
section
variable {X : Cx} {S : Sc} {J : JT} {W : WX} {C : Cv} {a b c e tg iter : Expr} {es ifs : List Expr} {ma mb mc me : SE} {mr : SL} {mi : SI} {mg : SG} {mgs : SGs} {own own2 : List Nat} {pos p p2 : Pos}
theorem new_ok {Q : VK} {m : Bool} {Z : Addr → Prop} {η : List Addr} {h : Hs} {H : Hp} {vs : List V} {ws : List EV.W} (R : HR S X.K Z η h H) (k : KG S X.K J W Z η h H (VP X.K Z Q) (if Nat.ble ws.length lim then retN m ws h else .no)) (r : RWs X.K H (MM Z η h) η vs ws) :
    vs.length ≤ sizeLine ∧ ∀ p, H p = none → Q (.ref p) (upd H p (.lst vs)) := by
  split at k
  · rename_i g
    rw [Nat.ble_eq] at g
    refine ⟨by rw [r.length, sizeLine_eq]; exact g, fun p hp => ?_⟩
    obtain ⟨R1, bw⟩ := R.build hp
    have R2 := R1.grow (B := p) (acc := []) (us := vs) (.inr rfl) upd_same
    have rs := (FRX.push (η := η) (h := h) (H := upd H p (.lst [])) (B := p) (us := vs)).rws R1 (fun a q => .inr q) (RWs.imp (fun v w q => bw q) r)
    rw [upd_upd] at R2 rs
    exact retN_ok R k (FR.alloc hp _) R2 hp upd_same rs
  · exact k.elim
theorem s_lst {m : Bool} (x : Xk S X J W) (h : SPA S X J W C es mr) : SPE S X J W C (.List es pos) (cNew m mr) :=
  PE.conseq (pe_lst h) fun σ H Q ⟨Z, η, ρ, h, A, k⟩ => ⟨Z, η, ρ, h, A, KG.bind A.hr k fun ws h1 η1 H1 f1 R1 k1 vs r1 => new_ok R1 k1 r1⟩
/-! ### comprehensions -/
def tC (S : Sc) (K : PySem.W.Frag) (J : JT) (W : WX) (m : En → Hs → Re EV.W) : TT := fun σ H Q => ∃ Z η ρ h, At S K J σ H Z η ρ h ∧ KG S K J W Z η h H (fun w _ _ H' => ∃ b, tst w = some b ∧ Q b H') (m ρ h)
abbrev SPC (S : Sc) (X : Cx) (J : JT) (W : WX) (C : Cv) (ifs : List Expr) (m : SE) : Prop := PTs X ifs (tC S X.K J W (m C))
theorem PTs.conseq {e : List Expr} {t t' : TT} (p : PTs X e t) (h : ∀ σ H Q, t' σ H Q → t σ H Q) : PTs X e t' := ⟨fun pins s σ H Q I q => p.run pins s σ H Q I (h σ H Q q)⟩
theorem c_no : SPC S X J W C [] oNo := PTs.conseq pts_nil fun σ H Q ⟨Z, η, ρ, h, A, k⟩ => by
  obtain ⟨b, e, q⟩ := KG.ok A.hr k
  cases e
  exact q
theorem c_yes (x : Xk S X J W) (hc : SPT S X J W C c mc) : SPC S X J W C [c] (cYes mc) := PTs.conseq (pts_one hc) fun σ H Q ⟨Z, η, ρ, h, A, k⟩ => ⟨Z, η, ρ, h, A, KG.bind A.hr k fun w h1 η1 H1 f1 R1 k1 => by
  cases w with
  | r n => exact k1.elim
  | d y =>
    cases y with
    | bool t =>
      obtain ⟨b, e, q⟩ := KG.ok R1 k1
      cases e
      exact ⟨t, rfl, q⟩
    | none => exact k1.elim
    | _ =>
      obtain ⟨b, e, q⟩ := KG.ok R1 k1
      cases e⟩
theorem Xk.blk (x : Xk S X J W) (s : Shared) (H : Hp) (scope : Scope) (env : Env) (fp : List Addr) : Xk S (X.blk s H scope env fp) J0 W0 where
  jo := j0_ok
  un := x.un
  gd := x.gd
  tk := fun u s' ⟨_, _, _, _, _, _, _, _, _, _, _, _, _, _, _, _, w⟩ => w.elim
  nd := x.nd
/-- one comprehension: its parts, in its block -/
abbrev CPG (S : Sc) (X : Cx) (C : Cv) (scope : Scope) (own : List Nat) (tg : Expr) (m : SG) : Prop := ∀ (s : Shared) (H : Hp) (B : Addr) (cl : List (Str × Addr)) (fp : List Addr), SPG S (X.blk s H scope (compEnvC scope cl B X.env) fp) J0 W0 C own tg m
abbrev CPC (S : Sc) (X : Cx) (C : Cv) (scope : Scope) (ifs : List Expr) (m : SE) : Prop := ∀ (s : Shared) (H : Hp) (B : Addr) (cl : List (Str × Addr)) (fp : List Addr), SPC S (X.blk s H scope (compEnvC scope cl B X.env) fp) J0 W0 C ifs m
abbrev CPE (S : Sc) (X : Cx) (C : Cv) (scope : Scope) (e : Expr) (m : SE) : Prop := ∀ (s : Shared) (H : Hp) (B : Addr) (cl : List (Str × Addr)) (fp : List Addr), SPE S (X.blk s H scope (compEnvC scope cl B X.env) fp) J0 W0 C e m
abbrev CPI (S : Sc) (X : Cx) (C : Cv) (scope : Scope) (tg e : Expr) (m : SI) : Prop := ∀ (s : Shared) (H : Hp) (B : Addr) (cl : List (Str × Addr)) (fp : List Addr), SPI S (X.blk s H scope (compEnvC scope cl B X.env) fp) J0 W0 C tg e m
/-- what is known amid a comprehension that fills B -/
structure Mid (S : Sc) (K : PySem.W.Frag) (Z : Addr → Prop) (B : Addr) (σ : L2.St) (ρ : En) (η1 : List Addr) (h1 : Hs) (H1 : Hp) (G : List Addr → Hs → Hp → Prop) (η : List Addr) (h : Hs) (H : Hp) (acc : List V) (ws : List EV.W) : Prop where
  fr : FR η1 h1 H1 η h H
  hr : HR S K (fun a => Z a ∨ a = B) η h H
  at' : H B = some (.lst acc)
  it : RWs K H (MM (fun a => Z a ∨ a = B) η h) η acc ws
  sr : SR K H (MM (fun a => Z a ∨ a = B) η h) η σ ρ
  g : G η h H
theorem Mid.step {Z : Addr → Prop} {B : Addr} {σ : L2.St} {ρ : En} {η1 η η' : List Addr} {h1 h h' : Hs} {H1 H H' : Hp} {G : List Addr → Hs → Hp → Prop} {acc : List V} {ws : List EV.W} {K : PySem.W.Frag} (R0 : HR S K Z η1 h1 H1) (m : Mid S K Z B σ ρ η1 h1 H1 G η h H acc ws)
    (pers : ∀ {P : Addr → Prop} {η η' h h' H H'}, (∀ a, P a → Z a ∨ a = B) → G η h H → HR S K (fun a => Z a ∨ a = B) η h H → FRX P η h H η' h' H' → G η' h' H') (f : FR η h H η' h' H') (R : HR S K (fun a => Z a ∨ a = B) η' h' H') : Mid S K Z B σ ρ η1 h1 H1 G η' h' H' acc ws := by
  refine ⟨m.fr.trans f R0, R, ?_, f.rws m.hr m.it, f.sr m.hr m.sr, pers (fun _ q => q.elim) m.g m.hr f.x⟩
  exact f.keep B _ m.at' (fun q => by
    obtain ⟨n, e, _⟩ := q
    exact m.hr.zd B (.inr rfl) (List.mem_of_getElem? e)) fun ps z => nomatch z
theorem Mid.push {Z : Addr → Prop} {B : Addr} {σ : L2.St} {ρ : En} {η1 η : List Addr} {h1 h : Hs} {H1 H : Hp} {G : List Addr → Hs → Hp → Prop} {acc : List V} {ws : List EV.W} {K : PySem.W.Frag} (m : Mid S K Z B σ ρ η1 h1 H1 G η h H acc ws) (hB : H1 B = none)
    (pers : ∀ {P : Addr → Prop} {η η' h h' H H'}, (∀ a, P a → Z a ∨ a = B) → G η h H → HR S K (fun a => Z a ∨ a = B) η h H → FRX P η h H η' h' H' → G η' h' H') {y : V} {w : EV.W} (r : RW K H (MM (fun a => Z a ∨ a = B) η h) η y w) :
    Mid S K Z B σ ρ η1 h1 H1 G η h (upd H B (.lst (acc ++ [y]))) (acc ++ [y]) (ws ++ [w]) := by
  have R2 := m.hr.grow (B := B) (acc := acc) (us := acc ++ [y]) (.inr rfl) m.at'
  have f : FRX (fun a => a = B) η h H η h (upd H B (.lst (acc ++ [y]))) := FRX.push
  have hp : ∀ a, (fun a => a = B) a → Z a ∨ a = B := fun a q => .inr q
  refine ⟨⟨⟨m.fr.ext, fun a o e nm nt => ?_, m.fr.new, fun a o e => ?_⟩, m.fr.lk⟩, R2, upd_same, f.rws m.hr hp (m.it.app (.cons r .nil)), f.sr m.hr hp m.sr, pers hp m.g m.hr f⟩
  · rw [upd_ne (ne_of_none e hB)]
    exact m.fr.keep a o e nm nt
  · rw [upd_ne (ne_of_none e hB)]
    exact m.fr.here a o e
theorem wipe_back {σ σ' : L2.St} {own vs : List Nat} (p : Same own (L2.wipe σ vs) σ') (h : ∀ i ∈ own, i ∈ vs) : L2.wipe σ' vs = L2.wipe σ vs := by
  have q : Same vs σ (L2.wipe σ vs) := ⟨wipe_length _ _, fun i hi => wipe_get hi⟩
  exact (q.trans p).wipe fun i hi => (List.mem_append.mp hi).elim id (h i)
/-- the end of a comprehension -/
theorem mid_end {Q : VK} {m : Bool} {Z : Addr → Prop} {B : Addr} {σ : L2.St} {ρ : En} {η1 η : List Addr} {h1 h : Hs} {H1 H : Hp} {G : List Addr → Hs → Hp → Prop} {acc : List V} {ws : List EV.W} {lk : List (Nat × List EV.W)} (R1 : HR S X.K Z η1 h1 H1) (hl : ∀ p ∈ lk, h1[p.1]? = some (.lst p.2)) (hB : H1 B = none)
    (M : Mid S X.K Z B σ ρ η1 (lockH h1 lk) H1 G η h H acc ws) (k : KG S X.K J W Z η1 h1 H1 (VP X.K Z Q) (if Nat.ble ws.length lim then retN m ws (unlock h lk) else .no)) : Q (.ref B) H := by
  split at k
  · obtain ⟨z1, z2, z3⟩ := reopen R1 hl M.fr M.hr
    exact retN_ok R1 k z2 z1 hB M.at' (z3.rws M.hr M.it)
  · exact k.elim
theorem mid_start {Z : Addr → Prop} {B : Addr} {σ : L2.St} {ρ : En} {η1 : List Addr} {h1 : Hs} {H1 : Hp} {G : List Addr → Hs → Hp → Prop} {lk : List (Nat × List EV.W)} {K : PySem.W.Frag} (R1 : HR S K Z η1 h1 H1) (hl : ∀ p ∈ lk, h1[p.1]? = some (.lst p.2)) (hB : H1 B = none)
    (s : SR K H1 (MM Z η1 h1) η1 σ ρ) (g : G η1 (lockH h1 lk) (upd H1 B (.lst []))) : Mid S K Z B σ ρ η1 (lockH h1 lk) H1 G η1 (lockH h1 lk) (upd H1 B (.lst [])) [] [] := by
  obtain ⟨R2, f2, _⟩ := lock_ok lk R1 fun p hp => .inl (hl p hp)
  obtain ⟨R3, bw⟩ := R2.build hB
  refine ⟨FR.alloc hB _, R3, upd_same, .nil, ⟨s.1, fun i w e => ?_⟩, g⟩
  obtain ⟨v, e1, e2⟩ := (f2.sr R1 s).2 i w e
  exact ⟨v, e1, bw e2⟩
theorem bound_of {α : Type} {P : α → Hs → List Addr → Hp → Prop} {Z : Addr → Prop} {η : List Addr} {h : Hs} {H : Hp} {n : Nat} {r : Re α} (k : KG S X.K J W Z η h H P (if Nat.ble n lim then r else .no)) : n ≤ sizeLine := by
  split at k
  · rename_i g
    rw [Nat.ble_eq] at g
    rw [sizeLine_eq]
    exact g
  · exact k.elim
theorem lc_imp {m : Bool} {os : List Nat} (x : Xk S X J W) (hown : ∀ i ∈ own, i ∈ os) : ∀ (σ : L2.St) (H : Hp) (Q : VK), tE S X.K J W (cNew m (lComp os mg mi mc me) C) σ H Q →
    tLc (tI S X.K J W (mi C)) (tG S X.K J0 W0 own fun iw => mg iw C) (tC S X.K J0 W0 (mc C)) (tE S X.K J0 W0 (me C)) os σ H Q := by
  refine fun σ H Q ⟨Z, η, ρ, h, A, k⟩ => ⟨Z, η, ρ, h, A, ?_⟩
  unfold cNew lComp at k
  rw [then_assoc] at k
  refine KG.bind A.hr k fun s h1 η1 H1 f1 R1 k1 Jt hl hold B hB => ?_
  rw [then_assoc] at k1
  have q0 := compL_nx s.items k1
  clear k1 k
  obtain ⟨G, WW, g0⟩ := hold (fun a => Z a ∨ a = B) (upd H1 B (.lst [])) (fun a q => q.imp id fun e => by rw [e]; exact hB) fun a o e => by
    rw [upd_ne (ne_of_none e hB)]
    exact e
  have R2 := (lock_ok s.lock R1 fun p hp => .inl (hl p hp)).1
  have A1 := A.step x.jo f1 R1
  generalize hstep : stepC os mg mc (lOne me lNil) C ρ = step at q0
  have hst : ∀ i h, step i h = (mg i C (wipeE ρ os) h).then fun ρ1 h3 => (mc C ρ1 h3).then (stepT (lOne me lNil) C ρ1) := fun i h => by rw [← hstep]; rfl
  clear hstep
  refine ⟨fun i m' H' => m' = s.items.length - i ∧ i ≤ s.items.length ∧ ∃ η' h' acc ws, Mid S X.K Z B σ ρ η1 (lockH h1 s.lock) H1 G η' h' H' acc ws ∧
    KN (fun us h2 => KG S X.K J W Z η1 h1 H1 (VP X.K Z Q) (if Nat.ble (ws ++ us).length lim then retN m (ws ++ us) (unlock h2 s.lock) else .no)) (compL (fun i h2 => nx (step i h2)) (s.items.drop i) h'),
    ⟨_, rfl, Nat.zero_le _, η1, lockH h1 s.lock, [], [], mid_start R1 hl hB A1.sr g0, q0⟩, ?_⟩
  rintro i m' H' ⟨rfl, hi', η', h', acc, ws, M, q⟩
  by_cases hlt : i < s.items.length
  · refine .inr ⟨WW.goes i M.g M.hr hlt, fun H' => ∃ η' h' acc ws, Mid S X.K Z B σ ρ η1 (lockH h1 s.lock) H1 G η' h' H' acc ws ∧
      KN (fun us h2 => KG S X.K J W Z η1 h1 H1 (VP X.K Z Q) (if Nat.ble (ws ++ us).length lim then retN m (ws ++ us) (unlock h2 s.lock) else .no)) (compL (fun i h2 => nx (step i h2)) (s.items.drop (i + 1)) h'),
      fun H2 p => ⟨s.items.length - (i + 1), by omega, rfl, hlt, p⟩, fun v H2 y => ?_⟩
    obtain ⟨it, eit, fy, Ry, iwr⟩ := WW.yld i v H2 M.g M.hr hlt y
    have M2 := M.step R2 WW.pers fy Ry
    have e1 : s.items.drop i = it :: s.items.drop (i + 1) := by
      rw [List.drop_eq_getElem_cons hlt]
      have : s.items[i] = it := by
        rw [List.getElem?_eq_getElem hlt] at eit
        exact Option.some.inj eit
      rw [this]
    rw [e1] at q
    have q1 : KN (fun us h3 => KN (fun us' h2 => KG S X.K J W Z η1 h1 H1 (VP X.K Z Q) (if Nat.ble (ws ++ (us ++ us')).length lim then retN m (ws ++ (us ++ us')) (unlock h2 s.lock) else .no)) (compL (fun i h2 => nx (step i h2)) (s.items.drop (i + 1)) h3)) (nx (step it h')) :=
      KN.mono (KN.bind (show KN _ ((nx (step it h')).then fun us h3 => (compL (fun i h2 => nx (step i h2)) (s.items.drop (i + 1)) h3).then fun us' h2 => Re.ok (us ++ us') h2) from q)) fun us h3 z => KN.bind z
    have q2 := KN.nx q1
    rw [hst] at q2
    refine ⟨_, η', wipeE ρ os, h', it, ⟨Ry, M2.sr.wipe _, trivial⟩, iwr, KG.ofN (KN.bind q2) fun ρ1 h3 η3 H3 f3 R3 q3 σ' s3 j3 m3 => ⟨wipe_back m3 hown, ?_⟩⟩
    have M3 := M2.step R2 WW.pers f3 R3
    refine ⟨_, η3, ρ1, h3, ⟨R3, s3, trivial⟩, KG.ofN (KN.bind q3) fun w h4 η4 H4 f4 R4 q4 => ?_⟩
    have M4 := M3.step R2 WW.pers f4 R4
    unfold stepT at q4
    cases ct : tst w with
    | none => simp only [ct] at q4; exact q4.elim
    | some b =>
      cases b with
      | false =>
        simp only [ct] at q4
        refine ⟨false, rfl, (if_neg Bool.false_ne_true).mpr ?_⟩
        exact ⟨η4, h4, acc, ws, M4, q4⟩
      | true =>
        simp only [ct] at q4
        refine ⟨true, rfl, (if_pos rfl).mpr ?_⟩
        refine ⟨_, η4, ρ1, h4, ⟨R4, f4.sr R3 s3, trivial⟩, KG.ofN (KN.bind q4) fun w5 h5 η5 H5 f5 R5 q5 y5 r5 => ?_⟩
        have M5 := M4.step R2 WW.pers f5 R5
        have q5' : KN (fun us' h2 => KG S X.K J W Z η1 h1 H1 (VP X.K Z Q) (if Nat.ble ((ws ++ [w5]) ++ us').length lim then retN m ((ws ++ [w5]) ++ us') (unlock h2 s.lock) else .no)) (compL (fun i h2 => nx (step i h2)) (s.items.drop (i + 1)) h5) := KN.mono q5 fun us' h2 z => by
          rw [List.append_assoc]
          exact z
        refine ⟨acc, M5.at', ?_, η5, h5, acc ++ [y5], ws ++ [w5], M5.push hB WW.pers r5, q5'⟩
        obtain ⟨us', h2, _, z⟩ := q5'.some
        have := bound_of z
        rw [M5.it.length]
        simp at this
        omega
  · have e : i = s.items.length := by omega
    subst e
    rw [List.drop_length] at q
    have q1 : KG S X.K J W Z η1 h1 H1 (VP X.K Z Q) (if Nat.ble (ws ++ []).length lim then retN m (ws ++ []) (unlock h' s.lock) else .no) := q
    rw [List.append_nil] at q1
    exact .inl ⟨WW.stops M.g M.hr, mid_end R1 hl hB M q1⟩
theorem s_lc {m : Bool} {elt : Expr} {scope : Scope} {ownp : List (Str × Nat)} {os : List Nat} (x : Xk S X J W) (hc : X.calm = true) (hi : SPI S X J W C tg iter mi) (ok : BlkOk X.N X.env.scope scope ownp) (eo : ownp.map (·.2) = os) (hown : ∀ i ∈ own, i ∈ os)
    (hg : CPG S X C scope own tg mg) (ht : CPC S X C scope ifs mc) (he : CPE S X C scope elt me) (hs : ∀ x, foldedSetIterable iter X.env x = pure x := by intro _; rfl) :
    SPE S X J W C (.ListComp elt [⟨tg, iter, ifs, 0⟩] scope pos) (cNew m (lComp os mg mi mc me)) := by
  subst eo
  exact PE.conseq (pe_lc (g := tG S X.K J0 W0 own fun iw => mg iw C) (tt := tC S X.K J0 W0 (mc C)) (te := tE S X.K J0 W0 (me C)) hc x.nd hi ok hg ht he hs) (lc_imp x hown)
end
end EV
end

section
set_option Elab.async false
set_option linter.all false
set_option maxRecDepth 100000
namespace EV
open PySem L2
section
variable {X : Cx} {S : Sc} {J : JT} {W : WX} {C : Cv} {a b c e tg iter tg1 iter1 : Expr} {es ifs ifs1 : List Expr} {ma mb mc mc1 me : SE} {mr : SL} {mi mi1 : SI} {mg mg1 : SG} {mgs : SGs} {own own1 : List Nat} {pos p p2 : Pos}
/-- after pushes: what is known outside the inner loop -/
theorem Mid.back {Z : Addr → Prop} {B : Addr} {σ : L2.St} {ρ : En} {η1 η η' : List Addr} {h1 h h' : Hs} {H1 H H' : Hp} {G : List Addr → Hs → Hp → Prop} {acc acc' : List V} {ws ws' : List EV.W} {K : PySem.W.Frag} (m : Mid S K Z B σ ρ η1 h1 H1 G η h H acc ws) (hB : H1 B = none)
    (pers : ∀ {P : Addr → Prop} {η η' h h' H H'}, (∀ a, P a → Z a ∨ a = B) → G η h H → HR S K (fun a => Z a ∨ a = B) η h H → FRX P η h H η' h' H' → G η' h' H')
    (f : FRX (fun a => a = B) η h H η' h' H') (R : HR S K (fun a => Z a ∨ a = B) η' h' H') (e : H' B = some (.lst acc')) (r : RWs K H' (MM (fun a => Z a ∨ a = B) η' h') η' acc' ws') : Mid S K Z B σ ρ η1 h1 H1 G η' h' H' acc' ws' := by
  have hp : ∀ a, (fun a => a = B) a → Z a ∨ a = B := fun a q => .inr q
  refine ⟨⟨⟨?_, fun a o e nm nt => ?_, fun a q => ?_, fun a o e => ?_⟩, fun n ws e => f.lk n ws (m.fr.lk n ws e)⟩, R, e, r, f.sr m.hr hp m.sr, pers hp m.g m.hr f⟩
  · obtain ⟨t, q⟩ := m.fr.ext
    obtain ⟨u, q2⟩ := f.ext
    exact ⟨t ++ u, by rw [q2, q, List.append_assoc]⟩
  · refine f.keep a o (m.fr.keep a o e nm nt) (fun q => ?_) (ne_of_none e hB) nt
    rcases m.fr.new a q with z | z
    · exact nm z
    · rw [e] at z; cases z
  · rcases f.new a q with z | z
    · exact m.fr.new a z
    · refine .inr ?_
      cases q2 : H1 a with
      | none => rfl
      | some o =>
        obtain ⟨o', e'⟩ := m.fr.here a o q2
        rw [e'] at z; cases z
  · obtain ⟨o', q⟩ := m.fr.here a o e
    exact f.here a o' q
/-- the inner loop's state -/
structure Inn (S : Sc) (K : PySem.W.Frag) (Z : Addr → Prop) (B : Addr) (σ : L2.St) (ρ : En) (η1 : List Addr) (h1 : Hs) (H1 : Hp) (G : List Addr → Hs → Hp → Prop) (η : List Addr) (h : Hs) (H : Hp) (acc : List V) (ws : List EV.W) : Prop where
  fx : FRX (fun a => a = B) η1 h1 H1 η h H
  hr : HR S K (fun a => Z a ∨ a = B) η h H
  at' : H B = some (.lst acc)
  it : RWs K H (MM (fun a => Z a ∨ a = B) η h) η acc ws
  sr : SR K H (MM (fun a => Z a ∨ a = B) η h) η σ ρ
  g : G η h H
theorem Inn.step {Z : Addr → Prop} {B : Addr} {σ : L2.St} {ρ : En} {η1 η η' : List Addr} {h1 h h' : Hs} {H1 H H' : Hp} {G : List Addr → Hs → Hp → Prop} {acc : List V} {ws : List EV.W} {K : PySem.W.Frag} (m : Inn S K Z B σ ρ η1 h1 H1 G η h H acc ws)
    (pers : ∀ {P : Addr → Prop} {η η' h h' H H'}, (∀ a, P a → Z a ∨ a = B) → G η h H → HR S K (fun a => Z a ∨ a = B) η h H → FRX P η h H η' h' H' → G η' h' H') (f : FR η h H η' h' H') (R : HR S K (fun a => Z a ∨ a = B) η' h' H') : Inn S K Z B σ ρ η1 h1 H1 G η' h' H' acc ws := by
  refine ⟨m.fx.trans (f.xz m.hr fun a q => .inr q), R, ?_, f.rws m.hr m.it, f.sr m.hr m.sr, pers (fun _ q => q.elim) m.g m.hr f.x⟩
  exact f.keep B _ m.at' (fun q => by
    obtain ⟨n, e, _⟩ := q
    exact m.hr.zd B (.inr rfl) (List.mem_of_getElem? e)) fun ps z => nomatch z
theorem Inn.push {Z : Addr → Prop} {B : Addr} {σ : L2.St} {ρ : En} {η1 η : List Addr} {h1 h : Hs} {H1 H : Hp} {G : List Addr → Hs → Hp → Prop} {acc : List V} {ws : List EV.W} {K : PySem.W.Frag} (m : Inn S K Z B σ ρ η1 h1 H1 G η h H acc ws)
    (pers : ∀ {P : Addr → Prop} {η η' h h' H H'}, (∀ a, P a → Z a ∨ a = B) → G η h H → HR S K (fun a => Z a ∨ a = B) η h H → FRX P η h H η' h' H' → G η' h' H') {y : V} {w : EV.W} (r : RW K H (MM (fun a => Z a ∨ a = B) η h) η y w) :
    Inn S K Z B σ ρ η1 h1 H1 G η h (upd H B (.lst (acc ++ [y]))) (acc ++ [y]) (ws ++ [w]) := by
  have R2 := m.hr.grow (B := B) (acc := acc) (us := acc ++ [y]) (.inr rfl) m.at'
  have f : FRX (fun a => a = B) η h H η h (upd H B (.lst (acc ++ [y]))) := FRX.push
  have hp : ∀ a, (fun a => a = B) a → Z a ∨ a = B := fun a q => .inr q
  exact ⟨m.fx.trans f, R2, upd_same, f.rws m.hr hp (m.it.app (.cons r .nil)), f.sr m.hr hp m.sr, pers hp m.g m.hr f⟩
theorem lc2_imp {m : Bool} {os vs1 : List Nat} (x : Xk S X J W) (hown : ∀ i ∈ own, i ∈ os) (hown1 : ∀ i ∈ own1, i ∈ vs1) : ∀ (σ : L2.St) (H : Hp) (Q : VK), tE S X.K J W (cNew m (lComp2 os mg mi mc (lIn vs1 mg1 mi1 mc1 me)) C) σ H Q →
    tLc2 (tI S X.K J W (mi C)) (tG S X.K J0 W0 own fun iw => mg iw C) (tC S X.K J0 W0 (mc C)) (tI S X.K J0 W0 (mi1 C)) (tG S X.K J0 W0 own1 fun iw => mg1 iw C) (tC S X.K J0 W0 (mc1 C)) (tE S X.K J0 W0 (me C)) os vs1 σ H Q := by
  refine fun σ H Q ⟨Z, η, ρ, h, A, k⟩ => ⟨Z, η, ρ, h, A, ?_⟩
  unfold cNew lComp2 at k
  rw [then_assoc] at k
  refine KG.bind A.hr k fun s h1 η1 H1 f1 R1 k1 Jt hl hold B hB => ?_
  rw [then_assoc] at k1
  have q0 := compL_nx s.items k1
  clear k1 k
  obtain ⟨G, WW, g0⟩ := hold (fun a => Z a ∨ a = B) (upd H1 B (.lst [])) (fun a q => q.imp id fun e => by rw [e]; exact hB) fun a o e => by
    rw [upd_ne (ne_of_none e hB)]
    exact e
  have R2 := (lock_ok s.lock R1 fun p hp => .inl (hl p hp)).1
  have A1 := A.step x.jo f1 R1
  generalize hstep : stepC os mg mc (lIn vs1 mg1 mi1 mc1 me) C ρ = step at q0
  have hst : ∀ i h, step i h = (mg i C (wipeE ρ os) h).then fun ρ1 h3 => (mc C ρ1 h3).then (stepT (lIn vs1 mg1 mi1 mc1 me) C ρ1) := fun i h => by rw [← hstep]; rfl
  clear hstep
  refine ⟨fun i m' H' => m' = s.items.length - i ∧ i ≤ s.items.length ∧ ∃ η' h' acc ws, Mid S X.K Z B σ ρ η1 (lockH h1 s.lock) H1 G η' h' H' acc ws ∧
    KN (fun us h2 => KG S X.K J W Z η1 h1 H1 (VP X.K Z Q) (if Nat.ble (ws ++ us).length lim then retN m (ws ++ us) (unlock h2 s.lock) else .no)) (compL (fun i h2 => nx (step i h2)) (s.items.drop i) h'),
    ⟨_, rfl, Nat.zero_le _, η1, lockH h1 s.lock, [], [], mid_start R1 hl hB A1.sr g0, q0⟩, ?_⟩
  rintro i m' H' ⟨rfl, hi', η', h', acc, ws, M, q⟩
  by_cases hlt : i < s.items.length
  · refine .inr ⟨WW.goes i M.g M.hr hlt, fun H' => ∃ η' h' acc ws, Mid S X.K Z B σ ρ η1 (lockH h1 s.lock) H1 G η' h' H' acc ws ∧
      KN (fun us h2 => KG S X.K J W Z η1 h1 H1 (VP X.K Z Q) (if Nat.ble (ws ++ us).length lim then retN m (ws ++ us) (unlock h2 s.lock) else .no)) (compL (fun i h2 => nx (step i h2)) (s.items.drop (i + 1)) h'),
      fun H2 p => ⟨s.items.length - (i + 1), by omega, rfl, hlt, p⟩, fun v H2 y => ?_⟩
    obtain ⟨it, eit, fy, Ry, iwr⟩ := WW.yld i v H2 M.g M.hr hlt y
    have M2 := M.step R2 WW.pers fy Ry
    have e1 : s.items.drop i = it :: s.items.drop (i + 1) := by
      rw [List.drop_eq_getElem_cons hlt]
      have : s.items[i] = it := by
        rw [List.getElem?_eq_getElem hlt] at eit
        exact Option.some.inj eit
      rw [this]
    rw [e1] at q
    have q1 : KN (fun us h3 => KN (fun us' h2 => KG S X.K J W Z η1 h1 H1 (VP X.K Z Q) (if Nat.ble (ws ++ (us ++ us')).length lim then retN m (ws ++ (us ++ us')) (unlock h2 s.lock) else .no)) (compL (fun i h2 => nx (step i h2)) (s.items.drop (i + 1)) h3)) (nx (step it h')) :=
      KN.mono (KN.bind (show KN _ ((nx (step it h')).then fun us h3 => (compL (fun i h2 => nx (step i h2)) (s.items.drop (i + 1)) h3).then fun us' h2 => Re.ok (us ++ us') h2) from q)) fun us h3 z => KN.bind z
    have q2 := KN.nx q1
    rw [hst] at q2
    refine ⟨_, η', wipeE ρ os, h', it, ⟨Ry, M2.sr.wipe _, trivial⟩, iwr, KG.ofN (KN.bind q2) fun ρ1 h3 η3 H3 f3 R3 q3 σ' s3 j3 m3 => ⟨wipe_back m3 hown, ?_⟩⟩
    have M3 := M2.step R2 WW.pers f3 R3
    refine ⟨_, η3, ρ1, h3, ⟨R3, s3, trivial⟩, KG.ofN (KN.bind q3) fun w h4 η4 H4 f4 R4 q4 => ?_⟩
    have M4 := M3.step R2 WW.pers f4 R4
    unfold stepT at q4
    cases ct : tst w with
    | none => simp only [ct] at q4; exact q4.elim
    | some b =>
      cases b with
      | false =>
        simp only [ct] at q4
        refine ⟨false, rfl, (if_neg Bool.false_ne_true).mpr ?_⟩
        exact ⟨η4, h4, acc, ws, M4, q4⟩
      | true =>
        simp only [ct] at q4
        refine ⟨true, rfl, (if_pos rfl).mpr ?_⟩
        unfold lIn at q4
        refine ⟨_, η4, ρ1, h4, ⟨R4, f4.sr R3 s3, trivial⟩, KG.ofN (KN.bind q4) fun s5 h5 η5 H5 f5 R5 q5 Jt5 hl5 hold5 => ?_⟩
        have M5 := M4.step R2 WW.pers f5 R5
        have sr5 := f5.sr R4 (f4.sr R3 s3)
        obtain ⟨G5, WW5, g5⟩ := hold5 (fun a => Z a ∨ a = B) H5 (fun a q => .inl q) fun a o e => e
        have R5l := (lock_ok s5.lock R5 fun p hp => .inl (hl5 p hp))
        have q5' := KN.bind q5
        generalize hstep1 : stepC vs1 mg1 mc1 (lOne me lNil) C ρ1 = step1 at q5'
        have hst1 : ∀ i h, step1 i h = (mg1 i C (wipeE ρ1 vs1) h).then fun ρ1 h3 => (mc1 C ρ1 h3).then (stepT (lOne me lNil) C ρ1) := fun i h => by rw [← hstep1]; rfl
        clear hstep1
        -- the inner loop
        refine ⟨fun j k H' => k = s5.items.length - j ∧ j ≤ s5.items.length ∧ ∃ η' h' acc' us0, Inn S X.K Z B σ' ρ1 η5 (lockH h5 s5.lock) H5 G5 η' h' H' acc' (ws ++ us0) ∧
          KN (fun us6 h6 => KN (fun us' h2 => KG S X.K J W Z η1 h1 H1 (VP X.K Z Q) (if Nat.ble (ws ++ ((us0 ++ us6) ++ us')).length lim then retN m (ws ++ ((us0 ++ us6) ++ us')) (unlock h2 s.lock) else .no)) (compL (fun i h2 => nx (step i h2)) (s.items.drop (i + 1)) (unlock h6 s5.lock))) (compL (fun i h2 => step1 i h2) (s5.items.drop j) h'),
          ⟨_, rfl, Nat.zero_le _, η5, lockH h5 s5.lock, acc, [], ⟨⟨⟨[], by simp⟩, fun a o e _ _ _ => e, fun a q => .inl q, fun a o e => ⟨o, e⟩, fun _ _ e => e, fun a vs q e => ⟨vs, e⟩⟩, R5l.1, M5.at', by rw [List.append_nil]; exact R5l.2.1.rws R5 M5.it, R5l.2.1.sr R5 sr5, g5⟩, q5'⟩, ?_⟩
        rintro j k H' ⟨rfl, hj, η', h', acc', us0, N, q⟩
        by_cases hjt : j < s5.items.length
        · refine .inr ⟨WW5.goes j N.g N.hr hjt, fun H' => ∃ η' h' acc' us0, Inn S X.K Z B σ' ρ1 η5 (lockH h5 s5.lock) H5 G5 η' h' H' acc' (ws ++ us0) ∧
            KN (fun us6 h6 => KN (fun us' h2 => KG S X.K J W Z η1 h1 H1 (VP X.K Z Q) (if Nat.ble (ws ++ ((us0 ++ us6) ++ us')).length lim then retN m (ws ++ ((us0 ++ us6) ++ us')) (unlock h2 s.lock) else .no)) (compL (fun i h2 => nx (step i h2)) (s.items.drop (i + 1)) (unlock h6 s5.lock))) (compL (fun i h2 => step1 i h2) (s5.items.drop (j + 1)) h'),
            fun H2 p => ⟨s5.items.length - (j + 1), by omega, rfl, hjt, p⟩, fun v H2 y => ?_⟩
          obtain ⟨it, eit, fy, Ry, iwr⟩ := WW5.yld j v H2 N.g N.hr hjt y
          have N2 := N.step WW5.pers fy Ry
          have e2 : s5.items.drop j = it :: s5.items.drop (j + 1) := by
            rw [List.drop_eq_getElem_cons hjt]
            have : s5.items[j] = it := by
              rw [List.getElem?_eq_getElem hjt] at eit
              exact Option.some.inj eit
            rw [this]
          rw [e2] at q
          have q6 := KN.mono (KN.bind (show KN _ ((step1 it h').then fun us h3 => (compL (fun i h2 => step1 i h2) (s5.items.drop (j + 1)) h3).then fun us' h2 => Re.ok (us ++ us') h2) from q)) fun us h3 z => KN.bind z
          rw [hst1] at q6
          refine ⟨_, η', wipeE ρ1 vs1, h', it, ⟨Ry, N2.sr.wipe _, trivial⟩, iwr, KG.ofN (KN.bind q6) fun ρ2 h7 η7 H7 f7 R7 q7 σ2 s7 j7 m7 => ⟨wipe_back m7 hown1, ?_⟩⟩
          have N3 := N2.step WW5.pers f7 R7
          refine ⟨_, η7, ρ2, h7, ⟨R7, s7, trivial⟩, KG.ofN (KN.bind q7) fun w8 h8 η8 H8 f8 R8 q8 => ?_⟩
          have N4 := N3.step WW5.pers f8 R8
          unfold stepT at q8
          cases ct8 : tst w8 with
          | none => simp only [ct8] at q8; exact q8.elim
          | some b8 =>
            cases b8 with
            | false =>
              simp only [ct8] at q8
              refine ⟨false, rfl, (if_neg Bool.false_ne_true).mpr ?_⟩
              exact ⟨η8, h8, acc', us0, N4, q8⟩
            | true =>
              simp only [ct8] at q8
              refine ⟨true, rfl, (if_pos rfl).mpr ?_⟩
              refine ⟨_, η8, ρ2, h8, ⟨R8, f8.sr R7 s7, trivial⟩, KG.ofN (KN.bind q8) fun w9 h9 η9 H9 f9 R9 q9 y9 r9 => ?_⟩
              have N5 := N4.step WW5.pers f9 R9
              have N6 := N5.push WW5.pers r9
              rw [List.append_assoc] at N6
              have q9' : KN (fun us6 h6 => KN (fun us' h2 => KG S X.K J W Z η1 h1 H1 (VP X.K Z Q) (if Nat.ble (ws ++ (((us0 ++ [w9]) ++ us6) ++ us')).length lim then retN m (ws ++ (((us0 ++ [w9]) ++ us6) ++ us')) (unlock h2 s.lock) else .no)) (compL (fun i h2 => nx (step i h2)) (s.items.drop (i + 1)) (unlock h6 s5.lock))) (compL (fun i h2 => step1 i h2) (s5.items.drop (j + 1)) h9) := KN.mono q9 fun us6 h6 z => by
                rw [List.append_assoc us0 [w9] us6]
                exact z
              refine ⟨acc', N5.at', ?_, η9, h9, acc' ++ [y9], us0 ++ [w9], N6, q9'⟩
              obtain ⟨us6, h6, _, z6⟩ := q9'.some
              obtain ⟨us', h2, _, z⟩ := z6.some
              have := bound_of z
              rw [N5.it.length]
              simp at this ⊢
              omega
        · have ej : j = s5.items.length := by omega
          subst ej
          rw [List.drop_length] at q
          have q6 : KN (fun us' h2 => KG S X.K J W Z η1 h1 H1 (VP X.K Z Q) (if Nat.ble (ws ++ ((us0 ++ []) ++ us')).length lim then retN m (ws ++ ((us0 ++ []) ++ us')) (unlock h2 s.lock) else .no)) (compL (fun i h2 => nx (step i h2)) (s.items.drop (i + 1)) (unlock h' s5.lock)) := q
          rw [List.append_nil] at q6
          obtain ⟨z1, z2, z3⟩ := reopenX R5 hl5 N.fx N.hr
          refine .inl ⟨WW5.stops N.g N.hr, η', unlock h' s5.lock, acc', ws ++ us0, M5.back hB WW.pers z2 z1 N.at' (z3.rws N.hr N.it), KN.mono q6 fun us' h2 z => ?_⟩
          rw [List.append_assoc]
          exact z
  · have e : i = s.items.length := by omega
    subst e
    rw [List.drop_length] at q
    have q1 : KG S X.K J W Z η1 h1 H1 (VP X.K Z Q) (if Nat.ble (ws ++ []).length lim then retN m (ws ++ []) (unlock h' s.lock) else .no) := q
    rw [List.append_nil] at q1
    exact .inl ⟨WW.stops M.g M.hr, mid_end R1 hl hB M q1⟩
theorem s_lc2 {m : Bool} {elt : Expr} {scope : Scope} {ownp : List (Str × Nat)} {os vs1 : List Nat} (x : Xk S X J W) (hc : X.calm = true) (hi : SPI S X J W C tg iter mi) (ok : BlkOk X.N X.env.scope scope ownp) (eo : ownp.map (·.2) = os) (hown : ∀ i ∈ own, i ∈ os) (hv : ∀ i ∈ vs1, i ∈ os) (hown1 : ∀ i ∈ own1, i ∈ vs1)
    (hg : CPG S X C scope own tg mg) (ht : CPC S X C scope ifs mc) (hi1 : CPI S X C scope tg1 iter1 mi1) (hg1 : CPG S X C scope own1 tg1 mg1) (ht1 : CPC S X C scope ifs1 mc1) (he : CPE S X C scope elt me)
    (hs : ∀ x, foldedSetIterable iter X.env x = pure x := by intro _; rfl) (hs1 : ∀ env x, foldedSetIterable iter1 env x = pure x := by intro _ _; rfl) :
    SPE S X J W C (.ListComp elt [⟨tg, iter, ifs, 0⟩, ⟨tg1, iter1, ifs1, 0⟩] scope pos) (cNew m (lComp2 os mg mi mc (lIn vs1 mg1 mi1 mc1 me))) := by
  subst eo
  exact PE.conseq (pe_lc2 (g := tG S X.K J0 W0 own fun iw => mg iw C) (tt := tC S X.K J0 W0 (mc C)) (wi1 := tI S X.K J0 W0 (mi1 C)) (g1 := tG S X.K J0 W0 own1 fun iw => mg1 iw C) (tt1 := tC S X.K J0 W0 (mc1 C)) (te := tE S X.K J0 W0 (me C)) hc x.nd hi ok hv hg ht hi1 hg1 ht1 he hs hs1) (lc2_imp x hown hown1)
end
end EV
end

section
set_option Elab.async false
set_option linter.all false
set_option maxRecDepth 100000
namespace EV
open PySem L2
/-! ### statements -/
def FP (K : PySem.W.Frag) (J : JT) (Z : Addr → Prop) (D : Ends) : Fl → Hs → List Addr → Hp → Prop
  | .nx ρ', h', η', H' => ∀ σ', SR K H' (MM Z η' h') η' σ' ρ' → J σ' Z η' h' H' → D.nx σ' H'
  | .rt w, h', η', H' => ∀ v, RW K H' (MM Z η' h') η' v w → D.rt v H'
  | .bk ρ', h', η', H' => ∀ σ', SR K H' (MM Z η' h') η' σ' ρ' → J σ' Z η' h' H' → D.bk σ' H'
  | .ct ρ', h', η', H' => ∀ σ', SR K H' (MM Z η' h') η' σ' ρ' → J σ' Z η' h' H' → D.ct σ' H'
def tS (S : Sc) (K : PySem.W.Frag) (J : JT) (W : WX) (m : En → Hs → Re Fl) : TS := fun D σ H => ∃ Z η ρ h, At S K J σ H Z η ρ h ∧ KG S K J W Z η h H (FP K J Z D) (m ρ h)
section
variable {X : Cx} {S : Sc} {J : JT} {W : WX} {C : Cv} {a b c e tg iter : Expr} {es ts : List Expr} {st : Stmt} {sa sb rest : List Stmt} {ma mb mc me : SE} {mr : SL} {mi : SI} {mg : SG} {mgs : SGs} {ms mx mt : SS} {own own2 : List Nat} {pos p p2 : Pos}
abbrev SPS (S : Sc) (X : Cx) (J : JT) (W : WX) (C : Cv) (st : Stmt) (m : SS) : Prop := PS X st (tS S X.K J W (m C))
abbrev SPSs (S : Sc) (X : Cx) (J : JT) (W : WX) (C : Cv) (st : List Stmt) (m : SS) : Prop := PSs X st (tS S X.K J W (m C))
theorem fp_next {Z : Addr → Prop} {η : List Addr} {ρ : En} {h : Hs} {H : Hp} {σ : L2.St} {D : Ends} (A : At S X.K J σ H Z η ρ h) (k : KG S X.K J W Z η h H (FP X.K J Z D) (.ok (.nx ρ) h)) : D.nx σ H := KG.ok A.hr k _ A.sr A.jj
theorem ss_nil : SPSs S X J W C [] sPass := PSs.conseq pss_nil fun D σ H ⟨Z, η, ρ, h, A, k⟩ => fp_next A k
theorem ss_cons (h1 : SPS S X J W C st ms) (h2 : SPSs S X J W C rest mx) : SPSs S X J W C (st :: rest) (sSeq ms mx) :=
  PSs.conseq (pss_cons h1 h2) fun D σ H ⟨Z, η, ρ, h, A, k⟩ => ⟨Z, η, ρ, h, A, KG.bind A.hr k fun f h1 η1 H1 f1 R1 k1 => by
    cases f with
    | nx ρ1 => exact fun σ' sr jj => ⟨Z, η1, ρ1, h1, ⟨R1, sr, jj⟩, k1⟩
    | rt w => exact fun v r => KG.ok R1 k1 v r
    | bk ρ1 => exact fun σ' sr jj => KG.ok R1 k1 σ' sr jj
    | ct ρ1 => exact fun σ' sr jj => KG.ok R1 k1 σ' sr jj⟩
theorem s_pass : SPS S X J W C (.Pass pos) sPass := PS.conseq ps_pass fun D σ H ⟨Z, η, ρ, h, A, k⟩ => fp_next A k
theorem s_brk : SPS S X J W C (.Break pos) sBrk := PS.conseq ps_break fun D σ H ⟨Z, η, ρ, h, A, k⟩ => KG.ok A.hr k _ A.sr A.jj
theorem s_cnt : SPS S X J W C (.Continue pos) sCnt := PS.conseq ps_continue fun D σ H ⟨Z, η, ρ, h, A, k⟩ => KG.ok A.hr k _ A.sr A.jj
/-- what the evaluator does not tell -/
theorem s_none : SPS S X J W C st sNo := ⟨fun pins s σ H D I ⟨Z, η, ρ, h, A, k⟩ => k.elim⟩
theorem e_none : SPE S X J W C e cNo := ⟨fun pins s σ H Q I ⟨Z, η, ρ, h, A, k⟩ => k.elim⟩
theorem t_none : SPT S X J W C e cNo := ⟨fun pins s σ H Q I ⟨Z, η, ρ, h, A, k⟩ => k.elim⟩
theorem s_expr (x : Xk S X J W) (he : SPE S X J W C e me) (hs : swapsWith e none pos.line X.env = pure false := by rfl) : SPS S X J W C (.Expr e pos) (sExpr me) :=
  PS.conseq (ps_expr he hs) fun D σ H ⟨Z, η, ρ, h, A, k⟩ => ⟨Z, η, ρ, h, A, KG.bind A.hr k fun w h1 η1 H1 f1 R1 k1 v r1 => fp_next (A.step x.jo f1 R1) k1⟩
theorem s_ret (he : SPE S X J W C e me) : SPS S X J W C (.Return (some e) pos) (sRet me) :=
  PS.conseq (ps_ret he) fun D σ H ⟨Z, η, ρ, h, A, k⟩ => ⟨Z, η, ρ, h, A, KG.bind A.hr k fun w h1 η1 H1 f1 R1 k1 v r1 => KG.ok R1 k1 v r1⟩
theorem s_ifs (x : Xk S X J W) (hc : SPT S X J W C c mc) (ha : SPSs S X J W C sa ms) (hb : SPSs S X J W C sb mx) : SPS S X J W C (.If c sa sb pos) (sIf mc ms mx) :=
  PS.conseq (ps_if hc ha hb) fun D σ H ⟨Z, η, ρ, h, A, k⟩ => ⟨Z, η, ρ, h, A, KG.bind A.hr k fun w h1 η1 H1 f1 R1 k1 => by
    cases w with
    | r n => exact k1.elim
    | d y =>
      cases y with
      | bool t =>
        refine ⟨t, rfl, ?_⟩
        cases t with
        | true => exact (if_pos rfl).mpr ⟨Z, η1, ρ, h1, A.step x.jo f1 R1, k1⟩
        | false => exact (if_neg Bool.false_ne_true).mpr ⟨Z, η1, ρ, h1, A.step x.jo f1 R1, k1⟩
      | _ => exact k1.elim⟩
theorem s_asg (x : Xk S X J W) (he : SPE S X J W C e me) (hg : SPG S X J W C own tg mg) (hs : swapsWithSole [tg] e pos.line X.env = pure false := by rfl) (hw : swappedStores [tg] e X.env = pure none := by rfl)
    (ha : (assignEach [tg] X.env).map (·.2) = [assign tg X.env] := by rfl) : SPS S X J W C (.Assign [tg] e pos) (sAsg mg me) :=
  PS.conseq (ps_asg he hg hs hw ha) fun D σ H ⟨Z, η, ρ, h, A, k⟩ => ⟨Z, η, ρ, h, A, KG.bind A.hr k fun w h1 η1 H1 f1 R1 k1 v r1 => ⟨Z, η1, ρ, h1, .one w, A.step x.jo f1 R1, r1,
    KG.bind R1 k1 fun ρ2 h2 η2 H2 f2 R2 k2 σ2 s2 j2 m2 => KG.ok R2 k2 _ s2 j2⟩⟩
theorem s_for (x : Xk S X J W) (hp : PassesOwn (model X.prog X.w) X.A X.env X.xe) (hc : X.calm = true) (hi : SPI S X J W C tg iter mi) (hg : SPG S X J W C own tg mg) (hb : SPSs S X J W C sb mx)
    (hs : ∀ x, foldedSetIterable iter X.env x = pure x := by intro _; rfl) : SPS S X J W C (.For tg iter sb [] pos) (sFor mg mi mx) :=
  PS.conseq (ps_for hp hc hi hg hb hs) fun D σ H ⟨Z, η, ρ, h, A, k⟩ => ⟨Z, η, ρ, h, A, KG.bind A.hr k fun s h1 η1 H1 f1 R1 k1 Jt hl hold => by
    obtain ⟨G, WW, g0⟩ := hold Z H1 (fun a q => .inl q) fun a o e => e
    have A1 := A.step x.jo f1 R1
    have R2 := lock_ok s.lock R1 fun p hp => .inl (hl p hp)
    generalize hstep : (fun (i : IW) (ρ1 : En) (h2 : Hs) => (mg i C ρ1 h2).then fun ρ2 h3 => mx C ρ2 h3) = step at k1
    have hst : ∀ i ρ1 h2, step i ρ1 h2 = (mg i C ρ1 h2).then fun ρ2 h3 => mx C ρ2 h3 := fun i ρ1 h2 => by rw [← hstep]
    clear hstep
    refine ⟨fun i m' σ' H' => m' = s.items.length - i ∧ i ≤ s.items.length ∧ ∃ η' h' ρ', FR η1 (lockH h1 s.lock) H1 η' h' H' ∧ At S X.K J σ' H' Z η' ρ' h' ∧ G η' h' H' ∧
      KG S X.K J W Z η1 h1 H1 (FP X.K J Z D) ((forL step (s.items.drop i) ρ' h').then fun f h2 => .ok f (unlock h2 s.lock)),
      ⟨_, rfl, Nat.zero_le _, η1, lockH h1 s.lock, ρ, FR.refl, A1.step x.jo R2.2.1 R2.1, g0, k1⟩, ?_⟩
    rintro i m' σ' H' ⟨rfl, hi', η', h', ρ', F, A', g, q⟩
    by_cases hlt : i < s.items.length
    · refine .inr ⟨WW.goes i g A'.hr hlt, fun σ' H' => ∃ η' h' ρ', FR η1 (lockH h1 s.lock) H1 η' h' H' ∧ At S X.K J σ' H' Z η' ρ' h' ∧ G η' h' H' ∧
        KG S X.K J W Z η1 h1 H1 (FP X.K J Z D) ((forL step (s.items.drop (i + 1)) ρ' h').then fun f h2 => .ok f (unlock h2 s.lock)),
        fun σ2 H2 p => ⟨s.items.length - (i + 1), by omega, rfl, hlt, p⟩, fun v H2 y => ?_⟩
      obtain ⟨it, eit, fy, Ry, iwr⟩ := WW.yld i v H2 g A'.hr hlt y
      have A2 := A'.step x.jo fy Ry
      have F2 := F.trans fy R2.1
      have g2 := WW.pers (fun _ q => q.elim) g A'.hr fy.x
      have e1 : s.items.drop i = it :: s.items.drop (i + 1) := by
        rw [List.drop_eq_getElem_cons hlt]
        have : s.items[i] = it := by
          rw [List.getElem?_eq_getElem hlt] at eit
          exact Option.some.inj eit
        rw [this]
      rw [e1] at q
      unfold forL at q
      rw [hst, then_assoc, then_assoc] at q
      have F2' : FR η1 h1 H1 η' h' H2 := R2.2.1.trans F2 R1
      refine ⟨Z, η', ρ', h', it, A2, iwr, KG.bind0 R1 q F2' fun ρ3 h3 η3 H3 f3 R3 q3 σ3 s3 j3 m3 => ?_⟩
      have F3 := F2.trans f3 R2.1
      have F3' : FR η1 h1 H1 η3 h3 H3 := F2'.trans f3 R1
      have g3 := WW.pers (fun _ q => q.elim) g2 A2.hr f3.x
      refine ⟨Z, η3, ρ3, h3, ⟨R3, s3, j3⟩, KG.bind0 R1 q3 F3' fun fl h4 η4 H4 f4 R4 q4 => ?_⟩
      have F4 := F3.trans f4 R2.1
      have g4 := WW.pers (fun _ q => q.elim) g3 R3 f4.x
      cases fl with
      | nx ρ4 => exact fun σ4 s4 j4 => ⟨η4, h4, ρ4, F4, ⟨R4, s4, j4⟩, g4, q4⟩
      | ct ρ4 => exact fun σ4 s4 j4 => ⟨η4, h4, ρ4, F4, ⟨R4, s4, j4⟩, g4, q4⟩
      | bk ρ4 =>
        intro σ4 s4 j4
        obtain ⟨z1, z2, z3⟩ := reopen R1 hl F4 R4
        have q5 : KG S X.K J W Z η1 h1 H1 (FP X.K J Z D) (.ok (.nx ρ4) (unlock h4 s.lock)) := q4
        exact q5 η4 H4 z2 z1 σ4 (z3.sr R4 s4) (x.jo.step R4 z3 j4)
      | rt w =>
        intro v r
        obtain ⟨z1, z2, z3⟩ := reopen R1 hl F4 R4
        have q5 : KG S X.K J W Z η1 h1 H1 (FP X.K J Z D) (.ok (.rt w) (unlock h4 s.lock)) := q4
        exact q5 η4 H4 z2 z1 v (z3.rw R4 r)
    · have e : i = s.items.length := by omega
      subst e
      rw [List.drop_length] at q
      obtain ⟨z1, z2, z3⟩ := reopen R1 hl F A'.hr
      have q5 : KG S X.K J W Z η1 h1 H1 (FP X.K J Z D) (.ok (.nx ρ') (unlock h' s.lock)) := q
      refine .inl ⟨WW.stops g A'.hr, q5 η' H' z2 z1 σ' (z3.sr A'.hr A'.sr) (x.jo.step A'.hr z3 A'.jj)⟩⟩
end
end EV
end

section
set_option Elab.async false
set_option linter.all false
set_option maxRecDepth 100000
namespace EV
open PySem L2
section
variable {X : Cx} {S : Sc} {J : JT} {W : WX} {C : Cv} {a b c e tg iter tg1 iter1 : Expr} {es ts ifs ifs1 : List Expr} {st : Stmt} {sa sb rest : List Stmt} {ma mb mc mc1 me : SE} {mr : SL} {mi mi1 : SI} {mg mg1 : SG} {mgs : SGs} {ms mx mt : SS} {own own1 own2 : List Nat} {pos p p2 : Pos}
/-- a new value given to a name -/
theorem set_imp {i : Nat} (x : Xk S X J W) (js : JSet J i) {D : Ends} {σ : L2.St} {H : Hp} (q : tS S X.K J W (sAsg (gNm i) me C) D σ H) : tE S X.K J W (me C) σ H fun v H1 => D.nx (σ.set i (some v)) H1 := by
  obtain ⟨Z, η, ρ, h, A, k⟩ := q
  refine ⟨Z, η, ρ, h, A, KG.bind A.hr k fun w h1 η1 H1 f1 R1 k1 v r1 => ?_⟩
  have A2 := (A.step x.jo f1 R1).set (i := i) js r1
  exact KG.ok R1 k1 _ A2.sr A2.jj
theorem s_setLc {i : Nat} {y : Str} {py spos : Pos} {m : Bool} {elt : Expr} {scope : Scope} {ownp : List (Str × Nat)} {os : List Nat} (x : Xk S X J W) (js : JSet J i) (hc : X.calm = true) (hy : X.N[i]? = some y) (hyl : X.env.scope.names.lookup y = some .local)
    (hsw : swapsWith (.ListComp elt [⟨tg, iter, ifs, 0⟩] scope pos) (some (.Name y py)) spos.line X.env = pure true) (hi : SPI S X J W C tg iter mi) (ok : BlkOk X.N X.env.scope scope ownp) (eo : ownp.map (·.2) = os) (hown : ∀ i ∈ own, i ∈ os)
    (hg : CPG S X C scope own tg mg) (ht : CPC S X C scope ifs mc) (he : CPE S X C scope elt me) (hs : ∀ x, foldedSetIterable iter X.env x = pure x := by intro _; rfl) :
    SPS S X J W C (.Assign [.Name y py] (.ListComp elt [⟨tg, iter, ifs, 0⟩] scope pos) spos) (sAsg (gNm i) (cNew m (lComp os mg mi mc me))) := by
  subst eo
  exact PS.conseq (ps_setLc (g := tG S X.K J0 W0 own fun iw => mg iw C) (tt := tC S X.K J0 W0 (mc C)) (te := tE S X.K J0 W0 (me C)) hc x.nd hy hyl hsw hi ok hg ht he hs) fun D σ H q => lc_imp x hown _ _ _ (set_imp x js q)
theorem s_setLc2 {i : Nat} {y : Str} {py spos : Pos} {m : Bool} {elt : Expr} {scope : Scope} {ownp : List (Str × Nat)} {os vs1 : List Nat} (x : Xk S X J W) (js : JSet J i) (hc : X.calm = true) (hy : X.N[i]? = some y) (hyl : X.env.scope.names.lookup y = some .local)
    (hsw : swapsWith (.ListComp elt [⟨tg, iter, ifs, 0⟩, ⟨tg1, iter1, ifs1, 0⟩] scope pos) (some (.Name y py)) spos.line X.env = pure true) (hi : SPI S X J W C tg iter mi) (ok : BlkOk X.N X.env.scope scope ownp) (eo : ownp.map (·.2) = os) (hown : ∀ i ∈ own, i ∈ os) (hv : ∀ i ∈ vs1, i ∈ os) (hown1 : ∀ i ∈ own1, i ∈ vs1)
    (hg : CPG S X C scope own tg mg) (ht : CPC S X C scope ifs mc) (hi1 : CPI S X C scope tg1 iter1 mi1) (hg1 : CPG S X C scope own1 tg1 mg1) (ht1 : CPC S X C scope ifs1 mc1) (he : CPE S X C scope elt me)
    (hs : ∀ x, foldedSetIterable iter X.env x = pure x := by intro _; rfl) (hs1 : ∀ env x, foldedSetIterable iter1 env x = pure x := by intro _ _; rfl) :
    SPS S X J W C (.Assign [.Name y py] (.ListComp elt [⟨tg, iter, ifs, 0⟩, ⟨tg1, iter1, ifs1, 0⟩] scope pos) spos) (sAsg (gNm i) (cNew m (lComp2 os mg mi mc (lIn vs1 mg1 mi1 mc1 me)))) := by
  subst eo
  exact PS.conseq (ps_setLc2 (g := tG S X.K J0 W0 own fun iw => mg iw C) (tt := tC S X.K J0 W0 (mc C)) (wi1 := tI S X.K J0 W0 (mi1 C)) (g1 := tG S X.K J0 W0 own1 fun iw => mg1 iw C) (tt1 := tC S X.K J0 W0 (mc1 C)) (te := tE S X.K J0 W0 (me C)) hc x.nd hy hyl hsw hi ok hv hg ht hi1 hg1 ht1 he hs hs1) fun D σ H q => lc2_imp x hown hown1 _ _ _ (set_imp x js q)
theorem s_while (x : Xk S X J W) (hp : PassesOwn (model X.prog X.w) X.A X.env X.xe) (hc : SPT S X J W C c mc) (hb : SPSs S X J W C sb mx) : SPS S X J W C (.While c sb [] pos) (sWhile mc mx) :=
  PS.conseq (ps_while hp hc hb) fun D σ H ⟨Z, η, ρ, h, A, k⟩ => by
    refine ⟨fun m σ H => ∃ η ρ h, At S X.K J σ H Z η ρ h ∧ KG S X.K J W Z η h H (FP X.K J Z D) (whL (fun ρ h => mc C ρ h) (fun ρ h => mx C ρ h) m ρ h), ⟨_, η, ρ, h, A, k⟩, ?_⟩
    rintro m σ H ⟨η, ρ, h, A, k⟩
    cases m with
    | zero => exact k.elim
    | succ m =>
      unfold whL at k
      refine ⟨Z, η, ρ, h, A, KG.bind A.hr k fun w h1 η1 H1 f1 R1 k1 => ?_⟩
      cases w with
      | r n => exact k1.elim
      | d y =>
        cases y with
        | bool t =>
          have A1 := A.step x.jo f1 R1
          refine ⟨t, rfl, ?_⟩
          cases t with
          | false => exact (if_neg Bool.false_ne_true).mpr (KG.ok R1 k1 _ A1.sr A1.jj)
          | true =>
            refine (if_pos rfl).mpr ⟨fun σ' H' => ∃ η' ρ' h', At S X.K J σ' H' Z η' ρ' h' ∧ KG S X.K J W Z η' h' H' (FP X.K J Z D) (whL (fun ρ h => mc C ρ h) (fun ρ h => mx C ρ h) m ρ' h'), fun σ' H' q => ⟨m, Nat.lt_succ_self m, q⟩,
              Z, η1, ρ, h1, A1, KG.bind R1 k1 fun f h2 η2 H2 f2 R2 k2 => ?_⟩
            cases f with
            | nx ρ2 => exact fun σ' sr jj => ⟨η2, ρ2, h2, ⟨R2, sr, jj⟩, k2⟩
            | ct ρ2 => exact fun σ' sr jj => ⟨η2, ρ2, h2, ⟨R2, sr, jj⟩, k2⟩
            | bk ρ2 => exact fun σ' sr jj => KG.ok R2 k2 σ' sr jj
            | rt w => exact fun v r => KG.ok R2 k2 v r
        | _ => exact k1.elim
theorem s_par {i j : Nat} {y z : Str} {px py pt : Pos} {kt k2 pt2} (x : Xk S X J W) (ji : JSet J i) (jj : JSet J j) (hc : X.calm = true) (hi : X.N[i]? = some y) (hj : X.N[j]? = some z) (hij : i ≠ j)
    (hx : X.env.scope.names.lookup y = some .local) (hy : X.env.scope.names.lookup z = some .local) (ha : SPA S X J W C [a, b] mr)
    (hw : swappedStores [.Tuple [.Name y px, .Name z py] kt pt] (.Tuple [a, b] k2 pt2) X.env = pure (some [y, z]))
    (hs : swapsWithSole [.Tuple [.Name y px, .Name z py] kt pt] (.Tuple [a, b] k2 pt2) pos.line X.env = pure false := by rfl) :
    SPS S X J W C (.Assign [.Tuple [.Name y px, .Name z py] kt pt] (.Tuple [a, b] k2 pt2) pos) (sPar (gsCons (gNm i) (gsCons (gNm j) gsNil)) mr) :=
  PS.conseq (ps_par hc x.nd hi hj hij hx hy ha hw hs) fun D σ H ⟨Z, η, ρ, h, A, k⟩ => ⟨Z, η, ρ, h, A, KG.bind A.hr k fun ws h1 η1 H1 f1 R1 k1 vs r1 => by
    have A1 := A.step x.jo f1 R1
    cases r1 with
    | nil => exact k1.elim
    | @cons v w vs ws r0 rs =>
      cases rs with
      | nil => exact k1.elim
      | @cons v' w' vs ws r0' rs =>
        cases rs with
        | cons _ _ => exact k1.elim
        | nil =>
          refine ⟨v, v', rfl, ?_⟩
          have A2 := (A1.set (i := i) ji r0).set (i := j) jj r0'
          exact KG.ok R1 k1 _ A2.sr A2.jj⟩
theorem s_par3 {i j l : Nat} {y z u : Str} {px py pz pt : Pos} {kt k2 pt2} (x : Xk S X J W) (ji : JSet J i) (jj : JSet J j) (jl : JSet J l) (hc : X.calm = true) (hi : X.N[i]? = some y) (hj : X.N[j]? = some z) (hl : X.N[l]? = some u) (hij : i ≠ j) (hil : i ≠ l) (hjl : j ≠ l)
    (hx : X.env.scope.names.lookup y = some .local) (hy : X.env.scope.names.lookup z = some .local) (hz : X.env.scope.names.lookup u = some .local) (ha : SPA S X J W C [a, b, c] mr)
    (hw : swappedStores [.Tuple [.Name y px, .Name z py, .Name u pz] kt pt] (.Tuple [a, b, c] k2 pt2) X.env = pure (some [y, z, u]))
    (hs : swapsWithSole [.Tuple [.Name y px, .Name z py, .Name u pz] kt pt] (.Tuple [a, b, c] k2 pt2) pos.line X.env = pure false := by rfl) :
    SPS S X J W C (.Assign [.Tuple [.Name y px, .Name z py, .Name u pz] kt pt] (.Tuple [a, b, c] k2 pt2) pos) (sPar (gsCons (gNm i) (gsCons (gNm j) (gsCons (gNm l) gsNil))) mr) :=
  PS.conseq (ps_par3 hc x.nd hi hj hl hij hil hjl hx hy hz ha hw hs) fun D σ H ⟨Z, η, ρ, h, A, k⟩ => ⟨Z, η, ρ, h, A, KG.bind A.hr k fun ws h1 η1 H1 f1 R1 k1 vs r1 => by
    have A1 := A.step x.jo f1 R1
    cases r1 with
    | nil => exact k1.elim
    | @cons v w vs ws r0 rs =>
      cases rs with
      | nil => exact k1.elim
      | @cons v' w' vs ws r0' rs =>
        cases rs with
        | nil => exact k1.elim
        | @cons v2 w2 vs ws r02 rs =>
          cases rs with
          | cons _ _ => exact k1.elim
          | nil =>
            refine ⟨v, v', v2, rfl, ?_⟩
            have A2 := ((A1.set (i := i) ji r0).set (i := j) jj r0').set (i := l) jl r02
            exact KG.ok R1 k1 _ A2.sr A2.jj⟩
theorem s_aug {i : Nat} {y : Str} {o : Bop} {op : Operator} {f : Int → Int → Int} {pos' : Pos} (x : Xk S X J W) (js : JSet J i) (hi : X.N[i]? = some y) (hx : Loc X.env.scope y) (he : SPE S X J W C e me) (ho : PIp X op (ipI f)) (hb : ∀ i j, binE o (.int i) (.int j) = some (.int (f i j)))
    (hf : X.fn y = true ∨ X.env.scope.names.lookup y = some .local := by first | exact .inl rfl | exact .inr rfl | assumption) : SPS S X J W C (.AugAssign (.Name y pos') op e pos) (sAug i o me) :=
  PS.conseq (ps_aug x.nd hi hx he ho hf) fun D σ H ⟨Z, η, ρ, h, A, k⟩ => by
    unfold sAug at k
    rw [nth_eq] at k
    cases q : ρ[i]? with
    | none => simp only [q] at k; exact k.elim
    | some ow =>
      cases ow with
      | none => simp only [q] at k; exact k.elim
      | some w =>
        simp only [q] at k
        obtain ⟨v, e1, e2⟩ := A.sr.2 i w q
        cases w with
        | r n => exact k.elim
        | d y =>
          cases y with
          | int n =>
            cases e2
            refine ⟨.int n, e1, Z, η, ρ, h, A, KG.bind A.hr k fun w h1 η1 H1 f1 R1 k1 v r1 => ?_⟩
            cases w with
            | r m => exact k1.elim
            | d y =>
              cases y with
              | int m =>
                cases r1
                simp only [hb] at k1
                have A2 := (A.step x.jo f1 R1).set (i := i) (v := .int (f n m)) (w := .d (.int (f n m))) js (RV.int _)
                exact ⟨n, m, rfl, rfl, KG.ok R1 k1 _ A2.sr A2.jj⟩
              | _ => exact k1.elim
          | _ => exact k.elim
end
end EV
end

section
set_option Elab.async false
set_option linter.all false
set_option maxRecDepth 100000
namespace EV
open PySem L2
/-! ### built-in functions of one value, of two -/
def B1ok (X : Cx) (S : Sc) (r : List V → Hp → VK → Prop) (b : B1) : Prop :=
  ∀ (Z : Addr → Prop) (η : List Addr) (h : Hs) (H : Hp) (v : V) (w : EV.W) (x : D) (Q : VK), HR S X.K Z η h H → RW X.K H (MM Z η h) η v w → b1E b h w = some x → (∀ u, RV X.K H (MM Z η h) u x → Q u H) → r [v] H Q
section
variable {X : Cx} {S : Sc} {J : JT} {W : WX} {C : Cv} {a b c e tg iter : Expr} {es : List Expr} {ma mb mc me : SE} {mr : SL} {mi : SI} {pos p p2 : Pos}
theorem s_b1 {o : B1} {r : List V → Hp → VK → Prop} (x : Xk S X J W) (hp : PE X e (tCB r (tL S X.K J W (lOne ma lNil C)))) (hb : B1ok X S r o) : SPE S X J W C e (cB1 o ma) :=
  PE.conseq hp fun σ H Q ⟨Z, η, ρ, h, A, k⟩ => ⟨Z, η, ρ, h, A, kg_one A.hr k fun w h1 η1 H1 f1 R1 k1 vs r1 => by
    obtain ⟨v, rfl, r⟩ := rws_one r1
    obtain ⟨y, ey, q⟩ := KG.giveD R1 k1
    exact hb Z η1 h1 H1 v w y Q R1 r ey q⟩
theorem lenW_ok {Z : Addr → Prop} {η : List Addr} {h : Hs} {H : Hp} {v : V} {w : EV.W} {n : Nat} {K : PySem.W.Frag} (R : HR S K Z η h H) (r : RW K H (MM Z η h) η v w) (e : lenW h w = some n) : LenV K v H n := by
  have seqs : ∀ {ws : List EV.W}, itemsW h w = some ws → n = ws.length → LenV K v H n := fun hw hn => by
    obtain ⟨a, xs, rfl, t, rs⟩ := itemsW_ok R r hw
    rcases t with t | t
    · exact .inr ⟨xs, t, by rw [hn, rs.length]⟩
    · exact .inl ⟨xs, t.sq, by rw [hn, rs.length]⟩
  cases w with
  | d x =>
    cases x with
    | str z =>
      cases r with
      | str _ hz hl =>
        cases e
        exact ⟨hl, rfl⟩
    | list xs =>
      cases e
      exact seqs rfl (by rw [dsW_len])
    | tuple xs =>
      cases e
      exact seqs rfl (by rw [dsW_len])
    | _ => cases e
  | r m =>
    simp only [lenW] at e
    cases c : itemsW h (.r m) with
    | none => rw [c] at e; cases e
    | some ws =>
      rw [c] at e
      cases e
      exact seqs c rfl
theorem b1_len : B1ok X S (fun xs H Q => ∃ x n, xs = [x] ∧ LenV X.K x H n ∧ Q (.int n) H) .len := fun Z η h H v w x Q R r e q => by
  simp only [b1E] at e
  cases c : lenW h w with
  | none => rw [c] at e; cases e
  | some n =>
    rw [c] at e
    cases e
    exact ⟨v, n, rfl, lenW_ok R r c, q _ (RV.int _)⟩
theorem b1_abs : B1ok X S (fun xs H Q => ∃ i, xs = [.int i] ∧ Q (.int (if i < 0 then -i else i)) H) .abs := fun Z η h H v w x Q R r e q => by
  cases w with
  | r n => cases e
  | d y =>
    cases y with
    | int i =>
      cases r
      cases e
      refine ⟨i, rfl, ?_⟩
      have : (if i < 0 then -i else i) = Int.ofNat i.natAbs := by
        rw [Int.ofNat_eq_natCast]
        split <;> omega
      rw [this]
      exact q _ (RV.int _)
    | _ => cases e
theorem b1_int : B1ok X S (fun xs H Q => (∃ i, xs = [.int i] ∧ Q (.int i) H) ∨ ∃ k, xs = [.bl k] ∧ Q (.int (if k then 1 else 0)) H) .int := fun Z η h H v w x Q R r e q => by
  cases w with
  | r n => cases e
  | d y =>
    cases y with
    | int i =>
      cases r
      cases e
      exact .inl ⟨i, rfl, q _ (RV.int _)⟩
    | bool k =>
      cases r
      cases e
      exact .inr ⟨k, rfl, q _ (RV.int _)⟩
    | _ => cases e
/-- a list of truths -/
theorem allB_some : ∀ {xs : List D} {b : Bool}, allB xs = some b → ∃ bs : List Bool, xs = bs.map .bool ∧ b = bs.all id
  | [], b, h => ⟨[], rfl, by simpa [allB] using h.symm⟩
  | .bool t :: r, b, h => by
    cases c : allB r with
    | none => simp [allB, c] at h
    | some u =>
      obtain ⟨bs, e1, e2⟩ := allB_some c
      simp only [allB, c, Option.map_some, Option.some.injEq] at h
      exact ⟨t :: bs, by rw [e1]; rfl, by rw [← h, e2]; simp⟩
  | .none :: r, b, h => by simp [allB] at h
  | .int _ :: r, b, h => by simp [allB] at h
  | .str _ :: r, b, h => by simp [allB] at h
  | .list _ :: r, b, h => by simp [allB] at h
  | .tuple _ :: r, b, h => by simp [allB] at h
  | .dict _ :: r, b, h => by simp [allB] at h
theorem anyB_some : ∀ {xs : List D} {b : Bool}, anyB xs = some b → ∃ bs : List Bool, xs = bs.map .bool ∧ b = bs.any id
  | [], b, h => ⟨[], rfl, by simpa [anyB] using h.symm⟩
  | .bool t :: r, b, h => by
    cases c : anyB r with
    | none => simp [anyB, c] at h
    | some u =>
      obtain ⟨bs, e1, e2⟩ := anyB_some c
      simp only [anyB, c, Option.map_some, Option.some.injEq] at h
      exact ⟨t :: bs, by rw [e1]; rfl, by rw [← h, e2]; simp⟩
  | .none :: r, b, h => by simp [anyB] at h
  | .int _ :: r, b, h => by simp [anyB] at h
  | .str _ :: r, b, h => by simp [anyB] at h
  | .list _ :: r, b, h => by simp [anyB] at h
  | .tuple _ :: r, b, h => by simp [anyB] at h
  | .dict _ :: r, b, h => by simp [anyB] at h
theorem sumI_some : ∀ {xs : List D} {b : Int}, sumI xs = some b → ∃ bs : List Int, xs = bs.map .int ∧ b = bs.sum
  | [], b, h => ⟨[], rfl, by simpa [sumI] using h.symm⟩
  | .int t :: r, b, h => by
    cases c : sumI r with
    | none => simp [sumI, c] at h
    | some u =>
      obtain ⟨bs, e1, e2⟩ := sumI_some c
      simp only [sumI, c, Option.map_some, Option.some.injEq] at h
      exact ⟨t :: bs, by rw [e1]; rfl, by rw [← h, e2]; simp⟩
  | .none :: r, b, h => by simp [sumI] at h
  | .bool _ :: r, b, h => by simp [sumI] at h
  | .str _ :: r, b, h => by simp [sumI] at h
  | .list _ :: r, b, h => by simp [sumI] at h
  | .tuple _ :: r, b, h => by simp [sumI] at h
  | .dict _ :: r, b, h => by simp [sumI] at h
theorem minI_some : ∀ {xs : List D} {m b : Int}, minI m xs = some b → ∃ bs : List Int, xs = bs.map .int ∧ b ∈ m :: bs ∧ ∀ y ∈ m :: bs, b ≤ y
  | [], m, b, h => ⟨[], rfl, by simp [minI] at h; simp [h], by simp [minI] at h; simp [h]⟩
  | .int t :: r, m, b, h => by
    simp only [minI, ilt_iff, decide_eq_true_eq] at h
    split at h
    · obtain ⟨bs, e1, e2, e3⟩ := minI_some h
      refine ⟨t :: bs, by rw [e1]; rfl, List.mem_cons_of_mem _ e2, fun y hy => ?_⟩
      rcases List.mem_cons.mp hy with q | q
      · have := e3 t (by simp)
        omega
      · exact e3 y q
    · obtain ⟨bs, e1, e2, e3⟩ := minI_some h
      refine ⟨t :: bs, by rw [e1]; rfl, ?_, fun y hy => ?_⟩
      · rcases List.mem_cons.mp e2 with q | q
        · simp [q]
        · exact List.mem_cons_of_mem _ (List.mem_cons_of_mem _ q)
      · rcases List.mem_cons.mp hy with q | q
        · exact e3 y (by simp [q])
        · rcases List.mem_cons.mp q with q | q
          · have := e3 m (by simp)
            omega
          · exact e3 y (List.mem_cons_of_mem _ q)
  | .none :: r, _, b, h => by simp [minI] at h
  | .bool _ :: r, _, b, h => by simp [minI] at h
  | .str _ :: r, _, b, h => by simp [minI] at h
  | .list _ :: r, _, b, h => by simp [minI] at h
  | .tuple _ :: r, _, b, h => by simp [minI] at h
  | .dict _ :: r, _, b, h => by simp [minI] at h
theorem maxI_some : ∀ {xs : List D} {m b : Int}, maxI m xs = some b → ∃ bs : List Int, xs = bs.map .int ∧ b ∈ m :: bs ∧ ∀ y ∈ m :: bs, y ≤ b
  | [], m, b, h => ⟨[], rfl, by simp [maxI] at h; simp [h], by simp [maxI] at h; simp [h]⟩
  | .int t :: r, m, b, h => by
    simp only [maxI, ilt_iff, decide_eq_true_eq] at h
    split at h
    · obtain ⟨bs, e1, e2, e3⟩ := maxI_some h
      refine ⟨t :: bs, by rw [e1]; rfl, List.mem_cons_of_mem _ e2, fun y hy => ?_⟩
      rcases List.mem_cons.mp hy with q | q
      · have := e3 t (by simp)
        omega
      · exact e3 y q
    · obtain ⟨bs, e1, e2, e3⟩ := maxI_some h
      refine ⟨t :: bs, by rw [e1]; rfl, ?_, fun y hy => ?_⟩
      · rcases List.mem_cons.mp e2 with q | q
        · simp [q]
        · exact List.mem_cons_of_mem _ (List.mem_cons_of_mem _ q)
      · rcases List.mem_cons.mp hy with q | q
        · exact e3 y (by simp [q])
        · rcases List.mem_cons.mp q with q | q
          · have := e3 m (by simp)
            omega
          · exact e3 y (List.mem_cons_of_mem _ q)
  | .none :: r, _, b, h => by simp [maxI] at h
  | .bool _ :: r, _, b, h => by simp [maxI] at h
  | .str _ :: r, _, b, h => by simp [maxI] at h
  | .list _ :: r, _, b, h => by simp [maxI] at h
  | .tuple _ :: r, _, b, h => by simp [maxI] at h
  | .dict _ :: r, _, b, h => by simp [maxI] at h
theorem dp_bools {K : PySem.W.Frag} {H : Hp} : ∀ {vs : List V} {bs : List Bool}, DpAll K H vs (bs.map .bool) → vs = bs.map .bl
  | _, [], .nil => rfl
  | _, _ :: _, .cons (.bl _) q => by rw [dp_bools q]; rfl
theorem dp_ints {K : PySem.W.Frag} {H : Hp} : ∀ {vs : List V} {bs : List Int}, DpAll K H vs (bs.map .int) → vs = bs.map .int
  | _, [], .nil => rfl
  | _, _ :: _, .cons (.int _) q => by rw [dp_ints q]; rfl
theorem noD_bools : ∀ bs : List Bool, noDAll (bs.map .bool) = true
  | [] => rfl
  | b :: r => by simp [noDAll, noD, noD_bools r]
theorem noD_ints : ∀ bs : List Int, noDAll (bs.map .int) = true
  | [] => rfl
  | b :: r => by simp [noDAll, noD, noD_ints r]
theorem snap_lst {Z : Addr → Prop} {η : List Addr} {h : Hs} {H : Hp} {v : V} {w : EV.W} {ds : List D} {K : PySem.W.Frag} (R : HR S K Z η h H) (r : RW K H (MM Z η h) η v w) (e : snap h w = some (.list ds)) (n : noDAll ds = true) : ∃ a xs, v = .ref a ∧ SqL K H a xs ∧ DpAll K H xs ds := by
  obtain ⟨d, _⟩ := snap_dp R r e (by simpa [noD] using n)
  cases d with
  | lst s q => exact ⟨_, _, rfl, s, q⟩
theorem b1_all : B1ok X S (rAll X.K) .all := fun Z η h H v w x Q R r e q => by
  simp only [b1E] at e
  split at e
  · rename_i xs c
    cases c2 : allB xs with
    | none => rw [c2] at e; cases e
    | some t =>
      rw [c2] at e
      cases e
      obtain ⟨bs, rfl, rfl⟩ := allB_some c2
      obtain ⟨a, vs, rfl, s, d⟩ := snap_lst R r c (noD_bools bs)
      rw [dp_bools d] at s
      exact ⟨a, bs, rfl, s, q _ (RV.bl _)⟩
  · cases e
theorem b1_any : B1ok X S (rAny X.K) .any := fun Z η h H v w x Q R r e q => by
  simp only [b1E] at e
  split at e
  · rename_i xs c
    cases c2 : anyB xs with
    | none => rw [c2] at e; cases e
    | some t =>
      rw [c2] at e
      cases e
      obtain ⟨bs, rfl, rfl⟩ := anyB_some c2
      obtain ⟨a, vs, rfl, s, d⟩ := snap_lst R r c (noD_bools bs)
      rw [dp_bools d] at s
      exact ⟨a, bs, rfl, s, q _ (RV.bl _)⟩
  · cases e
theorem b1_sum : B1ok X S (rSum X.K) .sum := fun Z η h H v w x Q R r e q => by
  simp only [b1E] at e
  split at e
  · rename_i xs c
    cases c2 : sumI xs with
    | none => rw [c2] at e; cases e
    | some t =>
      rw [c2] at e
      cases e
      obtain ⟨bs, rfl, rfl⟩ := sumI_some c2
      obtain ⟨a, vs, rfl, s, d⟩ := snap_lst R r c (noD_ints bs)
      rw [dp_ints d] at s
      exact ⟨a, bs, rfl, s, q _ (RV.int _)⟩
  · cases e
theorem b1_min : B1ok X S (rMin X.K) .min := fun Z η h H v w x Q R r e q => by
  simp only [b1E] at e
  split at e
  · rename_i i xs c
    cases c2 : minI i xs with
    | none => rw [c2] at e; cases e
    | some t =>
      rw [c2] at e
      cases e
      obtain ⟨bs, rfl, e2, e3⟩ := minI_some c2
      obtain ⟨a, vs, rfl, s, d⟩ := snap_lst R r c (noD_ints (i :: bs))
      rw [dp_ints (bs := i :: bs) d] at s
      refine ⟨a, i :: bs, rfl, s, by simp, fun m hm hle => ?_⟩
      have e1 : m = t := by
        have := hle t e2
        have := e3 m hm
        omega
      rw [e1]
      exact q _ (RV.int _)
  · cases e
theorem b1_max : B1ok X S (rMax X.K) .max := fun Z η h H v w x Q R r e q => by
  simp only [b1E] at e
  split at e
  · rename_i i xs c
    cases c2 : maxI i xs with
    | none => rw [c2] at e; cases e
    | some t =>
      rw [c2] at e
      cases e
      obtain ⟨bs, rfl, e2, e3⟩ := maxI_some c2
      obtain ⟨a, vs, rfl, s, d⟩ := snap_lst R r c (noD_ints (i :: bs))
      rw [dp_ints (bs := i :: bs) d] at s
      refine ⟨a, i :: bs, rfl, s, by simp, fun m hm hle => ?_⟩
      have e1 : m = t := by
        have := hle t e2
        have := e3 m hm
        omega
      rw [e1]
      exact q _ (RV.int _)
  · cases e
def B2.ok (X : Cx) (r : List V → Hp → VK → Prop) (o : B2) : Prop := ∀ (H : Hp) (i j : Int) (x : D) (Q : VK), b2E o (.int i) (.int j) = some x → (∀ n, x = .int n → Q (.int n) H) → r [.int i, .int j] H Q
theorem b2_max : B2.ok X (fun xs H Q => ∃ i j, xs = [.int i, .int j] ∧ Q (.int (if j > i then j else i)) H) .max := fun H i j x Q e q => by
  cases e
  refine ⟨i, j, rfl, q _ ?_⟩
  rw [ilt_iff]
  by_cases c : i < j
  · rw [if_pos (decide_eq_true c), if_pos c]
  · rw [if_neg (by simpa using c), if_neg c]
theorem b2_min : B2.ok X (fun xs H Q => ∃ i j, xs = [.int i, .int j] ∧ Q (.int (if j < i then j else i)) H) .min := fun H i j x Q e q => by
  cases e
  refine ⟨i, j, rfl, q _ ?_⟩
  rw [ilt_iff]
  by_cases c : j < i
  · rw [if_pos (decide_eq_true c), if_pos c]
  · rw [if_neg (by simpa using c), if_neg c]
theorem b2E_ints {o : B2} {x y z : D} (e : b2E o x y = some z) : ∃ i j n, x = .int i ∧ y = .int j ∧ z = .int n := by
  cases o <;> cases x <;> cases y <;> cases e <;> exact ⟨_, _, _, rfl, rfl, rfl⟩
theorem s_b2 {o : B2} {r : List V → Hp → VK → Prop} (x : Xk S X J W) (hp : PE X e (tCB r (tL S X.K J W (lOne ma (lOne mb lNil) C)))) (hb : B2.ok X r o) : SPE S X J W C e (cB2 o ma mb) :=
  PE.conseq hp fun σ H Q ⟨Z, η, ρ, h, A, k⟩ => ⟨Z, η, ρ, h, A, kg_two A.hr k fun w w2 h1 η1 H1 f1 R1 k1 vs r1 => by
    obtain ⟨v, v2, rfl, r, r2⟩ := rws_two r1
    cases w with
    | r n => exact k1.elim
    | d y =>
      cases w2 with
      | r n => exact k1.elim
      | d y2 =>
        obtain ⟨z, ez, q⟩ := KG.giveD (o := b2E o y y2) R1 k1
        obtain ⟨i, j, n, rfl, rfl, rfl⟩ := b2E_ints ez
        cases r
        cases r2
        exact hb H1 i j _ Q ez fun m em => q _ (by rw [em]; exact RV.int m)⟩
end
end EV
end

section
set_option Elab.async false
set_option linter.all false
set_option maxRecDepth 100000
namespace EV
open PySem L2
theorem ones_onesL : ∀ ws : List W, ones (onesL ws) = some ws
  | [] => rfl
  | w :: r => by simp [onesL, ones, ones_onesL r]
theorem seqW_items {h : Hs} {w : W} {ws : List W} {lk : List (Nat × List W)} (e : seqW h w = some (ws, lk)) : itemsW h w = some ws := by
  cases w with
  | d x => cases x <;> simp_all [seqW, itemsW]
  | r n =>
    simp only [seqW, itemsW] at e ⊢
    cases c : nth h n with
    | none => rw [c] at e; cases e
    | some o =>
      rw [c] at e
      cases o with
      | lst us => simp at e ⊢; exact e.1
      | lck us => simp at e ⊢; exact e.1
      | frz x => cases x <;> simp_all
theorem frzAll_dsW (h : Hs) : ∀ xs : List D, frzAll h (dsW xs) = some (xs, h)
  | [] => rfl
  | x :: r => by simp [dsW, frzAll, frzW, frzAll_dsW h r]
section
variable {X : Cx} {S : Sc} {J : JT} {W : WX} {C : Cv} {a b c e tg iter : Expr} {es : List Expr} {ma mb mc me : SE} {mr : SL} {mi : SI} {pos p p2 : Pos}
/-- tuple(x) -/
theorem s_tupOf (x : Xk S X J W) (hg : Gl X "tuple") (hm : X.mg "tuple" = none) (ha : SPE S X J W C a ma) (hs : starEach [a] X.env = (false, eval a X.env) :: starEach [] X.env := by rfl) (hv : bootBuiltins "tuple" = some (.type "tuple") := by decide +kernel) : SPE S X J W C (.Call (.Name "tuple" p) [a] [] pos) (cTupOf (iSeq ma)) :=
  PE.conseq (pe_callTy call_tuple_of hg hm hv (a_one x ha a_nil hs) (by decide) (by decide) hs) fun σ H Q ⟨Z, η, ρ, h, A, k⟩ => by
    unfold cTupOf iSeq at k
    rw [then_assoc] at k
    refine ⟨Z, η, ρ, h, A, kg_one A.hr k fun w h1 η1 H1 f1 R1 k1 vs r1 => ?_⟩
    obtain ⟨v, rfl, r⟩ := rws_one r1
    cases c : seqW h1 w with
    | none => simp only [c] at k1; exact k1.elim
    | some y =>
      obtain ⟨ws, lk⟩ := y
      simp only [c, Re.then, ones_onesL] at k1
      have lst : itemsL h1 w = some ws → ∃ p ys, [v] = [V.ref p] ∧ ((SqL X.K H1 p ys ∧ ∀ l, H1 l = none → Q (.ref l) (upd H1 l (.tup ys))) ∨ (SqT X.K H1 p ys ∧ Q (.ref p) H1)) := fun hi => by
        obtain ⟨p, xs, rfl, t, rs⟩ := itemsL_ok R1 r hi
        exact ⟨p, xs, rfl, .inl ⟨t.sq, (tupW_ok R1 rs k1).2⟩⟩
      have hi := seqW_items c
      cases w with
      | r n => exact lst hi
      | d y =>
        cases y with
        | list ys => exact lst hi
        | tuple ys =>
          cases hi
          cases r with
          | tup t rs =>
            refine ⟨_, _, rfl, .inr ⟨t, ?_⟩⟩
            unfold tupW at k1
            split at k1
            · rw [frzAll_dsW] at k1
              exact KG.give (S := S) (W := W) R1 k1 (RV.tup t rs)
            · exact k1.elim
        | _ => cases hi
/-- list(x) -/
theorem s_listOf {m : Bool} (x : Xk S X J W) (hg : Gl X "list") (hm : X.mg "list" = none) (ha : SPE S X J W C a ma) (hs : starEach [a] X.env = (false, eval a X.env) :: starEach [] X.env := by rfl) (hv : bootBuiltins "list" = some (.type "list") := by decide +kernel) : SPE S X J W C (.Call (.Name "list" p) [a] [] pos) (cNew m (lList (iSeq ma))) :=
  PE.conseq (pe_callTy call_list_of hg hm hv (a_one x ha a_nil hs) (by decide) (by decide) hs) fun σ H Q ⟨Z, η, ρ, h, A, k⟩ => by
    unfold cNew lList iSeq at k
    rw [then_assoc, then_assoc] at k
    refine ⟨Z, η, ρ, h, A, kg_one A.hr k fun w h1 η1 H1 f1 R1 k1 vs r1 => ?_⟩
    obtain ⟨v, rfl, r⟩ := rws_one r1
    cases c : seqW h1 w with
    | none => simp only [c] at k1; exact k1.elim
    | some y =>
      obtain ⟨ws, lk⟩ := y
      simp only [c, Re.then, ones_onesL] at k1
      obtain ⟨p, xs, rfl, t, rs⟩ := itemsW_ok R1 r (seqW_items c)
      refine ⟨p, xs, rfl, ?_, (new_ok R1 k1 rs).2⟩
      rcases t with t | t
      · exact .inr t
      · exact .inl t.sq
theorem rng_rws {K : PySem.W.Frag} {H : Hp} {M : Addr → Prop} {η : List Addr} (n : Nat) : ∀ (a : Int), RWs K H M η ((List.range n).map fun (i : Nat) => V.int (a + (i : Nat))) (dsW (rngL a 1 n)) := by
  induction n with
  | zero => intro a; exact .nil
  | succ n ih =>
    intro a
    rw [List.range_succ_eq_map, List.map_cons, List.map_map]
    refine .cons ?_ ?_
    · show RV K H M _ (.int a)
      have e : a + ((0 : Nat) : Int) = a := by omega
      rw [e]
      exact RV.int a
    · have := ih (a + 1)
      have e : ((fun (i : Nat) => V.int (a + (i : Nat))) ∘ Nat.succ) = fun (i : Nat) => V.int (a + 1 + (i : Nat)) := by
        funext i
        simp only [Function.comp]
        congr 1
        omega
      rw [e]
      exact this
/-- list(range(a)), list(range(a, b)) -/
theorem s_listR1 {m : Bool} {p3 : Pos} {p4 : Pos} (x : Xk S X J W) (hc : X.calm = true) (hl : Gl X "list") (hml : X.mg "list" = none) (hg : Gl X "range") (hm : X.mg "range" = none) (ha : SPE S X J W C a ma) (hs : starEach [a] X.env = (false, eval a X.env) :: starEach [] X.env := by rfl)
    (hs2 : starEach [.Call (.Name "range" p3) [a] [] p4] X.env = (false, eval (.Call (.Name "range" p3) [a] [] p4) X.env) :: starEach [] X.env := by rfl) : SPE S X J W C (.Call (.Name "list" p) [.Call (.Name "range" p3) [a] [] p4] [] pos) (cNew m (lList (iRng1 ma))) :=
  PE.conseq (pe_listRg hc hl hml (prg_1 hg hm ha hs) hs2) fun σ H Q ⟨Z, η, ρ, h, A, k⟩ => by
    unfold cNew lList iRng1 at k
    rw [then_assoc, then_assoc] at k
    refine ⟨Z, η, ρ, h, A, KG.bind A.hr k fun w h1 η1 H1 f1 R1 k1 v r => ?_⟩
    cases w with
    | r n => exact k1.elim
    | d y =>
      cases y with
      | int i =>
        cases r
        cases c : rngE 0 i 1 with
        | none => simp only [iRg, c] at k1; exact k1.elim
        | some xs =>
          simp only [iRg, c, Re.then, ones_onesL] at k1
          obtain ⟨b, q⟩ := rngE_some c
          rcases q with ⟨_, rfl⟩ | ⟨q, _⟩
          · have z := new_ok R1 k1 (rng_rws (η := η1) (i - 0).toNat 0)
            refine ⟨i, rfl, ⟨by decide, by decide, b.2.2.1, b.2.2.2, ?_⟩, z.2⟩
            have := z.1
            rw [List.length_map, List.length_range, sizeLine_eq] at this
            simpa [lim] using this
          · simp at q
      | _ => exact k1.elim
/-! ### lists put together -/
theorem s_cat {m : Bool} (x : Xk S X J W) (ha : SPE S X J W C a ma) (hb : SPE S X J W C b mb) : SPE S X J W C (.BinOp a .Add b pos) (cNew m (lCat ma mb)) :=
  PE.conseq (pe_op op_catR ha hb) fun σ H Q ⟨Z, η, ρ, h, A, k⟩ => by
    unfold cNew lCat at k
    rw [then_assoc] at k
    have e : (fun x1 h1 => ((mb C ρ h1).then fun y1 h2 => catW x1 y1 h2).then fun ws h1 => if Nat.ble ws.length lim then retN m ws h1 else .no) = fun x1 h1 => (mb C ρ h1).then fun y1 h2 => (catW x1 y1 h2).then fun ws h1 => if Nat.ble ws.length lim then retN m ws h1 else .no := by
      funext x1 h1
      rw [then_assoc]
    have k' : KG S X.K J W Z η h H (VP X.K Z Q) ((ma C ρ h).then fun x1 h1 => (mb C ρ h1).then fun y1 h2 => (catW x1 y1 h2).then fun ws h1 => if Nat.ble ws.length lim then retN m ws h1 else .no) := by
      rw [← e]
      exact k
    refine two_ x.jo A k' fun w w2 h2 η2 H2 v u f2 A2 r1 r2 k2 => ?_
    unfold catW at k2
    cases c : itemsL h2 w with
    | none => simp only [c] at k2; exact k2.elim
    | some xs =>
      cases c2 : itemsL h2 w2 with
      | none => simp only [c, c2] at k2; exact k2.elim
      | some ys =>
        simp only [c, c2, Re.then] at k2
        obtain ⟨l, us, rfl, t, rs⟩ := itemsL_ok A2.hr r1 c
        obtain ⟨l2, us2, rfl, t2, rs2⟩ := itemsL_ok A2.hr r2 c2
        obtain ⟨z1, z2⟩ := new_ok A2.hr k2 (rs.app rs2)
        rw [List.length_append] at z1
        exact ⟨l, l2, us, us2, rfl, rfl, t, t2, z1, z2⟩
theorem s_rep {m : Bool} (x : Xk S X J W) (ha : SPE S X J W C a ma) (hb : SPE S X J W C b mb) : SPE S X J W C (.BinOp a .Mult b pos) (cNew m (lRep ma mb)) :=
  PE.conseq (pe_op op_repR ha hb) fun σ H Q ⟨Z, η, ρ, h, A, k⟩ => by
    unfold cNew lRep at k
    rw [then_assoc] at k
    have e : (fun x1 h1 => ((mb C ρ h1).then fun y1 h2 => repW x1 y1 h2).then fun ws h1 => if Nat.ble ws.length lim then retN m ws h1 else .no) = fun x1 h1 => (mb C ρ h1).then fun y1 h2 => (repW x1 y1 h2).then fun ws h1 => if Nat.ble ws.length lim then retN m ws h1 else .no := by
      funext x1 h1
      rw [then_assoc]
    have k' : KG S X.K J W Z η h H (VP X.K Z Q) ((ma C ρ h).then fun x1 h1 => (mb C ρ h1).then fun y1 h2 => (repW x1 y1 h2).then fun ws h1 => if Nat.ble ws.length lim then retN m ws h1 else .no) := by
      rw [← e]
      exact k
    refine two_ x.jo A k' fun w w2 h2 η2 H2 v u f2 A2 r1 r2 k2 => ?_
    unfold repW at k2
    cases w2 with
    | r n => cases c : itemsL h2 w <;> simp only [c] at k2 <;> exact k2.elim
    | d y =>
      cases c : itemsL h2 w with
      | none => cases y <;> simp only [c] at k2 <;> exact k2.elim
      | some xs =>
        cases y with
        | int i =>
          cases i with
          | ofNat j =>
            simp only [c] at k2
            split at k2
            · rename_i g
              rw [Bool.and_eq_true, Nat.ble_eq, Nat.ble_eq] at g
              cases r2
              obtain ⟨l, us, rfl, t, rs⟩ := itemsL_ok A2.hr r1 c
              have rr : RWs X.K H2 (MM Z η2 h2) η2 (List.replicate j us).flatten (List.replicate j xs).flatten := by
                clear k2 g
                induction j with
                | zero => exact .nil
                | succ j ih =>
                  simp only [List.replicate_succ, List.flatten_cons]
                  exact rs.app ih
              obtain ⟨z1, z2⟩ := new_ok A2.hr k2 rr
              refine ⟨l, Int.ofNat j, us, rfl, rfl, t, by simp, by simp; omega, ?_, z2⟩
              rw [rs.length, sizeLine_eq]
              exact g.1
            · exact k2.elim
          | negSucc j => simp only [c] at k2; exact k2.elim
        | _ => simp only [c] at k2; exact k2.elim
/-! ### changing lists -/
theorem list_at {Z : Addr → Prop} {η : List Addr} {h : Hs} {H : Hp} {n : Nat} {ws : List EV.W} {v : V} (R : HR S X.K Z η h H) (r : RW X.K H (MM Z η h) η v (.r n)) (q : h[n]? = some (.lst ws)) : ∃ l vs, v = .ref l ∧ η[n]? = some l ∧ H l = some (.lst vs) ∧ RWs X.K H (MM Z η h) η vs ws := by
  obtain ⟨l, el, rfl⟩ := r
  obtain ⟨vs, e1, rs⟩ := R.obj n l _ el q
  exact ⟨l, vs, rfl, el, e1, rs⟩
theorem ty_lst {K : PySem.W.Frag} {H : Hp} {l : Addr} {vs : List V} (e : H l = some (.lst vs)) : tyV K "list" (.ref l) H := .inl ⟨rfl, vs, .inl (.inl e)⟩
theorem ty_rw {Z : Addr → Prop} {η : List Addr} {h : Hs} {H : Hp} {n : Nat} {o : O} {v : V} (R : HR S X.K Z η h H) (r : RW X.K H (MM Z η h) η v (.r n)) (q : h[n]? = some o) : tyV X.K "list" v H := by
  obtain ⟨l, el, rfl⟩ := r
  have z := R.obj n l _ el q
  cases o with
  | lst ws => obtain ⟨vs, e1, _⟩ := z; exact ty_lst e1
  | lck ws => obtain ⟨vs, e1, _⟩ := z; exact ty_lst e1
  | frz x => obtain ⟨xs, ds, _, e1, _⟩ := z; exact .inl ⟨rfl, xs, .inl e1⟩
theorem lastW_some : ∀ {ws us : List EV.W} {w : EV.W}, lastW ws = some (us, w) → ws = us ++ [w]
  | [], _, _, e => by cases e
  | [a], us, w, e => by
    cases e
    rfl
  | a :: b :: r, us, w, e => by
    have e : (match lastW (b :: r) with | some (us, v) => some (a :: us, v) | none => none) = some (us, w) := e
    cases c : lastW (b :: r) with
    | none => rw [c] at e; cases e
    | some y =>
      obtain ⟨us', v⟩ := y
      rw [c] at e
      cases e
      rw [lastW_some c]
      rfl
theorem rws_split {K : PySem.W.Frag} {H : Hp} {M : Addr → Prop} {η : List Addr} : ∀ {us : List EV.W} {vs : List V} {ws : List EV.W}, RWs K H M η vs (us ++ ws) → ∃ a b, vs = a ++ b ∧ RWs K H M η a us ∧ RWs K H M η b ws
  | [], vs, ws, r => ⟨[], vs, rfl, .nil, r⟩
  | u :: us, _, ws, .cons p q => by
    obtain ⟨a, b, e, r1, r2⟩ := rws_split q
    exact ⟨_ :: a, b, by rw [e]; rfl, .cons p r1, r2⟩
theorem RWs.dp {K : PySem.W.Frag} {H : Hp} {M : Addr → Prop} {η : List Addr} {vs : List V} {ws : List EV.W} (r : RWs K H M η vs ws) (i j : Nat) : RWs K H M η (vs.take i ++ vs.drop j) (ws.take i ++ ws.drop j) := by
  have tk : ∀ {vs : List V} {xs : List EV.W}, RWs K H M η vs xs → ∀ j : Nat, RWs K H M η (vs.take j) (xs.take j) := by
    intro vs xs r
    induction vs generalizing xs with
    | nil => intro j; cases r; simpa using Paired.nil
    | cons v vs ih =>
      intro j
      cases r with
      | cons p q =>
        cases j with
        | zero => exact .nil
        | succ j => exact .cons p (ih q j)
  have dr : ∀ {vs : List V} {xs : List EV.W}, RWs K H M η vs xs → ∀ j : Nat, RWs K H M η (vs.drop j) (xs.drop j) := by
    intro vs xs r
    induction vs generalizing xs with
    | nil => intro j; cases r; simpa using Paired.nil
    | cons v vs ih =>
      intro j
      cases r with
      | cons p q =>
        cases j with
        | zero => exact .cons p q
        | succ j => exact ih q j
  exact (tk r i).app (dr r j)
/-- what is written into a list of the evaluator's heap -/
theorem put_ok {Q : VK} {Z : Addr → Prop} {η : List Addr} {h : Hs} {H : Hp} {n : Nat} {l : Addr} {us ws : List EV.W} {vs : List V} {y : V} {w : EV.W} (R : HR S X.K Z η h H) (el : η[n]? = some l) (q : h[n]? = some (.lst us)) (r : RWs X.K H (MM Z η h) η vs ws) (rw' : RW X.K H (MM Z η h) η y w)
    (k : KG S X.K J W Z η h H (VP X.K Z Q) (.ok w (setH h n (.lst ws)))) : Q y (upd H l (.lst vs)) := by
  have R3 := R.write q el r
  have f3 : FR η h H η (h.set n (.lst ws)) (upd H l (.lst vs)) := FR.write q el
  rw [setH_eq] at k
  exact k η _ f3 R3 y (f3.rw R rw')
theorem s_pop {apos : Pos} (x : Xk S X J W) (ha : SPE S X J W C a ma) (hbase : attributeBase a "pop" X.env (eval a X.env) = eval a X.env := by rfl) (hline : (apos.endLine == pos.line) = true := by rfl) : SPE S X J W C (.Call (.Attribute a "pop" apos) [] [] pos) (cPop ma) :=
  PE.conseq (pe_bm0 PySem.F.plainAttrs_list PySem.F.slot_list_pop PySem.F.type_list_pop mt_pop ha hbase hline) fun σ H Q ⟨Z, η, ρ, h, A, k⟩ => ⟨Z, η, ρ, h, A, KG.bind A.hr k fun w h1 η1 H1 f1 R1 k1 v r => by
    cases w with
    | d y => exact k1.elim
    | r n =>
      simp only [nth_eq] at k1
      cases q : h1[n]? with
      | none => rw [q] at k1; exact k1.elim
      | some o =>
        rw [q] at k1
        cases o with
        | lst ws =>
          obtain ⟨l, vs, rfl, el, e1, rs⟩ := list_at R1 r q
          simp only at k1
          cases c : lastW ws with
          | none => rw [c] at k1; exact k1.elim
          | some y =>
            obtain ⟨us, w⟩ := y
            rw [c] at k1
            have e := lastW_some c
            subst e
            obtain ⟨a', b', rfl, r1, r2⟩ := rws_split rs
            obtain ⟨y, rfl, ry⟩ := rws_one r2
            refine ⟨ty_lst e1, l, a' ++ [y], y, rfl, rfl, e1, by simp, ?_⟩
            rw [List.dropLast_concat]
            exact put_ok R1 el q r1 ry k1
        | lck ws => exact k1.elim
        | frz y => exact k1.elim⟩
theorem s_popAt {apos : Pos} (x : Xk S X J W) (ha : SPE S X J W C a ma) (hb : SPE S X J W C b mb) (hbase : attributeBase a "pop" X.env (eval a X.env) = eval a X.env := by rfl)
    (hfew : ((backTo pos (starEach [b] X.env)).all (fun x => !x.1) && (backToKw pos (keywordEach [] X.env)).all (fun x => x.1.isSome)
      && decide ([b].length + ([] : List Keyword).length + (if ([] : List Keyword).isEmpty then 0 else 1) < 30)) = true := by rfl)
    (hline : (apos.endLine == pos.line) = true := by rfl) (hs : starEach [b] X.env = (false, eval b X.env) :: starEach [] X.env := by rfl) : SPE S X J W C (.Call (.Attribute a "pop" apos) [b] [] pos) (cPopAt ma mb) :=
  PE.conseq (pe_bm PySem.F.plainAttrs_list PySem.F.slot_list_pop PySem.F.type_list_pop mt_popAt ha (a_one x hb a_nil hs) hbase hfew hline hs) fun σ H Q ⟨Z, η, ρ, h, A, k⟩ => ⟨Z, η, ρ, h, A, KG.bind A.hr k fun w h1 η1 H1 f1 R1 k1 v r => by
    cases w with
    | d y => exact k1.elim
    | r n =>
      have A1 := A.step x.jo f1 R1
      obtain ⟨ty, o1, q1⟩ : tyV X.K "list" v H1 ∧ True ∧ True := by
        have r0 := r
        obtain ⟨l, el, _⟩ := r
        have hn : n < h1.length := by rw [← R1.len]; exact (List.getElem?_eq_some_iff.mp el).1
        exact ⟨ty_rw R1 r0 (o := h1[n]) (by simp [hn]), trivial, trivial⟩
      refine ⟨ty, Z, η1, ρ, h1, A1, kg_one R1 k1 fun w2 h2 η2 H2 f2 R2 k2 vs r2 => ?_⟩
      obtain ⟨v2, rfl, r3⟩ := rws_one r2
      have r' := f2.rw R1 r
      unfold popAtW at k2
      cases w2 with
      | r m => exact k2.elim
      | d y =>
        cases y with
        | int i =>
          cases i with
          | negSucc i => exact k2.elim
          | ofNat i =>
            cases r3
            simp only [nth_eq] at k2
            cases q : h2[n]? with
            | none => rw [q] at k2; exact k2.elim
            | some o =>
              rw [q] at k2
              cases o with
              | lst ws =>
                simp only at k2
                cases c : ws[i]? with
                | none => rw [c] at k2; exact k2.elim
                | some w =>
                  rw [c] at k2
                  simp only at k2
                  split at k2
                  · rename_i g
                    rw [Nat.ble_eq] at g
                    have g' : i ≤ 16777216 := g
                    obtain ⟨l, vs, rfl, el, e1, rs⟩ := list_at R2 r' q
                    obtain ⟨y, ey, ry⟩ := rs.get c
                    have hi : i < vs.length := (List.getElem?_eq_some_iff.mp ey).1
                    refine ⟨l, vs, Int.ofNat i, i, y, rfl, rfl, e1, by have := Int.natCast_nonneg i; simp only [Int.ofNat_eq_natCast]; omega, by simp only [Int.ofNat_eq_natCast]; omega, ?_, ey, ?_⟩
                    · unfold seqIndex?
                      simp [hi]
                      omega
                    · rw [List.eraseIdx_eq_take_drop_succ]
                      exact put_ok R2 el q (rs.dp i (i + 1)) ry k2
                  · exact k2.elim
              | lck ws => exact k2.elim
              | frz y => exact k2.elim
        | _ => exact k2.elim⟩
theorem s_app {apos : Pos} (x : Xk S X J W) (ha : SPE S X J W C a ma) (hb : SPE S X J W C b mb) (hbase : attributeBase a "append" X.env (eval a X.env) = eval a X.env := by rfl)
    (hfew : ((backTo pos (starEach [b] X.env)).all (fun x => !x.1) && (backToKw pos (keywordEach [] X.env)).all (fun x => x.1.isSome)
      && decide ([b].length + ([] : List Keyword).length + (if ([] : List Keyword).isEmpty then 0 else 1) < 30)) = true := by rfl)
    (hline : (apos.endLine == pos.line) = true := by rfl) (hs : starEach [b] X.env = (false, eval b X.env) :: starEach [] X.env := by rfl) : SPE S X J W C (.Call (.Attribute a "append" apos) [b] [] pos) (cApp ma mb) :=
  PE.conseq (pe_bm PySem.F.plainAttrs_list PySem.F.slot_list_append PySem.F.type_list_append mt_append ha (a_one x hb a_nil hs) hbase hfew hline hs) fun σ H Q ⟨Z, η, ρ, h, A, k⟩ => ⟨Z, η, ρ, h, A, KG.bind A.hr k fun w h1 η1 H1 f1 R1 k1 v r => by
    cases w with
    | d y => exact k1.elim
    | r n =>
      have A1 := A.step x.jo f1 R1
      obtain ⟨ty, o1, q1⟩ : tyV X.K "list" v H1 ∧ True ∧ True := by
        have r0 := r
        obtain ⟨l, el, _⟩ := r
        have hn : n < h1.length := by rw [← R1.len]; exact (List.getElem?_eq_some_iff.mp el).1
        exact ⟨ty_rw R1 r0 (o := h1[n]) (by simp [hn]), trivial, trivial⟩
      refine ⟨ty, Z, η1, ρ, h1, A1, kg_one R1 k1 fun w2 h2 η2 H2 f2 R2 k2 vs r2 => ?_⟩
      obtain ⟨v2, rfl, r3⟩ := rws_one r2
      have r' := f2.rw R1 r
      unfold appW at k2
      simp only [nth_eq] at k2
      cases q : h2[n]? with
      | none => rw [q] at k2; exact k2.elim
      | some o =>
        rw [q] at k2
        cases o with
        | lst ws =>
          simp only at k2
          split at k2
          · rename_i g
            rw [Nat.ble_eq] at g
            obtain ⟨l, vs, rfl, el, e1, rs⟩ := list_at R2 r' q
            refine ⟨l, vs, v2, rfl, rfl, e1, by rw [rs.length, sizeLine_eq]; exact g, ?_⟩
            exact put_ok (w := .d .none) R2 el q (rs.app (.cons r3 .nil)) RV.non k2
          · exact k2.elim
        | lck ws => exact k2.elim
        | frz y => exact k2.elim⟩
theorem s_ext {apos : Pos} (x : Xk S X J W) (ha : SPE S X J W C a ma) (hb : SPE S X J W C b mb) (hbase : attributeBase a "extend" X.env (eval a X.env) = eval a X.env := by rfl)
    (hfew : ((backTo pos (starEach [b] X.env)).all (fun x => !x.1) && (backToKw pos (keywordEach [] X.env)).all (fun x => x.1.isSome)
      && decide ([b].length + ([] : List Keyword).length + (if ([] : List Keyword).isEmpty then 0 else 1) < 30)) = true := by rfl)
    (hline : (apos.endLine == pos.line) = true := by rfl) (hs : starEach [b] X.env = (false, eval b X.env) :: starEach [] X.env := by rfl) : SPE S X J W C (.Call (.Attribute a "extend" apos) [b] [] pos) (cExt ma mb) :=
  PE.conseq (pe_bm PySem.F.plainAttrs_list PySem.F.slot_list_extend PySem.F.type_list_extend mt_extend ha (a_one x hb a_nil hs) hbase hfew hline hs) fun σ H Q ⟨Z, η, ρ, h, A, k⟩ => ⟨Z, η, ρ, h, A, KG.bind A.hr k fun w h1 η1 H1 f1 R1 k1 v r => by
    cases w with
    | d y => exact k1.elim
    | r n =>
      have A1 := A.step x.jo f1 R1
      obtain ⟨ty, o1, q1⟩ : tyV X.K "list" v H1 ∧ True ∧ True := by
        have r0 := r
        obtain ⟨l, el, _⟩ := r
        have hn : n < h1.length := by rw [← R1.len]; exact (List.getElem?_eq_some_iff.mp el).1
        exact ⟨ty_rw R1 r0 (o := h1[n]) (by simp [hn]), trivial, trivial⟩
      refine ⟨ty, Z, η1, ρ, h1, A1, kg_one R1 k1 fun w2 h2 η2 H2 f2 R2 k2 vs r2 => ?_⟩
      obtain ⟨v2, rfl, r3⟩ := rws_one r2
      have r' := f2.rw R1 r
      cases w2 with
      | d y => exact k2.elim
      | r m =>
        unfold extW at k2
        simp only [nth_eq] at k2
        cases q : h2[n]? with
        | none => rw [q] at k2; exact k2.elim
        | some o =>
          rw [q] at k2
          cases o with
          | lst ws =>
            simp only at k2
            cases q2 : h2[m]? with
            | none => rw [q2] at k2; exact k2.elim
            | some o2 =>
              rw [q2] at k2
              cases o2 with
              | lst zs =>
                simp only at k2
                split at k2
                · rename_i g
                  rw [Nat.ble_eq] at g
                  obtain ⟨l, vs, rfl, el, e1, rs⟩ := list_at R2 r' q
                  obtain ⟨l2, vs2, rfl, el2, e2, rs2⟩ := list_at R2 r3 q2
                  refine ⟨l, l2, vs, vs2, rfl, rfl, e1, e2, by rw [rs.length, rs2.length, sizeLine_eq]; exact g, ?_⟩
                  exact put_ok (w := .d .none) R2 el q (rs.app rs2) RV.non k2
                · exact k2.elim
              | lck zs => exact k2.elim
              | frz y => exact k2.elim
          | lck ws => exact k2.elim
          | frz y => exact k2.elim⟩
/-- {} -/
theorem s_dnew : SPE S X J W C (.Dict [] [] pos) (cCon (.dict [])) :=
  PE.conseq pe_dnewK fun σ H Q ⟨Z, η, ρ, h, A, k⟩ p hp => k η _ (FR.alloc hp _) (A.hr.alloc hp _) (.ref p) (RV.dct upd_same)
end
end EV
end

section
set_option Elab.async false
set_option linter.all false
set_option maxRecDepth 100000
namespace EV
open PySem L2
/-! ### enumerate of a tuple -/
theorem draws_tup {prog : Program} {w : World} {A : Around} (hh : A.handled = none) (it l : Addr) (ne : l ≠ it) (items : Array Value) :
    Draws prog w A it [it, l] items.size (fun i x => items[i]? = some x) (fun i h => h.IsTupleIter it l i ∧ h.IsTuple l items) where
  live := fun _ _ st => by
    obtain ⟨⟨o, e, _⟩, _⟩ := st
    exact ⟨o, e⟩
  frame := fun i h h' st k => by
    obtain ⟨⟨o, e, r⟩, ⟨o2, e2, r2⟩⟩ := st
    exact ⟨⟨o, k it (by simp) o e, r⟩, ⟨o2, k l (by simp) o2 e2, r2⟩⟩
  item := fun i s Q E hi st hQ => by
    refine RZ.nextOf_tuple_item st.1 st.2 (x := items[i]) (by simp [hi]) fun h' h1 sb => ?_
    obtain ⟨o2, e2, r2⟩ := st.2
    exact hQ _ h' s.toks (by simp [hi]) ⟨h1, ⟨o2, (sb.2 l ne).trans e2, r2⟩⟩ sb
  done := fun s Q E st hE => RZ.nextOf_tuple_end hh st.1 st.2 (by simp) hE
theorem meets_enumT (l : Addr) (items : Array Value) (n : Nat) (dct : Option Addr) (sl : Array (Option Value)) :
    Meets (Builtin.«enumerate.__new__» ⟨[.type "enumerate", .ref l], []⟩) (fun _ R s => s.heap.get? l = some { cls := .type "tuple", dict := dct, data := .seq items n, slots := sl } ∧
      R (.ok (.ret (.ref (s.heap.push { cls := .type "tuple_iterator", data := .fields #[.ref l, .int 0 0] }).objs.size)))
        { s with heap := (s.heap.push { cls := .type "tuple_iterator", data := .fields #[.ref l, .int 0 0] }).push { cls := .type "enumerate", data := .fields #[.none, .bool false, .ref s.heap.objs.size, rawInt 0, .none, .none] } }) :=
  .of_wp fun prog w A R s h => by
    obtain ⟨hp, gg, dd, tk, os⟩ := s
    obtain ⟨hl, h⟩ := h
    have hsub := sub_enumerate
    have tl : Heap.IsTuple (Shared.heap ⟨hp, gg, dd, tk, os⟩) l items := ⟨_, hl, rfl, n, rfl⟩
    wp_walk using AutoSeq1.wpAny_loadPart' hl
    refine wpAny_stack_any fun st => wpAny_pure ?_
    split
    · rename_i c _ _ _ _ _
      cases (c == Value.type "enumerate") <;> (wp_walk using AutoSeq1.wpAny_loadPart' hl, wpAny_pyIter_tuple tl; exact ⟨_, rfl, h⟩)
    · wp_walk using AutoSeq1.wpAny_loadPart' hl, wpAny_pyIter_tuple tl
      exact ⟨_, rfl, h⟩
section
variable {prog : Program} {w : World} {A : Around} {E : Value → Shared → Prop} {s : Shared}
theorem call_enumT {l : Addr} {items : Array Value} {Q : Value → Shared → Prop} (tl : s.heap.IsTuple l items)
    (k : ∀ h', IsEnum h' (s.heap.objs.size + 1) s.heap.objs.size 0 .none → h'.IsTupleIter s.heap.objs.size l 0 → (∀ b o, s.heap.get? b = some o → h'.get? b = some o) → Q (.ref (s.heap.objs.size + 1)) { s with heap := h' }) :
    wpAny (model prog w) A (call (.type "enumerate") [.ref l]) Q E s := by
  obtain ⟨⟨c, dct, dt, sl⟩, hl, hc, n, hd⟩ := tl
  obtain rfl : c = .type "tuple" := hc
  obtain rfl : dt = .seq items n := hd
  refine callType_new F.called_enumerate (by decide) (F.typeCall_enumerate_1 _) (F.newCall_enumerate_1 _)
    (fun obj => F.args_object_init_2 obj _) F.entry_enumerate_new (meets_enumT l items n dct sl) ⟨hl, ?_⟩
  have z1 : (s.heap.push { cls := .type "tuple_iterator", data := .fields #[.ref l, .int 0 0] }).objs.size = s.heap.objs.size + 1 := Heap.size_push ..
  show _ ∧ _
  rw [z1]
  have z2 : IsEnum ((s.heap.push { cls := .type "tuple_iterator", data := .fields #[.ref l, .int 0 0] }).push
      { cls := .type "enumerate", data := .fields #[.none, .bool false, .ref s.heap.objs.size, rawInt 0, .none, .none] }) (s.heap.objs.size + 1) s.heap.objs.size 0 .none := by
    have q := Heap.get?_push_size (s.heap.push { cls := .type "tuple_iterator", data := .fields #[.ref l, .int 0 0] })
      (o := { cls := .type "enumerate", data := .fields #[.none, .bool false, .ref s.heap.objs.size, rawInt 0, .none, .none] }) rfl
    rw [z1] at q
    exact q
  exact ⟨⟨_, z2, rfl⟩, k _ z2 ⟨_, Heap.get?_push_of_some _ (Heap.get?_push_size _ rfl), rfl, rfl⟩ fun b o x => Heap.get?_push_of_some _ (Heap.get?_push_of_some _ x)⟩
end
def IteT (K : PySem.W.Frag) (a : Addr) : L2.It :=
  ⟨fun i H => ∃ (xs : List V) (x : V), SqT K H a xs ∧ xs[i]? = some x,
    fun i H v H' => ∃ T x, v = .ref T ∧ H T = none ∧ H' = upd H T (.tup [.int (i : Nat), x]) ∧ ∀ xs, SqT K H a xs → xs[i]? = some x,
    fun i H => ∃ xs : List V, SqT K H a xs ∧ xs.length ≤ i⟩
theorem turn_enumT {P : Program} {w : World} {K : PySem.W.Frag} {elts : List Expr} {kk : Nat} {tpos : Pos} (a e it : Addr) :
    Turn P w K (.Tuple elts kk tpos) (IteT K a) [e, it] e (fun i h => (∃ old, IsEnum h e it ((i : Nat) : Int) old) ∧ h.IsTupleIter it a i ∧ e ≠ it ∧ a ≠ it ∧ a ≠ e) where
  mem := by simp
  obj := fun i h st b hb => by
    obtain ⟨⟨old, he⟩, ⟨o, ho, hc, hd⟩, _⟩ := st
    rcases (show b = e ∨ b = it by simpa using hb) with z | z
    · rw [z]
      exact ⟨_, he, fun v q => nomatch q⟩
    · rw [z]
      exact ⟨o, ho, fun v q => by rw [hd] at q; cases q⟩
  keep := fun i h h' st k => by
    obtain ⟨⟨old, he⟩, ⟨o, ho, r⟩, n1⟩ := st
    exact ⟨⟨old, k e (by simp) _ he⟩, ⟨o, k it (by simp) o ho, r⟩, n1⟩
  item := by
    intro X hP hw hK hc i pins s σ H E I hf st hg
    subst hP hw hK
    obtain ⟨⟨old, he⟩, hit, hne, n2, n3⟩ := st
    obtain ⟨xs, x, hq, hx⟩ := hg
    obtain ⟨its, rv, p, hz⟩ := I.tuple hq
    obtain ⟨u, hu, ru⟩ := rv.get hx
    have hel : e < s.heap.objs.size := Heap.lt_size he
    have hil : it < s.heap.objs.size := by
      obtain ⟨_, q, _⟩ := hit
      exact Heap.lt_size q
    have hi : i < its.toArray.size := by
      have := (List.getElem?_eq_some_iff.mp hu).1
      simpa using this
    have hA : X.A.in1.handled = none := I.ok.hd hc
    refine wpAny_pyNext_enum_itemD (draws_tup hA it a n2 its.toArray) he ⟨hit, p⟩ hi hne (by simp [hne, Ne.symm n3]) fun x' h' tk hx' ho st' hT hsz hk => ?_
    obtain rfl : u = x' := by
      have : its.toArray[i]? = some u := by simpa using hu
      rw [this] at hx'
      exact Option.some.inj hx'
    refine ⟨_, rfl, wpAny_letOwnedTupleGo_enum (s := { s with heap := h', toks := tk + 1 }) ho fun h'' he' sb => ?_⟩
    have hT2 : h''.get? s.heap.objs.size = some { cls := .type "tuple", data := .seq #[.int i tk, u] } := (sb.2 _ (Nat.ne_of_gt hel)).trans hT
    have new : ObjOk X.prog X.w (upd H s.heap.objs.size (.tup [.int (i : Nat), x])) h'' s.heap.objs.size (.tup [.int (i : Nat), x]) :=
      ⟨by show 2 ≤ sizeLine; decide, [.int i tk, u], .cons ⟨_, rfl⟩ (.cons ru .nil), ⟨_, hT2, rfl, _, rfl⟩⟩
    have I1 : Inv X pins σ (upd H s.heap.objs.size (.tup [.int (i : Nat), x])) { s with heap := h'', toks := tk + 1 } :=
      I.turnedNew (ch := [e, it]) (fun b ob hb q => (sb.2 b fun z => hb (by simp [z])).trans (hk b ob (fun z => hb (by simp [z])) (fun z => hb (by simp [z])) q)) hf (Nat.le_refl _) new
    refine ⟨.ref s.heap.objs.size, _, I1, rfl, ⟨_, x, rfl, I.hok.fresh (Nat.le_refl _), rfl, fun ys hy => by rw [I.tuple_inj hy hq]; exact hx⟩, ⟨⟨u, ?_⟩, ?_, hne, n2, n3⟩, fun b hb => ?_⟩
    · have e1 : ((i + 1 : Nat) : Int) = (i : Int) + 1 := by omega
      rw [e1]
      exact he'
    · obtain ⟨o, q, r⟩ := st'.1
      exact ⟨o, (sb.2 it (Ne.symm hne)).trans q, r⟩
    · have hb' : b < s.heap.objs.size := by
        rcases (show b = e ∨ b = it by simpa using hb) with z | z
        · rw [z]; exact hel
        · rw [z]; exact hil
      rw [upd_ne (Nat.ne_of_lt hb')]
      exact (hf b hb).1
  done := by
    intro X hP hw hK hc i pins s σ H E I hf st hg
    subst hP hw hK
    obtain ⟨⟨old, he⟩, hit, hne, n2, n3⟩ := st
    obtain ⟨xs, hq, hx⟩ := hg
    obtain ⟨its, rv, p, hz⟩ := I.tuple hq
    have hl := rv.length
    have hA : X.A.in1.handled = none := I.ok.hd hc
    obtain ⟨f0, f1, f2, f3, f4, f5⟩ := hf it (by simp)
    have hT : s.TypeIs (.ref e) "enumerate" := ⟨_, he, rfl⟩
    unfold pyNext
    refine wpAny_bind (wpAny_attempt (wpAny_callSpecial?_slot (name := Str.ofString "__next__") hT F.slot_enumerate_next
      (wpAny_call_entry F.slot_enumerate_next hT F.entry_enumerate_next ?_ (F.args_enumerate_next_1 _))))
    show wpAny _ _ (field (.ref e) 2 >>= _) _ _ _
    refine wpAny_bind (wpAny_field he rfl (x := .ref it) rfl ?_)
    refine wpAny_bind (RZ.nextOf_tuple_end hA hit p (by simp; omega) fun h' y eb hy => ?_)
    obtain ⟨o, ho, hc'⟩ := hy
    refine wpAny_bind (wpAny_isInstance (T := "StopIteration") (b := true) ⟨o, ho, hc'⟩ isSubtype_stop ?_)
    exact wpAny_pure ⟨rfl, I.turned (t' := s.toks) (fun b o hb q => eb b o hb q) f0 f1 f3 f4 f5⟩
  self := fun A i s Q E st h => let ⟨⟨_, he⟩, _⟩ := st; wpAny_pyIter_enum he h
/-- of a list or a tuple -/
def iEnumA (K : PySem.W.Frag) (ta : TA) : TI := fun σ H R => ta σ H fun vs H1 => ∃ a xs, vs = [.ref a] ∧ ((SqL K H1 a xs ∧ R (Ite K a) H1) ∨ (SqT K H1 a xs ∧ R (IteT K a) H1))
theorem pi_enumA {X : Cx} {e : Expr} {ta : TA} {p pos tpos : Pos} {elts : List Expr} {kk : Nat} (hg : Gl X "enumerate") (hm : X.mg "enumerate" = none) (ha : PA X [e] ta) (hs : starEach [e] X.env = [(false, eval e X.env)]) :
    PI X (.Tuple elts kk tpos) (.Call (.Name "enumerate" p) [e] [] pos) (iEnumA X.K ta) := by
  refine ⟨fun pins s σ H R I h => PyProof.Rows.Call_ (ld_blt I hg hm PyProof.Rows.boot_enumerate (PyProof.Rows.callWith_type1 (thn (ha.run pos pins s σ H _ I h) fun us s1 ⟨vs, H1, I1, r1, q1⟩ => ?_) hs rfl))⟩
  obtain ⟨a, xs, rfl, q⟩ := q1
  rw [Vals.ref1 r1]
  have fr : ∀ b ∈ [s1.heap.objs.size + 1, s1.heap.objs.size], FpOk X pins H1 b := fun b hb => by
    have le : s1.heap.objs.size ≤ b := by
      rcases (show b = s1.heap.objs.size + 1 ∨ b = s1.heap.objs.size by simpa using hb) with z | z <;> omega
    exact I1.fpOk le (I1.hok.fresh le)
  rcases q with ⟨hq, q⟩ | ⟨hq, q⟩
  · obtain ⟨its, rv, p', hz⟩ := I1.list hq
    refine call_enumerate_list p'.isList fun h' he hit hsz hk => wpAny_pyIter_enum he ?_
    exact ⟨s1.heap.objs.size + 1, [s1.heap.objs.size + 1, s1.heap.objs.size], _, _, H1, rfl, I1.kept (t' := s1.toks) hk, turn_enum a (s1.heap.objs.size + 1) s1.heap.objs.size, ⟨⟨.none, he⟩, hit, Nat.succ_ne_self _⟩, fr, q⟩
  · obtain ⟨its, rv, p', hz⟩ := I1.tuple hq
    have al : a < s1.heap.objs.size := by
      obtain ⟨o, e, _⟩ := p'
      exact Heap.lt_size e
    refine call_enumT (show s1.heap.IsTuple a its.toArray from p') fun h' he hit hk => wpAny_pyIter_enum he ?_
    exact ⟨s1.heap.objs.size + 1, [s1.heap.objs.size + 1, s1.heap.objs.size], _, _, H1, rfl, I1.kept (t' := s1.toks) hk, turn_enumT a (s1.heap.objs.size + 1) s1.heap.objs.size, ⟨⟨.none, he⟩, hit, Nat.succ_ne_self _, Nat.ne_of_lt al, Nat.ne_of_lt (Nat.lt_succ_of_lt al)⟩, fr, q⟩
theorem walk_et {S : Sc} {K : PySem.W.Frag} {Z : Addr → Prop} {a : Addr} {ws : List EV.W} {G : List Addr → Hs → Hp → Prop} (hd : Held S K Z (fun H xs => SqT K H a xs) ws G) : WalkW S K Z (IteT K a) (enumL 0 ws) G where
  pers := hd.pers
  goes := fun i g R hi => by
    obtain ⟨xs, q, r⟩ := hd.its g R
    rw [enumL_len] at hi
    have hi' : i < xs.length := by rw [r.length]; exact hi
    exact ⟨xs, xs[i], q, by simp [hi']⟩
  stops := fun g R => by
    obtain ⟨xs, q, r⟩ := hd.its g R
    exact ⟨xs, q, by rw [enumL_len, r.length]; exact Nat.le_refl _⟩
  yld := fun {η h H} i x H' g R hi y => by
    obtain ⟨xs, q, r⟩ := hd.its g R
    obtain ⟨T, y0, rfl, hT, rfl, y⟩ := y
    rw [enumL_len] at hi
    have e : ws[i]? = some ws[i] := by simp [hi]
    obtain ⟨v, e1, e2⟩ := r.get e
    rw [y xs q] at e1
    cases e1
    obtain ⟨z1, z2, z3⟩ := pair_at (a := .d (.int (0 + (i : Nat)))) (b := ws[i]) (p := .int (i : Nat)) hT R (by rw [Int.zero_add]; exact RV.int _) e2
    exact ⟨_, by rw [enumL_get, e]; rfl, z1, z2, z3⟩
section
variable {X : Cx} {S : Sc} {J : JT} {W : WX} {C : Cv} {a : Expr} {ma : SE} {pos p : Pos}
theorem i_enm {es' : List Expr} {kk : Nat} {tpos : Pos} (x : Xk S X J W) (hg : Gl X "enumerate") (hm : X.mg "enumerate" = none) (ha : SPE S X J W C a ma) (hs : starEach [a] X.env = (false, eval a X.env) :: starEach [] X.env := by rfl) : SPI S X J W C (.Tuple es' kk tpos) (.Call (.Name "enumerate" p) [a] [] pos) (iEnm ma) :=
  PI.conseq (pi_enumA hg hm (a_one x ha a_nil hs) hs) fun σ H R ⟨Z, η, ρ, h, A, k⟩ => ⟨Z, η, ρ, h, A, kg_one A.hr k fun w h1 η1 H1 f1 R1 k1 vs r1 => by
    obtain ⟨v, rfl, r⟩ := rws_one r1
    cases c : seqW h1 w with
    | none => simp only [c] at k1; exact k1.elim
    | some y =>
      obtain ⟨ws, lk⟩ := y
      simp only [c] at k1
      obtain ⟨a', rfl, q1, hl⟩ := seqW_ok R1 r c
      rcases q1 with ⟨_, xs, s1, t1⟩ | ⟨_, xs, s1, t1⟩
      · refine ⟨a', xs, rfl, .inl ⟨s1, KG.ok R1 k1 _ hl fun Z1 H2 hz hh => ?_⟩⟩
        obtain ⟨G, g1, g2⟩ := t1 Z1 H2 lk (fun p hp => hp) hl hz hh
        exact ⟨_, walk_e g1, g2⟩
      · refine ⟨a', xs, rfl, .inr ⟨s1, KG.ok R1 k1 _ hl fun Z1 H2 hz hh => ?_⟩⟩
        obtain ⟨G, g1, g2⟩ := t1 Z1 H2 lk (fun p hp => hp) hl hz hh
        exact ⟨_, walk_et g1, g2⟩⟩
end
end EV
end

section
set_option Elab.async false
set_option linter.all false
set_option maxRecDepth 100000
namespace EV
open PySem L2
def tyN : D → String
  | .none => "NoneType"
  | .bool _ => "bool"
  | .int _ => "int"
  | .str _ => "str"
  | .list _ => "list"
  | .tuple _ => "tuple"
  | .dict _ => "dict"
def Ty.nm : Ty → String
  | .int => "int"
  | .bool => "bool"
  | .str => "str"
  | .tuple => "tuple"
  | .list => "list"
  | .dict => "dict"
theorem kit_is (t : Ty) (x : D) : kitB (tyN x) t.nm = some (isTy t x) := by
  cases t <;> cases x <;> simp only [tyN, Ty.nm, isTy] <;> decide +kernel
theorem RV.ty {K : PySem.W.Frag} {H : Hp} {M : Addr → Prop} {v : V} {x : D} (r : RV K H M v x) : TyX K H v (.type (tyN x)) := by
  cases r with
  | non => exact .base .non
  | bl b => exact .base (.bl b)
  | int i => exact .base (.int i)
  | str x _ _ => exact .base (.str x)
  | lst a _ _ =>
    rcases a with a | ⟨o, a⟩
    · exact .base (.lst a)
    · exact .base (.frz a)
  | kls a _ =>
    obtain ⟨its, n, e, _⟩ := a
    exact .kList e rfl
  | tup a _ =>
    rcases a with (a | ⟨o, a⟩) | ⟨o, its, n, e, c, _⟩
    · exact .base (.tup a)
    · exact .fTuple a
    · exact .kTuple e c
  | dct e => exact .base (.dK e)
section
variable {X : Cx} {S : Sc} {J : JT} {W : WX} {C : Cv} {a b c e tg iter : Expr} {es : List Expr} {ma mb mc me : SE} {mr : SL} {mi : SI} {pos p p2 : Pos}
theorem s_isi {t : Ty} {nm : Str} (x : Xk S X J W) (hg : Gl X "isinstance") (hm : X.mg "isinstance" = none) (hg2 : Gl X nm) (hm2 : X.mg nm = none) (hv2 : bootBuiltins nm = some (.type t.nm)) (hn2 : nm ≠ "__name__") (hd2 : (nm == ("__debug__" : Str)) = false) (ha : SPE S X J W C a ma)
    (hs : starEach [a, .Name nm p2] X.env = (false, eval a X.env) :: starEach [.Name nm p2] X.env := by rfl) (hs2 : starEach [.Name nm p2] X.env = (false, eval (.Name nm p2) X.env) :: starEach [] X.env := by rfl) (hv : bootBuiltins "isinstance" = some (.builtin "isinstance") := by decide +kernel) :
    SPE S X J W C (.Call (.Name "isinstance" p) [a, .Name nm p2] [] pos) (cIsi ma t) :=
  PE.conseq (pe_callB call_isi hg hm hv (pa_cons ha (pa_cons (pe_bltn (v := .ty t.nm) hg2 hm2 hv2 rfl hn2 hd2) pa_nil hs2) hs) (by decide) (by decide) hs (by rw [hs2]; rfl)) fun σ H Q ⟨Z, η, ρ, h, A, k⟩ => ⟨Z, η, ρ, h, A, KG.bind A.hr k fun w h1 η1 H1 f1 R1 k1 v r => by
    cases w with
    | r n => exact k1.elim
    | d y => exact ⟨v, .ty t.nm, .type (tyN y), .type t.nm, isTy t y, rfl, .ty _, RV.ty r, kit_ty (kit_is t y), KG.give (S := S) (W := W) R1 k1 (RV.bl _)⟩⟩
/-! ### zip -/
theorem i_zip {es' : List Expr} {kk : Nat} {tpos : Pos} (x : Xk S X J W) (hg : Gl X "zip") (hm : X.mg "zip" = none) (ha : SPE S X J W C a ma) (hb : SPE S X J W C b mb) (hs : starEach [a, b] X.env = (false, eval a X.env) :: starEach [b] X.env := by rfl)
    (hs2 : starEach [b] X.env = (false, eval b X.env) :: starEach [] X.env := by rfl) : SPI S X J W C (.Tuple es' kk tpos) (.Call (.Name "zip" p) [a, b] [] pos) (iZip ma mb) :=
  PI.conseq (RZ.pi_zipA hg hm (a_one x ha (a_one x hb a_nil hs2) hs) hs (by rw [hs2]; rfl)) fun σ H R ⟨Z, η, ρ, h, A, k⟩ => ⟨Z, η, ρ, h, A, kg_two A.hr k fun w w2 h1 η1 H1 f1 R1 k1 vs r1 => by
    obtain ⟨v, v2, rfl, r, r2⟩ := rws_two r1
    cases c : seqW h1 w with
    | none => simp only [c] at k1; exact k1.elim
    | some y =>
      obtain ⟨ws, lk⟩ := y
      cases c2 : seqW h1 w2 with
      | none => simp only [c, c2] at k1; exact k1.elim
      | some y2 =>
        obtain ⟨us, lk2⟩ := y2
        simp only [c, c2] at k1
        obtain ⟨a', e1, q1, hl1⟩ := seqW_ok R1 r c
        obtain ⟨b', e2, q2, hl2⟩ := seqW_ok R1 r2 c2
        subst e1
        subst e2
        have hl : ∀ p ∈ lk ++ lk2, h1[p.1]? = some (.lst p.2) := fun p hp => (List.mem_append.mp hp).elim (hl1 p) (hl2 p)
        rcases q1 with ⟨i1, xs, s1, t1⟩ | ⟨i1, xs, s1, t1⟩
        · rcases q2 with ⟨i2, ys, s2, t2⟩ | ⟨i2, ys, s2, t2⟩
          · rw [i1, i2] at k1
            refine ⟨a', b', xs, ys, rfl, .inl ⟨s1, s2, KG.ok R1 k1 _ hl fun Z1 H2 hz hh => ?_⟩⟩
            obtain ⟨G, g1, g2⟩ := t1 Z1 H2 (lk ++ lk2) (fun p hp => List.mem_append_left _ hp) hl hz hh
            obtain ⟨G', g1', g2'⟩ := t2 Z1 H2 (lk ++ lk2) (fun p hp => List.mem_append_right _ hp) hl hz hh
            exact ⟨_, walk_zl (g1.and g1'.pers).1 (g1'.and g1.pers).2, g2, g2'⟩
          · rw [i1, i2] at k1
            exact k1.elim
        · rcases q2 with ⟨i2, ys, s2, t2⟩ | ⟨i2, ys, s2, t2⟩
          · rw [i1, i2] at k1
            exact k1.elim
          · rw [i1, i2] at k1
            refine ⟨a', b', xs, ys, rfl, .inr ⟨s1, s2, KG.ok R1 k1 _ hl fun Z1 H2 hz hh => ?_⟩⟩
            obtain ⟨G, g1, g2⟩ := t1 Z1 H2 (lk ++ lk2) (fun p hp => List.mem_append_left _ hp) hl hz hh
            obtain ⟨G', g1', g2'⟩ := t2 Z1 H2 (lk ++ lk2) (fun p hp => List.mem_append_right _ hp) hl hz hh
            exact ⟨_, walk_zt (g1.and g1'.pers).1 (g1'.and g1.pers).2, g2, g2'⟩⟩
end
end EV
end

section
set_option Elab.async false
set_option linter.all false
set_option maxRecDepth 100000
namespace EV
open PySem L2
/-- what a call is to lead to -/
def KC (S : Sc) (K : PySem.W.Frag) (Z : Addr → Prop) (η : List Addr) (h : Hs) (H : Hp) (Q : VK) (E : XK) : Re EV.W → Prop
  | .ok w h' => ∀ η' H', FR η h H η' h' H' → HR S K Z η' h' H' → ∀ v, RW K H' (MM Z η' h') η' v w → Q v H'
  | .ex e h' => ∀ η' H' cls da, FR η h H η' h' H' → HR S K Z η' h' H' → RX S K H' (MM Z η' h') e cls da → E cls da H'
  | .no => False
/-- the promise of the j-th def of the text, n calls deep -/
def spI (S : Sc) (K : PySem.W.Frag) (pg : Pg) (n j : Nat) : Sp := fun vs H Q E => ∃ Z η h ws, HR S K Z η h H ∧ RWs K H (MM Z η h) η vs ws ∧ KC S K Z η h H Q E (runF pg n j ws h)
/-- a def keeps a promise, where nothing is guarded against -/
def FnG (P : Program) (w : World) (K : PySem.W.Frag) (mg : Str → Option Value) (base : Heap) (CX : CXT) (k : Nat) (f : Addr) (sp : Sp) : Prop :=
  ∀ (A : Around) (outer : List Env) (s : Shared) (H : Hp) (us : List Value) (vs : List V) (Q : VK) (E : XK), A.guards = some [] → Room k A → Env0 P w K mg base A outer s H → Vals vs us → sp vs H Q E →
    codeAny (model P w) A (.call (.ref f) ⟨us, []⟩) (CR CX outer P w H s Q E) s
/-- how a def is called by its name -/
structure Cal (X : Cx) (S : Sc) (C : Cv) (j : Nat) (y : Str) : Prop where
  ok : ∃ (pg : Pg) (n : Nat) (f : Addr), FnG X.prog X.w X.K X.mg X.base (L2.CX X.prog X.w) (3 * n) f (spI S X.K pg n j) ∧ Room (3 * n) X.A ∧ X.mg y = some (.ref f) ∧ PySem.W.keepIn X.K (.ref f) = true ∧ C.F j = runF pg n j
section
variable {X : Cx} {S : Sc} {J : JT} {W : WX} {C : Cv} {a b c e tg iter : Expr} {es : List Expr} {ma mb mc me : SE} {mr : SL} {mi : SI} {pos p p2 : Pos}
theorem run_fnG {CX : CXT} {k : Nat} {f : Addr} {sp : Sp} {E : L2.St → XK} {pins : List (Addr × Obj)} {σ : L2.St} {H : Hp} {s : Shared} {Q : VK} {us : List Value} {vs : List V} (F : FnG X.prog X.w X.K X.mg X.base CX k f sp) (gd : X.A.guards = some []) (hr : Room k X.A) (hx : PassesAt CX X σ (E σ))
    (I : Inv X pins σ H s) (r : Vals vs us) (h : sp vs H Q (E σ)) : wpAny (model X.prog X.w) X.A (call (.ref f) us) (EP X pins σ Q) X.xe s := by
  refine wpAny_call (codeAny_mono (F X.A X.stack s H us vs Q (E σ) gd hr I.env0 r h) fun r s' hq => ?_)
  cases r with
  | error e => exact hx pins H s e s' I hq
  | ok fl =>
    cases fl with
    | ret u => exact I.after hq
    | next => exact hq.elim
    | brk => exact hq.elim
    | cont => exact hq.elim
def tCallG (sp : Sp) (E : L2.St → XK) (t : TA) : TE := fun σ H Q => t σ H fun vs H1 => sp vs H1 Q (E σ)
theorem pe_callG {CX : CXT} {k : Nat} {f : Addr} {sp : Sp} {E : L2.St → XK} {y : Str} {t : TA} (F : FnG X.prog X.w X.K X.mg X.base CX k f sp) (gd : X.A.guards = some []) (hr : Room k X.A) (hg : Gl X y) (hm : X.mg y = some (.ref f)) (hk : PySem.W.keepIn X.K (.ref f) = true) (hx : ∀ σ, PassesAt CX X σ (E σ))
    (ha : PA X (e :: es) t) (hdb : (y == ("__debug__" : Str)) = false) (he : starEach (e :: es) X.env = (false, eval e X.env) :: starEach es X.env) (hpl : (backTo pos (starEach es X.env)).any (·.1) = false) :
    PE X (.Call (.Name y p) (e :: es) [] pos) (tCallG sp E t) := by
  refine ⟨fun pins s σ H Q I h => wpAny_Call_Name_kw (ld_glob I hg hm ?_ hdb)⟩
  refine PySem.W.callWith_K (h₀ := X.base) I.ok.mod.kin hk (thn (ha.run pos pins s σ H _ I h) fun us s1 ⟨vs, H1, I1, r, q⟩ => ⟨I1.kIn, ?_⟩) he hpl
  exact run_fnG F gd hr (hx σ) I1 r q
theorem kc_of {Z : Addr → Prop} {η : List Addr} {h : Hs} {H : Hp} {Q : VK} {σ : L2.St} {ρ : En} {r : Re EV.W} (jo : JOk S X.K J) (A : At S X.K J σ H Z η ρ h) (k : KG S X.K J W Z η h H (VP X.K Z Q) r) : KC S X.K Z η h H Q (WE W σ) r := by
  cases r with
  | ok w h' => exact fun η' H' f R v rv => k η' H' f R v rv
  | ex e h' => exact fun η' H' cls da f R x => k η' H' cls da σ f R (jo.step A.hr f.toFR0 A.jj) x
  | no => exact k
/-- f(..), what it changes is changed -/
theorem s_callR {j : Nat} {y : Str} (x : Xk S X J W) (cal : Cal X S C j y) (hg : Gl X y) (ha : SPA S X J W C (e :: es) mr) (hdb : (y == ("__debug__" : Str)) = false := by decide)
    (he : starEach (e :: es) X.env = (false, eval e X.env) :: starEach es X.env := by rfl) (hpl : (backTo pos (starEach es X.env)).any (·.1) = false := by rfl) : SPE S X J W C (.Call (.Name y p) (e :: es) [] pos) (cCallR j mr) := by
  obtain ⟨pg, n, f, F, hr, hm, hk, hC⟩ := cal.ok
  refine PE.conseq (pe_callG (E := WE W) F x.gd hr hg hm hk (fun σ => passAt x.tk σ) ha hdb he hpl) fun σ H Q ⟨Z, η, ρ, h, A, k⟩ => ⟨Z, η, ρ, h, A, KG.bind A.hr k fun ws h1 η1 H1 f1 R1 k1 vs r1 => ⟨Z, η1, h1, ws, R1, r1, ?_⟩⟩
  rw [hC] at k1
  exact kc_of x.jo (A.step x.jo f1 R1) k1
theorem snapAll_ok {Z : Addr → Prop} {η : List Addr} {h : Hs} {H : Hp} {K : PySem.W.Frag} {M : Addr → Prop} (R : HR S K Z η h H) (sub : ∀ a, M a → MM Z η h a) : ∀ {vs : List V} {ws : List EV.W} {ds : List D}, RWs K H (MM Z η h) η vs ws → snapAll h ws = some ds → (anyOwn h ws = false ∨ ∀ a, ¬ M a) → RVs K H M vs ds
  | _, _, ds, .nil, e, _ => by
    simp only [snapAll, Option.some.injEq] at e
    subst e
    exact .nil
  | _, _, ds, .cons (a := v) (b := w) (l₁ := vs) (l₂ := ws) p q, e, ho => by
    simp only [snapAll] at e
    cases c : snap h w with
    | none => simp [c] at e
    | some x =>
      cases c2 : snapAll h ws with
      | none => simp [c, c2] at e
      | some xs =>
        simp only [c, c2, Option.some.injEq] at e
        subst e
        have ho1 : isOwn h w = false ∨ ∀ a, ¬ M a := ho.imp (fun z => by
          simp only [anyOwn, Bool.or_eq_false_iff] at z
          exact z.1) id
        have ho2 : anyOwn h ws = false ∨ ∀ a, ¬ M a := ho.imp (fun z => by
          simp only [anyOwn, Bool.or_eq_false_iff] at z
          exact z.2) id
        refine .cons ?_ (snapAll_ok R sub q c2 ho2)
        cases w with
        | d y =>
          simp only [snap, Option.some.injEq] at c
          subst c
          exact RV.less sub p
        | r n =>
          obtain ⟨a, ea, rfl⟩ := p
          simp only [snap, nth_eq] at c
          cases q1 : h[n]? with
          | none => rw [q1] at c; cases c
          | some o =>
            rw [q1] at c
            have z := R.obj n a o ea q1
            cases o with
            | lst us =>
              have nm : ∀ a, ¬ M a := ho1.resolve_left fun z => by simp [isOwn, nth_eq, q1] at z
              obtain ⟨ys, e1, rs⟩ := z
              cases c3 : pureAll us with
              | none => simp [c3] at c
              | some ds =>
                simp [c3] at c
                subst c
                exact .lst (.inl e1) (nm a) ((pureAll_rv rs c3).less sub)
            | lck us =>
              have nm : ∀ a, ¬ M a := ho1.resolve_left fun z => by simp [isOwn, nth_eq, q1] at z
              obtain ⟨ys, e1, rs⟩ := z
              cases c3 : pureAll us with
              | none => simp [c3] at c
              | some ds =>
                simp [c3] at c
                subst c
                exact .lst (.inl e1) (nm a) ((pureAll_rv rs c3).less sub)
            | frz y =>
              obtain ⟨ys, ds, rfl, e1, e2, rs⟩ := z
              simp only [Option.some.injEq] at c
              subst c
              exact .lst e1 (fun q => e2 (sub a q)) (rs.less sub)
/-- the caller's heap behind a call that kept its hands off it -/
theorem HR.behind {Z Z2 : Addr → Prop} {η η' : List Addr} {h h' : Hs} {H H' : Hp} {K : PySem.W.Frag} (R : HR S K Z η h H) (f : FR [] [] H η' h' H') (t : LamX.Tabs S.T H') : FR η h H η h H' ∧ HR S K Z η h H' := by
  have nm : ∀ a, ¬ mutA ([] : List Addr) ([] : Hs) a := fun a ⟨n, e, _⟩ => by simp at e
  have f2 : FR η h H η h H' := ⟨⟨⟨[], by simp⟩, fun a o e _ t => f.keep a o e (nm a) t, fun a m => .inl m, f.here⟩, fun _ _ e => e⟩
  refine ⟨f2, R.len, R.nd, fun n a o ea q => ?_, fun a z => ?_, R.zd, t⟩
  · have z := R.obj n a o ea q
    cases o with
    | lst us =>
      obtain ⟨ys, e1, rs⟩ := z
      exact ⟨ys, f.keep a _ e1 (nm a) fun ps z => (by cases z), f2.rws R rs⟩
    | lck us =>
      obtain ⟨ys, e1, rs⟩ := z
      exact ⟨ys, f.keep a _ e1 (nm a) fun ps z => (by cases z), f2.rws R rs⟩
    | frz y => exact ObjR.mono f2.toFR0 R (fun _ q => nomatch q) (fun _ q => nomatch q) z
  · obtain ⟨vs, e⟩ := R.zk a z
    exact ⟨vs, f.keep a _ e (nm a) fun ps z => (by cases z)⟩
theorem call_imp {n j : Nat} {pg : Pg} (x : Xk S X J W) (hC : C.F j = runF pg n j) : ∀ (σ : L2.St) (H : Hp) (Q : VK), tE S X.K J W (cCall j mr C) σ H Q → tCallG (spI S X.K pg n j) (WE W) (tL S X.K J W (mr C)) σ H Q := fun σ H Q ⟨Z, η, ρ, h, A, k⟩ => ⟨Z, η, ρ, h, A, KG.bind A.hr k fun ws h1 η1 H1 f1 R1 k1 vs r1 => by
  have A1 := A.step x.jo f1 R1
  cases c : snapAll h1 ws with
  | none => simp only [c] at k1; exact k1.elim
  | some ds =>
    simp only [c, hC] at k1
    -- what the callee is to leave alone
    have core : ∀ Z2 : Addr → Prop, (∀ a, Z2 a → MM Z η1 h1 a) → (anyOwn h1 ws = false ∨ ∀ a, ¬ Z2 a) → (∀ {v x : _} {η' : List Addr} {h' : Hs} {H' : Hp}, (anyOwn h1 ws && !noL x) = false → RV X.K H' (MM Z2 η' h') v x → RV X.K H' (MM Z η1 h1) v x) → spI S X.K pg n j vs H1 Q (WE W σ) := by
      intro Z2 hz ho back
      have R2 : HR S X.K Z2 [] [] H1 := ⟨rfl, List.nodup_nil, fun n a o e => by simp at e, fun a z => R1.mmK (hz a z), fun a z => by simp, R1.tabs⟩
      have sub : ∀ a, MM Z2 [] [] a → MM Z η1 h1 a := fun a m => by
        rcases m with m | ⟨n, e, _⟩
        · exact hz a m
        · simp at e
      have ho' : anyOwn h1 ws = false ∨ ∀ a, ¬ MM Z2 [] [] a := ho.imp id fun q a m => by
        rcases m with m | ⟨n, e, _⟩
        · exact q a m
        · simp at e
      refine ⟨Z2, [], [], dsW ds, R2, rvs_dsW (snapAll_ok R1 sub r1 c ho'), ?_⟩
      cases r : runF pg n j (dsW ds) [] with
      | no => simp only [r] at k1; exact k1.elim
      | ok w h' =>
        simp only [r] at k1
        cases fz : frzW h' w with
        | none => simp only [fz] at k1; exact k1.elim
        | some y =>
          obtain ⟨y, h2⟩ := y
          simp only [fz] at k1
          intro η' H' f R' v rv
          obtain ⟨f2, R3, rv2⟩ := frzW_ok R' rv fz
          obtain ⟨z1, z2⟩ := R1.behind (Z2 := Z2) f R'.tabs
          cases q : (anyOwn h1 ws && !noL y) with
          | true => rw [q] at k1; exact k1.elim
          | false =>
            rw [q] at k1
            have k2 : KG S X.K J W Z η1 h1 H1 (VP X.K Z Q) (.ok (.d y) h1) := k1
            exact k2 η1 H' z1 z2 v (back q rv2)
      | ex e h' =>
        simp only [r] at k1
        intro η' H' cls da f R' rx
        obtain ⟨z1, z2⟩ := R1.behind (Z2 := Z2) f R'.tabs
        have jj := x.jo.step R1 z1.toFR0 A1.jj
        obtain ⟨ec, ea⟩ := e
        cases ea with
        | none =>
          have k2 : KG S X.K J W Z η1 h1 H1 (VP X.K Z Q) (.ex ⟨ec, none⟩ h1) := k1
          exact k2 η1 H' cls da σ z1 z2 jj ⟨rx.1, trivial⟩
        | some y =>
          simp only at k1
          cases q : (anyOwn h1 ws && !noL y) with
          | true => rw [q] at k1; exact k1.elim
          | false =>
            rw [q] at k1
            have k2 : KG S X.K J W Z η1 h1 H1 (VP X.K Z Q) (.ex ⟨ec, some y⟩ h1) := k1
            obtain ⟨r1, dd, v, r2, r3, r4⟩ := rx
            exact k2 η1 H' cls da σ z1 z2 jj ⟨r1, dd, v, r2, r3, back q r4⟩
    cases hown : anyOwn h1 ws with
    | false =>
      refine core (MM Z η1 h1) (fun a z => z) (.inl hown) fun {v x η' h' H'} _ r => RV.less (fun a m => .inl m) r
    | true =>
      refine core (fun _ => False) (fun a z => z.elim) (.inr fun a z => z) fun {v x η' h' H'} q r => RV.free ?_ r
      rw [hown] at q
      simpa using q⟩
/-- f(..), nothing of ours is changed -/
theorem s_call {j : Nat} {y : Str} (x : Xk S X J W) (cal : Cal X S C j y) (hg : Gl X y) (ha : SPA S X J W C (e :: es) mr) (hdb : (y == ("__debug__" : Str)) = false := by decide)
    (he : starEach (e :: es) X.env = (false, eval e X.env) :: starEach es X.env := by rfl) (hpl : (backTo pos (starEach es X.env)).any (·.1) = false := by rfl) : SPE S X J W C (.Call (.Name y p) (e :: es) [] pos) (cCall j mr) := by
  obtain ⟨pg, n, f, F, hr, hm, hk, hC⟩ := cal.ok
  exact PE.conseq (pe_callG (E := WE W) F x.gd hr hg hm hk (fun σ => passAt x.tk σ) ha hdb he hpl) (call_imp x hC)
end
end EV
end

section
set_option Elab.async false
set_option linter.all false
set_option maxRecDepth 100000
namespace EV
open PySem L2
section
variable {P : Program} {w : World} {K : PySem.W.Frag} {mg : Str → Option Value} {base : Heap} {N ps : List Str} {qual : Str} {scope : Scope} {f : Addr} {cdv : Value} {A : Around} {outer : List Env} {s : Shared} {H : Hp} {E : XK} {S : Sc} {C : Cv} {n j : Nat} {pg : Pg}
/-- the context of a def's body -/
abbrev bX (P : Program) (w : World) (K : PySem.W.Frag) (mg : Str → Option Value) (base : Heap) (N : List Str) (qual : Str) (scope : Scope) (f : Addr) (cdv : Value) (A : Around) (outer : List Env) (s : Shared) (H : Hp) (E : XK) : Cx := cxOf (L2.CX P w) P w K mg base N qual scope f cdv A outer s H E
abbrev bW (E : XK) : WX := fun cls d _ H => E cls d H
theorem bX_own : PassesOwn (model (bX P w K mg base N qual scope f cdv A outer s H E).prog (bX P w K mg base N qual scope f cdv A outer s H E).w) (bX P w K mg base N qual scope f cdv A outer s H E).A (bX P w K mg base N qual scope f cdv A outer s H E).env (bX P w K mg base N qual scope f cdv A outer s H E).xe := passes_of rfl
theorem xk_of (S1 : FnScope N ps scope) (gd : A.guards = some []) (hr : Room n (A.deeper (PyProof.Rows.envOfC qual scope s.heap.objs.size f cdv))) : Xk S (bX P w K mg base N qual scope f cdv A outer s H E) J0 (bW E) where
  jo := j0_ok
  un := by
    have := hr.un
    show (A.deeper _).units + 200 < cLine
    omega
  gd := gd
  tk := takes_of rfl rfl rfl rfl
  nd := S1.nd
theorem startE_len : ∀ (us : List EV.W) (n : Nat), us.length ≤ n → (startE n us).length = n
  | [], n, _ => by simp [startE]
  | w :: r, n, h => by
    cases n with
    | zero => simp at h
    | succ k =>
      simp only [startE, List.length_cons]
      rw [startE_len r k (by simpa using h)]
theorem startE_get : ∀ (us : List EV.W) (n i : Nat) (w : EV.W), us.length ≤ n → (startE n us)[i]? = some (some w) → us[i]? = some w
  | [], n, i, w, _, e => by
    simp only [startE, List.getElem?_replicate] at e
    split at e <;> cases e
  | a :: r, n, i, w, h, e => by
    cases n with
    | zero => simp at h
    | succ k =>
      cases i with
      | zero => simpa [startE] using e
      | succ i =>
        simp only [startE, List.getElem?_cons_succ] at e ⊢
        exact startE_get r k i w (by simpa using h) e
theorem sr_start {M : Addr → Prop} {η : List Addr} {vs : List V} {ws : List EV.W} (r : RWs K H M η vs ws) (hl : ws.length ≤ N.length) : SR K H M η (L2.start N vs) (startE N.length ws) := by
  have hv := r.length
  refine ⟨?_, fun i w e => ?_⟩
  · rw [startE_len ws _ hl]
    unfold L2.start
    simp
    omega
  · have e2 := startE_get ws _ i w hl e
    obtain ⟨v, e3, rv⟩ := r.get e2
    refine ⟨v, ?_, rv⟩
    unfold L2.start
    have hi : i < vs.length := (List.getElem?_eq_some_iff.mp e3).1
    rw [List.getElem?_append_left (by simpa using hi), List.getElem?_map, e3]
    rfl
theorem env0_kin (e0 : Env0 P w K mg base A outer s H) : K.In s.heap := e0.mod.kin.keeps fun b o e => (e0.bs b o e).1
theorem body_imp {Q : VK} {vs : List V} {ws : List EV.W} {Z : Addr → Prop} {η : List Addr} {h : Hs} {g : SS} (R : HR S K Z η h H) (r : RWs K H (MM Z η h) η vs ws) (hl : ws.length ≤ N.length) (k : KC S K Z η h H Q E (finF (g C (startE N.length ws) h))) :
    tS S K J0 (bW E) (g C) { nx := fun _ H' => Q .non H', rt := Q } (L2.start N vs) H := by
  refine ⟨Z, η, startE N.length ws, h, ⟨R, sr_start r hl, trivial⟩, ?_⟩
  generalize g C (startE N.length ws) h = r0 at k
  cases r0 with
  | ok fl h' =>
    cases fl with
    | nx ρ' => exact fun η' H' f R' σ' _ _ => k η' H' f R' .non RV.non
    | rt w => exact fun η' H' f R' v rv => k η' H' f R' v rv
    | bk ρ' => exact k.elim
    | ct ρ' => exact k.elim
  | ex e h' => exact fun η' H' cls da σ f R' _ x => k η' H' cls da f R' x
  | no => exact k.elim
/-- a def of the text keeps its promise, if its body is read right -/
theorem fnG_step {x : Str} {params : Arguments} {body : List Stmt} {dvs : List V} {kws : List (Str × V)} {fd : FuncData} {g : SS} {np : Nat} (F : FunD K x qual params body scope dvs kws f fd) (S1 : FnScope N ps scope) (ht : pg.tab.get j = some ⟨np, false, N.length, g⟩) (hp : ps.length = np) (hN : np ≤ N.length) (hb : L2.Binds K fd ps [])
    (hbody : ∀ (cdv : Value), fd.code = cdv → ∀ (A : Around) (outer : List Env) (s : Shared) (H : Hp) (E : XK), A.guards = some [] → Room (3 * n + 2) (A.deeper (PyProof.Rows.envOfC qual scope s.heap.objs.size f cdv)) →
      SPSs S (bX P w K mg base N qual scope f cdv A outer s H E) J0 (bW E) ⟨runF pg n, runG pg (runF pg n), pg.wf, none, none⟩ body g) :
    FnG P w K mg base (L2.CX P w) (3 * (n + 1)) f (spI S K pg (n + 1) j) := by
  intro A outer s H us vs Q E gd hr e0 hv hs
  obtain ⟨Z, η, h, ws, R, r, k⟩ := hs
  have hw : ws.length = np := by
    by_cases hne : ws.length = np
    · exact hne
    · have : Nat.beq ws.length np = false := by
        rw [Bool.eq_false_iff]
        exact fun q => hne (Nat.eq_of_beq_eq_true q)
      rw [runF, ht] at k
      simp only [bindA, this] at k
      exact k.elim
  have e : runF pg (n + 1) j ws h = finF (g ⟨runF pg n, runG pg (runF pg n), pg.wf, none, none⟩ (startE N.length ws) h) := by
    rw [runF, ht]
    have : Nat.beq ws.length np = true := by rw [hw]; exact Nat.beq_refl np
    simp only [bindA, this]
    rfl
  rw [e] at k
  have hl : vs.length = ps.length := by rw [r.length, hp, hw]
  have hl2 : us.length = ps.length := by rw [← hv.length]; exact hl
  have bt := hb s us (env0_kin e0) (by rw [List.append_nil]; exact hl2)
  rw [List.append_nil] at bt
  obtain ⟨oc, od, dV, kV, doc, pm, an, cdv, ct, osl, rfl, lk, hcd, _, _⟩ := F.ex
  exact LamX.run_ofS lk hcd S1 (show Room (3 * n + 2 + 1) A from hr) e0 bt hv hl fun hr' => ⟨_, hbody cdv rfl A outer s H E gd hr', body_imp R r (by omega) k⟩
/-- .. with a parameter for all that is left over -/
theorem fnG_star {x pv : Str} {params : Arguments} {body : List Stmt} {dvs : List V} {kws : List (Str × V)} {fd : FuncData} {g : SS} {np : Nat} (F : FunD K x qual params body scope dvs kws f fd) (S1 : FnScope N (ps ++ [pv]) scope) (ht : pg.tab.get j = some ⟨np, true, N.length, g⟩) (hp : ps.length + 1 = np) (hN : np ≤ N.length)
    (hb : ∀ us rest : List Value, us.length = ps.length → bindArgs fd ⟨us ++ rest, []⟩ = (newTuple rest >>= fun t => pure (ps.zip us ++ [(pv, t)])))
    (hbody : ∀ (cdv : Value), fd.code = cdv → ∀ (A : Around) (outer : List Env) (s : Shared) (H : Hp) (E : XK), A.guards = some [] → Room (3 * n + 2) (A.deeper (PyProof.Rows.envOfC qual scope s.heap.objs.size f cdv)) →
      SPSs S (bX P w K mg base N qual scope f cdv A outer s H E) J0 (bW E) ⟨runF pg n, runG pg (runF pg n), pg.wf, none, none⟩ body g) :
    FnG P w K mg base (L2.CX P w) (3 * (n + 1)) f (spI S K pg (n + 1) j) := by
  intro A outer s H us vs Q E gd hr e0 hv hs
  obtain ⟨Z, η, h, ws, R, r, k⟩ := hs
  rw [runF, ht] at k
  simp only [bindA] at k
  by_cases g1 : (Nat.ble np (ws.length + 1) && Nat.ble ws.length lim) = true
  · rw [if_pos g1] at k
    rw [Bool.and_eq_true, Nat.ble_eq, Nat.ble_eq] at g1
    cases c : pureAll (ws.drop (np - 1)) with
    | none => simp only [c] at k; exact k.elim
    | some ds =>
      simp only [c] at k
      have e1 : ws.take (np - 1) ++ ws.drop (np - 1) = ws := List.take_append_drop _ _
      have r' := r
      rw [← e1] at r'
      obtain ⟨va, vb, rfl, ra, rb⟩ := rws_split r'
      obtain ⟨u1, u2, rfl, hu1, hu2⟩ := StX.vals_split hv
      have la : va.length = ps.length := by
        rw [ra.length, List.length_take]
        omega
      have l1 : u1.length = ps.length := by rw [← hu1.length]; exact la
      have lb : vb.length ≤ sizeLine := by
        have h2 : lim = sizeLine := by rw [sizeLine_eq]; rfl
        rw [rb.length, List.length_drop, ← h2]
        omega
      have rd := pureAll_rv rb c
      have hn : H s.heap.objs.size = Option.none := e0.hok.fresh (Nat.le_refl _)
      obtain ⟨oc, od, dV, kV, doc, pm, an, cdv, ct, osl, rfl, lk, hcd, _, _⟩ := F.ex
      refine StX.run_bnd lk hcd S1 (show Room (3 * n + 2 + 1) A from hr) e0 (G := fun xs H2 => ∃ p, H p = Option.none ∧ xs = va ++ [V.ref p] ∧ H2 = upd H p (.tup vb)) (fun A' Ex Q' hq => ?_) fun s2 H2 xs ⟨p, hp', ex, eH⟩ hr' => ?_
      · rw [hb u1 u2 l1]
        refine wpAny_bind (wpAny_newTuple (wpAny_pure ?_) (by rw [← hu2.length]; exact lb))
        have un : Un (frs outer) [] H (upd H s.heap.objs.size (.tup vb)) s.heap (s.heap.push ({ cls := .type "tuple", data := .seq u2.toArray } : Obj)) := StX.un_laid hn
        have z := hq _ _ (va ++ [V.ref s.heap.objs.size]) (u1 ++ [Value.ref s.heap.objs.size])
          (StX.env0_laid e0 (o := ({ cls := .type "tuple", data := .seq u2.toArray } : Obj)) (u := .tup vb) ⟨lb, u2, hu2, ⟨_, Heap.get?_push_size _ rfl, rfl, _, rfl⟩⟩) un rfl
          (fun e s' => StX.cxUp outer s H _ _ E e s' un (fun b o q => Heap.get?_push_of_some _ q) rfl)
          (hu1.append (.cons rfl .nil)) (by simp [la]) ⟨_, hn, rfl, rfl⟩
        rw [List.zip_append l1.symm] at z
        exact z
      · subst ex eH
        have f : FR η h H η h (upd H p (.tup vb)) := FR.alloc hp' _
        have R2 := R.alloc hp' (.tup vb)
        have ru : RWs K (upd H p (.tup vb)) (MM Z η h) η (va ++ [V.ref p]) (ws.take (np - 1) ++ [.d (.tuple ds)]) := (f.rws R ra).app (.cons (RV.alloc R hp' rd) .nil)
        refine ⟨_, hbody cdv rfl A outer s2 _ E gd hr', body_imp (h := h) R2 ru (by simp; omega) ?_⟩
        show KC S K Z η h (upd H p (.tup vb)) Q E (finF (g ⟨runF pg n, runG pg (runF pg n), pg.wf, none, none⟩ (startE N.length (ws.take (np - 1) ++ [.d (.tuple ds)])) h))
        generalize finF (g ⟨runF pg n, runG pg (runF pg n), pg.wf, none, none⟩ (startE N.length (ws.take (np - 1) ++ [.d (.tuple ds)])) h) = r0 at k
        cases r0 with
        | ok w h' => exact fun η' H' f' R' v rv => k η' H' (f.trans f' R) R' v rv
        | ex e h' => exact fun η' H' cls da f' R' x => k η' H' cls da (f.trans f' R) R' x
        | no => exact k
  · rw [if_neg g1] at k
    exact k.elim
theorem fnG_zero : FnG P w K mg base (L2.CX P w) (3 * 0) f (spI S K pg 0 j) :=
  fun A outer s H us vs Q E gd hr e0 hv ⟨Z, η, h, ws, R, r, k⟩ => (show False from k).elim
end
theorem Cal.blk {X : Cx} {S : Sc} {C : Cv} {j : Nat} {y : Str} (c : Cal X S C j y) (s : Shared) (H : Hp) (scope : Scope) (env : Env) (fp : List Addr) : Cal (X.blk s H scope env fp) S C j y := ⟨c.ok⟩
end EV
end

section
set_option Elab.async false
set_option linter.all false
set_option maxRecDepth 100000
namespace EV
open PySem L2
def visB (sc : Scope) (x : Str) : Bool := match sc.names.lookup x with
  | some .local => true
  | some .cell => true
  | some .free => true
  | _ => false
def locB (sc : Scope) (x : Str) : Bool := match sc.names.lookup x with
  | some .local => true
  | some .cell => true
  | _ => false
theorem vis_of {sc : Scope} {x : Str} (h : visB sc x = true) : Vis sc x := by
  unfold visB at h
  split at h
  · exact .inl (by assumption)
  · exact .inr (.inl (by assumption))
  · exact .inr (.inr (by assumption))
  · cases h
theorem loc_of {sc : Scope} {x : Str} (h : locB sc x = true) : Loc sc x := by
  unfold locB at h
  split at h
  · exact .inl (by assumption)
  · exact .inr (by assumption)
  · cases h
section
variable {X : Cx} {S : Sc} {J : JT} {W : WX} {C : Cv} {a b c e tg iter : Expr} {es : List Expr} {ma mb mc me : SE} {mr : SL} {mi : SI} {pos p p2 : Pos}
theorem s_nm {y : Str} (i : Nat) (h : (decide (X.N[i]? = some y) && visB X.env.scope y) = true) (hd : (y == ("__debug__" : Str)) = false := by decide) (hc : (y == ("__classdict__" : Str)) = false := by decide) : SPE S X J W C (.Name y pos) (cSlot i) :=
  s_slot (of_decide_eq_true (Bool.and_eq_true_iff.mp h).1) (vis_of (Bool.and_eq_true_iff.mp h).2) hd hc
theorem s_bo (o : Bop) (x : Xk S X J W) (ha : SPE S X J W C a ma) (hb : SPE S X J W C b mb) : SPE S X J W C (.BinOp a o.op b pos) (cBin o ma mb) := s_bin x.jo (bin_ok o) ha hb
theorem t_ofW {m : SE} (h : SPW S X J W C e m) : SPT S X J W C e m := ⟨fun pins s σ H Q I q => h.run _ pins s σ H Q I q⟩
theorem w_and1 (h : SPT S X J W C a ma) : SPW S X J W C (.BoolOp .And [a] pos) ma := pw_and1 h
theorem w_or1 (h : SPT S X J W C a ma) : SPW S X J W C (.BoolOp .Or [a] pos) ma := pw_or1 h
theorem s_one1 {op : BoolOp} (h : SPE S X J W C a ma) : SPE S X J W C (.BoolOp op [a] pos) ma := pe_one h
theorem s_gint {y : Str} {i : Int} (hg : Gl X y) (hm : ∃ t, X.mg y = some (.int i t)) (hd : (y == ("__debug__" : Str)) = false := by decide) : SPE S X J W C (.Name y pos) (cCon (.int i)) := by
  obtain ⟨t, hm⟩ := hm
  exact PE.conseq (pe_glob (v := .int i) hg hm ⟨t, rfl⟩ hd) fun σ H Q ⟨Z, η, ρ, h, A, k⟩ => KG.give A.hr k (RV.int i)
theorem s_gstr {y z : Str} (hg : Gl X y) (hm : ∃ t, X.mg y = some (.str z t)) (hz : (PyData.strOk z && Nat.ble z.length lim) = true) (hd : (y == ("__debug__" : Str)) = false := by decide) : SPE S X J W C (.Name y pos) (cCon (.str z)) := by
  obtain ⟨t, hm⟩ := hm
  rw [Bool.and_eq_true, Nat.ble_eq] at hz
  exact PE.conseq (pe_glob (v := .str z) hg hm ⟨t, rfl⟩ hd) fun σ H Q ⟨Z, η, ρ, h, A, k⟩ => KG.give A.hr k (RV.str z hz.1 (by rw [sizeLine_eq]; exact hz.2))
theorem s_cstr {z : Str} {k : Nat} (hz : (PyData.strOk z && Nat.ble z.length lim) = true) : SPE S X J W C (.Constant (.str z) k pos) (cCon (.str z)) := by
  refine s_con ?_
  simp only [conV, hz]
  rfl
/-! ### the built-in functions by their names -/
theorem s_len (x : Xk S X J W) (hg : Gl X "len") (hm : X.mg "len" = none) (ha : SPE S X J W C a ma) (hs : starEach [a] X.env = (false, eval a X.env) :: starEach [] X.env := by rfl) : SPE S X J W C (.Call (.Name "len" p) [a] [] pos) (cB1 .len ma) :=
  s_b1 x (pe_callB call_len hg hm (by decide +kernel) (a_one x ha a_nil hs) (by decide) (by decide) hs) b1_len
theorem s_abs (x : Xk S X J W) (hg : Gl X "abs") (hm : X.mg "abs" = none) (ha : SPE S X J W C a ma) (hs : starEach [a] X.env = (false, eval a X.env) :: starEach [] X.env := by rfl) : SPE S X J W C (.Call (.Name "abs" p) [a] [] pos) (cB1 .abs ma) :=
  s_b1 x (pe_callB call_abs hg hm (by decide +kernel) (a_one x ha a_nil hs) (by decide) (by decide) hs) b1_abs
theorem s_int (x : Xk S X J W) (hg : Gl X "int") (hm : X.mg "int" = none) (ha : SPE S X J W C a ma) (hs : starEach [a] X.env = (false, eval a X.env) :: starEach [] X.env := by rfl) : SPE S X J W C (.Call (.Name "int" p) [a] [] pos) (cB1 .int ma) :=
  s_b1 x (pe_callTy call_int1 hg hm (by decide +kernel) (a_one x ha a_nil hs) (by decide) (by decide) hs) b1_int
theorem s_all (x : Xk S X J W) (hc : X.calm = true) (hg : Gl X "all") (hm : X.mg "all" = none) (ha : SPE S X J W C a ma) (hs : starEach [a] X.env = (false, eval a X.env) :: starEach [] X.env := by rfl) : SPE S X J W C (.Call (.Name "all" p) [a] [] pos) (cB1 .all ma) :=
  s_b1 x (pe_callB (cr_all hc) hg hm (by decide +kernel) (a_one x ha a_nil hs) (by decide) (by decide) hs) b1_all
theorem s_any (x : Xk S X J W) (hc : X.calm = true) (hg : Gl X "any") (hm : X.mg "any" = none) (ha : SPE S X J W C a ma) (hs : starEach [a] X.env = (false, eval a X.env) :: starEach [] X.env := by rfl) : SPE S X J W C (.Call (.Name "any" p) [a] [] pos) (cB1 .any ma) :=
  s_b1 x (pe_callB (cr_any hc) hg hm (by decide +kernel) (a_one x ha a_nil hs) (by decide) (by decide) hs) b1_any
theorem s_sum (x : Xk S X J W) (hc : X.calm = true) (hg : Gl X "sum") (hm : X.mg "sum" = none) (ha : SPE S X J W C a ma) (hs : starEach [a] X.env = (false, eval a X.env) :: starEach [] X.env := by rfl) : SPE S X J W C (.Call (.Name "sum" p) [a] [] pos) (cB1 .sum ma) :=
  s_b1 x (pe_callB (cr_sum hc) hg hm (by decide +kernel) (a_one x ha a_nil hs) (by decide) (by decide) hs) b1_sum
theorem s_min1 (x : Xk S X J W) (hc : X.calm = true) (hg : Gl X "min") (hm : X.mg "min" = none) (ha : SPE S X J W C a ma) (hs : starEach [a] X.env = (false, eval a X.env) :: starEach [] X.env := by rfl) : SPE S X J W C (.Call (.Name "min" p) [a] [] pos) (cB1 .min ma) :=
  s_b1 x (pe_callB (cr_min hc) hg hm (by decide +kernel) (a_one x ha a_nil hs) (by decide) (by decide) hs) b1_min
theorem s_max1 (x : Xk S X J W) (hc : X.calm = true) (hg : Gl X "max") (hm : X.mg "max" = none) (ha : SPE S X J W C a ma) (hs : starEach [a] X.env = (false, eval a X.env) :: starEach [] X.env := by rfl) : SPE S X J W C (.Call (.Name "max" p) [a] [] pos) (cB1 .max ma) :=
  s_b1 x (pe_callB (cr_max hc) hg hm (by decide +kernel) (a_one x ha a_nil hs) (by decide) (by decide) hs) b1_max
theorem s_min2 (x : Xk S X J W) (hc : X.calm = true) (hg : Gl X "min") (hm : X.mg "min" = none) (ha : SPE S X J W C a ma) (hb : SPE S X J W C b mb) (hs : starEach [a, b] X.env = (false, eval a X.env) :: starEach [b] X.env := by rfl) (hs2 : starEach [b] X.env = (false, eval b X.env) :: starEach [] X.env := by rfl) :
    SPE S X J W C (.Call (.Name "min" p) [a, b] [] pos) (cB2 .min ma mb) :=
  s_b2 x (pe_callB (call_min2 hc) hg hm (by decide +kernel) (a_one x ha (a_one x hb a_nil hs2) hs) (by decide) (by decide) hs (by rw [hs2]; rfl)) b2_min
theorem s_max2 (x : Xk S X J W) (hc : X.calm = true) (hg : Gl X "max") (hm : X.mg "max" = none) (ha : SPE S X J W C a ma) (hb : SPE S X J W C b mb) (hs : starEach [a, b] X.env = (false, eval a X.env) :: starEach [b] X.env := by rfl) (hs2 : starEach [b] X.env = (false, eval b X.env) :: starEach [] X.env := by rfl) :
    SPE S X J W C (.Call (.Name "max" p) [a, b] [] pos) (cB2 .max ma mb) :=
  s_b2 x (pe_callB (call_max2 hc) hg hm (by decide +kernel) (a_one x ha (a_one x hb a_nil hs2) hs) (by decide) (by decide) hs (by rw [hs2]; rfl)) b2_max
/-! ### repr -/
def rRepr (K : PySem.W.Frag) : List V → Hp → VK → Prop := fun xs H Q => ∃ v d, xs = [v] ∧ Dp K H v d ∧ d.canLay0 = true ∧ d.showable = true ∧ d.depth ≤ 64 ∧ d.shown.length ≤ sizeLine ∧ Q (.str d.shown) H
theorem call_reprG (gd : X.A.guards = some []) (hu : X.A.units + 200 < cLine) : CallR X (.builtin "repr") (rRepr X.K) := by
  intro pins s σ H xs us Q I r h
  obtain ⟨v, d, rfl, hd, hl, hs, hp, hz, q⟩ := h
  obtain ⟨u, rfl, ru⟩ := vals1 r
  have box : ∀ a, v = .ref a → wpAny (model X.prog X.w) X.A (call (.builtin "repr") [u]) (EP X pins σ Q) X.xe s := by
    rintro a rfl
    cases (show u = Value.ref a from ru)
    obtain ⟨as, rd⟩ := Dp.reads I d (.ref a) (.ref a) hd rfl
    exact repr_of_reads' rd hs (PyData.noDict_hsm (PyData.hasDict_of_canLay d hl)) gd (by omega) (fun _ _ e => e) (fun h' u tk hk => ⟨.str d.shown, H, I.kept (t' := tk) hk, ⟨u, rfl⟩, q⟩) hz
  cases hd with
  | lst s1 s2 => exact box _ rfl
  | tup s1 s2 => exact box _ rfl
  | non =>
    cases (show u = Value.none from ru)
    exact PySem.P.repr_of_none ⟨.str _, H, I.tok _, ⟨_, rfl⟩, by simpa only [PyData.shown] using q⟩
  | bl b =>
    cases (show u = Value.bool b from ru)
    exact PySem.P.repr_of_bool ⟨.str _, H, I.tok _, ⟨_, rfl⟩, by simpa only [PyData.shown] using q⟩
  | int i =>
    obtain ⟨t, rfl⟩ := ru
    have hk : i.natAbs.log2 < 1920 := by simpa [PyData.showable] using hs
    exact PySem.P.repr_of_int hk ⟨.str _, H, I.tok _, ⟨_, rfl⟩, by simpa only [PyData.shown] using q⟩
  | str z =>
    obtain ⟨t, rfl⟩ := ru
    exact PySem.P.repr_of_str ⟨.str _, H, I.tok _, ⟨_, rfl⟩, by simpa only [PyData.shown] using q⟩ (by simpa only [PyData.shown] using hz)
theorem b1_repr : B1ok X S (rRepr X.K) .repr := fun Z η h H v w x Q R r e q => by
  have core : ∀ d : D, snap h w = some d → noD d = true → (d.showable && PyData.strOk d.shown && Nat.ble d.shown.length lim) = true → d.depth ≤ 64 → x = .str d.shown → rRepr X.K [v] H Q := fun d hd nd hc hp hx => by
    rw [Bool.and_eq_true, Bool.and_eq_true, Nat.ble_eq] at hc
    obtain ⟨dp, lay⟩ := snap_dp R r hd nd
    have hz : d.shown.length ≤ sizeLine := by
      rw [sizeLine_eq]
      exact hc.2
    refine ⟨v, d, rfl, dp, lay, hc.1.1, hp, hz, q _ ?_⟩
    rw [hx]
    exact RV.str _ hc.1.2 hz
  simp only [b1E] at e
  split at e
  · rename_i xs c
    split at e
    · rename_i g
      rw [Bool.and_eq_true, Bool.and_eq_true, Bool.and_eq_true] at g
      refine core (.list xs) c (by simpa [noD] using dleAll_noD 60 xs g.1.1.1) ?_ ?_ (Option.some.inj e).symm
      · rw [Bool.and_eq_true, Bool.and_eq_true]
        exact ⟨⟨by simpa [PyData.showable] using g.1.1.2, g.1.2⟩, g.2⟩
      · have := dleAll_depth 60 xs g.1.1.1
        simp only [PyData.depth]
        omega
    · cases e
  · rename_i xs c
    split at e
    · rename_i g
      rw [Bool.and_eq_true, Bool.and_eq_true, Bool.and_eq_true] at g
      refine core (.tuple xs) c (by simpa [noD] using dleAll_noD 60 xs g.1.1.1) ?_ ?_ (Option.some.inj e).symm
      · rw [Bool.and_eq_true, Bool.and_eq_true]
        exact ⟨⟨by simpa [PyData.showable] using g.1.1.2, g.1.2⟩, g.2⟩
      · have := dleAll_depth 60 xs g.1.1.1
        simp only [PyData.depth]
        omega
    · cases e
  · cases e
  · rename_i y n1 n2 n3 c
    split at e
    · rename_i g
      have hn : noD y = true ∧ y.depth ≤ 64 := by
        cases y with
        | list xs => exact absurd rfl (n1 xs)
        | tuple xs => exact absurd rfl (n2 xs)
        | dict xs => exact absurd rfl (n3 xs)
        | _ => exact ⟨rfl, by simp [PyData.depth]⟩
      exact core y c hn.1 g hn.2 (Option.some.inj e).symm
    · cases e
  · cases e
theorem s_repr (x : Xk S X J W) (hg : Gl X "repr") (hm : X.mg "repr" = none) (ha : SPE S X J W C a ma) (hs : starEach [a] X.env = (false, eval a X.env) :: starEach [] X.env := by rfl) : SPE S X J W C (.Call (.Name "repr" p) [a] [] pos) (cB1 .repr ma) :=
  s_b1 x (pe_callB (call_reprG x.gd x.un) hg hm (by decide +kernel) (a_one x ha a_nil hs) (by decide) (by decide) hs) b1_repr
end
end EV
end

section
set_option Elab.async false
set_option linter.all false
set_option maxRecDepth 100000
namespace EV
open PySem L2
/-! ### sorted lists, there is just one -/
section
variable {α : Type} {lt : α → α → Bool}
def ins (lt : α → α → Bool) (x : α) : List α → List α
  | [] => [x]
  | y :: ys => if lt y x then y :: ins lt x ys else x :: y :: ys
def isort (lt : α → α → Bool) : List α → List α
  | [] => []
  | x :: r => ins lt x (isort lt r)
theorem ins_perm (x : α) : ∀ l : List α, (ins lt x l).Perm (x :: l)
  | [] => List.Perm.refl _
  | y :: ys => by
    unfold ins
    split
    · exact ((ins_perm x ys).cons y).trans (List.Perm.swap x y ys)
    · exact List.Perm.refl _
theorem ins_srtd (O : SrtO.Swo lt) (x : α) : ∀ {l : List α}, SrtO.Srtd lt l → SrtO.Srtd lt (ins lt x l)
  | [], _ => List.pairwise_singleton _ _
  | y :: ys, h => by
    obtain ⟨h1, h2⟩ := List.pairwise_cons.mp h
    unfold ins
    split
    · rename_i g
      refine List.pairwise_cons.mpr ⟨fun z hz => ?_, ins_srtd O x h2⟩
      rcases List.mem_cons.mp ((ins_perm x ys).mem_iff.mp hz) with e | e
      · rw [e]
        exact O.asym _ _ g
      · exact h1 z e
    · rename_i g
      refine List.pairwise_cons.mpr ⟨fun z hz => ?_, h⟩
      have g' : lt y x = false := by simpa using g
      rcases List.mem_cons.mp hz with e | e
      · rw [e]
        exact g'
      · exact O.tr _ _ _ g' (h1 z e)
theorem ins_cls (O : SrtO.Swo lt) (x z : α) : ∀ l : List α, (ins lt x l).filter (SrtO.eqv lt z) = (x :: l).filter (SrtO.eqv lt z)
  | [] => rfl
  | y :: ys => by
    unfold ins
    split
    · rename_i g
      have ih := ins_cls O x z ys
      cases hx : SrtO.eqv lt z x with
      | false =>
        simp only [List.filter_cons, ih, hx]
        simp
      | true =>
        have hy : SrtO.eqv lt z y = false := by
          rw [Bool.eq_false_iff]
          intro q
          obtain ⟨a1, a2⟩ := SrtO.eqv_iff.mp hx
          obtain ⟨b1, b2⟩ := SrtO.eqv_iff.mp q
          have := O.tr _ _ _ a1 b2
          rw [g] at this
          cases this
        simp only [List.filter_cons, ih, hx, hy]
        rfl
    · rfl
theorem isort_ok (O : SrtO.Swo lt) : ∀ l : List α, SrtO.Srtd lt (isort lt l) ∧ SrtO.Stb lt (isort lt l) l
  | [] => ⟨List.Pairwise.nil, SrtO.Stb.refl _⟩
  | x :: r => by
    obtain ⟨h1, h2⟩ := isort_ok O r
    refine ⟨ins_srtd O x h1, ⟨(ins_perm x _).trans (h2.perm.cons x), fun z => ?_⟩⟩
    show (ins lt x (isort lt r)).filter _ = _
    rw [ins_cls O, List.filter_cons, List.filter_cons, h2.cls z]
end
theorem ltI_swo : SrtO.Swo ilt := by
  refine ⟨fun x y h => ?_, fun x y z h1 h2 => ?_⟩
  · rw [ilt_iff] at h ⊢
    simp at h ⊢
    omega
  · rw [ilt_iff] at h1 h2 ⊢
    simp at h1 h2 ⊢
    omega
theorem lexI_asym : ∀ x y : List Int, lexI x y = true → lexI y x = false
  | [], [], _ => rfl
  | [], _ :: _, _ => rfl
  | _ :: _, [], h => by cases h
  | a :: as, b :: bs, h => by
    simp only [lexI, ieq_iff, ilt_iff, decide_eq_true_eq] at h ⊢
    split at h
    · rename_i e
      rw [if_pos e.symm]
      exact lexI_asym as bs h
    · rename_i e
      rw [if_neg fun q => e q.symm]
      simp at h ⊢
      omega
theorem lexI_tr : ∀ x y z : List Int, lexI y x = false → lexI z y = false → lexI z x = false
  | [], _, [], _, _ => rfl
  | [], [], _ :: _, _, _ => rfl
  | [], b :: bs, c :: cs, _, _ => rfl
  | _ :: _, [], _, h, _ => by cases h
  | _ :: _, _ :: _, [], _, h => by cases h
  | a :: as, b :: bs, c :: cs, h1, h2 => by
    simp only [lexI, ieq_iff, ilt_iff, decide_eq_true_eq] at h1 h2 ⊢
    split at h1
    · rename_i e1
      split at h2
      · rename_i e2
        rw [if_pos (e2.trans e1)]
        exact lexI_tr as bs cs h1 h2
      · rename_i e2
        simp at h2
        rw [if_neg (by omega)]
        simp
        omega
    · rename_i e1
      simp at h1
      split at h2
      · rename_i e2
        rw [if_neg (by omega)]
        simp
        omega
      · rename_i e2
        simp at h2
        rw [if_neg (by omega)]
        simp
        omega
theorem lexI_swo : SrtO.Swo lexI := ⟨lexI_asym, lexI_tr⟩
theorem isortI_eq : ∀ l : List Int, isortI l = isort ilt l := by
  have h : ∀ (x : Int) (l : List Int), insI x l = ins ilt x l := by
    intro x l
    induction l with
    | nil => rfl
    | cons y ys ih => unfold insI ins; rw [ih]
  intro l
  induction l with
  | nil => rfl
  | cons x r ih => unfold isortI isort; rw [ih, h]
theorem isortT_eq : ∀ l : List (List Int), isortT l = isort lexI l := by
  have h : ∀ (x : List Int) (l : List (List Int)), insT x l = ins lexI x l := by
    intro x l
    induction l with
    | nil => rfl
    | cons y ys ih => unfold insT ins; rw [ih]
  intro l
  induction l with
  | nil => rfl
  | cons x r ih => unfold isortT isort; rw [ih, h]
theorem perm_sorted : ∀ {l m : List Int}, l.Perm m → l.Pairwise (· ≤ ·) → m.Pairwise (· ≤ ·) → l = m
  | [], m, p, _, _ => p.nil_eq
  | x :: l, [], p, _, _ => absurd p.length_eq (by simp)
  | x :: l, y :: m, p, h1, h2 => by
    obtain ⟨a1, a2⟩ := List.pairwise_cons.mp h1
    obtain ⟨b1, b2⟩ := List.pairwise_cons.mp h2
    have e : x = y := by
      have i1 : x ≤ y := by
        rcases List.mem_cons.mp (p.mem_iff.mpr (List.mem_cons_self (a := y) (l := m))) with q | q
        · omega
        · exact a1 y q
      have i2 : y ≤ x := by
        rcases List.mem_cons.mp (p.mem_iff.mp (List.mem_cons_self (a := x) (l := l))) with q | q
        · omega
        · exact b1 x q
      omega
    subst e
    rw [perm_sorted p.cons_inv a2 b2]
theorem sorted_isortI {ns ns' : List Int} (p : ns'.Perm ns) (h : ns'.Pairwise (· ≤ ·)) : ns' = isortI ns := by
  obtain ⟨h1, h2⟩ := isort_ok ltI_swo ns
  rw [isortI_eq]
  refine perm_sorted (p.trans h2.perm.symm) h (h1.imp fun {a b} q => ?_)
  rw [ilt_iff] at q
  simp at q
  omega
/-! ### sorted of tuples of ints -/
theorem lex_run {prog : Program} {w : World} {A : Around} {s : Shared} {b : Bool} {Q : Bool → Shared → Prop} : ∀ {xs ys : List Value} {ns ms : List Int} (i : Nat), PyProof.Rows.IntsAre xs ns → PyProof.Rows.IntsAre ys ms →
    Q (lexI ns ms) s → PySem.W.KatLex prog w A b (decide (xs.length < ys.length)) Q (xs.zip ys) i s
  | [], [], _, _, i, .nil, .nil, h => PySem.W.kat_nil h
  | [], _ :: _, _, _, i, .nil, .cons _ _ _, h => PySem.W.kat_nil h
  | _ :: _, [], _, _, i, .cons _ _ _, .nil, h => PySem.W.kat_nil h
  | _ :: xs, _ :: ys, _, _, i, .cons (ns := ns) p t hx, .cons (ns := ms) q u hy, h => by
    show PySem.W.KatLex prog w A b _ Q ((Value.int p t, Value.int q u) :: xs.zip ys) i s
    refine PySem.W.kat_cons (wpAny_eqBool_int ?_)
    simp only [lexI, ieq_iff, ilt_iff, decide_eq_true_eq] at h
    have e0 : decide ((Value.int p t :: xs).length < (Value.int q u :: ys).length) = decide (xs.length < ys.length) := by simp
    rw [e0]
    by_cases e : p = q
    · rw [if_pos e] at h
      subst e
      rw [beq_self_eq_true]
      exact PySem.W.kat_yes (lex_run (i + 1) hx hy h)
    · rw [if_neg e] at h
      rw [show (p == q) = false from beq_eq_false_iff_ne.mpr e]
      exact PySem.W.kat_no (TS.oneLt_ints _ h)
open PySem.Spec PyProof.Rows in
theorem intsAre_inj : ∀ {xs : List Value} {ns ms : List Int}, IntsAre xs ns → IntsAre xs ms → ns = ms
  | _, _, _, .nil, .nil => rfl
  | _, _, _, .cons _ _ h, .cons _ _ h' => by rw [intsAre_inj h h']
theorem tupInts_inj {h : Heap} {v : Value} {ns ms : List Int} (a : TS.TupInts h v ns) (b : TS.TupInts h v ms) : ns = ms := by
  obtain ⟨a, xs, rfl, ⟨o, ho, hc, n, hd⟩, i⟩ := a
  obtain ⟨b, ys, e, ⟨o', ho', hc', n', hd'⟩, i'⟩ := b
  cases e
  rw [ho] at ho'
  cases ho'
  rw [hd] at hd'
  cases hd'
  exact intsAre_inj i i'
section
variable {prog : Program} {w : World} {A : Around} {E : Value → Shared → Prop} {s : Shared}
theorem firsts_ints {h : Heap} {k : Value → List Int} : ∀ {vs : List Value}, (∀ v ∈ vs, TS.TupInts h v (k v) ∧ k v ≠ []) → ∃ fs, PySem.W.KatTups h vs fs ∧ fs.length = vs.length ∧ ∀ f, f ∈ fs → ∃ n t, f = Value.int n t
  | [], _ => ⟨[], PySem.W.KatTups.nil, rfl, fun f hf => by simp at hf⟩
  | v :: vs, x => by
    obtain ⟨fs, kk, hl, hi⟩ := firsts_ints fun u hu => x u (List.mem_cons_of_mem _ hu)
    obtain ⟨⟨a, xs, rfl, ⟨o, ho, hc, n, hd⟩, i⟩, ne⟩ := x v List.mem_cons_self
    generalize k (Value.ref a) = ns at i ne
    generalize hxs : xs.toList = l at i
    cases i with
    | nil => exact absurd rfl ne
    | cons m t i =>
      refine ⟨.int m t :: fs, PySem.W.KatTups.cons ho hc hd ?_ kk, by simp [hl], fun f hf => ?_⟩
      · have z := congrArg (fun l : List Value => l[0]?) hxs
        simpa using z
      · rcases List.mem_cons.mp hf with e | e
        · exact ⟨m, t, e⟩
        · exact hi f e
theorem tups_sortable {a : Addr} {vs : List Value} {k : Value → List Int} (h0 : 0 < vs.length) (hp : ∀ v ∈ vs, TS.TupInts s.heap v (k v) ∧ k v ≠ []) (ha : ∀ o, s.heap.get? a = some o → o.cls ≠ .type "tuple") : SrtO.SortableO prog w A s a vs fun v u => lexI (k v) (k u) := by
  intro h' keep
  have hp' : ∀ v ∈ vs, TS.TupInts h' v (k v) ∧ k v ≠ [] := fun v hm => ⟨(hp v hm).1.keeps fun b o e c => keep b o (fun z => by subst z; exact ha o e c) e, (hp v hm).2⟩
  obtain ⟨fs, h1, h2, h3⟩ := firsts_ints hp'
  refine ⟨PyProof.Rows.tuples' true, fun Q E hq => ?_, fun p q hm hm' => ?_⟩
  · refine PySem.W.kat_kind (T := .type "int") h1 (by omega) (fun f hm => ?_) (by rfl) ?_
    · obtain ⟨x, t, rfl⟩ := h3 f hm
      exact PySem.W.Looks.now
    · have e : (Value.type "int" != Value.type "tuple") = true := by first | decide +kernel | rfl | decide
      rw [e]
      exact hq
  · obtain ⟨⟨a1, xs, e1, ⟨o1, ho1, hc1, n1, hd1⟩, i1⟩, _⟩ := hp' _ hm
    obtain ⟨⟨a2, ys, e2, ⟨o2, ho2, hc2, n2, hd2⟩, i2⟩, _⟩ := hp' _ hm'
    show wpAny (model prog w) A (PyProof.Rows.keyLt' (PyProof.Rows.tuples' true) p.1 q.1) (fun r s' => s' = { s with heap := h' } ∧ r = lexI (k p.1) (k q.1)) (fun _ _ => False) { s with heap := h' }
    generalize k p.1 = ns at i1
    generalize k q.1 = ms at i2
    rw [e1, e2]
    refine PySem.W.kat_lt ho1 hd1 ho2 hd2 ?_
    have e : decide (xs.size < ys.size) = decide (xs.toList.length < ys.toList.length) := by simp
    rw [e]
    exact lex_run 0 i1 i2 ⟨rfl, rfl⟩
theorem sorted_tupsO {l : Addr} {vs : List Value} {k : Value → List Int} {Q : Value → Shared → Prop} (hl : s.heap.IsList l vs.toArray) (hz : vs.length ≤ sizeLine) (hp : ∀ v ∈ vs, TS.TupInts s.heap v (k v) ∧ k v ≠ [])
    (h : ∀ (h' : Heap) (d : Addr) (out : List Value), SrtO.Srtd (fun v u => lexI (k v) (k u)) out → SrtO.Stb (fun v u => lexI (k v) (k u)) out vs → (∀ b o, s.heap.get? b = some o → h'.get? b = some o) → s.heap.objs.size ≤ d → (∃ n, h'.get? d = some { cls := .type "list", data := .seq out.toArray n }) → Q (.ref d) { s with heap := h' }) :
    wpAny (model prog w) A (call (.builtin "sorted") [.ref l]) Q E s := by
  refine SrtO.sorted_ord (ltv := fun v u => lexI (k v) (k u)) ⟨fun x y => lexI_asym (k x) (k y), fun x y z => lexI_tr (k x) (k y) (k z)⟩ hl hz (fun h2 h₁ a ha kk => ?_) fun out hs hb => ?_
  · refine tups_sortable (s := { s with heap := h₁ }) (by omega) (fun v hm => ⟨(hp v hm).1.keeps fun b o e _ => (kk b o e).2, (hp v hm).2⟩) fun o e => ?_
    have e' := e.symm.trans ha
    cases e'
    intro c
    exact absurd (Value.type.inj c) (by decide)
  · exact h _ _ out hs hb (fun b o e => PyProof.Rows.sortedAll_old e) (Nat.le_succ _) (PyProof.Rows.sortedAll_at s.heap vs out.toArray)
end
/-- x is a tuple of these ints, none of them missing -/
def TupN (K : PySem.W.Frag) (H : Hp) (x : V) (ns : List Int) : Prop := ∃ t, x = V.ref t ∧ SqT K H t (ns.map V.int) ∧ ns ≠ []
def rSrtT (K : PySem.W.Frag) : List V → Hp → VK → Prop := fun vs H Q => ∃ (a : Addr) (xs : List V) (nss : List (List Int)), vs = [V.ref a] ∧ SqL K H a xs ∧ Paired (TupN K H) xs nss ∧
  ∀ ys p, Paired (TupN K H) ys (isortT nss) → H p = none → Q (.ref p) (upd H p (.lst ys))
section
variable {X : Cx}
theorem tupN_ints {pins : List (Addr × Obj)} {σ : L2.St} {H : Hp} {s : Shared} {x : V} {u : Value} {ns : List Int} (I : Inv X pins σ H s) (h : TupN X.K H x ns) (r : RelV x u) : TS.TupInts s.heap u ns ∧ ns ≠ [] := by
  obtain ⟨t, rfl, hs, ne⟩ := h
  cases (show u = Value.ref t from r)
  obtain ⟨its, rv, p, _⟩ := I.tuple hs
  exact ⟨⟨t, its.toArray, rfl, p, by simpa using L2.ints_of_vals rv⟩, ne⟩
theorem paired_k {pins : List (Addr × Obj)} {σ : L2.St} {H : Hp} {s : Shared} {k : Value → List Int} (I : Inv X pins σ H s) (hk : ∀ u ns, TS.TupInts s.heap u ns → k u = ns) : ∀ {xs : List V} {nss : List (List Int)} {us : List Value}, Paired (TupN X.K H) xs nss → Vals xs us → us.map k = nss ∧ xs = us.map backV ∧ ∀ u ∈ us, ∃ ns, TupN X.K H (backV u) ns ∧ k u = ns ∧ TS.TupInts s.heap u ns ∧ ∃ a, u = .ref a
  | _, _, _, .nil, .nil => ⟨rfl, rfl, fun u hu => by simp at hu⟩
  | _, _, _, .cons p q, .cons r t => by
    rename_i x ns xs nss u us
    obtain ⟨h1, h2, h3⟩ := paired_k I hk q t
    have ti := (tupN_ints I p r).1
    have e := hk _ _ ti
    have eb : x = backV u := by
      obtain ⟨a, rfl, _⟩ := p
      cases (show u = Value.ref a from r)
      rfl
    refine ⟨by rw [List.map_cons, e, h1], by rw [List.map_cons, ← h2, eb], fun v hv => ?_⟩
    rcases List.mem_cons.mp hv with z | z
    · subst z
      refine ⟨ns, by rw [← eb]; exact p, e, ti, ?_⟩
      obtain ⟨a, rfl, _⟩ := p
      exact ⟨a, r⟩
    · exact h3 v z
theorem cr_srtT : CallR X (.builtin "sorted") (rSrtT X.K) := by
  intro pins s σ H vs us Q I r h
  obtain ⟨a, xs, nss, rfl, hs, hp, q⟩ := h
  obtain ⟨its, rv, hl, hz⟩ := I.list hs
  rw [Vals.ref1 r]
  obtain ⟨k, hk⟩ : ∃ k : Value → List Int, ∀ u ns, TS.TupInts s.heap u ns → k u = ns := by
    classical
    refine ⟨fun u => if h : ∃ ns, TS.TupInts s.heap u ns then h.choose else [], fun u ns h => ?_⟩
    have ex : ∃ ns, TS.TupInts s.heap u ns := ⟨ns, h⟩
    simp only [dif_pos ex]
    exact tupInts_inj ex.choose_spec h
  obtain ⟨e1, e2, e3⟩ := paired_k I hk hp rv
  refine sorted_tupsO (k := k) hl.isList (by rw [← rv.length]; exact hz) (fun v hv => ?_) fun h' d out h1 h2 kp hd hn => ?_
  · obtain ⟨ns, t1, t2, t3, _⟩ := e3 v hv
    obtain ⟨t, _, _, ne⟩ := t1
    rw [t2]
    exact ⟨t3, ne⟩
  · have ho : ∀ u ∈ out, u ∈ its := fun u hu => h2.perm.mem_iff.mp hu
    have hm : out.map k = isortT nss := by
      rw [isortT_eq]
      obtain ⟨z1, z2⟩ := isort_ok lexI_swo nss
      refine SrtO.stb_uniq lexI_swo (SrtO.srtd_map h1) z1 ((SrtO.Stb.map lexI_swo k h2).trans ?_)
      rw [e1]
      exact ⟨z2.perm.symm, fun x => (z2.cls x).symm⟩
    have hb : ∀ u ∈ out, ∃ a, u = Value.ref a := fun u hu => by
      obtain ⟨_, _, _, _, z⟩ := e3 u (ho u hu)
      exact z
    obtain ⟨n, hn⟩ := hn
    refine ⟨.ref d, upd H d (.lst (out.map backV)), I.laid (t' := s.toks) kp hd ⟨?_, out, n, vals_back hb, hn⟩, rfl, q _ d ?_ (I.hok.fresh hd)⟩
    · rw [List.length_map, h2.perm.length_eq, ← rv.length]
      exact hz
    · rw [← hm]
      have : ∀ l : List Value, (∀ u ∈ l, u ∈ its) → Paired (TupN X.K H) (l.map backV) (l.map k) := by
        intro l
        induction l with
        | nil => intro _; exact .nil
        | cons u l ih =>
          intro hu
          obtain ⟨ns, t1, t2, _⟩ := e3 u (hu u List.mem_cons_self)
          exact .cons (by rw [t2]; exact t1) (ih fun v hv => hu v (List.mem_cons_of_mem _ hv))
      exact this out ho
end
end EV
end

section
set_option Elab.async false
set_option linter.all false
set_option maxRecDepth 100000
namespace EV
open PySem L2
section
open PySem.Spec PyProof.Rows
variable {prog : Program} {w : World} {A : Around} {E : Value → Shared → Prop} {s : Shared}
/-- the items of a tuple, gathered -/
theorem collect_tup {l : Addr} {o : Obj} {vs : List Value} {n : Nat} {Q : List Value → Shared → Prop} (ho : s.heap.get? l = some o) (hc : o.cls = .type "tuple") (hd : o.data = .seq vs.toArray n)
    (h : Q vs { s with heap := (s.heap.push (seqObj "list" #[] 0)).update s.heap.objs.size (Obj.mapSeq (· ++ vs.toArray)) }) (hsz : vs.length ≤ sizeLine) :
    wpAny (model prog w) A (collect (.ref l)) Q E s := by
  unfold collect
  refine wpAny_bind (wpAny_runValue (codeAny_builtin entry_proto_collect' ?_))
  show wpAny _ _ (do again (.builtin "list.__iadd__" ⟨[← newList [], .ref l], []⟩)) _ _ s
  refine wpAny_bind (wpAny_newList (wpAny_pure ⟨Code.quiet_builtin _ (by decide +kernel), codeAny_builtin entry_list_iadd' ?_⟩))
  show wpAny _ _ (Builtin.List.listExtendWith (.ref s.heap.objs.size) (.ref l) (.ref s.heap.objs.size)) _ _ { s with heap := s.heap.push (seqObj "list" #[] 0) }
  unfold Builtin.List.listExtendWith
  have ho' : (s.heap.push (seqObj "list" #[] 0)).get? l = some o := Heap.get?_push_of_some _ ho
  refine wpAny_bind (wpAny_typeOf (T := "tuple") ⟨o, ho', hc⟩ ?_)
  have ht : (Value.type "tuple" == Value.type "tuple") = true := by rfl
  rw [if_pos (by rw [ht]; simp)]
  refine wpAny_bind (listItems_at ho' hd ?_)
  refine wpAny_bind (listItems_at (xs := #[]) (n := 0) (Heap.get?_push_size _ rfl) rfl ?_)
  rw [if_neg (by simp)]
  refine wpAny_bind (listUpdate_at (xs := #[]) (n := 0) (Heap.get?_push_size _ rfl) rfl ?_ (Nat.zero_le _) (by show (#[] ++ vs.toArray).size ≤ sizeLine + 1; simp only [Array.size_append, List.size_toArray, List.length_nil]; omega))
  refine wpAny_pure ?_
  show wpAny (model prog w) A (do
      let o ← load s.heap.objs.size
      match o.data with
      | .seq xs _ => pure xs.toList
      | _ => unsupported "internal:collect") Q E { s with heap := (s.heap.push (seqObj "list" #[] 0)).update s.heap.objs.size (Obj.mapSeq (· ++ vs.toArray)) }
  refine wpAny_bind (wpAny_load (get?_update_seq (Heap.get?_push_size _ rfl) _) ?_)
  show wpAny _ _ (pure ((#[] : Array Value) ++ vs.toArray).toList) Q E _
  rw [show ((#[] : Array Value) ++ vs.toArray).toList = vs by simp]
  exact wpAny_pure h
end
section
open PySem.Spec PyProof.Rows SrtO
variable {prog : Program} {w : World} {A : Around} {E : Value → Shared → Prop} {s : Shared}
/-- sorted of a tuple -/
theorem sorted_tup {l : Addr} {o : Obj} {n : Nat} {vs : List Value} {ltv : Value → Value → Bool} {Q : Value → Shared → Prop} (O : Swo ltv) (ho : s.heap.get? l = some o) (hc : o.cls = .type "tuple") (hd : o.data = .seq vs.toArray n) (hz : vs.length ≤ sizeLine)
    (hS : 2 ≤ vs.length → ∀ (h₁ : Heap) (a : Addr), h₁.get? a = some (seqObj "list" vs.toArray 0) → (∀ b o, s.heap.get? b = some o → b ≠ a ∧ h₁.get? b = some o) → SortableO prog w A.in1.in1 { s with heap := h₁ } a vs ltv)
    (h : ∀ out : List Value, Srtd ltv out → Stb ltv out vs → Q (.ref (s.heap.objs.size + 1)) { s with heap := sortedAll s.heap vs out.toArray }) :
    wpAny (model prog w) A (call (.builtin "sorted") [.ref l]) Q E s := by
  refine Calls.call_function_entry kind_sorted plain_sorted entry_sorted (args_sorted1 _) ?_
  unfold Builtin.«sorted»
  refine wpAny_bind (m := checkCount "sorted" 1 1 _) (wpAny_pure ?_)
  refine wpAny_bind (collect_tup ho hc hd ?_ hz)
  refine wpAny_bind (wpAny_newList ?_ hz)
  have hsz : ((s.heap.push (seqObj "list" #[] 0)).update s.heap.objs.size (Obj.mapSeq (· ++ vs.toArray))).objs.size = s.heap.objs.size + 1 := by
    rw [Heap.size_update, size_push']
  have hoL : (((s.heap.push (seqObj "list" #[] 0)).update s.heap.objs.size (Obj.mapSeq (· ++ vs.toArray))).push (seqObj "list" vs.toArray 0)).get? (s.heap.objs.size + 1) = some (seqObj "list" vs.toArray 0) := by
    rw [← hsz]; exact Heap.get?_push_size _ rfl
  have keep : ∀ b o, s.heap.get? b = some o → b ≠ s.heap.objs.size + 1 ∧ (((s.heap.push (seqObj "list" #[] 0)).update s.heap.objs.size (Obj.mapSeq (· ++ vs.toArray))).push (seqObj "list" vs.toArray 0)).get? b = some o := fun b o q => by
    have hlt : b < s.heap.objs.size := Heap.lt_size q
    refine ⟨Nat.ne_of_lt (Nat.lt_succ_of_lt hlt), Heap.get?_push_of_some _ ?_⟩
    rw [Heap.get?_update_ne _ _ _ _ (Nat.ne_of_lt hlt)]
    exact Heap.get?_push_of_some _ q
  show wpAny _ _ _ _ _ { s with heap := ((s.heap.push (seqObj "list" #[] 0)).update s.heap.objs.size (Obj.mapSeq (· ++ vs.toArray))).push (seqObj "list" vs.toArray 0) }
  rw [hsz]
  refine wpAny_bind (wpAny_holding (wpAny_call_entry slot_list_sort ⟨_, hoL, rfl⟩ entry_list_sort (list_sort_ord O hoL hz (fun h2 => hS h2 _ _ hoL keep) fun out hs hb => ⟨_, rfl, ?_⟩) (args_list_sort _)))
  exact wpAny_pure ⟨_, rfl, h out hs hb⟩
end
section
variable {prog : Program} {w : World} {A : Around} {E : Value → Shared → Prop} {s : Shared}
theorem sorted_tupsT {l : Addr} {vs : List Value} {k : Value → List Int} {Q : Value → Shared → Prop} {o : Obj} {n : Nat} (ho : s.heap.get? l = some o) (hc : o.cls = .type "tuple") (hd : o.data = .seq vs.toArray n) (hz : vs.length ≤ sizeLine) (hp : ∀ v ∈ vs, TS.TupInts s.heap v (k v) ∧ k v ≠ [])
    (h : ∀ (h' : Heap) (d : Addr) (out : List Value), SrtO.Srtd (fun v u => lexI (k v) (k u)) out → SrtO.Stb (fun v u => lexI (k v) (k u)) out vs → (∀ b o, s.heap.get? b = some o → h'.get? b = some o) → s.heap.objs.size ≤ d → (∃ n, h'.get? d = some { cls := .type "list", data := .seq out.toArray n }) → Q (.ref d) { s with heap := h' }) :
    wpAny (model prog w) A (call (.builtin "sorted") [.ref l]) Q E s := by
  refine sorted_tup (ltv := fun v u => lexI (k v) (k u)) ⟨fun x y => lexI_asym (k x) (k y), fun x y z => lexI_tr (k x) (k y) (k z)⟩ ho hc hd hz (fun h2 h₁ a ha kk => ?_) fun out hs hb => ?_
  · refine tups_sortable (s := { s with heap := h₁ }) (by omega) (fun v hm => ⟨(hp v hm).1.keeps fun b o e _ => (kk b o e).2, (hp v hm).2⟩) fun o e => ?_
    have e' := e.symm.trans ha
    cases e'
    intro c
    exact absurd (Value.type.inj c) (by decide)
  · exact h _ _ out hs hb (fun b o e => PyProof.Rows.sortedAll_old e) (Nat.le_succ _) (PyProof.Rows.sortedAll_at s.heap vs out.toArray)
end
def rSrtTT (K : PySem.W.Frag) : List V → Hp → VK → Prop := fun vs H Q => ∃ (a : Addr) (xs : List V) (nss : List (List Int)), vs = [V.ref a] ∧ SqT K H a xs ∧ Paired (TupN K H) xs nss ∧
  ∀ ys p, Paired (TupN K H) ys (isortT nss) → H p = none → Q (.ref p) (upd H p (.lst ys))
def rSortedIT (K : PySem.W.Frag) : List V → Hp → VK → Prop := fun vs H Q => ∃ (a : Addr) (ns : List Int), vs = [V.ref a] ∧ SqT K H a (ns.map V.int) ∧
  ∀ (ns' : List Int) (p : Addr), ns'.Perm ns → ns'.Pairwise (· ≤ ·) → H p = none → Q (.ref p) (upd H p (.lst (ns'.map V.int)))
section
variable {X : Cx}
theorem cr_srtTT : CallR X (.builtin "sorted") (rSrtTT X.K) := by
  intro pins s σ H vs us Q I r h
  obtain ⟨a, xs, nss, rfl, hs, hp, q⟩ := h
  obtain ⟨its, rv, ⟨o, ho, hc, n0, hd0⟩, hz⟩ := I.tuple hs
  rw [Vals.ref1 r]
  obtain ⟨k, hk⟩ : ∃ k : Value → List Int, ∀ u ns, TS.TupInts s.heap u ns → k u = ns := by
    classical
    refine ⟨fun u => if h : ∃ ns, TS.TupInts s.heap u ns then h.choose else [], fun u ns h => ?_⟩
    have ex : ∃ ns, TS.TupInts s.heap u ns := ⟨ns, h⟩
    simp only [dif_pos ex]
    exact tupInts_inj ex.choose_spec h
  obtain ⟨e1, e2, e3⟩ := paired_k I hk hp rv
  refine sorted_tupsT (k := k) ho hc hd0 (by rw [← rv.length]; exact hz) (fun v hv => ?_) fun h' d out h1 h2 kp hd hn => ?_
  · obtain ⟨ns, t1, t2, t3, _⟩ := e3 v hv
    obtain ⟨t, _, _, ne⟩ := t1
    rw [t2]
    exact ⟨t3, ne⟩
  · have ho : ∀ u ∈ out, u ∈ its := fun u hu => h2.perm.mem_iff.mp hu
    have hm : out.map k = isortT nss := by
      rw [isortT_eq]
      obtain ⟨z1, z2⟩ := isort_ok lexI_swo nss
      refine SrtO.stb_uniq lexI_swo (SrtO.srtd_map h1) z1 ((SrtO.Stb.map lexI_swo k h2).trans ?_)
      rw [e1]
      exact ⟨z2.perm.symm, fun x => (z2.cls x).symm⟩
    have hb : ∀ u ∈ out, ∃ a, u = Value.ref a := fun u hu => by
      obtain ⟨_, _, _, _, z⟩ := e3 u (ho u hu)
      exact z
    obtain ⟨n, hn⟩ := hn
    refine ⟨.ref d, upd H d (.lst (out.map backV)), I.laid (t' := s.toks) kp hd ⟨?_, out, n, vals_back hb, hn⟩, rfl, q _ d ?_ (I.hok.fresh hd)⟩
    · rw [List.length_map, h2.perm.length_eq, ← rv.length]
      exact hz
    · rw [← hm]
      have : ∀ l : List Value, (∀ u ∈ l, u ∈ its) → Paired (TupN X.K H) (l.map backV) (l.map k) := by
        intro l
        induction l with
        | nil => intro _; exact .nil
        | cons u l ih =>
          intro hu
          obtain ⟨ns, t1, t2, _⟩ := e3 u (hu u List.mem_cons_self)
          exact .cons (by rw [t2]; exact t1) (ih fun v hv => hu v (List.mem_cons_of_mem _ hv))
      exact this out ho
theorem cr_sortedIT : CallR X (.builtin "sorted") (rSortedIT X.K) := by
  intro pins s σ H vs us Q I r h
  obtain ⟨a, ns, rfl, hs, q⟩ := h
  obtain ⟨its, rv, ⟨o, ho, hc, n0, hd0⟩, hz⟩ := I.tuple hs
  rw [Vals.ref1 r]
  have hi := rv.ints
  refine sorted_tup SrtO.swo_int ho hc hd0 (by rw [← rv.length]; exact hz) (fun h2 h₁ a' _ _ => SrtO.ints_sortable hi h2) fun out h1 h2 => ?_
  obtain ⟨k1, k2, k3⟩ := SrtO.ints_out hi h1 h2
  obtain ⟨ep, he'⟩ := PyProof.Rows.sortedAll_at s.heap its out.toArray
  have hlen : ((out.map SrtO.iv).map V.int).length ≤ sizeLine := by
    rw [List.length_map, k2.length_eq]
    rw [List.length_map] at hz
    exact hz
  exact ⟨.ref _, upd H (s.heap.objs.size + 1) (.lst ((out.map SrtO.iv).map V.int)), I.laid (t' := s.toks) (fun _ _ => PyProof.Rows.sortedAll_old) (Nat.le_succ _) ⟨hlen, out, ep, vals_of_ints k1, he'⟩, rfl, q _ _ k2 k3 (I.hok.fresh (Nat.le_succ _))⟩
end
end EV
end

section
set_option Elab.async false
set_option linter.all false
set_option maxRecDepth 100000
namespace EV
open PySem L2
theorem intsOf_some : ∀ {xs : List D} {ns : List Int}, intsOf xs = some ns → xs = ns.map .int
  | [], ns, h => by
    simp [intsOf] at h
    subst h
    rfl
  | .int i :: r, ns, h => by
    cases c : intsOf r with
    | none => simp [intsOf, c] at h
    | some ms =>
      simp [intsOf, c] at h
      subst h
      rw [intsOf_some c]
      rfl
  | .none :: r, ns, h => by simp [intsOf] at h
  | .bool _ :: r, ns, h => by simp [intsOf] at h
  | .str _ :: r, ns, h => by simp [intsOf] at h
  | .list _ :: r, ns, h => by simp [intsOf] at h
  | .tuple _ :: r, ns, h => by simp [intsOf] at h
  | .dict _ :: r, ns, h => by simp [intsOf] at h
theorem tupsOf_some : ∀ {xs : List D} {nss : List (List Int)}, tupsOf xs = some nss → xs = nss.map tupD ∧ ∀ ns ∈ nss, ns ≠ []
  | [], nss, h => by
    simp [tupsOf] at h
    subst h
    exact ⟨rfl, fun ns q => by simp at q⟩
  | .tuple ys :: r, nss, h => by
    simp only [tupsOf] at h
    cases c : intsOf ys with
    | none => simp [c] at h
    | some ns =>
      cases ns with
      | nil => simp [c] at h
      | cons i ns =>
        cases c2 : tupsOf r with
        | none => simp [c, c2] at h
        | some mss =>
          simp [c, c2] at h
          subst h
          obtain ⟨e1, e2⟩ := tupsOf_some c2
          refine ⟨?_, fun ms q => ?_⟩
          · rw [List.map_cons, ← e1, intsOf_some c]
            rfl
          · rcases List.mem_cons.mp q with z | z
            · rw [z]
              simp
            · exact e2 ms z
  | .none :: r, nss, h => by simp [tupsOf] at h
  | .bool _ :: r, nss, h => by simp [tupsOf] at h
  | .str _ :: r, nss, h => by simp [tupsOf] at h
  | .list _ :: r, nss, h => by simp [tupsOf] at h
  | .int _ :: r, nss, h => by simp [tupsOf] at h
  | .dict _ :: r, nss, h => by simp [tupsOf] at h
section
variable {K : PySem.W.Frag} {H : Hp} {M : Addr → Prop} {η : List Addr}
theorem rv_ints : ∀ ns : List Int, RVs K H M (ns.map V.int) (ns.map .int)
  | [] => .nil
  | i :: r => .cons (.int i) (rv_ints r)
theorem dp_tups : ∀ {xs : List V} {nss : List (List Int)}, DpAll K H xs (nss.map tupD) → (∀ ns ∈ nss, ns ≠ []) → Paired (TupN K H) xs nss
  | _, [], .nil, _ => .nil
  | _, ns :: nss, .cons p q, h => by
    refine .cons ?_ (dp_tups q fun ms z => h ms (List.mem_cons_of_mem _ z))
    have hn := h ns List.mem_cons_self
    unfold tupD at p
    cases p with
    | tup t d =>
      rw [dp_ints d] at t
      exact ⟨_, rfl, t, hn⟩
theorem tups_rws : ∀ {xs : List V} {nss : List (List Int)}, Paired (TupN K H) xs nss → RWs K H M η xs (dsW (nss.map tupD))
  | _, _, .nil => .nil
  | _, _, .cons ⟨t, e, s, _⟩ q => by
    subst e
    exact .cons (show RV K H M _ _ from .tup s (rv_ints _)) (tups_rws q)
end
section
variable {X : Cx} {S : Sc} {J : JT} {W : WX} {C : Cv} {a b c e : Expr} {ma mb mc me : SE} {pos p p2 p3 : Pos}
theorem srt_core {m : Bool} {Q : VK} {Z : Addr → Prop} {η : List Addr} {h : Hs} {H : Hp} {v : V} {ds ys : List D} (R : HR S X.K Z η h H) (hv : ∃ a xs, v = .ref a ∧ SqL X.K H a xs ∧ DpAll X.K H xs ds) (e : sortE ds = some ys) (k : KG S X.K J W Z η h H (VP X.K Z Q) (if Nat.ble (dsW ys).length lim then retN m (dsW ys) h else .no)) :
    rSortedI X.K [v] H Q ∨ rSrtT X.K [v] H Q := by
  obtain ⟨a, xs, rfl, s, d⟩ := hv
  unfold sortE at e
  split at e
  · cases c : intsOf ds with
    | some ns =>
      rw [c] at e
      cases e
      rw [intsOf_some c] at d
      rw [dp_ints d] at s
      refine .inl ⟨a, ns, rfl, s, fun ns' p pm pw hp => ?_⟩
      rw [sorted_isortI pm pw]
      exact (new_ok R k (rvs_dsW (rv_ints _))).2 p hp
    | none =>
      rw [c] at e
      cases c2 : tupsOf ds with
      | none => rw [c2] at e; cases e
      | some nss =>
        rw [c2] at e
        cases e
        obtain ⟨e1, e2⟩ := tupsOf_some c2
        rw [e1] at d
        exact .inr ⟨a, xs, nss, rfl, s, dp_tups d e2, fun ys p hy hp => (new_ok R k (tups_rws hy)).2 p hp⟩
  · cases e
theorem srt_coreT {m : Bool} {Q : VK} {Z : Addr → Prop} {η : List Addr} {h : Hs} {H : Hp} {v : V} {ds ys : List D} (R : HR S X.K Z η h H) (hv : ∃ a xs, v = .ref a ∧ SqT X.K H a xs ∧ DpAll X.K H xs ds) (e : sortE ds = some ys) (k : KG S X.K J W Z η h H (VP X.K Z Q) (if Nat.ble (dsW ys).length lim then retN m (dsW ys) h else .no)) :
    rSortedIT X.K [v] H Q ∨ rSrtTT X.K [v] H Q := by
  obtain ⟨a, xs, rfl, s, d⟩ := hv
  unfold sortE at e
  split at e
  · cases c : intsOf ds with
    | some ns =>
      rw [c] at e
      cases e
      rw [intsOf_some c] at d
      rw [dp_ints d] at s
      refine .inl ⟨a, ns, rfl, s, fun ns' p pm pw hp => ?_⟩
      rw [sorted_isortI pm pw]
      exact (new_ok R k (rvs_dsW (rv_ints _))).2 p hp
    | none =>
      rw [c] at e
      cases c2 : tupsOf ds with
      | none => rw [c2] at e; cases e
      | some nss =>
        rw [c2] at e
        cases e
        obtain ⟨e1, e2⟩ := tupsOf_some c2
        rw [e1] at d
        exact .inr ⟨a, xs, nss, rfl, s, dp_tups d e2, fun ys p hy hp => (new_ok R k (tups_rws hy)).2 p hp⟩
  · cases e
theorem snap_tpl {Z : Addr → Prop} {η : List Addr} {h : Hs} {H : Hp} {v : V} {w : EV.W} {ds : List D} {K : PySem.W.Frag} (R : HR S K Z η h H) (r : RW K H (MM Z η h) η v w) (e : snap h w = some (.tuple ds)) (n : noDAll ds = true) : ∃ a xs, v = .ref a ∧ SqT K H a xs ∧ DpAll K H xs ds := by
  obtain ⟨d, _⟩ := snap_dp R r e (by simpa [noD] using n)
  cases d with
  | tup s q => exact ⟨_, _, rfl, s, q⟩
theorem noD_tups : ∀ nss : List (List Int), noDAll (nss.map tupD) = true
  | [] => rfl
  | b :: r => by simp [noDAll, noD, tupD, noD_ints, noD_tups r]
theorem sortE_noD {ds ys : List D} (e : sortE ds = some ys) : noDAll ds = true := by
  unfold sortE at e
  split at e
  · split at e
    · rename_i ns c
      rw [intsOf_some c]
      exact noD_ints ns
    · split at e
      · rename_i nss c
        rw [(tupsOf_some c).1]
        exact noD_tups nss
      · cases e
  · cases e
theorem s_srt {m : Bool} (x : Xk S X J W) (hc : X.calm = true) (hg : Gl X "sorted") (hm : X.mg "sorted" = none) (ha : SPE S X J W C a ma) (hs : starEach [a] X.env = (false, eval a X.env) :: starEach [] X.env := by rfl) : SPE S X J W C (.Call (.Name "sorted" p) [a] [] pos) (cNew m (lSrt ma)) :=
  PE.conseq (pe_callB ((cr_sortedI.or cr_srtT).or (cr_sortedIT.or cr_srtTT)) hg hm (by decide +kernel) (a_one x ha a_nil hs) (by decide) (by decide) hs) fun σ H Q ⟨Z, η, ρ, h, A, k⟩ => by
    unfold cNew lSrt at k
    rw [then_assoc] at k
    refine ⟨Z, η, ρ, h, A, kg_one A.hr k fun w h1 η1 H1 f1 R1 k1 vs r1 => ?_⟩
    obtain ⟨v, rfl, r⟩ := rws_one r1
    cases c : snap h1 w with
    | none => simp only [c] at k1; exact k1.elim
    | some y =>
      simp only [c] at k1
      cases y with
      | list ds =>
        cases c2 : sortE ds with
        | none => simp only [srtE, c2] at k1; exact k1.elim
        | some ys =>
          simp only [srtE, c2, Re.then] at k1
          exact .inl (srt_core R1 (snap_lst R1 r c (sortE_noD c2)) c2 k1)
      | tuple ds =>
        cases c2 : sortE ds with
        | none => simp only [srtE, c2] at k1; exact k1.elim
        | some ys =>
          simp only [srtE, c2, Re.then] at k1
          exact .inr (srt_coreT R1 (snap_tpl R1 r c (sortE_noD c2)) c2 k1)
      | _ => exact k1.elim
end
end EV
end

section
set_option Elab.async false
set_option linter.all false
set_option maxRecDepth 100000
namespace EV
open PySem PySem.Spec PyProof.Rows L2
theorem perm_lift {α β : Type} {f : α → β} {out m : List β} (p : out.Perm m) : ∀ {L : List α}, m = L.map f → ∃ L' : List α, L'.Perm L ∧ out = L'.map f := by
  induction p with
  | nil =>
    intro L e
    cases L with
    | nil => exact ⟨[], List.Perm.refl _, rfl⟩
    | cons a b => cases e
  | cons x _ ih =>
    intro L e
    cases L with
    | nil => cases e
    | cons a b =>
      cases e
      obtain ⟨L', p, e⟩ := ih rfl
      exact ⟨a :: L', p.cons a, by rw [e]; rfl⟩
  | swap x y l =>
    intro L e
    cases L with
    | nil => cases e
    | cons a b =>
      cases b with
      | nil => cases e
      | cons b c =>
        cases e
        exact ⟨b :: a :: c, List.Perm.swap _ _ _, rfl⟩
  | trans _ _ ih1 ih2 =>
    intro L e
    obtain ⟨L1, p1, e1⟩ := ih2 e
    obtain ⟨L2, p2, e2⟩ := ih1 e1
    exact ⟨L2, p2.trans p1, e2⟩
section
variable {P : Program} {w : World} {A : Around} {E : Value → Shared → Prop} {s : Shared}
theorem sorted_setG {a : Addr} {L : List (Addr × List Int)} {es : Array (Int × Value)} {ep : Nat} {t : SetTable} {Q : Value → Shared → Prop} (R : SetTR P w s.heap a L es ep t) (hh : A.handled = none) (hne : ∀ p ∈ L, p.2 ≠ [])
    (hQ : ∀ s' p (out : Array Value) (c : Nat) (L' : List (Addr × List Int)), (∀ b o, s.heap.get? b = some o → s'.heap.get? b = some o) → s'.gens = s.gens → s'.os = s.os → s.heap.objs.size ≤ p →
      s'.heap.get? p = some (seqObj "list" out c) → out.toList = L'.map (fun q => Value.ref q.1) → L'.Perm L → L'.Pairwise (fun q r => lexI r.2 q.2 = false) → Q (.ref p) s') :
    wpAny (model P w) A (call (.builtin "sorted") [.ref a]) Q E s := by
  obtain ⟨o, ho, hex, hd⟩ := R.ob
  have h1 := R.size
  have h2 := R.few
  refine Calls.call_function_entry kind_sorted plain_sorted entry_sorted (args_sorted1 _) ?_
  unfold Builtin.«sorted»
  refine wpAny_bind (m := checkCount "sorted" 1 1 _) (wpAny_pure ?_)
  refine wpAny_bind (collect_set (A := A.in1) hh ⟨o, ho, hex.1, hd⟩ R.fits (by unfold scanBound; omega)
    R.tab.ris R.led fun s1 vs k1 hz g1 o1 pm => ?_)
  have hes : es.toList.map (·.2) = L.map fun q => Value.ref q.1 := by
    rw [R.rows, rowsOf, List.map_map]
    rfl
  rw [hes] at pm
  have hvl : vs.length < 64 := by
    have := pm.length_eq
    rw [List.length_map] at this
    omega
  refine wpAny_bind (wpAny_newList ?_ (by rw [sizeLine_eq]; omega))
  have hoL : (s1.heap.push (seqObj "list" vs.toArray 0)).get? s1.heap.objs.size = some (seqObj "list" vs.toArray 0) := Heap.get?_push_size _ rfl
  have tk : ∀ q ∈ L, TS.TupInts (s1.heap.push (seqObj "list" vs.toArray 0)) (.ref q.1) q.2 := fun q hq =>
    tupInts_of (P := P) (w := w) (isT_keep (R.tup q hq) fun b u e => Heap.get?_push_of_some _ (k1 b u e))
  obtain ⟨k, hk⟩ : ∃ k : Value → List Int, ∀ u ns, TS.TupInts (s1.heap.push (seqObj "list" vs.toArray 0)) u ns → k u = ns := by
    classical
    refine ⟨fun u => if h : ∃ ns, TS.TupInts (s1.heap.push (seqObj "list" vs.toArray 0)) u ns then h.choose else [], fun u ns h => ?_⟩
    have ex : ∃ ns, TS.TupInts (s1.heap.push (seqObj "list" vs.toArray 0)) u ns := ⟨ns, h⟩
    simp only [dif_pos ex]
    exact tupInts_inj ex.choose_spec h
  have hp : ∀ v ∈ vs, TS.TupInts (s1.heap.push (seqObj "list" vs.toArray 0)) v (k v) ∧ k v ≠ [] := fun v hv => by
    obtain ⟨q, hq, e⟩ := List.mem_map.mp (pm.mem_iff.mp hv)
    rw [← e, hk _ _ (tk q hq)]
    exact ⟨tk q hq, hne q hq⟩
  have O : SrtO.Swo fun v u => lexI (k v) (k u) := ⟨fun x y => lexI_asym (k x) (k y), fun x y z => lexI_tr (k x) (k y) (k z)⟩
  refine wpAny_bind (wpAny_holding (wpAny_call_entry (s := { s1 with heap := s1.heap.push (seqObj "list" vs.toArray 0) }) slot_list_sort ⟨_, hoL, rfl⟩ entry_list_sort
    (SrtO.list_sort_ord O hoL (by rw [sizeLine_eq]; omega) (fun g2 => tups_sortable (by omega) hp fun o e => ?_) fun out hs hb => ⟨_, rfl, ?_⟩) (args_list_sort _)))
  · have e' := e.symm.trans hoL
    cases e'
    intro c
    exact absurd (Value.type.inj c) (by decide)
  · obtain ⟨c, hc⟩ := sortedHeap_at (vs := vs) (out := out.toArray) hoL
    obtain ⟨L', pL, eL⟩ := perm_lift (hb.perm.trans pm) rfl
    have pw : L'.Pairwise (fun q r => lexI r.2 q.2 = false) := by
      rw [eL] at hs
      refine List.Pairwise.imp_of_mem (fun {q r} hq hr hle => ?_) (List.pairwise_map.mp hs)
      have g : lexI (k (.ref r.1)) (k (.ref q.1)) = false := hle
      rw [hk _ _ (tk q (pL.mem_iff.mp hq)), hk _ _ (tk r (pL.mem_iff.mp hr))] at g
      exact g
    refine wpAny_pure ⟨_, rfl, hQ _ s1.heap.objs.size out.toArray c L' (fun b u e => ?_) g1 o1 hz hc (by simpa using eL) pL pw⟩
    have q := k1 b u e
    have hlt := Heap.lt_size q
    show (sortedHeap (s1.heap.push (seqObj "list" vs.toArray 0)) s1.heap.objs.size vs out.toArray).get? b = some u
    rw [sortedHeap_old (Nat.ne_of_lt hlt) (by rw [size_push']; exact Nat.lt_succ_of_lt hlt)]
    exact Heap.get?_push_of_some _ q
end
def rSortedTG (K : PySem.W.Frag) (P : Program) (w : World) : List V → Hp → VK → Prop := fun vs H Q => ∃ (a : Addr) (L : List (Addr × List Int)), vs = [V.ref a] ∧ H a = some (SetTO P w a L) ∧ (∀ p ∈ L, SqT K H p.1 (p.2.map V.int)) ∧ (∀ p ∈ L, p.2 ≠ []) ∧
  ∀ (L' : List (Addr × List Int)) (p : Addr), L'.Perm L → (L'.map (·.2)).Nodup → L'.Pairwise (fun q r => lexI r.2 q.2 = false) → H p = none → Q (.ref p) (upd H p (.lst (L'.map fun q => V.ref q.1)))
section
variable {X : Cx}
theorem cr_sortedTG (hc : X.calm = true) : CallR X (.builtin "sorted") (rSortedTG X.K X.prog X.w) := by
  intro pins s σ H vs us Q I r h
  obtain ⟨a, L, rfl, ha, hk, hne, q⟩ := h
  have R0 : SetT0 X.prog X.w s.heap a L := (I.hok a _ ha).1
  obtain ⟨es, ep, t, R⟩ := R0.full fun p hp => I.isT (hk p hp)
  rw [Vals.ref1 r]
  refine sorted_setG R (I.ok.hd hc) hne fun s' p out c L' k g o hp hg hout pm pw => ?_
  have hn : H p = none := I.hok.fresh hp
  have hlen : (L'.map fun q => V.ref q.1).length ≤ sizeLine := by
    have := R.few
    have := pm.length_eq
    rw [List.length_map, sizeLine_eq]
    omega
  have hv : Vals (L'.map fun q => V.ref q.1) out.toList := by
    rw [hout]
    exact vals_of_refs L'
  have J : Inv X pins σ (upd H p (.lst (L'.map fun q => V.ref q.1))) { s with heap := s'.heap, gens := s'.gens, drawn := s'.drawn, toks := s'.toks } :=
    I.call (ch := []) (Un.laid k hp hn) (I.hok.laid k hp ⟨hlen, out.toList, c, hv, hg⟩) (by rw [g]; exact I.bare)
      (fun _ z => nomatch z)
  have e : s' = { s with heap := s'.heap, gens := s'.gens, drawn := s'.drawn, toks := s'.toks } := by
    obtain ⟨_, _, _, _, _⟩ := s'
    obtain ⟨_, _, _, _, _⟩ := s
    cases o
    rfl
  rw [e]
  exact ⟨.ref p, _, J, rfl, q L' p pm ((pm.map (·.2)).nodup_iff.mpr R.nd) pw hn⟩
end
/-! ### without doubles -/
theorem lexI_irr : ∀ x : List Int, lexI x x = false
  | [] => rfl
  | a :: as => by
    simp only [lexI, ieq_iff, decide_eq_true_eq, if_true]
    exact lexI_irr as
theorem lexI_tot : ∀ x y : List Int, lexI x y = false → lexI y x = false → x = y
  | [], [], _, _ => rfl
  | [], _ :: _, h, _ => by cases h
  | _ :: _, [], _, h => by cases h
  | a :: as, b :: bs, h1, h2 => by
    simp only [lexI, ieq_iff, ilt_iff, decide_eq_true_eq] at h1 h2
    split at h1
    · rename_i e
      rw [if_pos e.symm] at h2
      rw [e, lexI_tot as bs h1 h2]
    · rename_i e
      rw [if_neg fun q => e q.symm] at h2
      simp at h1 h2
      omega
abbrev Strict (l : List (List Int)) : Prop := l.Pairwise fun x y => lexI x y = true
theorem strict_uniq : ∀ {l m : List (List Int)}, Strict l → Strict m → (∀ x, x ∈ l ↔ x ∈ m) → l = m
  | [], [], _, _, _ => rfl
  | [], y :: m, _, _, h => absurd ((h y).mpr List.mem_cons_self) (by simp)
  | x :: l, [], _, _, h => absurd ((h x).mp List.mem_cons_self) (by simp)
  | x :: l, y :: m, h1, h2, h => by
    obtain ⟨a1, a2⟩ := List.pairwise_cons.mp h1
    obtain ⟨b1, b2⟩ := List.pairwise_cons.mp h2
    have e : x = y := by
      rcases List.mem_cons.mp ((h x).mp List.mem_cons_self) with q | q
      · exact q
      · rcases List.mem_cons.mp ((h y).mpr List.mem_cons_self) with q' | q'
        · exact q'.symm
        · have z1 := b1 x q
          have z2 := lexI_asym _ _ (a1 y q')
          rw [z1] at z2
          cases z2
    subst e
    refine congrArg _ (strict_uniq a2 b2 fun z => ⟨fun hz => ?_, fun hz => ?_⟩)
    · rcases List.mem_cons.mp ((h z).mp (List.mem_cons_of_mem _ hz)) with q | q
      · have := a1 z hz
        rw [q, lexI_irr] at this
        cases this
      · exact q
    · rcases List.mem_cons.mp ((h z).mpr (List.mem_cons_of_mem _ hz)) with q | q
      · have := b1 z hz
        rw [q, lexI_irr] at this
        cases this
      · exact q
theorem strict_of {l : List (List Int)} (h : SrtO.Srtd lexI l) (n : l.Nodup) : Strict l := by
  refine (h.and n).imp fun {a b} q => ?_
  cases c : lexI a b with
  | true => rfl
  | false => exact absurd (lexI_tot a b c q.1) q.2
theorem ddT_ok : ∀ {l : List (List Int)}, SrtO.Srtd lexI l → Strict (ddT l) ∧ ∀ x, x ∈ ddT l ↔ x ∈ l
  | [], _ => ⟨List.Pairwise.nil, fun x => Iff.rfl⟩
  | [a], _ => ⟨List.pairwise_singleton _ _, fun x => Iff.rfl⟩
  | a :: b :: r, h => by
    obtain ⟨h1, h2⟩ := List.pairwise_cons.mp h
    obtain ⟨i1, i2⟩ := ddT_ok h2
    cases c : lexI a b with
    | true =>
      have e : ddT (a :: b :: r) = a :: ddT (b :: r) := by
        rw [ddT]
        simp only [c, if_true]
      rw [e]
      refine ⟨List.pairwise_cons.mpr ⟨fun z hz => ?_, i1⟩, fun x => by rw [List.mem_cons, i2, List.mem_cons (b := a)]⟩
      have hz' := (i2 z).mp hz
      cases cz : lexI a z with
      | true => rfl
      | false =>
        have ez := lexI_tot a z cz (h1 z hz')
        subst ez
        rcases List.mem_cons.mp hz' with q | q
        · rw [q, lexI_irr] at c
          cases c
        · have := (List.pairwise_cons.mp h2).1 a q
          rw [c] at this
          cases this
    | false =>
      have e : ddT (a :: b :: r) = ddT (b :: r) := by
        rw [ddT]
        simp only [c]
        rfl
      have eab := lexI_tot a b c (h1 b List.mem_cons_self)
      rw [e]
      refine ⟨i1, fun x => ?_⟩
      rw [i2, List.mem_cons (b := a)]
      constructor
      · exact .inr
      · rintro (q | q)
        · rw [q, eab]
          exact List.mem_cons_self
        · exact q
end EV
end

section
set_option Elab.async false
set_option linter.all false
set_option maxRecDepth 100000
namespace EV
open PySem PySem.Spec PyProof.Rows L2
section
variable {X : Cx} {S : Sc} {J : JT} {W : WX} {C : Cv} {a b c e : Expr} {ma mb mc me : SE} {pos p p2 p3 : Pos}
theorem tupN_keys {K : PySem.W.Frag} {H : Hp} : ∀ {xs : List V} {nss : List (List Int)}, Paired (TupN K H) xs nss → ∃ ks : List (Addr × List Int), xs = ks.map (fun p => V.ref p.1) ∧ nss = ks.map (·.2) ∧ ∀ p ∈ ks, SqT K H p.1 (p.2.map V.int) ∧ p.2 ≠ []
  | _, _, .nil => ⟨[], rfl, rfl, fun p q => by simp at q⟩
  | _, _, .cons (b := ns) ⟨t, e, s, n⟩ q => by
    obtain ⟨ks, e1, e2, h⟩ := tupN_keys q
    refine ⟨(t, ns) :: ks, by rw [List.map_cons, ← e1, e], by rw [List.map_cons, ← e2], fun p hp => ?_⟩
    rcases List.mem_cons.mp hp with z | z
    · rw [z]
      exact ⟨s, n⟩
    · exact h p z
theorem s_srtSet (x : Xk S X J W) (hc : X.calm = true) (hg : Gl X "sorted") (hm : X.mg "sorted" = none) (hg2 : Gl X "set") (hm2 : X.mg "set" = none) (ha : SPE S X J W C a ma) (hs : starEach [a] X.env = (false, eval a X.env) :: starEach [] X.env := by rfl)
    (hs2 : starEach [.Call (.Name "set" p2) [a] [] p3] X.env = (false, eval (.Call (.Name "set" p2) [a] [] p3) X.env) :: starEach [] X.env := by rfl) : SPE S X J W C (.Call (.Name "sorted" p) [.Call (.Name "set" p2) [a] [] p3] [] pos) (cSrtSet ma) := by
  have hu : X.A.units + 64 < cLine := by
    have := x.un
    omega
  refine PE.conseq (pe_callB (cr_sortedTG hc) hg hm (by decide +kernel) (pa_cons (pe_callTy (cr_setOfT hc hu) hg2 hm2 (by decide +kernel) (a_one x ha a_nil hs) (by decide) (by decide) hs) pa_nil hs2) (by decide) (by decide) hs2) fun σ H Q ⟨Z, η, ρ, h, A, k⟩ => ⟨Z, η, ρ, h, A, kg_one A.hr k fun w h1 η1 H1 f1 R1 k1 vs r1 => ?_⟩
  obtain ⟨v, rfl, r⟩ := rws_one r1
  cases c : snap h1 w with
  | none => simp only [c] at k1; exact k1.elim
  | some y =>
    simp only [c] at k1
    cases y with
    | list ds =>
      cases c2 : tupsOf ds with
      | none => simp only [setE, c2] at k1; exact k1.elim
      | some nss =>
        simp only [setE, c2] at k1
        split at k1
        · rename_i g
          rw [Nat.ble_eq] at g
          obtain ⟨l, xs, rfl, s, d⟩ := snap_lst R1 r c (by rw [(tupsOf_some c2).1]; exact noD_tups nss)
          obtain ⟨e1, e2⟩ := tupsOf_some c2
          rw [e1] at d
          obtain ⟨ks, ex, en, hk⟩ := tupN_keys (dp_tups d e2)
          subst ex
          have hl : ks.length < 64 := by
            have := congrArg List.length en
            rw [List.length_map] at this
            omega
          refine ⟨l, ks, rfl, s, fun p hp => (hk p hp).1, hl, fun b L hb hL1 hL2 => ?_⟩
          have R2 := R1.alloc hb (SetTO X.prog X.w b L)
          have f2 : FR η1 h1 H1 η1 h1 (upd H1 b (SetTO X.prog X.w b L)) := FR.alloc hb _
          refine ⟨b, L, rfl, upd_same, fun p hp => f2.toFR0.tup R1 _ _ (hk p (hL1 p hp)).1, fun p hp => (hk p (hL1 p hp)).2, fun L' q pm nd srt hq => ?_⟩
          have R3 := R2.alloc hq (.lst (L'.map fun q => V.ref q.1))
          have f3 : FR η1 h1 (upd H1 b (SetTO X.prog X.w b L)) η1 h1 (upd (upd H1 b (SetTO X.prog X.w b L)) q (.lst (L'.map fun q => V.ref q.1))) := FR.alloc hq _
          have hM : L'.map (·.2) = ddT (isortT nss) := by
            obtain ⟨z1, z2⟩ := isort_ok lexI_swo nss
            rw [isortT_eq]
            obtain ⟨z3, z4⟩ := ddT_ok z1
            refine strict_uniq (strict_of (List.pairwise_map.mpr srt) nd) z3 fun ms => ?_
            rw [z4, z2.perm.mem_iff, en]
            constructor
            · intro hm
              obtain ⟨p, hp, e⟩ := List.mem_map.mp hm
              exact List.mem_map.mpr ⟨p, hL1 p (pm.mem_iff.mp hp), e⟩
            · intro hm
              obtain ⟨p, hp, e⟩ := List.mem_map.mp hm
              obtain ⟨p', hp', e'⟩ := List.mem_map.mp (hL2 p hp)
              exact List.mem_map.mpr ⟨p', pm.mem_iff.mpr hp', e'.trans e⟩
          have k2 : KG S X.K J W Z η1 h1 H1 (VP X.K Z Q) (.ok (.d (.list ((ddT (isortT nss)).map tupD))) h1) := k1
          have nM : ¬ MM Z η1 h1 q := fun m => by
            obtain ⟨us, e⟩ := R2.mmK m
            rw [hq] at e
            cases e
          have hkeys : ∀ p ∈ L', SqT X.K (upd (upd H1 b (SetTO X.prog X.w b L)) q (.lst (L'.map fun q => V.ref q.1))) p.1 (p.2.map V.int) := fun p hp =>
            f3.toFR0.tup R2 _ _ (f2.toFR0.tup R1 _ _ (hk p (hL1 p (pm.mem_iff.mp hp))).1)
          refine k2 η1 _ (f2.trans f3 R1) R3 _ (.lst (.inl upd_same) nM ?_)
          rw [← hM]
          generalize upd (upd H1 b (SetTO X.prog X.w b L)) q (.lst (L'.map fun q => V.ref q.1)) = H5 at hkeys
          clear hM pm nd srt R3 f3 k2
          induction L' with
          | nil => exact .nil
          | cons p L' ih => exact .cons (.tup (hkeys p List.mem_cons_self) (rv_ints _)) (ih fun p' hp' => hkeys p' (List.mem_cons_of_mem _ hp'))
        · exact k1.elim
    | _ => exact k1.elim
end
end EV
end

section
set_option Elab.async false
set_option linter.all false
set_option maxRecDepth 100000
namespace EV
open PySem PySem.Spec PyProof.Rows L2
/-- the law's def at the head: the script is a list of ints that nobody changes -/
theorem law_callG {P : Program} {w : World} {K : PySem.W.Frag} {mg mb : Str → Option Value} {k j : Nat} {fa a : Addr} {S : Sc} {pg : Pg} {s₁ : Shared} {vs : List Value} {ns : List Int} {h2 : Hs}
    (KX : K.In s₁.heap) (hns : s₁.heap.Ns mainGlobals mg) (hb : s₁.heap.Ns builtinsNs mb) (hbb : ∀ x : Str, x ≠ "__name__" → mb x = bootBuiltins x) (hlim : s₁.heap.NoLimit) (hg : s₁.gens = #[])
    (ha : s₁.heap.get? a = some { cls := .type "list", data := .seq vs.toArray }) (hi : IntsAre vs ns) (hl : ns.length ≤ sizeLine) (hr : Room (3 * k) callerA)
    (F : ∀ base : Heap, K.In base → base.Ns mainGlobals mg → FnG P w K mg base (L2.CX P w) (3 * k) fa (spI S K pg k j)) (hT : S.T = [])
    (run : runF pg k j [.d (.list (ns.map .int))] [] = .ok (.d (.bool true)) h2) :
    codeAny (model P w) callerA (.call (.ref fa) ⟨[.ref a], []⟩) (fun r s' => r = .ok (.ret (.bool true)) ∧ OldK s₁.heap s'.heap ∧ s'.os = s₁.os ∧ AllBare s'.gens) s₁ := by
  have rv := vals_ints hi
  have lenV := hi.length
  have rvI : ∀ {H : Hp} {M : Addr → Prop} (ns : List Int), RVs K H M (ns.map V.int) (ns.map .int) := by
    intro H M ns
    induction ns with
    | nil => exact .nil
    | cons i r ih => exact .cons (.int i) ih
  have core : ∀ H : Hp, (∀ b, H b = none ∨ (b = a ∧ ∃ o xs, H b = some (.frz o (.lst xs)))) → HOk P w H s₁.heap → (H a ≠ none → K.lookup a = none) → RV K H (fun _ => False) (.ref a) (.list (ns.map .int)) →
      codeAny (model P w) callerA (.call (.ref fa) ⟨[.ref a], []⟩) (fun r s' => r = .ok (.ret (.bool true)) ∧ OldK s₁.heap s'.heap ∧ s'.os = s₁.os ∧ AllBare s'.gens) s₁ := by
    intro H hO hok hK hrv
    have isA : ∀ b, H b ≠ none → b = a := fun b z => (hO b).elim (fun q => absurd q z) fun q => q.1
    have noA : ∀ {b : Addr} {o : Obj} {es : Array DictEntry} {ep : Nat}, s₁.heap.get? b = some o → o.data = .dict es ep → H b = none := fun {b o es ep} e d => by
      cases q : H b with
      | none => rfl
      | some u =>
        have eb := isA b (by simp [q])
        rw [eb, ha] at e
        cases e
        cases d
    have nsK : ∀ {b : Addr} {m : Str → Option Value}, s₁.heap.Ns b m → (hidT s₁.heap H).Ns b m := fun {b m} ⟨o, es, ep, e, d, r⟩ => ⟨o, es, ep, hidT_get e (noA e d), d, r⟩
    have kb : K.In (hidT s₁.heap H) := fun b o e => hidT_get (KX b o e) (by
      cases q : H b with
      | none => rfl
      | some u =>
        have eb := isA b (by simp [q])
        subst eb
        rw [hK (by simp [q])] at e
        cases e)
    have hM : Mod K mg (hidT s₁.heap H) := ⟨kb, nsK hns, ⟨mb, nsK hb, hbb⟩, by
      obtain ⟨mc, h1, h2⟩ := hlim
      exact ⟨mc, nsK h1, h2⟩⟩
    have e0 : Env0 P w K mg (hidT s₁.heap H) callerA [] s₁ H :=
      ⟨rfl, hM, fun b o e => of_hidT e, Nat.le_of_eq (hidT_size _ _), trivial, fun b z => absurd (show b ∈ ([] : List Addr) from z) (by simp), hok, .of_eq hg⟩
    have hR : HR S K (fun _ => False) [] [] H := ⟨rfl, List.nodup_nil, fun n b o e => by simp at e, fun b z => z.elim, fun b z => z.elim, by
      intro p hp
      rw [hT] at hp
      cases hp⟩
    have sp : spI S K pg k j [V.ref a] H (fun v _ => v = .bl true) (fun _ _ _ => False) := by
      refine ⟨fun _ => False, [], [], [.d (.list (ns.map .int))], hR, .cons (RV.less (fun b m => ?_) hrv) .nil, ?_⟩
      · rcases m with m | ⟨n, e, _⟩
        · exact m
        · simp at e
      · rw [run]
        intro η' H' f R' v r
        cases r
        rfl
    refine codeAny_mono (F _ kb (nsK hns) callerA [] s₁ H [.ref a] [.ref a] _ _ rfl hr e0 (.cons rfl .nil) sp) fun r s' hq => ?_
    cases r with
    | error e =>
      obtain ⟨_, _, _, _, _, _, _, _, _, _, _, _, z⟩ := hq
      exact z.elim
    | ok fl =>
      cases fl with
      | next => exact hq.elim
      | brk => exact hq.elim
      | cont => exact hq.elim
      | ret u =>
        obtain ⟨v, H', os, bare, un, hok', r', q⟩ := hq
        obtain rfl : v = .bl true := q
        obtain rfl : u = Value.bool true := r'
        refine ⟨rfl, OldK.of_keep fun b o e => ?_, os, bare⟩
        rcases hO b with q | ⟨_, ob, xs, z⟩
        · exact un.keep b o e q (fun z => absurd (show b ∈ ([] : List Addr) from z) (by simp)) (by simp)
        · have z2 := un.frzs b ob _ z
          obtain ⟨e1, _⟩ := hok b _ z
          obtain ⟨e2, _⟩ := hok' b _ z2
          rw [e] at e1
          cases e1
          exact e2
  have hz : (ns.map V.int).length ≤ sizeLine := by rw [List.length_map]; exact hl
  cases hk : K.lookup a with
  | some o =>
    have e := KX a o hk
    rw [ha] at e
    cases e
    exact core (fun _ => none) (fun _ => .inl rfl) (fun b u z => nomatch (show (none : Option HO) = some u from z)) (fun z => absurd rfl z) (.kls ⟨vs, 0, hk, rv, hz⟩ (rvI ns))
  | none =>
    have at_ : ∀ b, (fun b => if b = a then some (HO.frz { cls := .type "list", data := .seq vs.toArray } (.lst (ns.map V.int))) else none) b = some (HO.frz { cls := .type "list", data := .seq vs.toArray } (.lst (ns.map V.int))) ∨ (b ≠ a ∧ (fun b => if b = a then some (HO.frz { cls := .type "list", data := .seq vs.toArray } (.lst (ns.map V.int))) else none) b = none) := fun b => by
      by_cases q : b = a
      · exact .inl (if_pos q)
      · exact .inr ⟨q, if_neg q⟩
    refine core (fun b => if b = a then some (.frz { cls := .type "list", data := .seq vs.toArray } (.lst (ns.map V.int))) else none) (fun b => ?_) (fun b u z => ?_) (fun _ => hk) (.lst (.inr ⟨_, if_pos rfl⟩) (fun z => z) (rvI ns))
    · by_cases q : b = a
      · exact .inr ⟨q, _, _, if_pos q⟩
      · exact .inl (if_neg q)
    · by_cases q : b = a
      · have z' := (if_pos q).symm.trans z
        cases z'
        subst q
        exact ⟨ha, hz, vs, _, rv, ha⟩
      · have z' := (if_neg q).symm.trans z
        cases z'
/-- a law, by its run in the evaluator -/
theorem walk_ev {l : PySem.W.OpenLaw} {m k : Nat} {q : Program} {loose : List Str} {XP : (Str → Option Value) → Heap → Prop} {YP : World → Heap → Prop} {d : DefRec}
    (hn : l.most = some m) (hm : m ≤ sizeLine) (hdf : d.params.defaults = []) (hr : Room (3 * k) callerA)
    (F : ∀ (w : World) (mg : Str → Option Value) (fa : Addr) (h : Heap), YP w h → h.Ns mainGlobals mg → mg d.name = some (.ref fa) →
      ∃ (K : PySem.W.Frag) (S : Sc) (pg : Pg) (j : Nat), K.In h ∧ S.T = [] ∧ (∀ base : Heap, K.In base → base.Ns mainGlobals mg → FnG l.prog w K mg base (L2.CX l.prog w) (3 * k) fa (spI S K pg k j)) ∧
        ∀ ns : List Int, ns.length ≤ m → (∀ i ∈ ns, Builtin.Int.intBits i ≤ 1048576) → ∃ h2, runF pg k j [.d (.list (ns.map .int))] [] = .ok (.d (.bool true)) h2) :
    PySem.W.WalkO q loose XP YP l.row.toRowW d [] (fun f vs => PySem.call f vs) := by
  refine Att.attach_callB hn hdf fun w s₀ s₁ mg mb fa o pm cd doc a vs ns G Y ho hd hcd hmg hobj hints hlen hbits hg => ?_
  obtain ⟨K, S, pg, j, KX, hT, hF, run⟩ := F w mg fa _ Y G.T.g hmg
  obtain ⟨h2, run⟩ := run ns hlen hbits
  exact law_callG KX G.T.g G.T.b G.T.builtins G.T.nolimit hg hobj hints (Nat.le_trans hlen hm) hr hF hT run
end EV
end

section
set_option Elab.async false
set_option linter.all false
set_option maxRecDepth 100000
namespace EV
open PySem L2
/-! ### rules for runs over plain data -/
theorem len_lim {α : Type} {xs : List α} (h : xs.length ≤ 1000000) : Nat.ble xs.length lim = true := Nat.ble_eq_true_of_le (by unfold lim; omega)
theorem onesL_map (ws : List W) : onesL ws = ws.map .one := by
  induction ws with
  | nil => rfl
  | cons x r ih => simp [onesL, ih]
theorem onesL_ds {α : Type} (u : α → D) (xs : List α) : onesL (dsW (xs.map u)) = xs.map fun x => .one (.d (u x)) := by
  rw [onesL_map, dsW_eq]; simp
theorem zipL_ds : ∀ (xs ys : List D), zipL (dsW xs) (dsW ys) = (xs.zip ys).map fun p => .two (.d p.1) (.d p.2)
  | [], ys => by simp [dsW, zipL]
  | x :: xs, [] => by simp [dsW, zipL]
  | x :: xs, y :: ys => by simp [dsW, zipL, zipL_ds xs ys]
def enumD {α : Type} : Nat → List α → List (Nat × α)
  | _, [] => []
  | i, x :: r => (i, x) :: enumD (i + 1) r
theorem enumL_ds {α : Type} (u : α → D) : ∀ (i : Nat) (xs : List α), enumL (Int.ofNat i) (dsW (xs.map u)) = (enumD i xs).map fun p => .two (.d (.int (Int.ofNat p.1))) (.d (u p.2))
  | i, [] => rfl
  | i, x :: r => by
    have e := enumL_ds u (i + 1) r
    have q : Int.ofNat i + 1 = Int.ofNat (i + 1) := rfl
    show IW.two _ _ :: enumL (Int.ofNat i + 1) (dsW (r.map u)) = _
    rw [q, e]; rfl
theorem enumD_mem {α : Type} {i : Nat} {xs : List α} {p : Nat × α} (h : p ∈ enumD i xs) : i ≤ p.1 ∧ p.1 < i + xs.length ∧ p.2 ∈ xs := by
  induction xs generalizing i with
  | nil => cases h
  | cons x r ih =>
    rcases List.mem_cons.mp h with rfl | z
    · simp
    · obtain ⟨a, b, c⟩ := ih z
      simp only [List.length_cons, List.mem_cons]
      exact ⟨by omega, by omega, .inr c⟩
theorem compL_ds {α : Type} {step : IW → Hs → Re (List W)} {h : Hs} (F : α → IW) (G : α → List D) : ∀ {xs : List α}, (∀ x ∈ xs, step (F x) h = .ok (dsW (G x)) h) → compL step (xs.map F) h = .ok (dsW (xs.flatMap G)) h
  | [], _ => rfl
  | x :: r, H => by
    have a := H x (by simp)
    have b := compL_ds F G (xs := r) fun y z => H y (by simp [z])
    simp only [List.map_cons, compL, a, Re.then, b, List.flatMap_cons]
    simp [dsW_eq]
theorem lComp_ds {α : Type} {own : List Nat} {tg : SG} {it : SI} {c e : SE} {C : Cv} {ρ : En} {h : Hs} {xs : List α} (F : α → IW) (G : α → List D)
    (hit : it C ρ h = .ok ⟨xs.map F, []⟩ h) (H : ∀ x ∈ xs, stepC own tg c (lOne e lNil) C ρ (F x) h = .ok (dsW (G x)) h) :
    lComp own tg it c e C ρ h = .ok (dsW (xs.flatMap G)) h := by
  have a := compL_ds (step := fun i h2 => nx (stepC own tg c (lOne e lNil) C ρ i h2)) (h := h) F G (xs := xs) fun x z => by
    show nx _ = _
    rw [H x z]; rfl
  simp only [lComp, hit, Re.then, lockH, unlock, a]
theorem lComp_map {α : Type} {own : List Nat} {v : Nat} {it : SI} {e : SE} {C : Cv} {ρ : En} {h : Hs} {xs : List α} (u : α → D) (f : α → D)
    (hit : it C ρ h = .ok ⟨onesL (dsW (xs.map u)), []⟩ h) (H : ∀ x ∈ xs, e C ((wipeE ρ own).set v (some (.d (u x)))) h = .ok (.d (f x)) h) :
    lComp own (gNm v) it oNo e C ρ h = .ok (dsW (xs.map f)) h := by
  rw [onesL_ds] at hit
  have a := lComp_ds (own := own) (tg := gNm v) (c := oNo) (e := e) (C := C) (ρ := ρ) (h := h) (xs := xs) (fun x => .one (.d (u x))) (fun x => [f x]) hit fun x z => by
    simp [stepC, gNm, Re.then, oNo, stepT, tst, lOne, lNil, H x z, dsW]
  rw [a]
  simp [← List.map_eq_flatMap]
theorem nn_bool (b : Bool) : nnE (.bool b) = some (.bool b) := rfl
theorem lComp_filter {α : Type} {own : List Nat} {v : Nat} {it : SI} {c e : SE} {C : Cv} {ρ : En} {h : Hs} {xs : List α} (u : α → D) (p : α → Bool) (f : α → D)
    (hit : it C ρ h = .ok ⟨onesL (dsW (xs.map u)), []⟩ h) (H1 : ∀ x ∈ xs, c C ((wipeE ρ own).set v (some (.d (u x)))) h = .ok (.d (.bool (p x))) h) (H : ∀ x ∈ xs, p x = true → e C ((wipeE ρ own).set v (some (.d (u x)))) h = .ok (.d (f x)) h) :
    lComp own (gNm v) it (cYes c) e C ρ h = .ok (dsW ((xs.filter p).map f)) h := by
  rw [onesL_ds] at hit
  have a := lComp_ds (own := own) (tg := gNm v) (c := cYes c) (e := e) (C := C) (ρ := ρ) (h := h) (xs := xs) (fun x => .one (.d (u x))) (fun x => if p x then [f x] else []) hit fun x z => by
    cases q : p x with
    | true => simp [stepC, gNm, Re.then, cYes, c1, H1 x z, q, okD, nnE, stepT, tst, lOne, lNil, H x z q, dsW]
    | false => simp [stepC, gNm, Re.then, cYes, c1, H1 x z, q, okD, nnE, stepT, tst, lOne, lNil, dsW]
  rw [a]
  congr 2
  clear hit H1 H a
  induction xs with
  | nil => rfl
  | cons x r ih =>
    cases q : p x <;> simp [List.flatMap_cons, q, ih]
/-- a comprehension over pairs -/
theorem lComp_two {α : Type} {own : List Nat} {v w : Nat} {it : SI} {e : SE} {C : Cv} {ρ : En} {h : Hs} {xs : List α} (a b f : α → D)
    (hit : it C ρ h = .ok ⟨xs.map fun x => .two (.d (a x)) (.d (b x)), []⟩ h) (H : ∀ x ∈ xs, e C (((wipeE ρ own).set v (some (.d (a x)))).set w (some (.d (b x)))) h = .ok (.d (f x)) h) :
    lComp own (gTup 2 (gsCons (gNm v) (gsCons (gNm w) gsNil))) it oNo e C ρ h = .ok (dsW (xs.map f)) h := by
  have a := lComp_ds (own := own) (tg := gTup 2 (gsCons (gNm v) (gsCons (gNm w) gsNil))) (c := oNo) (e := e) (C := C) (ρ := ρ) (h := h) (xs := xs) _ (fun x => [f x]) hit fun x z => by
    have q : Nat.beq 2 2 = true := rfl
    simp [stepC, gTup, gsCons, gsNil, gNm, Re.then, oNo, stepT, tst, lOne, lNil, H x z, dsW]
  rw [a]
  simp [← List.map_eq_flatMap]
theorem new_ds {p : SL} {C : Cv} {ρ : En} {h : Hs} {xs : List D} (e : p C ρ h = .ok (dsW xs) h) (hl : xs.length ≤ 1000000) : cNew false p C ρ h = .ok (.d (.list xs)) h := by
  simp only [cNew, e, Re.then, dsW_len, len_lim hl, if_true, retN, frzAll_dsW]
theorem tupW_ds {h : Hs} {xs : List D} (hl : xs.length ≤ 1000000) : tupW (dsW xs) h = .ok (.d (.tuple xs)) h := by
  simp only [tupW, dsW_len, len_lim hl, if_true, frzAll_dsW]
theorem seqW_list (h : Hs) (xs : List D) : seqW h (.d (.list xs)) = some (dsW xs, []) := rfl
theorem seqW_tuple (h : Hs) (xs : List D) : seqW h (.d (.tuple xs)) = some (dsW xs, []) := rfl
theorem iSeq_tuple {e : SE} {C : Cv} {ρ : En} {h : Hs} {xs : List D} (a : e C ρ h = .ok (.d (.tuple xs)) h) : iSeq e C ρ h = .ok ⟨onesL (dsW xs), []⟩ h := by
  simp [iSeq, a, Re.then, seqW]
theorem iSeq_list {e : SE} {C : Cv} {ρ : En} {h : Hs} {xs : List D} (a : e C ρ h = .ok (.d (.list xs)) h) : iSeq e C ρ h = .ok ⟨onesL (dsW xs), []⟩ h := by
  simp [iSeq, a, Re.then, seqW]
theorem iEnm_tuple {α : Type} {e : SE} {C : Cv} {ρ : En} {h : Hs} {xs : List α} (u : α → D) (a : e C ρ h = .ok (.d (.tuple (xs.map u))) h) : iEnm e C ρ h = .ok ⟨(enumD 0 xs).map fun p => .two (.d (.int (Int.ofNat p.1))) (.d (u p.2)), []⟩ h := by
  have q := enumL_ds u 0 xs
  simp only [iEnm, a, Re.then, seqW]
  rw [← q]; rfl
theorem iZip_tuple {a b : SE} {C : Cv} {ρ : En} {h : Hs} {xs ys : List D} (e1 : a C ρ h = .ok (.d (.tuple xs)) h) (e2 : b C ρ h = .ok (.d (.tuple ys)) h) : iZip a b C ρ h = .ok ⟨(xs.zip ys).map fun p => .two (.d p.1) (.d p.2), []⟩ h := by
  simp [iZip, e1, e2, Re.then, seqW, isTup, zipL_ds]
theorem allB_map {α : Type} (p : α → Bool) (xs : List α) : allB (xs.map fun x => .bool (p x)) = some (xs.all p) := by
  induction xs with
  | nil => rfl
  | cons x r ih => simp [allB, ih]
theorem anyB_map {α : Type} (p : α → Bool) (xs : List α) : anyB (xs.map fun x => .bool (p x)) = some (xs.any p) := by
  induction xs with
  | nil => rfl
  | cons x r ih => simp [anyB, ih]
theorem all_new {α : Type} {e : SE} {C : Cv} {ρ : En} {h : Hs} {xs : List α} (p : α → Bool) (a : e C ρ h = .ok (.d (.list (xs.map fun x => .bool (p x)))) h) : cB1 .all e C ρ h = .ok (.d (.bool (xs.all p))) h := by
  simp [cB1, a, Re.then, b1E, snap, allB_map, okD]
theorem any_new {α : Type} {e : SE} {C : Cv} {ρ : En} {h : Hs} {xs : List α} (p : α → Bool) (a : e C ρ h = .ok (.d (.list (xs.map fun x => .bool (p x)))) h) : cB1 .any e C ρ h = .ok (.d (.bool (xs.any p))) h := by
  simp [cB1, a, Re.then, b1E, snap, anyB_map, okD]
/-- a call with plain arguments -/
theorem call_ds {f : Nat} {es : SL} {C : Cv} {ρ : En} {h h' : Hs} {xs : List D} {y : D} (a : es C ρ h = .ok (dsW xs) h) (b : C.F f (dsW xs) [] = .ok (.d y) h') : cCall f es C ρ h = .ok (.d y) h := by
  have s : snapAll h (dsW xs) = some xs := by
    clear a b
    induction xs with
    | nil => rfl
    | cons x r ih => simp [dsW, snapAll, snap, ih]
  have o : anyOwn h (dsW xs) = false := by
    clear a b s
    induction xs with
    | nil => rfl
    | cons x r ih => simp [dsW, anyOwn, isOwn, ih]
  unfold cCall
  rw [a]
  simp only [Re.then, s]
  rw [b]
  simp only [frzW, o, Bool.false_and]
  rfl
theorem forL_inv {α : Type} {step : IW → En → Hs → Re Fl} {h : Hs} (F : α → IW) (I : En → Prop) : ∀ (xs : List α), (∀ x ∈ xs, ∀ ρ, I ρ → ∃ ρ', step (F x) ρ h = .ok (.nx ρ') h ∧ I ρ') → ∀ ρ, I ρ → ∃ ρ', forL step (xs.map F) ρ h = .ok (.nx ρ') h ∧ I ρ'
  | [], _, ρ, i => ⟨ρ, rfl, i⟩
  | x :: r, H, ρ, i => by
    obtain ⟨ρ1, e, i1⟩ := H x (by simp) ρ i
    obtain ⟨ρ2, e2, i2⟩ := forL_inv F I r (fun y z => H y (by simp [z])) ρ1 i1
    exact ⟨ρ2, by simp only [List.map_cons, forL, e, Re.then, e2], i2⟩
theorem forL_find {α : Type} {step : IW → En → Hs → Re Fl} {h : Hs} (F : α → IW) (I : En → Prop) (P : α → Prop) (R : D → Prop) : ∀ (xs : List α), (∀ x ∈ xs, ∀ ρ, I ρ → (∃ ρ', step (F x) ρ h = .ok (.nx ρ') h ∧ I ρ' ∧ P x) ∨ ∃ w, step (F x) ρ h = .ok (.rt (.d w)) h ∧ R w) →
    ∀ ρ, I ρ → (∃ ρ', forL step (xs.map F) ρ h = .ok (.nx ρ') h ∧ I ρ' ∧ ∀ x ∈ xs, P x) ∨ ∃ w, forL step (xs.map F) ρ h = .ok (.rt (.d w)) h ∧ R w
  | [], _, ρ, i => .inl ⟨ρ, rfl, i, fun _ z => by cases z⟩
  | x :: r, H, ρ, i => by
    rcases H x (by simp) ρ i with ⟨ρ1, e, i1, px⟩ | ⟨w, e, q⟩
    · rcases forL_find F I P R r (fun y z => H y (by simp [z])) ρ1 i1 with ⟨ρ2, e2, i2, p2⟩ | ⟨w, e2, q⟩
      · refine .inl ⟨ρ2, by simp only [List.map_cons, forL, e, Re.then, e2], i2, fun y z => ?_⟩
        rcases List.mem_cons.mp z with rfl | z
        · exact px
        · exact p2 y z
      · exact .inr ⟨w, by simp only [List.map_cons, forL, e, Re.then, e2], q⟩
    · exact .inr ⟨w, by simp only [List.map_cons, forL, e, Re.then], q⟩
/-! ### comparisons of plain data -/
theorem ieq_self (i : Int) : ieq i i = true := by rw [ieq_iff]; simp
theorem anyEq_ints (x : Int) (ys : List Int) : anyEq (.int x) (ys.map .int) = some (ys.contains x) := by
  induction ys with
  | nil => rfl
  | cons y r ih =>
    have : ieq y x = (x == y) := by
      rw [ieq_iff, Bool.eq_iff_iff]
      simp only [decide_eq_true_eq, beq_iff_eq]
      exact eq_comm
    have e : eqE (.int y) (.int x) = some (ieq y x) := rfl
    simp only [List.map_cons, anyEq, e, ih, this, Option.map_some, List.contains_cons]
theorem dleAll_ints (us : List Int) {n : Nat} : dleAll n (us.map .int) = true := by
  induction us with
  | nil => cases n <;> simp [dleAll]
  | cons x r ih => cases n <;> simp [dleAll, dle, ih]
theorem dle_tup (us : List Int) {n : Nat} : dle (n + 1) (tupD us) = true := by
  show dleAll n (us.map .int) = true
  exact dleAll_ints us
theorem dleAll_tups (us : List (List Int)) {n : Nat} : dleAll (n + 1) (us.map tupD) = true := by
  induction us with
  | nil => rfl
  | cons x r ih =>
    show (dle (n + 1) (tupD x) && dleAll (n + 1) (r.map tupD)) = true
    rw [dle_tup, ih]; rfl
theorem in_ints (x : Int) (ys : List Int) : cmpE .in_ (.int x) (tupD ys) = some (ys.contains x) := by
  simp only [cmpE]
  unfold inE tupD
  have a : dle 60 (.int x) = true := rfl
  have b : dleAll 60 (ys.map .int) = true := dleAll_ints ys
  simp only [a, b, Bool.and_self, if_true]
  exact anyEq_ints x ys
theorem okAll_ints (as bs : List Int) : okAll .lt (as.map .int) (bs.map .int) = true := by
  induction as generalizing bs with
  | nil => cases bs <;> rfl
  | cons a r ih => cases bs with
    | nil => rfl
    | cons b s => simp [okAll, ordE, ih]
theorem ordAll_ints (as bs : List Int) : ordAll .lt (as.map .int) (bs.map .int) = some (lexI as bs) := by
  induction as generalizing bs with
  | nil => cases bs <;> rfl
  | cons a r ih => cases bs with
    | nil => rfl
    | cons b s =>
      have e : eqE (.int a) (.int b) = some (ieq a b) := rfl
      have f : okAll .lt (PyData.int a :: r.map .int) (PyData.int b :: s.map .int) = true := okAll_ints (a :: r) (b :: s)
      cases q : ieq a b <;> simp [ordAll, e, q, lexI, ih, ordE, ordI, f, okAll_ints]
theorem lt_tups (as bs : List Int) : cmpE .lt (tupD as) (tupD bs) = some (lexI as bs) := by
  simp only [cmpE]
  unfold ordT tupD
  have b : dle 64 (tupD as) = true := dle_tup as
  have c : dle 64 (tupD bs) = true := dle_tup bs
  unfold tupD at b c
  simp only [b, c, Bool.and_self, if_true]
  exact ordAll_ints as bs
theorem ne_empty (as : List Int) : cmpE .ne (tupD as) (.tuple []) = some (!as.isEmpty) := by
  simp only [cmpE]
  have b : dle 64 (tupD as) = true := dle_tup as
  have c : dle 64 (.tuple []) = true := rfl
  unfold tupD at b ⊢
  unfold eqE
  simp only [b, c, Bool.and_self, if_true]
  cases as <;> simp [PyData.eqv, PyData.eqvAll]
theorem intsOf_ints (us : List Int) : intsOf (us.map .int) = some us := by
  induction us with
  | nil => rfl
  | cons x r ih => simp [intsOf, ih]
theorem tupsOf_tups {us : List (List Int)} (h : ∀ u ∈ us, u ≠ []) : tupsOf (us.map tupD) = some us := by
  induction us with
  | nil => rfl
  | cons x r ih =>
    have e := ih fun u z => h u (by simp [z])
    have n := h x (by simp)
    cases x with
    | nil => exact absurd rfl n
    | cons i ns =>
      have q : intsOf (PyData.int i :: ns.map .int) = some (i :: ns) := intsOf_ints (i :: ns)
      simp [tupD, tupsOf, q]
      exact e
theorem sortE_ints {us : List Int} (h : us.length ≤ 1000000) : sortE (us.map .int) = some ((isortI us).map .int) := by
  unfold sortE
  rw [intsOf_ints]
  have := len_lim h
  simp [this]
theorem sortE_tups {us : List (List Int)} (h : ∀ u ∈ us, u ≠ []) (hl : us.length ≤ 1000000) : sortE (us.map tupD) = some ((isortT us).map tupD) := by
  cases us with
  | nil => rfl
  | cons x r =>
    have e := tupsOf_tups h
    have q : intsOf ((x :: r).map tupD) = none := rfl
    unfold sortE
    rw [q, e]
    have := len_lim hl
    simp
    simp at hl
    unfold lim; omega
end EV
end

section
set_option Elab.async false
set_option linter.all false
set_option maxRecDepth 100000
namespace EV
open PySem L2
/-! ### systems of ascending lists of points, renamed -/
/-- an ascending list of points -/
def Asc (v : Nat) (ns : List Int) : Prop := ns.Pairwise (· < ·) ∧ ∀ x ∈ ns, 0 ≤ x ∧ x < v
/-- blocks in their sequence -/
structure Sys (v : Nat) (nss : List (List Int)) : Prop where
  strict : Strict nss
  asc : ∀ ns ∈ nss, ns ≠ [] ∧ Asc v ns
def pts (v : Nat) : List Int := (List.range v).map Int.ofNat
theorem pts_asc (v : Nat) : Asc v (pts v) := by
  constructor
  · unfold pts
    rw [List.pairwise_map]
    exact List.pairwise_lt_range.imp fun {a b} h => by simp; omega
  · intro x hx
    obtain ⟨i, hi, rfl⟩ := List.mem_map.mp hx
    rw [List.mem_range] at hi
    simp; omega
theorem mem_pts {v : Nat} {x : Int} : x ∈ pts v ↔ 0 ≤ x ∧ x < v := by
  constructor
  · exact (pts_asc v).2 x
  · rintro ⟨a, b⟩
    obtain ⟨i, rfl⟩ := Int.eq_ofNat_of_zero_le a
    exact List.mem_map.mpr ⟨i, List.mem_range.mpr (by omega), rfl⟩
theorem Asc.nodup {v : Nat} {ns : List Int} (a : Asc v ns) : ns.Nodup := a.1.imp fun {x y} h => by omega
theorem Asc.sub {v : Nat} {ns ms : List Int} (a : Asc v ns) (s : ms.Sublist ns) : Asc v ms := ⟨a.1.sublist s, fun x hx => a.2 x (s.subset hx)⟩
theorem asc_uniq {ns ms : List Int} (a : ns.Pairwise (· < ·)) (b : ms.Pairwise (· < ·)) (e : ∀ x, x ∈ ns ↔ x ∈ ms) : ns = ms := by
  have n1 : ns.Nodup := a.imp fun {x y} h => by omega
  have n2 : ms.Nodup := b.imp fun {x y} h => by omega
  exact perm_sorted ((List.perm_ext_iff_of_nodup n1 n2).mpr e) (a.imp fun {x y} h => by omega) (b.imp fun {x y} h => by omega)
theorem isortI_perm (l : List Int) : (isortI l).Perm l := by rw [isortI_eq]; exact (isort_ok ltI_swo l).2.perm
theorem isortI_le (l : List Int) : (isortI l).Pairwise (· ≤ ·) := by
  rw [isortI_eq]
  refine (isort_ok ltI_swo l).1.imp fun {a b} h => ?_
  rw [ilt_iff] at h
  simp at h
  exact h
theorem isortI_lt {l : List Int} (n : l.Nodup) : (isortI l).Pairwise (· < ·) :=
  ((isortI_le l).and ((isortI_perm l).nodup_iff.mpr n)).imp fun {a b} h => by
    have := h.2; omega
theorem isortT_perm (l : List (List Int)) : (isortT l).Perm l := by rw [isortT_eq]; exact (isort_ok lexI_swo l).2.perm
theorem isortT_strict {l : List (List Int)} (n : l.Nodup) : Strict (isortT l) := strict_of (by rw [isortT_eq]; exact (isort_ok lexI_swo l).1) ((isortT_perm l).nodup_iff.mpr n)
theorem Strict.nodup {l : List (List Int)} (s : Strict l) : l.Nodup := s.imp fun {a b} h e => by
  subst e
  rw [lexI_irr] at h
  cases h
section
variable {v : Nat} {js : List Int}
/-- where a row leads a point -/
def led (js : List Int) (x : Int) : Int := js.getD x.toNat 0
theorem row_len (p : js.Perm (pts v)) : js.length = v := by rw [p.length_eq]; simp [pts]
theorem led_in (p : js.Perm (pts v)) {x : Int} (h : 0 ≤ x ∧ x < v) : 0 ≤ led js x ∧ led js x < v := by
  have l := row_len p
  obtain ⟨i, rfl⟩ := Int.eq_ofNat_of_zero_le h.1
  have hi : i < js.length := by omega
  have : led js (i : Int) = js[i] := by simp [led, hi]
  rw [this]
  exact mem_pts.mp (p.mem_iff.mp (List.getElem_mem hi))
theorem led_inj (p : js.Perm (pts v)) {x y : Int} (hx : 0 ≤ x ∧ x < v) (hy : 0 ≤ y ∧ y < v) (e : led js x = led js y) : x = y := by
  have l := row_len p
  have n : js.Nodup := p.nodup_iff.mpr (pts_asc v).nodup
  obtain ⟨i, rfl⟩ := Int.eq_ofNat_of_zero_le hx.1
  obtain ⟨j, rfl⟩ := Int.eq_ofNat_of_zero_le hy.1
  have hi : i < js.length := by omega
  have hj : j < js.length := by omega
  simp [led, hi, hj] at e
  have w := List.pairwise_iff_getElem.mp n
  rcases Nat.lt_trichotomy i j with z | z | z
  · exact absurd e (w i j hi hj z)
  · exact congrArg Int.ofNat z
  · exact absurd e.symm (w j i hj hi z)
def led1 (js : List Int) (ns : List Int) : List Int := isortI (ns.map (led js))
theorem map_nodup {f : Int → Int} {ns : List Int} (n : ns.Nodup) (inj : ∀ x ∈ ns, ∀ y ∈ ns, f x = f y → x = y) : (ns.map f).Nodup := by
  induction ns with
  | nil => simp
  | cons a r ih =>
    rw [List.nodup_cons] at n
    rw [List.map_cons, List.nodup_cons]
    refine ⟨fun z => ?_, ih n.2 fun x hx y hy => inj x (by simp [hx]) y (by simp [hy])⟩
    obtain ⟨b, hb, e⟩ := List.mem_map.mp z
    have := inj b (by simp [hb]) a (by simp) e
    subst this
    exact n.1 hb
theorem led1_asc (p : js.Perm (pts v)) {ns : List Int} (a : Asc v ns) : Asc v (led1 js ns) := by
  refine ⟨isortI_lt (map_nodup a.nodup fun x hx y hy e => led_inj p (a.2 x hx) (a.2 y hy) e), fun x hx => ?_⟩
  obtain ⟨y, hy, rfl⟩ := List.mem_map.mp ((isortI_perm _).mem_iff.mp hx)
  exact led_in p (a.2 y hy)
theorem led1_len (ns : List Int) : (led1 js ns).length = ns.length := by
  rw [led1, (isortI_perm _).length_eq, List.length_map]
theorem led1_inj (p : js.Perm (pts v)) {ns ms : List Int} (a : Asc v ns) (b : Asc v ms) (e : led1 js ns = led1 js ms) : ns = ms := by
  refine asc_uniq a.1 b.1 fun x => ?_
  have q : ∀ y, y ∈ ns.map (led js) ↔ y ∈ ms.map (led js) := fun y => by
    rw [← (isortI_perm (ns.map (led js))).mem_iff, ← (isortI_perm (ms.map (led js))).mem_iff]
    unfold led1 at e
    rw [e]
  constructor
  · intro hx
    obtain ⟨y, hy, e⟩ := List.mem_map.mp ((q _).mp (List.mem_map_of_mem hx))
    rw [← led_inj p (b.2 y hy) (a.2 x hx) e]
    exact hy
  · intro hx
    obtain ⟨y, hy, e⟩ := List.mem_map.mp ((q _).mpr (List.mem_map_of_mem hx))
    rw [← led_inj p (a.2 y hy) (b.2 x hx) e]
    exact hy
def ledS (js : List Int) (nss : List (List Int)) : List (List Int) := isortT (nss.map (led1 js))
theorem ledS_len (nss : List (List Int)) : (ledS js nss).length = nss.length := by rw [ledS, (isortT_perm _).length_eq, List.length_map]
theorem ledS_sys (p : js.Perm (pts v)) {nss : List (List Int)} (n : nss.Nodup) (h : ∀ ns ∈ nss, ns ≠ [] ∧ Asc v ns) : Sys v (ledS js nss) := by
  constructor
  · refine isortT_strict ?_
    induction nss with
    | nil => simp
    | cons a r ih =>
      rw [List.nodup_cons] at n
      rw [List.map_cons, List.nodup_cons]
      refine ⟨fun z => ?_, ih n.2 fun x hx => h x (by simp [hx])⟩
      obtain ⟨b, hb, e⟩ := List.mem_map.mp z
      have := led1_inj p (h b (by simp [hb])).2 (h a (by simp)).2 e
      subst this
      exact n.1 hb
  · intro ns hns
    obtain ⟨ms, hm, rfl⟩ := List.mem_map.mp ((isortT_perm _).mem_iff.mp hns)
    refine ⟨fun e => (h ms hm).1 ?_, led1_asc p (h ms hm).2⟩
    have := led1_len (js := js) ms
    rw [e] at this
    exact List.length_eq_zero_iff.mp this.symm
end
theorem asc_len : ∀ {ns : List Int} {a b : Int}, ns.Pairwise (· < ·) → (∀ x ∈ ns, a ≤ x ∧ x < b) → (ns.length : Int) ≤ max 0 (b - a)
  | [], a, b, _, _ => by simp; omega
  | x :: r, a, b, p, h => by
    rw [List.pairwise_cons] at p
    have q := h x (by simp)
    have e := asc_len (a := x + 1) (b := b) p.2 fun y hy => ⟨p.1 y hy, (h y (by simp [hy])).2⟩
    simp only [List.length_cons, Int.natCast_add, Int.natCast_one]
    omega
theorem Asc.len {v : Nat} {ns : List Int} (a : Asc v ns) : ns.length ≤ v := by
  have := asc_len a.1 a.2
  omega
end EV
end

section
set_option Elab.async false
set_option linter.all false
set_option maxRecDepth 100000
namespace EV
open PySem L2
/-! ### steps of statements and expressions -/
section
variable {C : Cv} {ρ ρ1 : En} {h h1 h2 : Hs} {w w2 : W} {x y z : D} {b : Bool}
theorem seq_nx {s r : SS} (e : s C ρ h = .ok (.nx ρ1) h1) : sSeq s r C ρ h = r C ρ1 h1 := by
  unfold sSeq; rw [e]; rfl
theorem seq_rt {s r : SS} (e : s C ρ h = .ok (.rt w) h1) : sSeq s r C ρ h = .ok (.rt w) h1 := by
  unfold sSeq; rw [e]; rfl
theorem if_f {c : SE} {a k : SS} (e : c C ρ h = .ok (.d (.bool false)) h1) : sIf c a k C ρ h = k C ρ h1 := by
  unfold sIf; rw [e]; rfl
theorem if_t {c : SE} {a k : SS} (e : c C ρ h = .ok (.d (.bool true)) h1) : sIf c a k C ρ h = a C ρ h1 := by
  unfold sIf; rw [e]; rfl
theorem seq_if_f {c : SE} {a r : SS} (e : c C ρ h = .ok (.d (.bool false)) h1) : sSeq (sIf c a sPass) r C ρ h = r C ρ h1 := by
  unfold sSeq sIf; rw [e]; rfl
theorem seq_if_t {c : SE} {a k r : SS} (e : c C ρ h = .ok (.d (.bool true)) h1) : sSeq (sIf c a k) r C ρ h = sSeq a r C ρ h1 := by
  unfold sSeq sIf; rw [e]; rfl
theorem seq_ret {e : SE} {r : SS} (q : e C ρ h = .ok w h1) : sSeq (sRet e) r C ρ h = .ok (.rt w) h1 := by
  unfold sSeq sRet; rw [q]; rfl
theorem seq_asg {e : SE} {r : SS} {i : Nat} (q : e C ρ h = .ok w h1) : sSeq (sAsg (gNm i) e) r C ρ h = r C (ρ.set i (some w)) h1 := by
  unfold sSeq sAsg; rw [q]; rfl
theorem seq_expr {e : SE} {r : SS} (q : e C ρ h = .ok w h1) : sSeq (sExpr e) r C ρ h = r C ρ h1 := by
  unfold sSeq sExpr; rw [q]; rfl
theorem c_not {e : SE} (q : e C ρ h = .ok (.d (.bool b)) h1) : cNot e C ρ h = .ok (.d (.bool (!b))) h1 := by
  unfold cNot c1; rw [q]; rfl
theorem c_if_t {c a k : SE} (q : c C ρ h = .ok (.d (.bool true)) h1) : cIf c a k C ρ h = a C ρ h1 := by
  unfold cIf; rw [q]; rfl
theorem c_if_f {c a k : SE} (q : c C ρ h = .ok (.d (.bool false)) h1) : cIf c a k C ρ h = k C ρ h1 := by
  unfold cIf; rw [q]; rfl
theorem c_and_t {c a : SE} (q : c C ρ h = .ok (.d (.bool true)) h1) : cAnd c a C ρ h = a C ρ h1 := c_if_t q
theorem c_and_f {c a : SE} (q : c C ρ h = .ok (.d (.bool false)) h1) : cAnd c a C ρ h = .ok (.d (.bool false)) h1 := c_if_f q
theorem c_or_t {c a : SE} (q : c C ρ h = .ok (.d (.bool true)) h1) : cOr c a C ρ h = .ok (.d (.bool true)) h1 := c_if_t q
theorem c_or_f {c a : SE} (q : c C ρ h = .ok (.d (.bool false)) h1) : cOr c a C ρ h = a C ρ h1 := c_if_f q
theorem c_cmp {o : Cop} {a k : SE} (q : a C ρ h = .ok (.d x) h1) (q2 : k C ρ h1 = .ok (.d y) h2) (q3 : cmpE o x y = some b) : cCmp o a k C ρ h = .ok (.d (.bool b)) h2 := by
  simp only [cCmp, q, Re.then, q2, snap, q3, okB]
theorem c_cmpW {o : Cop} {a k : SE} (q : a C ρ h = .ok w h1) (q2 : k C ρ h1 = .ok w2 h2) (s1 : snap h2 w = some x) (s2 : snap h2 w2 = some y) (q3 : cmpE o x y = some b) : cCmp o a k C ρ h = .ok (.d (.bool b)) h2 := by
  simp only [cCmp, q, Re.then, q2, s1, s2, q3, okB]
theorem c_bin {o : Bop} {a k : SE} (q : a C ρ h = .ok (.d x) h1) (q2 : k C ρ h1 = .ok (.d y) h2) (q3 : binE o x y = some z) : cBin o a k C ρ h = .ok (.d z) h2 := by
  simp only [cBin, c2, q, Re.then, q2, q3, okD]
theorem c_chain {o o' : Cop} {a k m : SE} {b2 : Bool} {h3 : Hs} (q : a C ρ h = .ok (.d x) h1) (q2 : k C ρ h1 = .ok (.d y) h2) (q3 : cmpE o x y = some true) (q4 : m C ρ h2 = .ok (.d z) h3) (q5 : cmpE o' y z = some b) : cChain o o' a k m C ρ h = .ok (.d (.bool b)) h3 := by
  simp only [cChain, q, Re.then, q2, q3, q4, q5, okB]
theorem c_b1 {o : B1} {a : SE} (q : a C ρ h = .ok w h1) (q2 : b1E o h1 w = some z) : cB1 o a C ρ h = .ok (.d z) h1 := by
  simp only [cB1, q, Re.then, q2, okD]
theorem c_idx {a k : SE} {i : Int} (q : a C ρ h = .ok w h1) (q2 : k C ρ h1 = .ok (.d (.int i)) h2) (q3 : idxW h2 w i = some w2) : cIdx a k C ρ h = .ok w2 h2 := by
  simp only [cIdx, q, Re.then, q2, q3, liftO]
theorem c_tup {es : SL} {xs : List D} (q : es C ρ h = .ok (dsW xs) h1) (hl : xs.length ≤ 1000000) : cTup es C ρ h = .ok (.d (.tuple xs)) h1 := by
  simp only [cTup, q, Re.then, tupW_ds hl]
theorem l_one {e : SE} {r : SL} {ws : List W} (q : e C ρ h = .ok w h1) (q2 : r C ρ h1 = .ok ws h2) : lOne e r C ρ h = .ok (w :: ws) h2 := by
  simp only [lOne, q, Re.then, q2]
theorem for_nx {α : Type} {t : SG} {it : SI} {s : SS} {xs : List α} (F : α → IW) (I : En → Prop) (hi : it C ρ h = .ok ⟨xs.map F, []⟩ h)
    (H : ∀ x ∈ xs, ∀ ρ, I ρ → ∃ ρ1, (t (F x) C ρ h).then (fun ρ2 h3 => s C ρ2 h3) = .ok (.nx ρ1) h ∧ I ρ1) (i : I ρ) : ∃ ρ1, sFor t it s C ρ h = .ok (.nx ρ1) h ∧ I ρ1 := by
  obtain ⟨ρ1, e, q⟩ := forL_inv (step := fun i ρ1 h2 => (t i C ρ1 h2).then fun ρ2 h3 => s C ρ2 h3) (h := h) F I xs H ρ i
  exact ⟨ρ1, by simp only [sFor, hi, Re.then, lockH, unlock]; simp only [Re.then] at e; rw [e], q⟩
theorem for_find {α : Type} {t : SG} {it : SI} {s : SS} {xs : List α} (F : α → IW) (I : En → Prop) (P : α → Prop) (R : D → Prop) (hi : it C ρ h = .ok ⟨xs.map F, []⟩ h)
    (H : ∀ x ∈ xs, ∀ ρ, I ρ → (∃ ρ1, (t (F x) C ρ h).then (fun ρ2 h3 => s C ρ2 h3) = .ok (.nx ρ1) h ∧ I ρ1 ∧ P x) ∨ ∃ w, (t (F x) C ρ h).then (fun ρ2 h3 => s C ρ2 h3) = .ok (.rt (.d w)) h ∧ R w) (i : I ρ) :
    (∃ ρ1, sFor t it s C ρ h = .ok (.nx ρ1) h ∧ I ρ1 ∧ ∀ x ∈ xs, P x) ∨ ∃ w, sFor t it s C ρ h = .ok (.rt (.d w)) h ∧ R w := by
  rcases forL_find (step := fun i ρ1 h2 => (t i C ρ1 h2).then fun ρ2 h3 => s C ρ2 h3) (h := h) F I P R xs H ρ i with ⟨ρ1, e, q⟩ | ⟨w, e, q⟩
  · exact .inl ⟨ρ1, by simp only [sFor, hi, Re.then, lockH, unlock]; simp only [Re.then] at e; rw [e], q⟩
  · exact .inr ⟨w, by simp only [sFor, hi, Re.then, lockH, unlock]; simp only [Re.then] at e; rw [e], q⟩
theorem fin_rt {m : Re Fl} (e : m = .ok (.rt w) h) : finF m = .ok w h := by rw [e]; rfl
theorem fin_nx {m : Re Fl} (e : m = .ok (.nx ρ) h) : finF m = .ok (.d .none) h := by rw [e]; rfl
end
end EV
end

section
set_option Elab.async false
set_option linter.all false
set_option maxRecDepth 100000
namespace EV
open PySem L2
section
variable {C : Cv} {ρ ρ1 : En} {h h1 h2 : Hs} {w w2 : W} {x y z : D} {b : Bool}
theorem c_tupOf {e : SE} {xs : List D} (q : e C ρ h = .ok (.d (.list xs)) h1) (hl : xs.length ≤ 1000000) : cTupOf (iSeq e) C ρ h = .ok (.d (.tuple xs)) h1 := by
  simp only [cTupOf, iSeq, q, Re.then, seqW, ones_onesL, tupW_ds hl]
theorem srt_ints {e : SE} {us : List Int} (q : e C ρ h = .ok (.d (.list (us.map .int))) h) (hl : us.length ≤ 1000000) : cNew false (lSrt e) C ρ h = .ok (.d (.list ((isortI us).map .int))) h := by
  refine new_ds ?_ (by rw [List.length_map, (isortI_perm us).length_eq]; exact hl)
  simp only [lSrt, q, Re.then, snap, srtE, sortE_ints hl]
theorem srt_tups {e : SE} {us : List (List Int)} (q : e C ρ h = .ok (.d (.list (us.map tupD))) h) (hn : ∀ u ∈ us, u ≠ []) (hl : us.length ≤ 1000000) : cNew false (lSrt e) C ρ h = .ok (.d (.list ((isortT us).map tupD))) h := by
  refine new_ds ?_ (by rw [List.length_map, (isortT_perm us).length_eq]; exact hl)
  simp only [lSrt, q, Re.then, snap, srtE, sortE_tups hn hl]
theorem srtSet_tups {e : SE} {us : List (List Int)} (q : e C ρ h = .ok (.d (.list (us.map tupD))) h) (hn : ∀ u ∈ us, u ≠ []) (hl : us.length ≤ 63) : cSrtSet e C ρ h = .ok (.d (.list ((ddT (isortT us)).map tupD))) h := by
  have q1 : Nat.ble us.length 63 = true := Nat.ble_eq_true_of_le hl
  simp only [cSrtSet, cSnap, q, Re.then, snap, setE, tupsOf_tups hn, q1, if_true, okD, Option.map_some]
theorem rngL_eq (a : Int) : ∀ n, rngL a 1 n = (List.range n).map fun i => .int (a + Int.ofNat i)
  | 0 => rfl
  | n + 1 => by
    rw [rngL, rngL_eq (a + 1) n, List.range_succ_eq_map, List.map_cons, List.map_map]
    refine congr (congrArg List.cons ?_) ?_
    · simp
    · refine List.map_congr_left fun i _ => ?_
      show PyData.int _ = PyData.int _
      congr 1
      show a + 1 + (i : Int) = a + ((i + 1 : Nat) : Int)
      omega
theorem rng_pts {v : Nat} (hv : v ≤ 1000000) : rngE 0 (v : Int) 1 = some ((pts v).map .int) := by
  have e : bnd 4611686018427387903 (v : Int) = true := Nat.ble_eq_true_of_le (by omega)
  have e0 : bnd 4611686018427387903 0 = true := rfl
  have e1 : ieq 1 1 = true := rfl
  unfold rngE
  rw [e, e0, e1]
  have : ((v : Int) - 0).toNat = v := by omega
  simp only [Bool.and_self, if_true, rngL_eq, this, pts, List.map_map]
  congr 1
  refine List.map_congr_left fun i _ => ?_
  simp
theorem iRng1_pts {e : SE} {v : Nat} (q : e C ρ h = .ok (.d (.int v)) h1) (hv : v ≤ 1000000) : iRng1 e C ρ h = .ok ⟨onesL (dsW ((pts v).map .int)), []⟩ h1 := by
  simp only [iRng1, q, Re.then, rng_pts hv, iRg]
theorem setH_same {n : Nat} {o : O} : ∀ {h : Hs}, nth h n = some o → setH h n o = h := by
  intro h e
  rw [nth_eq] at e
  rw [setH_eq]
  obtain ⟨hn, rfl⟩ := List.getElem?_eq_some_iff.mp e
  exact List.set_getElem_self hn
theorem nth_setH' {n : Nat} {o o' : O} {h : Hs} (e : nth h n = some o) : nth (setH h n o') n = some o' := by
  rw [nth_eq] at e
  rw [setH_eq, nth_eq, List.getElem?_set_self (List.getElem?_eq_some_iff.mp e).1]
theorem nth_setH_ne {n m : Nat} {o : O} {h : Hs} (e : m ≠ n) : nth (setH h n o) m = nth h m := by
  rw [setH_eq, nth_eq, nth_eq, List.getElem?_set_ne (Ne.symm e)]
theorem setH_setH' {n : Nat} {o o' : O} {h : Hs} : setH (setH h n o) n o' = setH h n o' := by
  rw [setH_eq, setH_eq, setH_eq, List.set_set]
/-- a comprehension over a changing list -/
theorem lComp_lck {α : Type} {own : List Nat} {v L : Nat} {it e : SE} {xs : List α} (u : α → D) (f : α → D) (q : it C ρ h = .ok (.r L) h) (hL : nth h L = some (.lst (dsW (xs.map u))))
    (H : ∀ x ∈ xs, e C ((wipeE ρ own).set v (some (.d (u x)))) (setH h L (.lck (dsW (xs.map u)))) = .ok (.d (f x)) (setH h L (.lck (dsW (xs.map u))))) :
    lComp own (gNm v) (iSeq it) oNo e C ρ h = .ok (dsW (xs.map f)) h := by
  have a := compL_ds (step := fun i h2 => nx (stepC own (gNm v) oNo (lOne e lNil) C ρ i h2)) (h := setH h L (.lck (dsW (xs.map u)))) (fun x : α => IW.one (.d (u x))) (fun x => [f x]) (xs := xs) fun x hx => by
    show nx _ = _
    simp [stepC, gNm, Re.then, oNo, stepT, tst, lOne, lNil, H x hx, dsW, nx]
  have i1 : iSeq it C ρ h = .ok ⟨xs.map fun x => .one (.d (u x)), [(L, dsW (xs.map u))]⟩ h := by
    rw [← onesL_ds]
    simp only [iSeq, q, Re.then, seqW, hL]
  simp only [lComp, i1, Re.then, lockH, a, unlock, setH_setH', setH_same hL]
  simp [← List.map_eq_flatMap]
theorem ddT_len : ∀ l : List (List Int), (ddT l).length ≤ l.length
  | [] => Nat.le_refl _
  | [x] => Nat.le_refl _
  | x :: y :: r => by
    have e := ddT_len (y :: r)
    have q : ddT (x :: y :: r) = if lexI x y then x :: ddT (y :: r) else ddT (y :: r) := rfl
    rw [q]
    split
    · simp only [List.length_cons] at e ⊢; omega
    · simp only [List.length_cons] at e ⊢; omega
theorem ne_tups {us : List (List Int)} : cmpE .ne (.list (us.map tupD)) (.list []) = some (!us.isEmpty) := by
  simp only [cmpE]
  have b : dle 64 (.list (us.map tupD)) = true := dleAll_tups us
  have c : dle 64 (.list []) = true := rfl
  unfold eqE
  simp only [b, c, Bool.and_self, if_true]
  cases us <;> simp [PyData.eqv, PyData.eqvAll]
end
/-! ### results that are ok -/
def OKs {α : Type} (m : Re α) (Q : α → Hs → Prop) : Prop := match m with
  | .ok a h => Q a h
  | _ => False
theorem OKs.bind {α β : Type} {m : Re α} {f : α → Hs → Re β} {Q : α → Hs → Prop} {R : β → Hs → Prop} (a : OKs m Q) (b : ∀ x h, Q x h → OKs (f x h) R) : OKs (m.then f) R := by
  cases m with
  | ok x h => exact b x h a
  | ex e h => exact a.elim
  | no => exact a.elim
theorem OKs.imp {α : Type} {m : Re α} {Q R : α → Hs → Prop} (a : OKs m Q) (b : ∀ x h, Q x h → R x h) : OKs m R := by
  cases m with
  | ok x h => exact b x h a
  | ex e h => exact a.elim
  | no => exact a.elim
theorem OKs.eq {α : Type} {m : Re α} {Q : α → Hs → Prop} (a : OKs m Q) : ∃ x h, m = .ok x h ∧ Q x h := by
  cases m with
  | ok x h => exact ⟨x, h, rfl, a⟩
  | ex e h => exact a.elim
  | no => exact a.elim
theorem OKs.of {α : Type} {m : Re α} {Q : α → Hs → Prop} {x : α} {h : Hs} (e : m = .ok x h) (q : Q x h) : OKs m Q := by rw [e]; exact q
theorem OKs.by_ {α : Type} {m m' : Re α} {Q : α → Hs → Prop} (e : m = m') (q : OKs m' Q) : OKs m Q := by rw [e]; exact q
theorem OKs.fin {m : Re Fl} {Q : W → Hs → Prop} (a : OKs m fun fl h => ∃ w, fl = .rt w ∧ Q w h) : OKs (finF m) Q := by
  obtain ⟨fl, h, rfl, w, rfl, q⟩ := a.eq
  exact q
theorem OKs.asg {C : Cv} {ρ : En} {h : Hs} {e : SE} {r : SS} {i : Nat} {P : W → Hs → Prop} {Q : Fl → Hs → Prop} (a : OKs (e C ρ h) P) (b : ∀ w h1, P w h1 → OKs (r C (ρ.set i (some w)) h1) Q) : OKs (sSeq (sAsg (gNm i) e) r C ρ h) Q := by
  obtain ⟨w, h1, e1, p⟩ := a.eq
  exact OKs.by_ (seq_asg e1) (b w h1 p)
theorem OKs.ret {C : Cv} {ρ : En} {h : Hs} {e : SE} {r : SS} {P : W → Hs → Prop} (a : OKs (e C ρ h) P) : OKs (sSeq (sRet e) r C ρ h) fun fl h => ∃ w, fl = .rt w ∧ P w h := by
  obtain ⟨w, h1, e1, p⟩ := a.eq
  exact OKs.of (seq_ret e1) ⟨w, rfl, p⟩
end EV
end

section
set_option Elab.async false
set_option linter.all false
set_option maxRecDepth 100000
namespace EV
open PySem L2
/-! ### when repr is told -/
mutual
def rk : D → Bool
  | .none => true
  | .bool _ => true
  | .int i => bnd 1000000000000000000000000000000000000000000000000000000000000 i
  | .str x => PyData.strOk (reprText x) && Nat.ble (reprText x).length 60
  | .list xs => rkAll xs
  | .tuple xs => rkAll xs
  | .dict _ => false
def rkAll : List D → Bool
  | [] => true
  | x :: xs => rk x && rkAll xs
end
mutual
def nod : D → Nat
  | .list xs => nodAll xs + 1
  | .tuple xs => nodAll xs + 1
  | _ => 1
def nodAll : List D → Nat
  | [] => 0
  | x :: xs => nod x + nodAll xs
end
theorem strOk_app2 (a b : Str) : PyData.strOk (a ++ b) = (PyData.strOk a && PyData.strOk b) := by
  show (a.cps ++ b.cps).all _ = _
  rw [Array.all_append]; rfl
theorem textFrom_ok : ∀ (ts : List Str) (k : Nat) (acc : Str) (n : Nat), PyData.strOk acc = true → (∀ t ∈ ts, PyData.strOk t = true) → PyData.strOk (textFrom k acc ts) = true
  | [], k, acc, _, h, _ => h
  | t :: r, k, acc, n, h, ht => by
    have e1 : PyData.strOk (((if k > 0 then ", " else "" : String) : String) : Str) = true := by
      split <;> decide +kernel
    refine textFrom_ok r (k + 1) _ n ?_ fun x hx => ht x (by simp [hx])
    rw [strOk_app2, strOk_app2, h, e1, ht t (by simp)]
    rfl
theorem textFrom_le : ∀ (ts : List Str) (k : Nat) (acc : Str), (textFrom k acc ts).length ≤ acc.length + (ts.map fun t => t.length + 2).sum
  | [], k, acc => Nat.le_refl _
  | t :: r, k, acc => by
    have e := textFrom_le r (k + 1) (acc ++ (if k > 0 then ", " else "" : String) ++ t)
    have e1 : (((if k > 0 then ", " else "" : String) : String) : Str).length ≤ 2 := by
      split <;> decide +kernel
    rw [strLen_append, strLen_append] at e
    simp only [List.map_cons, List.sum_cons]
    show (textFrom (k + 1) _ r).length ≤ _
    omega
theorem join_ok : ∀ ts : List Str, (∀ t ∈ ts, PyData.strOk t = true) → PyData.strOk (Str.join ", " ts) = true
  | [], _ => by decide +kernel
  | [x], h => h x (by simp)
  | x :: y :: r, h => by
    show PyData.strOk (x ++ ", " ++ Str.join ", " (y :: r)) = true
    have e : PyData.strOk ((", " : String) : Str) = true := by decide +kernel
    rw [strOk_app2, strOk_app2, h x (by simp), e, join_ok (y :: r) fun t ht => h t (List.mem_cons_of_mem _ ht)]
    rfl
theorem join_le : ∀ ts : List Str, (Str.join ", " ts).length ≤ (ts.map fun t => t.length + 2).sum
  | [] => Nat.zero_le _
  | [x] => by show x.length ≤ _; simp
  | x :: y :: r => by
    show (x ++ ", " ++ Str.join ", " (y :: r)).length ≤ _
    have e := join_le (y :: r)
    have e2 : ((", " : String) : Str).length = 2 := by decide +kernel
    rw [strLen_append, strLen_append, e2]
    rw [List.map_cons, List.sum_cons]
    omega
theorem int_ok (i : Int) : PyData.strOk ((toString i : String) : Str) = true := by
  show Array.all _ _ = true
  rw [Array.all_eq_true_iff_forall_mem]
  intro k hk
  have hk' : k ∈ ((toString i : String) : Str).cps.toList := by simpa using hk
  have : ¬ (k ≠ 45 ∧ (k < 48 ∨ 57 < k)) := fun z => PyProof.Rows.int_text_free' k z i hk'
  simp
  omega
theorem int_le {i : Int} (h : bnd 1000000000000000000000000000000000000000000000000000000000000 i = true) : ((toString i : String) : Str).length ≤ 62 := by
  have h' := Nat.le_of_ble_eq_true h
  have e := int_text_length_le10 (a := i) (k := 61) (by decide) (Nat.lt_of_le_of_lt h' (by decide))
  show (Str.ofString _).length ≤ _
  rw [ofString_length]
  exact e
mutual
theorem rk_ok : ∀ {d : D}, rk d = true → PyData.showable d = true ∧ PyData.strOk (PyData.shown d) = true ∧ (PyData.shown d).length + 6 ≤ 70 * nod d
  | .none, _ => by decide +kernel
  | .bool b, _ => by cases b <;> decide +kernel
  | .int i, h => by
    have h1 : bnd 1000000000000000000000000000000000000000000000000000000000000 i = true := by simpa [rk] using h
    refine ⟨?_, ?_, ?_⟩
    · have h' := Nat.le_of_ble_eq_true h1
      have : i.natAbs.log2 < 1920 := by
        by_cases z : i.natAbs = 0
        · rw [z]; decide
        · exact (Nat.log2_lt z).mpr (Nat.lt_of_le_of_lt h' (by decide +kernel))
      simpa [PyData.showable] using this
    · simp only [PyData.shown]; exact int_ok i
    · have := int_le h1
      simp only [PyData.shown, nod]; omega
  | .str x, h => by
    have h1 : PyData.strOk (reprText x) = true ∧ Nat.ble (reprText x).length 60 = true := by simpa [rk] using h
    have := Nat.le_of_ble_eq_true h1.2
    refine ⟨by simp [PyData.showable], by simp only [PyData.shown]; exact h1.1, ?_⟩
    simp only [PyData.shown, nod]; omega
  | .list xs, h => by
    obtain ⟨a, b, c⟩ := rkAll_ok (xs := xs) (by simpa [rk] using h)
    refine ⟨by simpa [PyData.showable] using a, ?_, ?_⟩
    · simp only [PyData.shown, listText]
      have e : PyData.strOk (("[" : String) : Str) = true := by decide +kernel
      have e2 : PyData.strOk (("]" : String) : Str) = true := by decide +kernel
      rw [strOk_app2, textFrom_ok _ _ _ 0 e b, e2]; rfl
    · simp only [PyData.shown, listText, nod]
      have e := textFrom_le (PyData.shownAll xs) 0 "["
      have e1 : (("[" : String) : Str).length = 1 := by decide +kernel
      have e2 : (("]" : String) : Str).length = 1 := by decide +kernel
      rw [strLen_append, e2]
      rw [e1] at e
      omega
  | .tuple xs, h => by
    obtain ⟨a, b, c⟩ := rkAll_ok (xs := xs) (by simpa [rk] using h)
    have e1 : PyData.strOk ((if (PyData.shownAll xs).length == 1 then ",)" else ")" : String) : Str) = true := by split <;> decide +kernel
    have e2 : ((if (PyData.shownAll xs).length == 1 then ",)" else ")" : String) : Str).length ≤ 2 := by split <;> decide +kernel
    have e3 : PyData.strOk (("(" : String) : Str) = true := by decide +kernel
    have e4 : (("(" : String) : Str).length = 1 := by decide +kernel
    refine ⟨by simpa [PyData.showable] using a, ?_, ?_⟩
    · simp only [PyData.shown, tupleText]
      rw [strOk_app2, strOk_app2, e3, join_ok _ b, e1]; rfl
    · simp only [PyData.shown, tupleText, nod]
      have e := join_le (PyData.shownAll xs)
      rw [strLen_append, strLen_append, e4]
      omega
  | .dict _, h => by simp [rk] at h
theorem rkAll_ok : ∀ {xs : List D}, rkAll xs = true → PyData.showableAll xs = true ∧ (∀ t ∈ PyData.shownAll xs, PyData.strOk t = true) ∧ ((PyData.shownAll xs).map fun t => t.length + 2).sum ≤ 70 * nodAll xs
  | [], _ => ⟨by simp [PyData.showableAll], (fun t z => by simp [PyData.shownAll] at z), by simp [PyData.shownAll, nodAll]⟩
  | x :: r, h => by
    have h' : rk x = true ∧ rkAll r = true := by simpa [rkAll] using h
    obtain ⟨a, b, c⟩ := rk_ok h'.1
    obtain ⟨a2, b2, c2⟩ := rkAll_ok h'.2
    refine ⟨by simp [PyData.showableAll, a, a2], fun t ht => ?_, ?_⟩
    · simp only [PyData.shownAll] at ht
      rcases List.mem_cons.mp ht with rfl | z
      · exact b
      · exact b2 t z
    · simp only [PyData.shownAll, List.map_cons, List.sum_cons, nodAll]
      omega
end
theorem repr_list {h : Hs} {w : W} {xs : List D} (s : snap h w = some (.list xs)) (k : rkAll xs = true) (d : dleAll 60 xs = true) (n : nodAll xs ≤ 200000) : b1E .repr h w = some (.str (PyData.shown (.list xs))) := by
  obtain ⟨a, b, c⟩ := rk_ok (d := .list xs) (by simpa [rk] using k)
  have a' : PyData.showableAll xs = true := by simpa [PyData.showable] using a
  simp only [nod] at c
  have l : Nat.ble (PyData.shown (.list xs)).length lim = true := Nat.ble_eq_true_of_le (by unfold lim; omega)
  simp only [b1E, s, d, a', b, l, Bool.and_self, if_true]
theorem repr_tuple {h : Hs} {w : W} {xs : List D} (s : snap h w = some (.tuple xs)) (k : rkAll xs = true) (d : dleAll 60 xs = true) (n : nodAll xs ≤ 200000) : b1E .repr h w = some (.str (PyData.shown (.tuple xs))) := by
  obtain ⟨a, b, c⟩ := rk_ok (d := .tuple xs) (by simpa [rk] using k)
  have a' : PyData.showableAll xs = true := by simpa [PyData.showable] using a
  simp only [nod] at c
  have l : Nat.ble (PyData.shown (.tuple xs)).length lim = true := Nat.ble_eq_true_of_le (by unfold lim; omega)
  simp only [b1E, s, d, a', b, l, Bool.and_self, if_true]
theorem seq_self (x : Str) : seq x x = true := by
  unfold seq
  generalize x.cps.toList = l
  induction l with
  | nil => rfl
  | cons a r ih => simp [leqN, ih]
theorem str_eq (x : Str) : cmpE .eq (.str x) (.str x) = some true := by
  show some (seq x x) = _
  rw [seq_self]
theorem str_ne (x : Str) : cmpE .ne (.str x) (.str x) = some false := by
  show (some (seq x x)).map not = _
  rw [seq_self]; rfl
end EV
end

section
set_option Elab.async false
set_option linter.all false
set_option maxRecDepth 100000
namespace EV
open PySem L2
/-! ### the jar that the laws draw from, for any program text that has it -/
def gDip : SS := (sSeq (sIf (cCmp .gt (cIdx (cSlot 0) (cCon (.int (.ofNat 0)))) (cCon (.int (.ofNat 0)))) (sSeq (sAsg (gNm 4) (cBin .mod (cB1 .int (cIdx (cSlot 0) (cCon (.int (.ofNat 0))))) (cSlot 1)))
    (sSeq (sAsg (gSub (cSlot 0) (cCon (.int (.ofNat 0)))) (cBin .fdiv (cIdx (cSlot 0) (cCon (.int (.ofNat 0)))) (cSlot 1)))
    (sSeq (sRet (cSlot 4))
    sPass))) sPass)
    (sSeq (sAsg (gSub (cSlot 0) (cCon (.int (.ofNat 2)))) (cBin .add (cIdx (cSlot 0) (cCon (.int (.ofNat 2)))) (cCon (.int (.ofNat 1)))))
    (sSeq (sAsg (gNm 2) (cBin .mod (cB1 .int (cBin .add (cIdx (cSlot 0) (cCon (.int (.ofNat 1)))) (cBin .mul (cCon (.int (.ofNat 67867967))) (cIdx (cSlot 0) (cCon (.int (.ofNat 2))))))) (cCon (.int (.ofNat 2305843009213693951)))))
    (sSeq (sAsg (gNm 3) (cBin .add (cBin .mul (cBin .mod (cB1 .int (cBin .add (cBin .mul (cSlot 2) (cSlot 2)) (cBin .mul (cCon (.int (.ofNat 109))) (cIdx (cSlot 0) (cCon (.int (.ofNat 2))))))) (cCon (.int (.ofNat 2305843009213693921)))) (cCon (.int (.ofNat 5999993)))) (cSlot 2)))
    (sSeq (sRet (cBin .mod (cB1 .int (cBin .fdiv (cSlot 3) (cCon (.int (.ofNat 65537))))) (cSlot 1)))
    sPass)))))
def gOne (dip : Nat) : SS := (sSeq (sRet (cIdx (cSlot 1) (cCallR dip (lOne (cSlot 0) (lOne (cB1 .len (cSlot 1)) lNil)))))
    sPass)
def gJarR : SS := sSeq (sAsg (gNm 3) (cBin .mod (cB2 .max (cCon (.int (.ofNat 0))) (cBin .sub (cB1 .abs (cSlot 2)) (cBin .pow (cCon (.int (.ofNat 10))) (cCon (.int (.ofNat 17)))))) (cBin .mul (cBin .pow (cCon (.int (.ofNat 10))) (cCon (.int (.ofNat 58)))) (cBin .pow (cCon (.int (.ofNat 10))) (cCon (.int (.ofNat 59)))))))
    (sSeq (sRet (cNew true (lOne (cSlot 3) (lOne (cBin .add (cBin .add (cBin .add (cBin .mul (cBin .mod (cB1 .abs (cSlot 2)) (cCon (.int (.ofNat 1152921504606847009)))) (cCon (.int (.ofNat 103)))) (cBin .mul (cCon (.int (.ofNat 1013))) (cSlot 1))) (cBin .mul (cCon (.int (.ofNat 71))) (cB1 .int (cCmp .lt (cSlot 2) (cCon (.int (.ofNat 0))))))) (cCon (.int (.ofNat 13)))) (lOne (cCon (.int (.ofNat 0))) lNil)))))
    sPass)
def gJar : SS := sSeq (sAsg (gNm 2) (cIf (cCmp .lt (cSlot 1) (cB1 .len (cSlot 0))) (cB1 .int (cIdx (cSlot 0) (cSlot 1))) (cBin .add (cBin .mul (cCon (.int (.ofNat 113))) (cSlot 1)) (cCon (.int (.ofNat 59)))))) gJarR
abbrev cvP (pg : Pg) (k : Nat) : Cv := ⟨runF pg k, runG pg (runF pg k), pg.wf, none, none⟩
structure Jars (pg : Pg) (dip one jr : Nat) : Prop where
  d : ∀ k a b h, runF pg (k + 1) dip [a, b] h = finF (gDip (cvP pg k) [some a, some b, none, none, none] h)
  o : ∀ k a b h, runF pg (k + 1) one [a, b] h = finF (gOne dip (cvP pg k) [some a, some b] h)
  j : ∀ k a b h, runF pg (k + 1) jr [a, b] h = finF (gJar (cvP pg k) [some a, some b, none, none] h)
theorem nth_setHx {h : Hs} {n : Nat} {o o' : O} (e : nth h n = some o) : nth (setH h n o') n = some o' := by
  rw [nth_eq] at e
  rw [setH_eq, nth_eq, List.getElem?_set_self (List.getElem?_eq_some_iff.mp e).1]
theorem setH_setHx {h : Hs} {n : Nat} {o o' : O} : setH (setH h n o) n o' = setH h n o' := by
  rw [setH_eq, setH_eq, setH_eq, List.set_set]
def jar (g m c : Int) : O := .lst [.d (.int g), .d (.int m), .d (.int c)]
section
variable {pg : Pg} {dip one jr : Nat}
theorem dip_ok (J : Jars pg dip one jr) {k n : Nat} {h : Hs} {g m c many : Int} (hm : 0 < many) (hl : many.natAbs.log2 ≤ 7999) (hh : nth h n = some (jar g m c)) :
    ∃ v g' c', runF pg (k + 1) dip [.r n, .d (.int many)] h = .ok (.d (.int v)) (setH h n (jar g' m c')) ∧ 0 ≤ v ∧ v < many := by
  have h0 : ilt 0 many = true := by rw [ilt_iff]; exact decide_eq_true hm
  have h1 : Nat.ble many.natAbs.log2 7999 = true := Nat.ble_eq_true_of_le hl
  have hs := fun o' => nth_setHx (o' := o') hh
  rw [J.d]
  by_cases hg : 0 < g
  · have e0 : ilt 0 g = true := by rw [ilt_iff]; exact decide_eq_true hg
    refine ⟨g % many, g / many, c, ?_, Int.emod_nonneg _ (by omega), Int.emod_lt_of_pos _ hm⟩
    unfold jar at hh hs ⊢
    simp [gDip, sSeq, sIf, cCmp, cIdx, cSlot, cCon, sAsg, gNm, EV.gSub, cBin, c2, cB1, sRet, sPass, finF, Re.then, EV.nth, hh, hs, idxW, itemsW, atD, liftO, snap, cmpE, ordT, ordI, okB, okD, b1E, binE, h0, h1, e0, setH_setHx]
  · have e0 : ilt 0 g = false := by rw [ilt_iff]; exact decide_eq_false hg
    have m1 : ∀ j, mulOk 67867967 j = true := fun j => rfl
    have m2 : ∀ j, mulOk 109 j = true := fun j => rfl
    have m3 : ∀ i, mulOk i 5999993 = true := fun i => by
      have : bnd 18446744073709551615 5999993 = true := rfl
      unfold mulOk; rw [this]; simp
    let one := (m + 67867967 * (c + 1)) % 2305843009213693951
    have m4 : mulOk ((m + 67867967 * (c + 1)) % 2305843009213693951) ((m + 67867967 * (c + 1)) % 2305843009213693951) = true := by
      have : bnd 18446744073709551615 ((m + 67867967 * (c + 1)) % 2305843009213693951) = true := by
        unfold bnd
        have a1 := Int.emod_nonneg (m + 67867967 * (c + 1)) (b := 2305843009213693951) (by decide)
        have a2 := Int.emod_lt_of_pos (m + 67867967 * (c + 1)) (b := 2305843009213693951) (by decide)
        exact Nat.ble_eq_true_of_le (by omega)
      unfold mulOk; rw [this]; rfl
    have q1 : ilt 0 2305843009213693951 = true := rfl
    have q2 : ilt 0 2305843009213693921 = true := rfl
    have q3 : ilt 0 65537 = true := rfl
    have q4 : Nat.log2 65537 ≤ 7999 := by decide +kernel
    refine ⟨((one * one + 109 * (c + 1)) % 2305843009213693921 * 5999993 + one) / 65537 % many, g, c + 1, ?_, Int.emod_nonneg _ (by omega), Int.emod_lt_of_pos _ hm⟩
    unfold jar at hh hs ⊢
    simp [gDip, sSeq, sIf, cCmp, cIdx, cSlot, cCon, sAsg, gNm, EV.gSub, cBin, c2, cB1, sRet, sPass, finF, Re.then, EV.nth, hh, hs, idxW, itemsW, atD, liftO, snap, cmpE, ordT, ordI, okB, okD, b1E, binE, h0, h1, e0, setH_setHx, m1, m2, m3, m4, q1, q2, q3, q4, one]
def JarAt (n : Nat) (h : Hs) : Prop := ∃ g m c, EV.nth h n = some (jar g m c)
/-- nothing but the jar has changed, and new things may have come -/
def Kept (n : Nat) (h h' : Hs) : Prop := JarAt n h' ∧ h.length ≤ h'.length ∧ ∀ b, b < h.length → b ≠ n → EV.nth h' b = EV.nth h b
theorem Kept.trans {n : Nat} {h h1 h2 : Hs} (a : Kept n h h1) (b : Kept n h1 h2) : Kept n h h2 :=
  ⟨b.1, Nat.le_trans a.2.1 b.2.1, fun i e f => (b.2.2 i (Nat.lt_of_lt_of_le e a.2.1) f).trans (a.2.2 i e f)⟩
theorem Kept.rfl {n : Nat} {h : Hs} (a : JarAt n h) : Kept n h h := ⟨a, Nat.le_refl _, fun _ _ _ => Eq.refl _⟩
theorem Kept.jar {n : Nat} {h h' : Hs} (a : Kept n h h') : JarAt n h' := a.1
theorem nth_ne {h : Hs} {n b : Nat} {o : O} (e : b ≠ n) : EV.nth (setH h n o) b = EV.nth h b := by
  rw [setH_eq, nth_eq, nth_eq, List.getElem?_set_ne (Ne.symm e)]
theorem nth_app {h : Hs} {b : Nat} {o : List O} (e : b < h.length) : EV.nth (h ++ o) b = EV.nth h b := by
  rw [nth_eq, nth_eq, List.getElem?_append_left e]
theorem nth_lt {α : Type} {h : List α} {n : Nat} {o : α} (e : EV.nth h n = some o) : n < h.length := by
  rw [nth_eq] at e
  exact (List.getElem?_eq_some_iff.mp e).1
theorem len_setH {h : Hs} {n : Nat} {o : O} : (setH h n o).length = h.length := by
  rw [setH_eq, List.length_set]
theorem Kept.app {n : Nat} {h : Hs} {o : O} (a : JarAt n h) : Kept n h (h ++ [o]) := by
  obtain ⟨g, m, c, e⟩ := a
  exact ⟨⟨g, m, c, (nth_app (nth_lt e)).trans e⟩, by simp, fun b i _ => nth_app i⟩
theorem dipS (J : Jars pg dip one jr) {k n : Nat} {h : Hs} {many : Int} (a : JarAt n h) (hm : 0 < many) (hl : many.natAbs.log2 ≤ 7999) :
    OKs (runF pg (k + 1) dip [.r n, .d (.int many)] h) (fun w h' => Kept n h h' ∧ ∃ v : Int, w = .d (.int v) ∧ 0 ≤ v ∧ v < many) := by
  obtain ⟨g, m, c, e⟩ := a
  obtain ⟨v, g', c', e1, e2, e3⟩ := dip_ok J (k := k) hm hl e
  rw [e1]
  exact ⟨⟨⟨g', m, c', nth_setHx e⟩, by rw [len_setH]; exact Nat.le_refl _, fun b _ f => nth_ne f⟩, v, _root_.rfl, e2, e3⟩
theorem nth_getE {xs : List D} {i : Nat} (e : i < xs.length) : EV.nth xs i = some xs[i] := by
  rw [nth_eq, List.getElem?_eq_getElem e]
/-- one of some items -/
theorem oneS (J : Jars pg dip one jr) {k n : Nat} {h : Hs} {xs : List D} (j : JarAt n h) (h0 : xs ≠ []) (hl : xs.length ≤ 1000) :
    OKs (runF pg (k + 2) one [.r n, .d (.list xs)] h) (fun w h' => Kept n h h' ∧ ∃ x, w = .d x ∧ x ∈ xs) := by
  rw [J.o]
  have hp : 0 < xs.length := List.length_pos_iff.mpr h0
  obtain ⟨w, h', e3, kp, v, e4, v0, v1⟩ := (dipS J (k := k) (many := (xs.length : Int)) j (by omega) (by
    have : ((xs.length : Int)).natAbs = xs.length := by omega
    rw [this]
    have : xs.length.log2 ≤ xs.length := Nat.log2_le_self _
    omega)).eq
  subst e4
  obtain ⟨i, rfl⟩ := Int.eq_ofNat_of_zero_le v0
  have hi : i < xs.length := by omega
  have p1 : idxW h' (.d (.list xs)) (i : Int) = some (.d xs[i]) := by
    show (atD xs (Int.ofNat i)).map _ = _
    show (EV.nth xs i).map _ = _
    rw [nth_getE hi]
    exact Eq.refl _
  have ee : finF (gOne dip (cvP pg (k + 1)) [some (.r n), some (.d (.list xs))] h) = .ok (.d xs[i]) h' := by
    simp [gOne, sSeq, sRet, cIdx, cSlot, EV.nth, Re.then, cCallR, lOne, cB1, lNil, b1E, lenW, okD, e3, p1, liftO, finF]
  rw [ee]
  exact ⟨kp, xs[i], Eq.refl _, List.getElem_mem hi⟩
theorem log_small {m : Int} (h0 : 0 < m) (h : m ≤ 1000000) : m.natAbs.log2 ≤ 7999 := by
  have q : m.natAbs < 2 ^ 20 := by omega
  have := Nat.log2_lt (n := m.natAbs) (k := 20) (by omega) |>.mpr q
  omega
/-- a draw, as a call -/
theorem dipC (J : Jars pg dip one jr) {k n : Nat} {C : Cv} {ρ : En} {h : Hs} {es : SL} {m : Int} (hC : C.F = runF pg (k + 1)) (e : es C ρ h = .ok [.r n, .d (.int m)] h) (j : JarAt n h) (h0 : 0 < m) (h1 : m ≤ 1000000) :
    OKs (cCallR dip es C ρ h) fun w h' => Kept n h h' ∧ ∃ v : Int, w = .d (.int v) ∧ 0 ≤ v ∧ v < m := by
  unfold cCallR
  rw [e, hC]
  exact dipS J j h0 (log_small h0 h1)
theorem oneC (J : Jars pg dip one jr) {k n : Nat} {C : Cv} {ρ : En} {h : Hs} {es : SL} {xs : List D} (hC : C.F = runF pg (k + 2)) (e : es C ρ h = .ok [.r n, .d (.list xs)] h) (j : JarAt n h) (h0 : xs ≠ [] := by simp) (h1 : xs.length ≤ 1000 := by simp) :
    OKs (cCallR one es C ρ h) fun w h' => Kept n h h' ∧ ∃ x, w = .d x ∧ x ∈ xs := by
  unfold cCallR
  rw [e, hC]
  exact oneS J j h0 h1
theorem nx_ok {α : Type} {m : Re α} {Q : α → Hs → Prop} (a : OKs m Q) : OKs (nx m) Q := by
  obtain ⟨w, h1, e1, p⟩ := a.eq
  rw [e1]
  exact p
def jg (z : Int) : Int := (if ilt 0 (Int.ofNat z.natAbs - 100000000000000000) then Int.ofNat z.natAbs - 100000000000000000 else 0) % 1000000000000000000000000000000000000000000000000000000000000000000000000000000000000000000000000000000000000000000000
def jm (z u : Int) : Int := Int.ofNat z.natAbs % 1152921504606847009 * 103 + 1013 * u + 71 * (if ilt z 0 then 1 else 0) + 13
theorem new_t {p : SL} {C : Cv} {ρ : En} {h : Hs} {ws : List EV.W} (e : p C ρ h = .ok ws h) (hl : ws.length ≤ 1000000) : cNew true p C ρ h = .ok (.r h.length) (h ++ [.lst ws]) := by
  simp only [cNew, e, Re.then, len_lim hl, if_true, retN]
theorem mul_smlx {i j : Int} (h : bnd 18446744073709551615 j = true) : binE .mul (.int i) (.int j) = some (.int (i * j)) := by
  show (if mulOk i j then _ else _) = _
  have : mulOk i j = true := by unfold mulOk; rw [h]; simp
  rw [this]; rfl
theorem ce_le (i j : Int) : cmpE .le (.int i) (.int j) = some (ile i j) := rfl
theorem ce_lt (i j : Int) : cmpE .lt (.int i) (.int j) = some (ilt i j) := rfl
theorem ce_ge (i j : Int) : cmpE .ge (.int i) (.int j) = some (ile j i) := rfl
theorem ce_gt (i j : Int) : cmpE .gt (.int i) (.int j) = some (ilt j i) := rfl
theorem ce_eq (i j : Int) : cmpE .eq (.int i) (.int j) = some (ieq i j) := rfl
theorem ce_ne (i j : Int) : cmpE .ne (.int i) (.int j) = some (!ieq i j) := rfl
theorem gJarR_ok {C : Cv} {u : Nat} (hu : u < 2) {s : Option EV.W} {z : Int} {h : Hs} : gJarR C [s, some (.d (.int (.ofNat u))), some (.d (.int z)), none] h = .ok (.rt (.r h.length)) (h ++ [jar (jg z) (jm z (.ofNat u)) 0]) := by
  refine (seq_asg (h1 := h) (w := .d (.int (jg z))) (by kernel_rfl)).trans ?_
  let ρ : En := [s, some (.d (.int (.ofNat u))), some (.d (.int z)), some (.d (.int (jg z)))]
  have e1 : cBin .mod (cB1 .abs (cSlot 2)) (cCon (.int (.ofNat 1152921504606847009))) C ρ h = .ok (.d (.int (Int.ofNat z.natAbs % 1152921504606847009))) h := by kernel_rfl
  have e2 := c_bin e1 (k := cCon (.int (.ofNat 103))) (y := .int (.ofNat 103)) rfl (mul_smlx (by decide))
  have e3 : cBin .mul (cCon (.int (.ofNat 1013))) (cSlot 1) C ρ h = .ok (.d (.int (Int.ofNat 1013 * Int.ofNat u))) h := by kernel_rfl
  have e4 : cBin .mul (cCon (.int (.ofNat 71))) (cB1 .int (cCmp .lt (cSlot 2) (cCon (.int (.ofNat 0))))) C ρ h = .ok (.d (.int (Int.ofNat 71 * (if ilt z 0 then 1 else 0)))) h := by kernel_rfl
  have e5 := c_bin (c_bin (c_bin e2 e3 (o := .add) rfl) e4 (o := .add) rfl) (k := cCon (.int (.ofNat 13))) (y := .int (.ofNat 13)) (o := .add) rfl rfl
  exact seq_ret (new_t (l_one (w := .d (.int (jg z))) rfl (l_one e5 rfl)) (by simp))
/-- a jar -/
theorem jarS (J : Jars pg dip one jr) {k u : Nat} {ns : List Int} {h : Hs} (hu : u < 2) : ∃ g m, runF pg (k + 1) jr [.d (.list (ns.map .int)), .d (.int (.ofNat u))] h = .ok (.r h.length) (h ++ [jar g m 0]) := by
  have first : ∃ z : Int, cIf (cCmp .lt (cSlot 1) (cB1 .len (cSlot 0))) (cB1 .int (cIdx (cSlot 0) (cSlot 1))) (cBin .add (cBin .mul (cCon (.int (.ofNat 113))) (cSlot 1)) (cCon (.int (.ofNat 59)))) (cvP pg k) [some (.d (.list (ns.map .int))), some (.d (.int (.ofNat u))), none, none] h = .ok (.d (.int z)) h := by
    have e1 : cCmp .lt (cSlot 1) (cB1 .len (cSlot 0)) (cvP pg k) [some (.d (.list (ns.map .int))), some (.d (.int (.ofNat u))), none, none] h = .ok (.d (.bool (ilt (.ofNat u) (.ofNat ns.length)))) h :=
      c_cmp (x := .int (.ofNat u)) rfl (c_b1 (w := .d (.list (ns.map .int))) (z := .int (.ofNat ns.length)) rfl (by
        show some (PyData.int (.ofNat (ns.map PyData.int).length)) = _
        rw [List.length_map])) (ce_lt _ _)
    cases q : ilt (.ofNat u) (.ofNat ns.length) with
    | true =>
      rw [q] at e1
      rw [ilt_iff] at q
      have hu : u < ns.length := by
        have := of_decide_eq_true q
        simpa using this
      have ie : idxW h (.d (.list (ns.map .int))) (.ofNat u) = some (.d (.int ns[u])) := by
        show (EV.nth (ns.map PyData.int) u).map EV.W.d = _
        rw [nth_eq, List.getElem?_map, List.getElem?_eq_getElem hu]; rfl
      exact ⟨ns[u], (c_if_t e1).trans (c_b1 (c_idx (w := .d (.list (ns.map .int))) (i := .ofNat u) rfl rfl ie) rfl)⟩
    | false =>
      rw [q] at e1
      match u, hu with
      | 0, _ => exact ⟨_, (c_if_f e1).trans rfl⟩
      | 1, _ => exact ⟨_, (c_if_f e1).trans rfl⟩
  obtain ⟨z, e⟩ := first
  rw [J.j]
  exact ⟨jg z, jm z (.ofNat u), fin_rt ((seq_asg e).trans (gJarR_ok hu))⟩
end
/-! ### statements one behind the other, with draws in them -/
theorem OKs.forL {step : IW → En → Hs → Re Fl} (I : En → Hs → Prop) : ∀ (items : List IW), (∀ i ∈ items, ∀ ρ h, I ρ h → OKs (step i ρ h) fun fl h' => ∃ ρ', fl = .nx ρ' ∧ I ρ' h') →
    ∀ ρ h, I ρ h → OKs (EV.forL step items ρ h) fun fl h' => ∃ ρ', fl = .nx ρ' ∧ I ρ' h'
  | [], _, ρ, h, i => ⟨ρ, rfl, i⟩
  | x :: r, H, ρ, h, i => by
    show OKs ((step x ρ h).then _) _
    refine (H x (by simp) ρ h i).bind ?_
    rintro _ h1 ⟨ρ1, rfl, i1⟩
    exact OKs.forL I r (fun y hy => H y (by simp [hy])) ρ1 h1 i1
theorem OKs.for_ {C : Cv} {ρ : En} {h : Hs} {t : SG} {it : SI} {s : SS} {items : List IW} (I : En → Hs → Prop) (hi : it C ρ h = .ok ⟨items, []⟩ h)
    (H : ∀ i ∈ items, ∀ ρ h, I ρ h → OKs ((t i C ρ h).then fun ρ2 h3 => s C ρ2 h3) fun fl h' => ∃ ρ', fl = .nx ρ' ∧ I ρ' h') (i : I ρ h) : OKs (sFor t it s C ρ h) fun fl h' => ∃ ρ', fl = .nx ρ' ∧ I ρ' h' := by
  have a := OKs.forL (step := fun i ρ1 h2 => (t i C ρ1 h2).then fun ρ2 h3 => s C ρ2 h3) I items H ρ h i
  obtain ⟨fl, h1, e, ρ1, rfl, q⟩ := a.eq
  refine OKs.of (x := .nx ρ1) (h := h1) ?_ ⟨ρ1, rfl, q⟩
  simp only [sFor, hi, Re.then, lockH, unlock]
  simp only [Re.then] at e
  rw [e]
theorem OKs.seq {C : Cv} {ρ : En} {h : Hs} {s r : SS} {I : En → Hs → Prop} {Q : Fl → Hs → Prop} (a : OKs (s C ρ h) fun fl h' => ∃ ρ', fl = .nx ρ' ∧ I ρ' h') (b : ∀ ρ' h', I ρ' h' → OKs (r C ρ' h') Q) : OKs (sSeq s r C ρ h) Q := by
  obtain ⟨fl, h1, e, ρ1, rfl, q⟩ := a.eq
  exact OKs.by_ (seq_nx e) (b ρ1 h1 q)
/-- if .. : return, which is not done -/
theorem OKs.ifF {C : Cv} {ρ : En} {h : Hs} {c : SE} {a r : SS} {P : Hs → Prop} {Q : Fl → Hs → Prop} (e : OKs (c C ρ h) fun w h' => w = .d (.bool false) ∧ P h') (b : ∀ h', P h' → OKs (r C ρ h') Q) : OKs (sSeq (sIf c a sPass) r C ρ h) Q := by
  obtain ⟨w, h1, e1, rfl, p⟩ := e.eq
  exact OKs.by_ (seq_if_f e1) (b h1 p)
theorem OKs.orF {C : Cv} {ρ : En} {h : Hs} {c a : SE} {P : Hs → Prop} {Q : W → Hs → Prop} (e : OKs (c C ρ h) fun w h' => w = .d (.bool false) ∧ P h') (b : ∀ h', P h' → OKs (a C ρ h') Q) : OKs (cOr c a C ρ h) Q := by
  obtain ⟨w, h1, e1, rfl, p⟩ := e.eq
  exact OKs.by_ (c_or_f e1) (b h1 p)
theorem seq_par2 {a b : SE} {r : SS} {C : Cv} {ρ : En} {h h1 h2 : Hs} {i j : Nat} {w1 w2 : W} (e1 : a C ρ h = .ok w1 h1) (e2 : b C ρ h1 = .ok w2 h2) :
    sSeq (sPar (gsCons (gNm i) (gsCons (gNm j) gsNil)) (lOne a (lOne b lNil))) r C ρ h = r C ((ρ.set i (some w1)).set j (some w2)) h2 := by
  have e : lOne a (lOne b lNil) C ρ h = .ok [w1, w2] h2 := l_one e1 (l_one e2 rfl)
  unfold sSeq sPar
  rw [e]
  rfl
/-- arguments that are already worked out -/
def argL (ws : List W) : SL := fun _ _ h => .ok ws h
theorem call_arg {f : Nat} {es : SL} {C : Cv} {ρ : En} {h h1 : Hs} {ws : List W} (e : es C ρ h = .ok ws h1) : cCall f es C ρ h = cCall f (argL ws) C ρ h1 := by
  unfold cCall argL
  rw [e]
/-- a comparison of what a call answers, with draws in its arguments -/
theorem cmp_draw {o : Cop} {b : Bool} {f : Nat} {es : SL} {rhs : SE} {C : Cv} {ρ : En} {h : Hs} {P : List W → Hs → Prop} (a : OKs (es C ρ h) P) (k : ∀ ws h', P ws h' → cCmp o (cCall f (argL ws)) rhs C ρ h' = .ok (.d (.bool b)) h') :
    OKs (cCmp o (cCall f es) rhs C ρ h) fun w h' => w = .d (.bool b) ∧ ∃ ws, P ws h' := by
  obtain ⟨ws, h1, e1, p⟩ := a.eq
  refine OKs.of (x := .d (.bool b)) (h := h1) ?_ ⟨rfl, ws, p⟩
  rw [← k ws h1 p]
  unfold cCmp
  rw [call_arg e1]
theorem OKs.one {C : Cv} {ρ : En} {h : Hs} {e : SE} {r : SL} {P : W → Hs → Prop} {R : W → List W → Hs → Prop} (a : OKs (e C ρ h) P) (b : ∀ w h', P w h' → OKs (r C ρ h') fun ws h2 => R w ws h2) : OKs (lOne e r C ρ h) fun ws h' => ∃ w us, ws = w :: us ∧ R w us h' := by
  obtain ⟨w, h1, e1, p⟩ := a.eq
  obtain ⟨us, h2, e2, q⟩ := (b w h1 p).eq
  exact OKs.of (l_one e1 e2) ⟨w, us, rfl, q⟩
end EV
end

section
set_option Elab.async false
set_option linter.all false
set_option maxRecDepth 100000
namespace EXS
open PySem PySem.W PySem.Calls PyProof.Rows PySem.Spec
/-! ### def __init__(self, p): super().__init__(p); self.f = p -/
/-- the two statements -/
def iniBody (par fld : Str) (p0 p1 p2 p3 p4 p5 p6 p7 p8 p9 : Pos) : List Stmt :=
  [.Expr (.Call (.Attribute (.Call (.Name "super" p0) [] [] p1) "__init__" p2) [.Name par p3] [] p4) p5, .Assign [.Attribute (.Name "self" p6) fld p7] (.Name par p8) p9]
/-- what its names are -/
structure IniScope (par : Str) (params : Arguments) (scope : Scope) : Prop where
  kind : scope.kind = .function
  co : scope.isCoroutine = false
  gen : scope.isGenerator = false
  slf : scope.names.lookup ("self" : Str) = some .local
  par_ : scope.names.lookup par = some .local
  cls : scope.names.lookup ("__class__" : Str) = some .free
  sup : scope.names.lookup ("super" : Str) = some .globalImplicit
  cell : ∀ x ∈ scope.names, x.2 ≠ .cell
  head : ∃ ar, (params.posonlyargs ++ params.args).head? = some ar ∧ ar.arg = "self"
  bind : ∀ (qual : Str) (body : List Stmt) (cl : List (Str × Addr)) (kV doc pm cdv ct a b : Value) (an : Option Addr), bindArgs (fnX "__init__" qual params body scope cl .none kV doc pm an cdv ct) ⟨[a, b], []⟩ = pure [(("self" : Str), a), (par, b)]
  ne : par ≠ "self"
  inter : ∀ (qual : Str) (L a cc : Addr) (cd : Value), interactive (ksEnv qual scope L a cd cc) = false
/-- what the written part says of the class and its __init__ -/
structure SupK (K : Frag) (prog : Program) (C fI : Addr) (B newId initId : String) (bmB : List Value) (fld : Str) (qual : Str) (params : Arguments) (body : List Stmt) (scope : Scope) : Prop where
  fb : ExcBaseFacts B newId initId bmB
  kf : KxsFacts B initId
  sf : StoreFacts B bmB "object.__setattr__" "object"
  ini : excInitIn K C bmB newId = true
  ovr : excOver K C bmB = true
  hasD : hasDictIn K C = true
  sa : findIn K (.ref C) "__setattr__" = some (some (.builtin "object.__setattr__"))
  tk : takerIn K C fld = some none
  sup : ks_superIn K C C "__init__" = some (some (.builtin initId))
  subB : subIn K (.ref C) (.type B) = some true
  mro : mroIn K C (.ref C) = some true
  own : ∃ cd, clsIn K C = some cd
  any : nsIn K cStatics "thirdparty.any" = some none
  supG : nsIn K mainGlobals "super" = some none
  fn : ∃ oc od kV doc pm an cda ct cc osl ccl cdd vs ccs file tf cl cld csl, K.lookup fI = some ⟨oc, od, .func (ksFn "__init__" qual params body scope .none kV doc pm an (.ref cda) ct cc), osl⟩ ∧ codeIn K (.ref cda) qual = true ∧
    K.lookup cda = some ⟨ccl, cdd, .fields vs, ccs⟩ ∧ vs[2]? = some (.str file tf) ∧ ((prog.main.file : Str) == file) = true ∧ K.lookup cc = some ⟨cl, cld, .cell (some (.ref C)), csl⟩
section
variable {prog : Program} {w : World} {A : Around} {R : Result → Shared → Prop} {s : Shared} {K : Frag} {C fI e t0 : Addr} {B newId initId : String} {bmB : List Value} {fld par qual : Str} {params : Arguments} {scope : Scope} {hp : Heap} {mg mb : Str → Option Value} {v : Value}
  {p0 p1 p2 p3 p4 p5 p6 p7 p8 p9 : Pos}
theorem ns1_one {h : Heap} {dx : Addr} {es : List DictEntry} {n : Nat} {tk : Tok} {hs : Int} (hd : h.get? dx = some (dictOf es n)) (e : es = putL fld hs (.str fld tk) v []) : h.Ns1 dx (fun y => if y = fld then some v else none) := by
  subst e
  refine ⟨_, _, _, hd, rfl, fun x hx => ?_, ?_, fun y => ?_⟩
  · have hx' : x = ⟨hs, .str fld tk, v⟩ := by simpa [putL] using hx
    subst hx'
    exact ⟨fld, tk, rfl⟩
  · simp [putL, UniqKeys]
  · have e : (Value.str fld tk).isStr y = (fld == y) := rfl
    simp only [nsFind, findBy, putL, List.find?_toArray, List.find?_cons, e]
    by_cases h : y = fld
    · subst h
      simp
    · have h2 : (fld == y) = false := by simpa using Ne.symm h
      rw [h2, if_neg h]
      rfl
theorem init_sup (S1 : IniScope par params scope) (S : SupK K prog C fI B newId initId bmB fld qual params (iniBody par fld p0 p1 p2 p3 p4 p5 p6 p7 p8 p9) scope)
    (X₀ : K.In hp) (hsz : hp.objs.size ≤ s.heap.objs.size) (kp : ∀ b o, hp.get? b = some o → s.heap.get? b = some o) (he : s.heap.get? e = some (excObj C t0 none .none)) (hen : hp.get? e = none)
    (gl : hp.Ns mainGlobals mg) (bl : hp.Ns builtinsNs mb) (hb : mb "super" = some (.type "super")) (hg : mg "super" = none) (lim : hp.NoLimit) (room : A.depth < recursionLimit) (htop : (prog.main.scope.names.lookup ("super" : Str)).isSome = false)
    (hev : ∀ (L a cc : Addr) (cd : Value), ∃ pl : Sem Bool, eval (.Call (.Attribute (.Call (.Name "super" p0) [] [] p1) "__init__" p2) [.Name par p3] [] p4) (ksEnv qual scope L a cd cc) = (do
      let ov ← attributeBase (.Call (.Name "super" p0) [] [] p1) "__init__" (ksEnv qual scope L a cd cc) (eval (.Call (.Name "super" p0) [] [] p1) (ksEnv qual scope L a cd cc))
      standAt p2.atName
      let (f, first) ← holding [ov] (getMethod ov "__init__" pl)
      callWith p4 f first (backTo p4 (starEach [.Name par p3] (ksEnv qual scope L a cd cc))) []))
    (hsw : ∀ env : Env, swapsWith (.Name par p8) (some (.Attribute (.Name "self" p6) fld p7)) p9.line env = pure false) (hpd : (par == ("__debug__" : Str)) = false)
    (hq : ∀ h' t' dx t1, (∀ b o, hp.get? b = some o → h'.get? b = some o) → h'.get? e = some (excObj C t1 (some dx) .none) → hp.get? dx = none → e < dx → h'.Ns1 dx (fun y => if y = fld then some v else none) → R (.ok (.ret .none)) { s with heap := h', toks := t' }) :
    codeAny (model prog w) A (.call (.ref fI) ⟨[.ref e, v], []⟩) R s := by
  obtain ⟨oc, od, kV, doc, pm, an, cda, ct, cc, osl, ccl, cdd, vs, ccs, file, tf, cl, cld, csl, lk, hcd, lkc, hvs, hfile, lkcell⟩ := S.fn
  obtain ⟨cdD, hcls⟩ := S.own
  obtain ⟨ar, har, hself⟩ := S1.head
  have XS : K.In s.heap := X₀.keeps kp
  let fd : FuncData := ksFn "__init__" qual params (iniBody par fld p0 p1 p2 p3 p4 p5 p6 p7 p8 p9) scope .none kV doc pm an (.ref cda) ct cc
  let L := s.heap.objs.size
  let env : Env := ksEnv qual scope L fI (.ref cda) cc
  refine ks_codeAny_call_defAt (fd := fd) (body := iniBody par fld p0 p1 p2 p3 p4 p5 p6 p7 p8 p9) (binds := [(("self" : Str), .ref e), (par, v)]) room (XS _ _ lk) rfl (lim.keeps kp) (codeRec_of XS hcd) rfl (.of_eq (S1.bind _ _ _ _ _ _ _ _ _ _ _)) S1.cell
    (fun x hx => ?_) (fun h₁ hns hk₁ => ?_) S1.co S1.gen S1.kind
  · simp only [List.mem_cons, List.not_mem_nil, or_false] at hx
    rcases hx with rfl | rfl
    · exact S1.slf
    · exact S1.par_
  let m : Str → Option Value := fun x => [(("self" : Str), Value.ref e), (par, v)].reverse.lookup x
  have mself : m "self" = some (.ref e) := by
    show List.lookup ("self" : Str) [(par, v), (("self" : Str), Value.ref e)] = _
    have : (("self" : Str) == par) = false := by simpa using Ne.symm S1.ne
    simp [List.lookup, this]
  have mpar : m par = some v := by
    show List.lookup par [(par, v), (("self" : Str), Value.ref e)] = _
    simp [List.lookup]
  have F1 : Fr hp L h₁ m := ⟨hns, fun b o z => hk₁ b o (kp b o z), hsz⟩
  have N1 : News hp L h₁ [(e, excObj C t0 none .none)] := fun p hp' => by
    rw [List.mem_singleton] at hp'
    subst hp'
    exact ⟨hk₁ _ _ he, Nat.ne_of_lt (Heap.lt_size he), hen⟩
  have KI : ∀ {h : Heap}, (∀ b o, hp.get? b = some o → h.get? b = some o) → K.In h := fun k => X₀.keeps k
  have loc : ∀ {h : Heap} {g : Array GenState} {d : Drawn} {t : Nat} {os : OsState} {x : Str} {u : Value} {A' : Around} {E' : Value → Shared → Prop} {Q : Value → Shared → Prop}, Fr hp L h m → scope.names.lookup x = some .local → m x = some u → Q u ⟨h, g, d, t, os⟩ →
      wpAny (model prog w) A' (loadName env x) Q E' ⟨h, g, d, t, os⟩ := fun F hl hm hQ => wpAny_loadName_local (env := env) S1.kind hl F.ns hm hQ
  obtain ⟨oD, hD1, hD2⟩ : ∃ oD, hp.get? C = some oD ∧ oD.data = .cls cdD := by
    unfold clsIn at hcls
    split at hcls
    · rename_i c d cd' sl ho
      cases hcls
      exact ⟨_, X₀ _ _ ho, rfl⟩
    · cases hcls
  obtain ⟨pl, hpl⟩ := hev L fI cc (.ref cda)
  show _root_.PySem.wpAt (model prog w) (A.deeper env) (.func _ env) (execs _ env) _ _ _
  refine ks_wpAt_execs_cons (ks_wpAt_Expr_any (ks_wpAt_MethodCall (pl := pl) ?_ hpl) (S1.inter _ _ _ _ _))
  refine ks_wpAt_super_base (env := env) S1.sup S1.cls rfl rfl (KI F1.keep _ _ lk) rfl har rfl (KI F1.keep _ _ lkc) rfl hvs hfile htop ?_
  refine ks_loadName_global S1.kind S1.sup (loadGlobal_builtin (env := env) (gl.keeps F1.keep) hg (bl.keeps F1.keep) hb ⟨rfl, ?_⟩)
  refine wpAny_loadName_free (env := env) S1.kind S1.cls rfl ⟨_, KI F1.keep _ _ lkcell, rfl⟩ ?_
  rw [hself]
  refine loc F1 S1.slf mself ?_
  refine ks_wpAny_isType_cls (F1.keep _ _ hD1) hD2 ⟨rfl, ?_⟩
  refine ks_wpAny_call_super (F1.keep _ _ hD1) hD2 (hk₁ _ _ he) rfl (fun c z => nomatch z) (looks_mroIn (KI F1.keep) S.mro) (fun h2 e2 k2 => ?_)
  obtain ⟨F2, N2, l2⟩ := ks_newsPush (s := ⟨h₁, s.gens, s.drawn, s.toks + 2, s.os⟩) (o := ks_superObj C e C) F1 N1 rfl e2 k2
  have I2 : InstAt h2 e (excObj C t0 none .none) C none := .of_exc0 N2 (by simp)
  refine kxs_method S.kf F2 X₀ N2 (by simp) I2 S.any S.sup S.subB rfl fun q h3 F3 N3 l3 => ?_
  refine kxs_callWith (i := initId) (x := e) rfl ?_
  refine evalArgs_plain (spliced_cons (wpAny_Name (loc F3 S1.par_ mpar (spliced_nil ⟨kxs_at N3 (by simp), ?_⟩)) hpd))
  have lt_eso : e < h₁.objs.size := l2 (e, excObj C t0 none .none) (by simp)
  have lt_soq : h₁.objs.size < q := l3 (h₁.objs.size, ks_superObj C e C) (by simp)
  refine kxs_call (x := e) (t := t0) (dv := none) (c2 := .none) (rest := [v]) F3 X₀ N3 S.fb S.ini (by simp) (.tail (Nat.ne_of_gt (Nat.lt_trans lt_eso lt_soq)) (.tail (Nat.ne_of_gt lt_eso) (.head fun p hp' => nomatch hp')))
    (by show 1 ≤ sizeLine; rw [sizeLine_eq]; decide) fun t4 h4 F4 N4 l4 => ?_
  refine ks_wpAt_execs_cons (ks_wpAt_Assign_Attr (wpAt_of_wpAny (wpAny_Name (loc F4 S1.par_ mpar ?_) hpd)) (hsw _))
  refine wpAny_Name (loc F4 S1.slf mself ?_)
  have lt_t4 : e < t4 := l4 (e, excObj C t0 none .none) (by simp)
  refine set_exc0 (x := e) (t := t4) (c2 := .none) S.sf F4 X₀ N4 (by simp) S.sa S.ovr S.tk S.hasD rfl (.tail (Nat.ne_of_gt lt_t4) (.tail (Nat.ne_of_gt (Nat.lt_trans lt_eso lt_soq)) (.tail (Nat.ne_of_gt lt_eso) (.head fun p hp' => nomatch hp'))))
    (by simp [putL]) fun dx h5 F5 N5 l5 => ?_
  refine wpAt_of_wpAny (wpAny_execs_nil ?_)
  have hdx := N5 (dx, _) (List.mem_cons_self ..)
  have hex := N5 (e, excObj C t4 (some dx) .none) (by simp)
  exact hq h5 _ dx t4 F5.keep hex.1 hdx.2.2 (l5 (e, excObj C t4 none .none) (by simp)) (ns1_one hdx.1 rfl)
end
end EXS
end

section
set_option Elab.async false
set_option linter.all false
set_option maxRecDepth 100000
namespace EXS
open PySem PySem.Spec PyProof.Rows L2
/-- what is asked where such an exception is made -/
structure SupX (X : Cx) (C fI : Addr) (B newId initId : String) (bmB : List Value) (fld par qual : Str) (params : Arguments) (scope : Scope) (ps : Pos × Pos × Pos × Pos × Pos × Pos × Pos × Pos × Pos × Pos) : Prop where
  k : SupK X.K X.prog C fI B newId initId bmB fld qual params (iniBody par fld ps.1 ps.2.1 ps.2.2.1 ps.2.2.2.1 ps.2.2.2.2.1 ps.2.2.2.2.2.1 ps.2.2.2.2.2.2.1 ps.2.2.2.2.2.2.2.1 ps.2.2.2.2.2.2.2.2.1 ps.2.2.2.2.2.2.2.2.2) scope
  sc : IniScope par params scope
  iC : PySem.W.findIn X.K (.ref C) "__init__" = some (some (.ref fI))
  tI : PySem.W.typeIn X.K (.ref fI) = some (.type "function")
  exC : PySem.W.subIn X.K (.ref C) (.type "BaseException") = some true
  tyC : PySem.W.typeIn X.K (.ref C) = some (.type "type")
  kC : PySem.W.keepIn X.K (.ref C) = true
  top : (X.prog.main.scope.names.lookup ("super" : Str)).isSome = false
  mgS : X.mg "super" = none
  pd : (par == ("__debug__" : Str)) = false
  sw : ∀ env : Env, swapsWith (.Name par ps.2.2.2.2.2.2.2.2.1) (some (.Attribute (.Name "self" ps.2.2.2.2.2.2.1) fld ps.2.2.2.2.2.2.2.1)) ps.2.2.2.2.2.2.2.2.2.line env = pure false
  ev : ∀ (L a cc : Addr) (cd : Value), ∃ pl : Sem Bool, eval (.Call (.Attribute (.Call (.Name "super" ps.1) [] [] ps.2.1) "__init__" ps.2.2.1) [.Name par ps.2.2.2.1] [] ps.2.2.2.2.1) (PySem.W.ksEnv qual scope L a cd cc) = (do
      let ov ← attributeBase (.Call (.Name "super" ps.1) [] [] ps.2.1) "__init__" (PySem.W.ksEnv qual scope L a cd cc) (eval (.Call (.Name "super" ps.1) [] [] ps.2.1) (PySem.W.ksEnv qual scope L a cd cc))
      standAt ps.2.2.1.atName
      let (f, first) ← holding [ov] (getMethod ov "__init__" pl)
      callWith ps.2.2.2.2.1 f first (backTo ps.2.2.2.2.1 (starEach [.Name par ps.2.2.2.1] (PySem.W.ksEnv qual scope L a cd cc))) [])
section
variable {X : Cx} {C fI : Addr} {B newId initId : String} {bmB : List Value} {fld par qual x : Str} {params : Arguments} {scope : Scope} {ps : Pos × Pos × Pos × Pos × Pos × Pos × Pos × Pos × Pos × Pos} {e : Expr} {ta : TE} {p pos : Pos} {k : Nat}
theorem pmk_sup (S : SupX X C fI B newId initId bmB fld par qual params scope ps) (hr : Room (k + 1) X.A) (hg : Gl X x) (hm : X.mg x = some (.ref C)) (he : PE X e ta)
    (hs : starEach [e] X.env = (false, eval e X.env) :: starEach [] X.env := by rfl) (hdb : (x == ("__debug__" : Str)) = false := by decide) :
    PMk X (.Call (.Name x p) [e] [] pos) (fun σ H Q => ta σ H fun v H1 => ∀ d, H1 d = none → Q (.ref C) (some d) (upd H1 d (.xd [(fld, v)]))) := by
  intro pins s σ H Q I h
  refine wpAny_Call_Name_kw (ld_glob I hg hm ?_ hdb)
  refine PySem.W.callWith_K (h₀ := X.base) I.ok.mod.kin S.kC ?_ hs (by rfl)
  rw [hs]
  show wpAny _ _ (spliced ((false, eval e X.env) :: backTo pos (starEach [] X.env))) _ _ s
  refine Calls.spliced_cons (thn (he.run pins s σ H _ I h) fun u s1 ⟨v, H1, I1, r1, q1⟩ => Calls.spliced_nil ⟨I1.kIn, ?_⟩)
  show wpAny _ _ (call (.ref C) [u]) _ _ _
  have hfr := fun a (z : s1.heap.objs.size ≤ a) => I1.hok.fresh z
  obtain ⟨mb, hb1, hb2⟩ := I1.ok.mod.blt
  obtain ⟨hp, g, dr, tk, os⟩ := s1
  obtain ⟨nm, N', qn, bs, bm, hdct, sn, sub, ab, col, dd, k0, k1, k2, k3, k5, hC, hT⟩ := PySem.W.excInit_of I1.kIn S.k.ini
  have kk : ∀ b o, hp.get? b = some o → ((hp.push (PySem.W.kdv_tup [u])).push (PySem.HandSPX.excO C hp.objs.size)).get? b = some o := fun b o z => Heap.get?_push_of_some _ (Heap.get?_push_of_some _ z)
  have hen : hp.get? (hp.objs.size + 1) = none := Heap.get?_none_of_le (Nat.le_succ _)
  refine wpAny_call (PySem.HandSPX.call_own S.k.fb hT hC (PySem.W.looks_findIn I1.kIn S.iC) (fun self => PySem.W.bind_fn I1.kIn self S.tI) (by show 1 ≤ sizeLine; rw [sizeLine_eq]; decide) ?_)
  refine init_sup (hp := hp) (e := hp.objs.size + 1) (t0 := hp.objs.size) S.sc S.k I1.kIn (by rw [Heap.size_push, Heap.size_push]; exact Nat.le_add_right _ 2) kk (by heap_get) hen (I1.ok.mod.glob.keeps I1.bk) (hb1.keeps I1.bk)
    ((hb2 _ (by decide)).trans (by decide +kernel)) S.mgS (I1.ok.mod.nolimit.keeps I1.bk) (hr.make C [u] []).depth S.top S.ev S.sw S.pd fun h2 t2 dx t1 k2 hx hd hlt hns => ⟨rfl, ?_⟩
  obtain ⟨G, g1, g2⟩ := restrict h2 fun b => decide (b ≠ hp.objs.size + 1)
  have gk : ∀ b, b ≠ hp.objs.size + 1 → G.get? b = h2.get? b := fun b hb => g1 b (decide_eq_true hb)
  have ge : G.get? (hp.objs.size + 1) = none := g2 _ (by simp)
  have hdx : hp.objs.size ≤ dx := Nat.le_of_lt (Nat.lt_of_succ_lt hlt)
  have nb : ∀ b o, hp.get? b = some o → b ≠ hp.objs.size + 1 := fun b o z e => by
    rw [e, hen] at z
    cases z
  have J : Inv X pins σ (upd H1 dx (.xd [(fld, v)])) ⟨G, g, dr, t2, os⟩ := I1.laid (a := dx) (o := .xd [(fld, v)]) (h' := G) (t' := t2) (fun b o z => (gk b (nb b o z)).trans (k2 b o z)) hdx
    ⟨_, hns.at fun o z => (gk dx (Nat.ne_of_gt hlt)).trans z, fun f => by
      by_cases hf : f = fld
      · subst hf
        simp only [List.lookup, beq_self_eq_true, if_true]
        exact r1
      · have : (f == fld) = false := by simpa using hf
        simp only [List.lookup, this, if_neg hf]
        trivial⟩
  refine ⟨hp.objs.size + 1, _, _, ⟨G, g, dr, t2, os⟩, _, .ref C, some dx, rfl, J, fun b o z => ?_, ge, hx, ⟨rfl, rfl⟩, rfl, rfl, ?_, rfl, I1.bare, raises_own S.exC S.tyC, q1 dx (hfr dx hdx)⟩
  · by_cases hb : b = hp.objs.size + 1
    · rw [hb, ge] at z
      cases z
    · exact (gk b hb).symm.trans z
  · rw [upd_ne (Nat.ne_of_lt hlt)]
    exact hfr _ (Nat.le_succ _)
end
end EXS
end

section
set_option Elab.async false
set_option linter.all false
set_option maxRecDepth 100000
namespace EV
open PySem L2
section
variable {X : Cx} {S : Sc} {J : JT} {W : WX} {C : Cv} {e : Expr} {me : SE} {c : Nat} {f : Str} {pos : Pos}
/-- raise X('..') -/
theorem s_raiseT (x : Xk S X J W) (hc : X.calm = true) (mk : PMk X e (fun _ H Q => Q (.ref (S.cls c)) none H)) : SPS S X J W C (.Raise (some e) none pos) (sRaise0 c) :=
  PS.conseq (ps_raise hc x.tk mk) fun D σ H ⟨Z, η, ρ, h, A, k⟩ => k η H _ none σ FR.refl A.hr A.jj ⟨rfl, trivial⟩
/-- raise X(e), where X keeps it -/
theorem s_raiseV (x : Xk S X J W) (hc : X.calm = true) (hf : S.fld c = f) (mk : PMk X e (fun σ H Q => tE S X.K J W (me C) σ H fun v H1 => ∀ d, H1 d = none → Q (.ref (S.cls c)) (some d) (upd H1 d (.xd [(f, v)])))) :
    SPS S X J W C (.Raise (some e) none pos) (sRaise c me) := by
  subst hf
  refine PS.conseq (ps_raise hc x.tk mk) fun D σ H ⟨Z, η, ρ, h, A, k⟩ => ⟨Z, η, ρ, h, A, KG.bind A.hr k fun w h1 η1 H1 f1 R1 k1 v r1 d hd => ?_⟩
  have A1 := A.step x.jo f1 R1
  cases fz : frzW h1 w with
  | none => simp only [fz] at k1; exact k1.elim
  | some y =>
    obtain ⟨y, h2⟩ := y
    simp only [fz] at k1
    obtain ⟨f2, R2, rv⟩ := frzW_ok R1 r1 fz
    have f3 : FR η1 h2 H1 η1 h2 (upd H1 d (.xd [(S.fld c, v)])) := FR.alloc hd _
    have R3 := R2.alloc hd (.xd [(S.fld c, v)])
    have f4 := f2.trans f3 R1
    exact k1 η1 _ (.ref (S.cls c)) (some d) σ f4 R3 (x.jo.step A1.hr f4.toFR0 A1.jj) ⟨rfl, d, v, rfl, upd_same, f3.rv R2 rv⟩
end
end EV
end

section
set_option Elab.async false
set_option linter.all false
set_option maxRecDepth 100000
namespace EV
open PySem PySem.Spec PyProof.Rows L2
/-! ### try with several clauses, each with a name or without -/
structure Cls where
  c : Value
  i : Option Nat
  ts : Addr → Value → Option Addr → TS
def endI (i : Option Nat) (D : Ends) : Ends := match i with
  | none => D
  | some i => ⟨fun τ G => D.nx (τ.set i none) G, D.rt, fun τ G => D.bk (τ.set i none) G, fun τ G => D.ct (τ.set i none) G⟩
def setI (i : Option Nat) (a : Addr) (τ : L2.St) : L2.St := match i with
  | none => τ
  | some i => τ.set i (some (.ref a))
def wCls (K : PySem.W.Frag) (n : Nat) (Wo : WX) (D : Ends) : List Cls → WX
  | [] => Wo
  | q :: r => fun cls d τ G => ∃ b, PySem.W.exmOne K cls q.c = some b ∧ (b = true → ∀ a, G a = none → τ.length = n → q.ts a cls d (endI q.i D) (setI q.i a τ) G) ∧ (b = false → wCls K n Wo D r cls d τ G)
/-- what a suite is to do -/
def SuiteOk (X : Cx) (ss : List Stmt) (ts : Addr → Value → Option Addr → TS) : Prop :=
  ∀ (a : Addr) (o : Obj) (cls : Value) (d : Option Addr) (pn : List (Addr × Obj)), Zc cls d o → (∃ vs, o.data = .fields vs) → PSs (X.suite a ((a, o) :: pn)) ss (ts a cls d)
inductive ClsOk (X : Cx) : List ExceptHandler → List Cls → Prop
  | nil : ClsOk X [] []
  | bare {x : Str} {c : Value} {ts : Addr → Value → Option Addr → TS} {s0 : Stmt} {ss : List Stmt} {np q : Pos} {hds : List ExceptHandler} {l : List Cls} (hc : Names X x c) (hs : SuiteOk X (s0 :: ss) ts) (r : ClsOk X hds l) :
      ClsOk X (.ExceptHandler (some (.Name x np)) none (s0 :: ss) q :: hds) (⟨c, none, ts⟩ :: l)
  | name {x n : Str} {i : Nat} {c : Value} {ts : Addr → Value → Option Addr → TS} {s0 : Stmt} {ss : List Stmt} {np q : Pos} {hds : List ExceptHandler} {l : List Cls} (hc : Names X x c) (hi : X.N[i]? = some n) (hl : X.env.kindOf n = some .local) (hs : SuiteOk X (s0 :: ss) ts) (r : ClsOk X hds l) :
      ClsOk X (.ExceptHandler (some (.Name x np)) (some n) (s0 :: ss) q :: hds) (⟨c, some i, ts⟩ :: l)
section
variable {X : Cx} {bd : List Stmt} {h1 : ExceptHandler} {hds : List ExceptHandler} {l : List Cls} {pos : Pos} {tb : WX → TS} {Wo : WX}
theorem ps_try_cls (hs : X.stack = X.env :: X.outer) (hf : X.env.frame = some X.env.locals) (nd : X.N.Nodup) (tk : Takes X Wo)
    (hb : ∀ (W : WX) (pn : List (Addr × Obj)) (xe : Value → Shared → Prop), Takes (X.tr pn xe) W → PassesOwn (model X.prog X.w) X.A X.env xe → PSs (X.tr pn xe) bd (tb W))
    (hh : ClsOk X (h1 :: hds) l) : PS X (.Try bd (h1 :: hds) [] [] pos) (fun D τ G => tb (wCls X.K X.N.length Wo D l) D τ G) := by
  refine ⟨fun pins s τ G D I go => wpAny_Try_except ?_⟩
  have ok := I.ok
  have frm : X.A.frames = some (X.env :: X.outer) := hs ▸ ok.frames
  let xe : Value → Shared → Prop := fun e y1 => wpAny (model X.prog X.w) X.A (noteFrame e X.env) (fun _ y2 => wpAny (model X.prog X.w) X.A (setFlight e none) (fun _ y3 =>
    wpAny (model X.prog X.w) X.A (handleBy e X.env (h1 :: hds)) (SP X pins D) X.xe y3) X.xe y2) X.xe y1
  have tk2 : Takes (X.tr (X.pn ++ pins) xe) (wCls X.K X.N.length Wo D l) := by
    rintro _ y ⟨a, B, sI, pins', τ1, G1, cls, d, rfl, J', nb, up, sky, na, os, ag, w⟩
    have J : Inv X pins τ1 G1 sI := J'.ofTry ok
    have sky1 : Sky B (X.env :: X.outer) a (Zc cls d) X.env.locals y.heap := hs ▸ sky
    show wpAny (model X.prog X.w) X.A (noteFrame (.ref a) X.env) _ _ _
    refine Sky.land Zc.steady frm hf sky1 fun g3 fl3 up3 => ?_
    have J3 : Inv X pins τ1 G1 { y with heap := g3 } := J.landed nb fl3.1 (up.trans up3) os ag
    obtain ⟨o3, vs3, ho3, hz3, hd3⟩ := fl3.there
    have nfr : a ∉ frs (X.env :: X.outer) := fun hm => by
      obtain ⟨_, o', e', hnf⟩ := fl3.2.2.1.mem hm
      rw [ho3] at e'
      cases e'
      exact hnf _ hd3
    have nL : a ≠ X.env.locals := fun z => nfr (List.mem_filterMap.mpr ⟨X.env, List.mem_cons_self, by rw [hf, z]⟩)
    have nF : a ∉ X.fs := fun hm => by
      obtain ⟨e, he, q⟩ := List.mem_filterMap.mp hm
      exact nfr (List.mem_filterMap.mpr ⟨e, List.mem_cons_of_mem _ he, q⟩)
    have S3 := J3.suite ho3 hd3 na nL nF
    have LT : PySem.W.Looks (model X.prog X.w) g3 (typeOf (.ref a)) cls := fun A Q E s k q => wpAny_typeOf_ref (k _ _ ho3) (by rw [hz3.1]; exact q)
    have test : ∀ {x : Str} {c : Value} {np : Pos} {Q E : Value → Shared → Prop}, Names X x c → Q c { y with heap := g3 } → wpAny (model X.prog X.w) (X.A.mark (some (.ref a))) (eval (.Name x np) X.env) Q E { y with heap := g3 } := fun {x c np Q E} hc q => by
      obtain ⟨g1, g2, g3' | ⟨g3', g4, g5⟩⟩ := hc
      · exact ld_glob (X := X.suite a ((a, o3) :: (X.pn ++ pins))) S3 g1 g3' q g2
      · exact ld_blt (X := X.suite a ((a, o3) :: (X.pn ++ pins))) S3 g1 g3' g4 q g5 g2
    -- a suite, once its clause took the exception
    have done : ∀ {ss : List Stmt} {ts : Addr → Value → Option Addr → TS} {D2 : Ends} {τ2 : L2.St} {o4 : Obj} {y4 : Shared} {P : Flow → Shared → Prop}, SuiteOk X ss ts → Zc cls d o4 → (∃ vs, o4.data = .fields vs) → Inv (X.suite a ((a, o4) :: (X.pn ++ pins))) [] τ2 G1 y4 → ts a cls d D2 τ2 G1 →
        (∀ f y6, SP (X.suite a ((a, o4) :: (X.pn ++ pins))) [] D2 f y6 → P f y6) → wpAny (model X.prog X.w) (X.A.mark (some (.ref a))) (execs ss X.env) P (fun _ _ => False) y4 := fun {ss ts D2 τ2 o4 y4 P} su hz hd S4 ht hP =>
      wpAny_mono ((su a o4 cls d (X.pn ++ pins) hz hd).run [] y4 τ2 G1 D2 S4 ht) (fun f y6 z => hP f y6 z) fun _ _ z => z
    have walk : ∀ {hds' : List ExceptHandler} {l' : List Cls}, ClsOk X hds' l' → wCls X.K X.N.length Wo D l' cls d τ1 G1 → wpAny (model X.prog X.w) X.A (handleBy (.ref a) X.env hds') (SP X pins D) X.xe { y with heap := g3 } := by
      intro hds' l' hk
      induction hk with
      | nil =>
        intro w
        refine wpAny_handleBy_nil ?_
        obtain ⟨k1, k2, k3, oe, vs, T, oT, ts', he, hz, hd, e1, hr⟩ := id fl3
        unfold PySem.passOn
        refine wpAny_bind (wpAny_field he hd e1 ?_)
        rw [if_neg (show ¬ ((Value.ref T == Value.none) = true) from by simp)]
        have fin : wpAny (model X.prog X.w) X.A (setFlight (.ref a) X.env.frame) (fun _ y4 => wpAny (model X.prog X.w) X.A (throw (.ref a) : Sem Flow) (SP X pins D) X.xe y4) X.xe { y with heap := g3 } := by
          rw [hf]
          refine HandSPX.setFlight_upZ fl3 fun g4 hh4 up4 => wpAny_throw (tk _ _ ?_)
          exact ⟨a, B, sI, pins, τ1, G1, cls, d, rfl, J, nb, (up.trans up3).trans up4, .inr (.inr (hs ▸ hh4)), na, os, ag, w⟩
        first
          | exact wpAny_bind (wpAny_pure (wpAny_bind fin))
          | exact wpAny_bind fin
      | bare hc su r ih =>
        rintro ⟨b, hb1, yes, no⟩
        refine wpAny_handleBy_cons (codeAny_handlers_test (test hc ((PySem.W.exm_one J3.kIn LT hb1).here ?_))) (by intro q; cases q)
        cases b with
        | false => exact ih (no rfl)
        | true =>
          refine codeAny_handlers_suite (HandSPX.lands_againZ fl3 fun g4 fl4 up4 => ?_)
          have J4 : Inv X pins τ1 G1 { y with heap := g4 } := J.landed nb fl4.1 ((up.trans up3).trans up4) os ag
          obtain ⟨o4, vs4, ho4, hz4, hd4⟩ := fl4.there
          refine wpAny_mono (done (D2 := D) (P := SP X pins D) su hz4 ⟨_, hd4⟩ (J4.suite ho4 hd4 na nL nF) (yes rfl a na J.len) fun f y6 z => ?_) (fun _ _ z => z) fun _ _ z => z.elim
          cases f with
          | ret u =>
            obtain ⟨v6, τ6, G6, S6, r6, q6⟩ := z
            exact ⟨v6, τ6, G6, S6.unsuite ok, r6, q6⟩
          | next => obtain ⟨τ6, G6, S6, q6⟩ := z; exact ⟨τ6, G6, S6.unsuite ok, q6⟩
          | brk => obtain ⟨τ6, G6, S6, q6⟩ := z; exact ⟨τ6, G6, S6.unsuite ok, q6⟩
          | cont => obtain ⟨τ6, G6, S6, q6⟩ := z; exact ⟨τ6, G6, S6.unsuite ok, q6⟩
      | @name x n i c ts s0 ss np q hds2 l2 hc hi hl su r ih =>
        rintro ⟨b, hb1, yes, no⟩
        refine wpAny_handleBy_cons (codeAny_handlers_test (test hc ((PySem.W.exm_one J3.kIn LT hb1).here ?_))) (by intro q; cases q)
        cases b with
        | false => exact ih (no rfl)
        | true =>
          refine codeAny_handlers_suite_as (HandSPX.lands_againZ fl3 fun g4 fl4 up4 => ?_)
          have J4 : Inv X pins τ1 G1 { y with heap := g4 } := J.landed nb fl4.1 ((up.trans up3).trans up4) os ag
          obtain ⟨o4, vs4, ho4, hz4, hd4⟩ := fl4.there
          refine store_ok (X := X.suite a ((a, o4) :: (X.pn ++ pins))) (v := .ref a) (J4.suite ho4 hd4 na nL nF) nd hi (.inl hl) rfl (fun y5 S5 => ?_) (.inr hl)
          refine wpAny_mono (done (D2 := endI (some i) D) (P := fun f y6 => SP (X.suite a ((a, o4) :: (X.pn ++ pins))) [] (endI (some i) D) f y6) su hz4 ⟨_, hd4⟩ S5 (yes rfl a na J.len) fun f y6 z => z) (fun f y6 z => ?_) fun _ _ z => z.elim
          have gone : ∀ {τ6 : L2.St} {G6 : Hp} {Q : Shared → Prop}, Inv (X.suite a ((a, o4) :: (X.pn ++ pins))) [] τ6 G6 y6 → (∀ y7, Inv X pins (τ6.set i none) G6 y7 → Q y7) → wpAny (model X.prog X.w) X.A (do bindName X.env n .none; unbindBehindTheSuite X.env n q) (fun _ y7 => Q y7) X.xe y6 :=
            fun {τ6 G6 Q} S6 hq => gone_ok (S6.unsuite ok) nd hi hl hq
          cases f with
          | ret u =>
            obtain ⟨v6, τ6, G6, S6, r6, q6⟩ := z
            exact gone S6 fun y7 J7 => ⟨v6, _, G6, J7, r6, q6⟩
          | next => obtain ⟨τ6, G6, S6, q6⟩ := z; exact gone S6 fun y7 J7 => ⟨_, G6, J7, q6⟩
          | brk => obtain ⟨τ6, G6, S6, q6⟩ := z; exact gone S6 fun y7 J7 => ⟨_, G6, J7, q6⟩
          | cont => obtain ⟨τ6, G6, S6, q6⟩ := z; exact gone S6 fun y7 J7 => ⟨_, G6, J7, q6⟩
    exact walk hh w
  refine wpAny_mono ((hb (wCls X.K X.N.length Wo D l) (X.pn ++ pins) xe tk2 PassesOwn.looking).run [] s τ G D (I.toTry _) go) (fun f y z => ?_) fun e y z => z
  cases f with
  | next => obtain ⟨τ6, G6, S6, q6⟩ := z; exact wpAny_execs_nil ⟨τ6, G6, S6.ofTry ok, q6⟩
  | brk => obtain ⟨τ6, G6, S6, q6⟩ := z; exact ⟨τ6, G6, S6.ofTry ok, q6⟩
  | cont => obtain ⟨τ6, G6, S6, q6⟩ := z; exact ⟨τ6, G6, S6.ofTry ok, q6⟩
  | ret u =>
    obtain ⟨v6, τ6, G6, S6, r6, q6⟩ := z
    exact ⟨v6, τ6, G6, S6.ofTry ok, r6, q6⟩
end
end EV
end

section
set_option Elab.async false
set_option linter.all false
set_option maxRecDepth 100000
namespace EV
open PySem L2
/-! ### what holds within an except suite -/
def JX (S : Sc) (K : PySem.W.Frag) (i : Option Nat) (a : Addr) (d : Option Addr) (cls : Value) (ex : Exn) : JT := fun σ Z η h H => (∀ j, i = some j → σ[j]? = some (some (.ref a))) ∧ RX S K H (MM Z η h) ex cls d
abbrev WNo : WX := fun _ _ _ _ => False
section
variable {S : Sc} {K : PySem.W.Frag} {Z : Addr → Prop} {η η' : List Addr} {h h' : Hs} {H H' : Hp} {ex : Exn} {cls : Value} {d : Option Addr} {i : Option Nat} {a : Addr}
theorem RX.step (R : HR S K Z η h H) (f : FR0 η h H η' h' H') (r : RX S K H (MM Z η h) ex cls d) : RX S K H' (MM Z η' h') ex cls d := by
  obtain ⟨ec, ea⟩ := ex
  refine ⟨r.1, ?_⟩
  cases ea with
  | none => trivial
  | some x =>
    obtain ⟨dd, v, e1, e2, rv⟩ := r.2
    refine ⟨dd, v, e1, f.keep dd _ e2 (fun m => ?_) (fun ps z => nomatch z), f.rv R rv⟩
    obtain ⟨vs, q⟩ := R.mutK m
    rw [e2] at q
    cases q
theorem jx_ok : JOk S K (JX S K i a d cls ex) := ⟨fun R f j => ⟨j.1, j.2.step R f⟩⟩
end
def tsX (S : Sc) (K : PySem.W.Frag) (C : Cv) (p : Nat → Prop) (i : Option Nat) (m : SE) : Addr → Value → Option Addr → TS := fun a cls d D σ H => ∃ Z η h ex, p ex.c ∧ HR S K Z η h H ∧ JX S K i a d cls ex σ Z η h H ∧
  KG S K (JX S K i a d cls ex) WNo Z η h H (fun w h' η' H' => ∀ v, RW K H' (MM Z η' h') η' v w → D.rt v H') (m { C with X := ex.arg, L := none } [] h)
section
variable {X : Cx} {S : Sc} {J : JT} {C : Cv} {e : Expr} {m : SE} {i : Option Nat} {pos : Pos} {W : WX}
/-- a suite: return e -/
theorem suite_ret {q : Nat → Prop} (he : ∀ (a : Addr) (o : Obj) (cls : Value) (d : Option Addr) (pn : List (Addr × Obj)) (ex : Exn), Zc cls d o → (∃ vs, o.data = .fields vs) → q ex.c → SPE S (X.suite a ((a, o) :: pn)) (JX S X.K i a d cls ex) WNo { C with X := ex.arg, L := none } e m) :
    SuiteOk X [.Return (some e) pos] (tsX S X.K C q i m) := fun a o cls d pn hz hd => ⟨fun pins s σ H D I ⟨Z, η, h, ex, qe, R, jx, k⟩ =>
  (pss_one (ps_ret (he a o cls d pn ex hz hd qe))).run pins s σ H D I ⟨Z, η, [], h, ⟨R, ⟨Nat.zero_le _, fun j w q => by simp at q⟩, jx⟩, k⟩⟩
theorem xk_suite (x : Xk S X J W) {a : Addr} {pn : List (Addr × Obj)} {d : Option Addr} {cls : Value} {ex : Exn} : Xk S (X.suite a pn) (JX S X.K i a d cls ex) WNo := ⟨jx_ok, x.un, x.gd, takes_none5, x.nd⟩
theorem xk_tr (x : Xk S X J W) {pn : List (Addr × Obj)} {xe : Value → Shared → Prop} {W2 : WX} (tk : Takes (X.tr pn xe) W2) : Xk S (X.tr pn xe) J W2 := ⟨x.jo, x.un, x.gd, tk, x.nd⟩
/-- error.f -/
theorem s_fld {a : Addr} {o : Obj} {cls : Value} {d : Option Addr} {pn : List (Addr × Obj)} {ex : Exn} {j : Nat} {n f : Str} {p1 p2 : Pos} {c : Nat} (hz : Zc cls d o) (hd : ∃ vs, o.data = .fields vs) (T : ∀ c', S.fld c' = f → XfC X.K (S.cls c') ∧ PySem.W.findIn X.K (.ref (S.cls c')) f = some none)
    (hf : S.fld ex.c = f) (hN : X.N[j]? = some n) (hv : Vis X.env.scope n) (hdb : (n == ("__debug__" : Str)) = false) (hcd : (n == ("__classdict__" : Str)) = false) (hb : attributeBase (.Name n p1) f X.env (eval (.Name n p1) X.env) = eval (.Name n p1) X.env) :
    SPE S (X.suite a ((a, o) :: pn)) (JX S X.K (some j) a d cls ex) WNo { C with X := ex.arg, L := none } (.Attribute (.Name n p1) f p2) cFld := by
  obtain ⟨ec, ea⟩ := ex
  obtain ⟨T1, T2⟩ := T ec hf
  refine PE.conseq (pe_xf T1 T2 hz hd (pe_var (X := X.suite a ((a, o) :: pn)) hN hv hdb hcd) hb) fun σ H Q ⟨Z, η, ρ, h, A, k⟩ => ?_
  obtain ⟨j1, j2, j3⟩ := A.jj
  cases ea with
  | none => exact k.elim
  | some x =>
    obtain ⟨dd, v, e1, e2, rv⟩ := j3
    refine ⟨.ref a, j1 j rfl, rfl, j2, dd, _, v, e1, e2, ?_, KG.give (S := S) (W := WNo) A.hr k rv⟩
    rw [show S.fld ec = f from hf]
    simp [List.lookup]
/-- the clauses, each with the meaning of its suite -/
inductive HdOk (X : Cx) (S : Sc) (C : Cv) (sub : Nat → Nat → Option Bool) : List ExceptHandler → List (Nat × SE) → List Cls → Prop
  | nil : HdOk X S C sub [] [] []
  | bare {x : Str} {c : Nat} {m : SE} {e : Expr} {np q p : Pos} {hds : List ExceptHandler} {ms : List (Nat × SE)} {l : List Cls} (hc : Names X x (.ref (S.cls c)))
      (he : ∀ (a : Addr) (o : Obj) (cls : Value) (d : Option Addr) (pn : List (Addr × Obj)) (ex : Exn), Zc cls d o → (∃ vs, o.data = .fields vs) → sub ex.c c = some true → SPE S (X.suite a ((a, o) :: pn)) (JX S X.K none a d cls ex) WNo { C with X := ex.arg, L := none } e m) (r : HdOk X S C sub hds ms l) :
      HdOk X S C sub (.ExceptHandler (some (.Name x np)) none [.Return (some e) p] q :: hds) ((c, m) :: ms) (⟨.ref (S.cls c), none, tsX S X.K C (fun t => sub t c = some true) none m⟩ :: l)
  | name {x n : Str} {j c : Nat} {m : SE} {e : Expr} {np q p : Pos} {hds : List ExceptHandler} {ms : List (Nat × SE)} {l : List Cls} (hc : Names X x (.ref (S.cls c))) (hN : X.N[j]? = some n) (hl : X.env.kindOf n = some .local)
      (he : ∀ (a : Addr) (o : Obj) (cls : Value) (d : Option Addr) (pn : List (Addr × Obj)) (ex : Exn), Zc cls d o → (∃ vs, o.data = .fields vs) → sub ex.c c = some true → SPE S (X.suite a ((a, o) :: pn)) (JX S X.K (some j) a d cls ex) WNo { C with X := ex.arg, L := none } e m) (r : HdOk X S C sub hds ms l) :
      HdOk X S C sub (.ExceptHandler (some (.Name x np)) (some n) [.Return (some e) p] q :: hds) ((c, m) :: ms) (⟨.ref (S.cls c), some j, tsX S X.K C (fun t => sub t c = some true) (some j) m⟩ :: l)
theorem HdOk.cls {sub : Nat → Nat → Option Bool} {hds : List ExceptHandler} {ms : List (Nat × SE)} {l : List Cls} (h : HdOk X S C sub hds ms l) : ClsOk X hds l := by
  induction h with
  | nil => exact .nil
  | bare hc he r ih => exact .bare hc (suite_ret he) ih
  | name hc hN hl he r ih => exact .name hc hN hl (suite_ret he) ih
theorem try_ex {sub : Nat → Nat → Option Bool} {hds : List ExceptHandler} {ms : List (Nat × SE)} {l : List Cls} (hk : HdOk X S C sub hds ms l) (hx : ∀ t c b, sub t c = some b → PySem.W.exmOne X.K (.ref (S.cls t)) (.ref (S.cls c)) = some b)
    {Z : Addr → Prop} {η : List Addr} {h : Hs} {H : Hp} {D : Ends} {ex : Exn} {h1 : Hs} (R : HR S X.K Z η h H)
    (k : KG S X.K J W Z η h H (FP X.K J Z D) (match pick sub ex.c ms with
      | some (some a) => (match a { C with X := ex.arg, L := none } [] h1 with
        | .ok w h2 => .ok (.rt w) h2
        | _ => .no)
      | some none => .ex ex h1
      | none => .no)) : ∀ η' H' cls da σ', FR η h H η' h1 H' → HR S X.K Z η' h1 H' → J σ' Z η' h1 H' → RX S X.K H' (MM Z η' h1) ex cls da → wCls X.K X.N.length W D l cls da σ' H' := by
  intro η' H' cls da σ' f R' jj rx
  have take : ∀ {i : Option Nat} {m : SE} {c : Nat}, sub ex.c c = some true → (∀ j, i = some j → j < X.N.length) → KG S X.K J W Z η h H (FP X.K J Z D) (match m { C with X := ex.arg, L := none } [] h1 with
        | .ok w h2 => .ok (.rt w) h2
        | _ => .no) → ∀ a, H' a = none → σ'.length = X.N.length → tsX S X.K C (fun t => sub t c = some true) i m a cls da (endI i D) (setI i a σ') H' := by
    intro i m c hs hi k a na hlen
    refine ⟨Z, η', h1, ex, hs, R', ⟨fun j e => ?_, rx⟩, ?_⟩
    · subst e
      have := hi j rfl
      simp [setI, hlen, this]
    · cases q : m { C with X := ex.arg, L := none } [] h1 with
      | ok w h2 =>
        rw [q] at k
        intro η2 H2 f2 R2 v rv
        have z : D.rt v H2 := k η2 H2 (f.trans f2 R) R2 v rv
        cases i with
        | none => exact z
        | some j => exact z
      | ex e2 h2 => rw [q] at k; exact k.elim
      | no => rw [q] at k; exact k.elim
  induction hk with
  | nil => exact k η' H' cls da σ' f R' jj rx
  | @bare x c m e np q p hds ms l hc he r ih =>
    simp only [pick] at k
    cases s : sub ex.c c with
    | none => rw [s] at k; exact k.elim
    | some b =>
      rw [s] at k
      have hm : PySem.W.exmOne X.K cls (.ref (S.cls c)) = some b := by rw [rx.1]; exact hx _ _ _ s
      cases b with
      | true => exact ⟨true, hm, fun _ => take (i := none) (c := c) s (fun j z => nomatch z) k, fun z => nomatch z⟩
      | false => exact ⟨false, hm, (fun z => nomatch z), fun _ => ih k⟩
  | @name x n j c m e np q p hds ms l hc hN hl he r ih =>
    simp only [pick] at k
    cases s : sub ex.c c with
    | none => rw [s] at k; exact k.elim
    | some b =>
      rw [s] at k
      have hm : PySem.W.exmOne X.K cls (.ref (S.cls c)) = some b := by rw [rx.1]; exact hx _ _ _ s
      cases b with
      | true => exact ⟨true, hm, fun _ => take (i := some j) (c := c) s (fun j' z => by
          cases z
          exact (List.getElem?_eq_some_iff.mp hN).1) k, fun z => nomatch z⟩
      | false => exact ⟨false, hm, (fun z => nomatch z), fun _ => ih k⟩
/-- try: .. except ..: return .. -/
theorem s_try {bd : List Stmt} {mb : SS} {h1 : ExceptHandler} {hds : List ExceptHandler} {ms : List (Nat × SE)} {l : List Cls} {sub : Nat → Nat → Option Bool} (x : Xk S X J W) (hs : X.stack = X.env :: X.outer) (hf : X.env.frame = some X.env.locals)
    (hb : ∀ (W2 : WX) (pn : List (Addr × Obj)) (xe : Value → Shared → Prop), Takes (X.tr pn xe) W2 → PassesOwn (model X.prog X.w) X.A X.env xe → SPSs S (X.tr pn xe) J W2 C bd mb)
    (hk : HdOk X S C sub (h1 :: hds) ms l) (hx : ∀ t c b, sub t c = some b → PySem.W.exmOne X.K (.ref (S.cls t)) (.ref (S.cls c)) = some b) : SPS S X J W C (.Try bd (h1 :: hds) [] [] pos) (sTry sub mb ms) :=
  PS.conseq (ps_try_cls (tb := fun W2 => tS S X.K J W2 (mb C)) hs hf x.nd x.tk hb hk.cls) fun D σ H ⟨Z, η, ρ, h, A, k⟩ => ⟨Z, η, ρ, h, A, by
    unfold sTry at k
    cases q : mb C ρ h with
    | ok fl h2 => rw [q] at k; exact k
    | no => rw [q] at k; exact k.elim
    | ex ex h2 =>
      rw [q] at k
      exact fun η' H' cls da σ' f R' jj rx => try_ex hk hx A.hr k η' H' cls da σ' f R' jj rx⟩
end
end EV
end

section
set_option Elab.async false
set_option linter.all false
set_option maxRecDepth 100000
set_option maxHeartbeats 2000000
namespace EXL
open PySem PySem.W PySem.Spec PyProof.Rows
/-! ### making a lambda, with a default perhaps -/
abbrev lFn (q : Str) (params : Arguments) (body : Expr) (scope : Scope) (cl : List (Str × Addr)) (pm cdv ct dV : Value) : FuncData := { kla_fn "<lambda>" q params body scope cl pm cdv ct with defaults := dV }
abbrev lObj (q : Str) (params : Arguments) (body : Expr) (scope : Scope) (cl : List (Str × Addr)) (pm : Value) (c' : Addr) (ct dV : Value) : Obj := { cls := .type "function", data := .func (lFn q params body scope cl pm (.ref c') ct dV) }
abbrev tupO (vs : List Value) : Obj := { cls := .type "tuple", data := .seq vs.toArray }
section
variable {M : Model} {A : Around} {E : Value → Shared → Prop} {s : Shared} {qual : Str} {params : Arguments} {body : Expr} {scope : Scope} {env : Env} {c P : Addr} {ps : Array Value} {pos : Pos} {fl : Nat} {mg : Str → Option Value} {clos : List (Str × Addr)} {Q : Value → Shared → Prop} {dV : Value}
theorem tail_new (k1 : closureFor scope env = pure clos) (k2 : env.globals = mainGlobals) (k3 : s.heap.Ns mainGlobals mg) (k4 : env.code = .ref c) (k5 : CodeHd s.heap c P) (k6 : s.heap.get? P = some (tabObj ps)) (k7 : TriplesOk ps.toList)
    (k8 : codeAmong pos ps.toList = none) (k9 : mainGlobals ≠ P) (kb : s.heap.BuiltinsAt mg P)
    (go : ∀ c' ct g tk, Heap.ExtBut P s.heap g → s.heap.objs.size ≤ c' → c' < g.objs.size → g.CodeRec (.ref c') qual → g.get? P = some (tabObj (ps ++ #[rawInt pos.line, rawInt pos.col, .ref c'])) →
      Q (.ref g.objs.size) { s with heap := g.push (lObj qual params body scope clos ((mg "__name__").getD .none) c' ct dV), toks := tk }) :
    wpAny M A (makeTail "<lambda>" qual params (.expr body) scope env dV .none none pos fl) Q E s := by
  obtain ⟨bm, ob, b1, b2, _, b3, b4, b5, b6, b7⟩ := kb
  unfold makeTail
  rw [k1, k2]
  refine wpAny_bind (wpAny_pure ?_)
  cases clos with
  | nil =>
    simp only [List.isEmpty_nil, if_true]
    refine wpAny_bind (wpAny_pure (wpAny_bind (wpAny_functionCodeX k4 (k5.code k6 k7) (k5.tab k6) k8 fun c' g tk hx hge hlt _ hrec htb _ => ?_)))
    have kg := k3.extBut hx k9
    exact wpAny_bind (wpAny_builtinsFor kg b1 b2 (hx _ _ b3 b4) b5 b6 b7 (wpAny_bind (wpAny_nsGet kg (wpAny_bind (wpAny_pure (wpAny_newObj_type (go c' .none g tk hx hge hlt hrec htb.2) (by size_fits)))))))
  | cons q r =>
    simp only [List.isEmpty_cons, Bool.false_eq_true, if_false]
    refine wpAny_bind (wpAny_newTextTuple (wpAny_bind ?_))
    have up : ∀ (o : Obj) b x, s.heap.get? b = some x → (s.heap.push o).get? b = some x := fun o b x e => Heap.get?_push_of_some _ e
    refine wpAny_functionCodeX k4 ((k5.keeps (up _)).code (up _ _ _ k6) k7) ((k5.keeps (up _)).tab (up _ _ _ k6)) k8 fun c' g tk hx hge hlt _ hrec htb _ => ?_
    have kg := (k3.push _).extBut hx k9
    have hx2 : Heap.ExtBut P s.heap g := fun b x hb e => hx b x hb (up _ _ _ e)
    have hge2 : s.heap.objs.size ≤ c' := Nat.le_trans (by rw [Heap.size_push]; omega) hge
    exact wpAny_bind (wpAny_builtinsFor kg b1 b2 (hx2 _ _ b3 b4) b5 b6 b7 (wpAny_bind (wpAny_nsGet kg (wpAny_bind (wpAny_pure (wpAny_newObj_type (go c' _ g tk hx2 hge2 hlt hrec htb.2) (by size_fits)))))))
theorem tail_hit {cv : Value} (k1 : closureFor scope env = pure clos) (k2 : env.globals = mainGlobals) (k3 : s.heap.Ns mainGlobals mg) (k4 : env.code = .ref c) (k5 : CodeHd s.heap c P) (k6 : s.heap.get? P = some (tabObj ps)) (k7 : TriplesOk ps.toList)
    (k8 : codeAmong pos ps.toList = some cv) (kb : s.heap.BuiltinsAt mg P)
    (go : ∀ (ct : Value) (g : Heap) (tk : Tok), (∀ b x, s.heap.get? b = some x → g.get? b = some x) → s.heap.objs.size ≤ g.objs.size →
      Q (.ref g.objs.size) { s with heap := g.push { cls := .type "function", data := .func (lFn qual params body scope clos ((mg "__name__").getD .none) cv ct dV) }, toks := tk }) :
    wpAny M A (makeTail "<lambda>" qual params (.expr body) scope env dV .none none pos fl) Q E s := by
  obtain ⟨bm, ob, b1, b2, _, b3, b4, b5, b6, b7⟩ := kb
  unfold makeTail
  rw [k1, k2]
  refine wpAny_bind (wpAny_pure ?_)
  cases clos with
  | nil =>
    simp only [List.isEmpty_nil, if_true]
    refine wpAny_bind (wpAny_pure (wpAny_bind (wpAny_functionCode_hit k4 (k5.code k6 k7) k8 ?_)))
    exact wpAny_bind (wpAny_builtinsFor k3 b1 b2 b4 b5 b6 b7 (wpAny_bind (wpAny_nsGet k3 (wpAny_bind (wpAny_pure (wpAny_newObj_type (go .none s.heap s.toks (fun _ _ e => e) (Nat.le_refl _)) (by size_fits)))))))
  | cons q r =>
    simp only [List.isEmpty_cons, Bool.false_eq_true, if_false]
    refine wpAny_bind (wpAny_newTextTuple (wpAny_bind ?_))
    have up : ∀ (o : Obj) b x, s.heap.get? b = some x → (s.heap.push o).get? b = some x := fun o b x e => Heap.get?_push_of_some _ e
    have sz : ∀ o : Obj, s.heap.objs.size ≤ (s.heap.push o).objs.size := fun o => by rw [Heap.size_push]; omega
    refine wpAny_functionCode_hit k4 ((k5.keeps (up _)).code (up _ _ _ k6) k7) k8 ?_
    exact wpAny_bind (wpAny_builtinsFor (k3.push _) b1 b2 (up _ _ _ b4) b5 b6 b7 (wpAny_bind (wpAny_nsGet (k3.push _) (wpAny_bind (wpAny_pure (wpAny_newObj_type (go _ _ s.toks (up _) (sz _)) (by size_fits)))))))
/-- the defaults are told, then the function is made -/
theorem eval_lam0 (hd : defaultsOf params env = ([], [])) (go : wpAny M A (makeTail "<lambda>" (env.qual ++ "<lambda>") params (.expr body) scope env .none .none none pos pos.line) Q E s) : wpAny M A (eval (.Lambda params body scope pos) env) Q E s := by
  refine kla_eval hd ?_
  rw [makeFunction_eq]
  simp only [List.zip_nil_right, List.filterMap_nil, List.isEmpty_nil, if_true, pure_bind]
  exact go
theorem eval_lam1 {x : Sem Value} (hd : defaultsOf params env = ([x], []))
    (go : wpAny M A x (fun v s1 => wpAny M A (makeTail "<lambda>" (env.qual ++ "<lambda>") params (.expr body) scope env (.ref s1.heap.objs.size) .none none pos pos.line) Q E { s1 with heap := s1.heap.push (tupO [v]) }) E s) : wpAny M A (eval (.Lambda params body scope pos) env) Q E s := by
  rw [arm_eval_Lambda, hd]
  refine wpAny_bind (m := evalAll [x]) ?_
  show wpAny M A (do let v ← x; let vs ← holding [v] (evalAll []); pure (v :: vs)) _ E s
  refine wpAny_bind (wpAny_mono go (fun v s1 g => ?_) fun _ _ z => z)
  refine wpAny_bind (wpAny_holding (wpAny_pure (wpAny_pure ?_)))
  refine wpAny_bind (m := holding [v] (evalAllOpt [])) (wpAny_holding (wpAny_pure ?_))
  rw [makeFunction_eq]
  simp only [List.zip_nil_right, List.filterMap_nil, List.isEmpty_nil, List.isEmpty_cons, Bool.false_eq_true, if_false, if_true, pure_bind]
  exact wpAny_bind (wpAny_newTextTuple g)
end
end EXL
end

section
set_option Elab.async false
set_option linter.all false
set_option maxRecDepth 100000
set_option maxHeartbeats 2000000
namespace EXL
open PySem PySem.Spec PyProof.Rows L2 LamX
/-- a lambda's names: captured ones, globals, its own parameters (which the maker does not have) -/
structure LamP (N : List Str) (sc scope : Scope) : Prop where
  kind : scope.kind = .function
  co : scope.isCoroutine = false
  gen : scope.isGenerator = false
  own : ∀ y ∈ scope.names, (y.2 = .local → y.1 ∉ N) ∧ y.2 ≠ .cell
  free : ∀ y ∈ scope.names, y.2 = .free → sc.names.lookup y.1 = some .cell ∨ sc.names.lookup y.1 = some .free
def lamPB (N : List Str) (sc scope : Scope) : Bool :=
  decide (scope.kind = .function) && (!scope.isCoroutine && (!scope.isGenerator && scope.names.all fun y => (!decide (y.2 = .local) || !N.contains y.1) && (!decide (y.2 = .cell) && (!decide (y.2 = .free) || (decide (sc.names.lookup y.1 = some .cell) || decide (sc.names.lookup y.1 = some .free))))))
theorem lamP_by {N : List Str} {sc scope : Scope} (h : lamPB N sc scope = true) : LamP N sc scope := by
  unfold lamPB at h
  simp only [Bool.and_eq_true, Bool.or_eq_true, Bool.not_eq_true', decide_eq_true_eq, decide_eq_false_iff_not, List.all_eq_true] at h
  obtain ⟨h1, h2, h3, h4⟩ := h
  refine ⟨h1, h2, h3, fun y hy => ⟨fun e => ?_, (h4 y hy).2.1⟩, fun y hy e => ?_⟩
  · rcases (h4 y hy).1 with z | z
    · exact absurd e z
    · intro m
      rw [List.contains_iff_mem.mpr m] at z
      cases z
  · rcases (h4 y hy).2.2 with z | z | z
    · exact absurd e z
    · exact .inl z
    · exact .inr z
theorem LamP.has {X : Cx} {scope : Scope} (L : LamP X.N X.env.scope scope) (ok : X.Ok) : ∀ y ∈ scope.names, y.2 = .free → ∃ c, X.env.cells.lookup y.1 = some c := fun y hy e => by
  rcases L.free y hy e with k | k
  · exact ok.has _ (.inl k)
  · exact ok.has _ (.inr k)
section
variable {X : Cx} {pins : List (Addr × Obj)} {σ : L2.St} {H : Hp} {s : Shared}
theorem nofr (I : Inv X pins σ H s) : ∀ f, s.heap.objs.size ≤ f → f ∉ frs X.stack := fun f hf z => by
  rcases List.mem_cons.mp (I.stkSub _ z) with e | e
  · have h1 := I.lt
    rw [← e] at h1
    exact Nat.lt_irrefl _ (Nat.lt_of_lt_of_le h1 hf)
  · exact I.nofs hf e
/-- what is known once the function stands -/
structure Made (X : Cx) (pins : List (Addr × Obj)) (σ : L2.St) (H : Hp) (s : Shared) (T : List (Addr × Str)) (params : Arguments) (body : Expr) (scope : Scope) (dV : Value) (f c' : Addr) (H1 : Hp) (s' : Shared) : Prop where
  inv : Inv X pins σ H1 s'
  ext : ExtN H H1
  here : ∀ b o, H b = some o → ∃ o', H1 b = some o'
  tabs : Tabs T H1
  fn : ∃ pm ct, s'.heap.get? f = some (lObj (X.env.qual ++ "<lambda>") params body scope (cloFrom X.env.cells scope.names []) pm c' ct dV)
  fresh : H1 f = none
  fr : f ∉ frs X.stack
  code : H1 c' = some (CodeO c' (X.env.qual ++ "<lambda>"))
  old : ∀ b o, s.heap.get? b = some o → H b = none → s'.heap.get? b = some o ∧ H1 b = none
theorem mk_tail {T : List (Addr × Str)} {c P : Addr} {params : Arguments} {body : Expr} {scope : Scope} {pos : Pos} {fl : Nat} {E : Value → Shared → Prop} {Q : Value → Shared → Prop} {dV : Value} (I : Inv X pins σ H s) (TB : TabB X.base X.mg c P) (hcode : X.env.code = .ref c)
    (hm : (P, X.env.qual ++ "<lambda>") ∈ T) (hu : ∀ p ∈ T, p.1 = P → p.2 = X.env.qual ++ "<lambda>") (hT : Tabs T H) (hfree : ∀ y ∈ scope.names, y.2 = .free → ∃ c, X.env.cells.lookup y.1 = some c)
    (go : ∀ f c' H1 s', Made X pins σ H s T params body scope dV f c' H1 s' → Q (.ref f) s') :
    wpAny (model X.prog X.w) X.A (makeTail "<lambda>" (X.env.qual ++ "<lambda>") params (.expr body) scope X.env dV .none none pos fl) Q E s := by
  obtain ⟨ps, hP, ht, ha⟩ := hT _ hm
  have bP : s.heap.BuiltinsAt X.mg P := TB.bm.keeps I.bk
  have hP2 : s.heap.get? P = some { cls := .none, data := .fields ps } := I.hok P _ hP
  cases hc : codeAmong pos ps.toList with
  | some cv =>
    obtain ⟨c', rfl, hco⟩ := ha pos cv hc
    refine tail_hit (closure_ok hfree) I.ok.glob (I.mod.glob.keeps I.bk) hcode (TB.code.keeps I.bk) hP2 ht hc bP fun ct g tk hx hsz => ?_
    refine go g.objs.size c' H _ ⟨I.kept fun b o e => Heap.get?_push_of_some _ (hx b o e), ExtN.refl H, fun b o e => ⟨o, e⟩, hT, ⟨_, ct, Heap.get?_push_size _ rfl⟩, I.hok.fresh hsz, nofr I _ hsz, hco, fun b o e n => ⟨Heap.get?_push_of_some _ (hx b o e), n⟩⟩
  | none =>
    refine tail_new (closure_ok hfree) I.ok.glob (I.mod.glob.keeps I.bk) hcode (TB.code.keeps I.bk) hP2 ht hc TB.gP bP fun c' ct g tk hx hge hlt hrec htb => ?_
    obtain ⟨c2, oc, vs, t, e2, hoc, hd, hv⟩ := hrec
    cases e2
    have hsz : s.heap.objs.size ≤ g.objs.size := Nat.le_trans hge (Nat.le_of_lt hlt)
    have nC : H c' = none := I.hok.fresh hge
    let qn : Str := X.env.qual ++ "<lambda>"
    let H1 : Hp := upd (upd H P (.tbl (ps ++ #[rawInt pos.line, rawInt pos.col, .ref c']))) c' (CodeO c' qn)
    let fo : Obj := lObj qn params body scope (cloFrom X.env.cells scope.names []) ((X.mg "__name__").getD .none) c' ct dV
    have I1 := inv_table (t' := tk) (more := #[rawInt pos.line, rawInt pos.col, .ref c']) (h' := g.push fo) I hP (fun b o hb e => Heap.get?_push_of_some _ (hx b o hb e)) (Heap.get?_push_of_some _ htb) hge ⟨oc, vs, t, Heap.get?_push_of_some _ hoc, hd, hv⟩
    have nP : ∀ {b : Addr} {o : HO}, H b = some o → (∀ ps, o ≠ .tbl ps) → b ≠ P := fun {b o} e n z => by
      rw [z, hP] at e
      exact n ps (Option.some.inj e).symm
    have at1 : ∀ {b : Addr}, b ≠ c' → b ≠ P → H1 b = H b := fun {b} h1 h2 => by
      show upd (upd H P _) c' _ b = _
      rw [upd_ne h1, upd_ne h2]
    have hE : ExtN H H1 := fun b o e n => (at1 (ne_of_none e nC) (nP e n)).trans e
    have atP : H1 P = some (.tbl (ps ++ #[rawInt pos.line, rawInt pos.col, .ref c'])) := by
      show upd (upd H P _) c' _ P = _
      rw [upd_ne (ne_of_none hP nC), upd_same]
    have eL : (ps ++ #[rawInt pos.line, rawInt pos.col, .ref c']).toList = ps.toList ++ [rawInt pos.line, rawInt pos.col, .ref c'] := by simp
    refine go g.objs.size c' H1 _ ⟨I1, hE, fun b o e => ?_, fun p hp => ?_, ⟨_, ct, Heap.get?_push_size _ rfl⟩, ?_, nofr I _ hsz, upd_same, fun b o e n => ?_⟩
    · by_cases h1 : b = P
      · subst h1
        exact ⟨_, atP⟩
      · exact ⟨o, (at1 (ne_of_none e nC) h1).trans e⟩
    · by_cases hb : p.1 = P
      · rw [hu p hp hb, hb]
        refine ⟨_, atP, by rw [eL]; exact PySem.TriplesOk_snoc _ _ _ _ ht, fun p2 cv hcv => ?_⟩
        rw [eL] at hcv
        rcases among_app _ ht hcv with z | z
        · obtain ⟨c0, e1, e2⟩ := ha p2 cv z
          exact ⟨c0, e1, hE _ _ e2 codeO_ne⟩
        · exact ⟨c', z, upd_same⟩
      · obtain ⟨ps2, a1, a2, a3⟩ := hT p hp
        refine ⟨ps2, (at1 (ne_of_none a1 nC) hb).trans a1, a2, fun p2 cv hcv => ?_⟩
        obtain ⟨c0, e1, e2⟩ := a3 p2 cv hcv
        exact ⟨c0, e1, hE _ _ e2 codeO_ne⟩
    · rw [at1 (Nat.ne_of_gt hlt) (Nat.ne_of_gt (Nat.lt_of_lt_of_le (Heap.lt_size hP2) hsz))]
      exact I.hok.fresh hsz
    · have b1 : b ≠ P := fun z => by
        rw [z, hP] at n
        cases n
      have b2 : b ≠ c' := Nat.ne_of_lt (Nat.lt_of_lt_of_le (Heap.lt_size e) hge)
      exact ⟨Heap.get?_push_of_some _ (hx b o b1 e), (at1 b2 b1).trans n⟩
/-- the defaults of a lambda: none, or a number -/
inductive Dflt (params : Arguments) (env : Env) : Option Int → Prop
  | none : defaultsOf params env = ([], []) → Dflt params env none
  | one {i : Int} {k : Nat} {p : Pos} : defaultsOf params env = ([eval (.Constant (.int i) k p) env], []) → Dflt params env (some i)
/-- what stands for them -/
def DfOk (X : Cx) (d : Option Int) (dV : Value) (H1 : Hp) (s' : Shared) : Prop := match d with
  | none => dV = .none
  | some i => ∃ (t : Addr) (tk : Tok), dV = .ref t ∧ s'.heap.get? t = some (tupO [.int i tk]) ∧ H1 t = none ∧ t ∉ frs X.stack
theorem lam_make3 {T : List (Addr × Str)} {c P : Addr} {params : Arguments} {body : Expr} {scope : Scope} {pos : Pos} {Q : Value → Shared → Prop} {d : Option Int} (I : Inv X pins σ H s) (TB : TabB X.base X.mg c P) (hcode : X.env.code = .ref c)
    (hm : (P, X.env.qual ++ "<lambda>") ∈ T) (hu : ∀ p ∈ T, p.1 = P → p.2 = X.env.qual ++ "<lambda>") (hT : Tabs T H) (hdef : Dflt params X.env d) (hfree : ∀ y ∈ scope.names, y.2 = .free → ∃ c, X.env.cells.lookup y.1 = some c)
    (go : ∀ f c' dV H1 s', (∃ s0, Made X pins σ H s0 T params body scope dV f c' H1 s') → DfOk X d dV H1 s' → Q (.ref f) s') :
    wpAny (model X.prog X.w) X.A (eval (.Lambda params body scope pos) X.env) Q X.xe s := by
  cases hdef with
  | none hd => exact eval_lam0 hd (mk_tail I TB hcode hm hu hT hfree fun f c' H1 s' M => go f c' _ H1 s' ⟨_, M⟩ rfl)
  | @one i k p hd =>
    refine eval_lam1 hd (wpAny_mono (pe_int (X := X) (i := i) (j := k) (pos := p) |>.run pins s σ H (fun v H1 => v = .int i ∧ H1 = H) I ⟨rfl, rfl⟩) (fun u s1 hu1 => ?_) fun _ _ z => z)
    · obtain ⟨v, H1, I1, rv, rfl, rfl⟩ := hu1
      obtain ⟨tk, rfl⟩ := rv
      have I2 : Inv X pins σ H1 { s1 with heap := s1.heap.push (tupO [.int i tk]) } := I1.kept (t' := s1.toks) fun b o e => Heap.get?_push_of_some _ e
      have ht : (s1.heap.push (tupO [.int i tk])).get? s1.heap.objs.size = some (tupO [.int i tk]) := Heap.get?_push_size _ rfl
      have hn : H1 s1.heap.objs.size = none := I1.hok.fresh (Nat.le_refl _)
      exact mk_tail I2 TB hcode hm hu hT hfree fun f c' G s' M => go f c' _ G s' ⟨_, M⟩ ⟨_, tk, rfl, (M.old _ _ ht hn).1, (M.old _ _ ht hn).2, nofr I1 _ (Nat.le_refl _)⟩
end
end EXL
end

section
set_option Elab.async false
set_option linter.all false
set_option maxRecDepth 100000
set_option maxHeartbeats 2000000
namespace EXL
open PySem PySem.Spec PyProof.Rows L2 LamX
section
variable {X : Cx} {pins : List (Addr × Obj)} {σ : L2.St} {H HZ : Hp} {s s1 : Shared}
/-- the state in which a lambda's body begins -/
theorem lam_start3 {A : Around} {outer : List Env} {E : XK} {scope : Scope} {f c' : Addr} {g1 : Heap} {tk : Nat} {bs : List (Str × Value)} (I : Inv X pins σ H s) (L : LamP X.N X.env.scope scope) (e0 : Env0 X.prog X.w X.K X.mg X.base A outer s1 HZ) (hd : A.handled = none)
    (un : Un (frs X.stack) [] H HZ s.heap s1.heap) (hns : g1.Ns s1.heap.objs.size fun y => bs.reverse.lookup y) (kp : ∀ b o, s1.heap.get? b = some o → g1.get? b = some o) :
    Inv (lamCx X A outer s1 HZ E scope f c') [] σ HZ { s1 with heap := g1, toks := tk } := by
  have hfree := L.has I.ok
  have cm : ∀ {y c}, (cloFrom X.env.cells scope.names []).lookup y = some c → X.env.cells.lookup y = some c := fun {y c} e => by
    rcases cloFrom_mem (PySem.mem_of_lookup e) with hm | ⟨h1, h2⟩
    · cases hm
    · obtain ⟨c1, hc⟩ := hfree _ h1 rfl
      have hc2 : X.env.cells.lookup y = some c1 := hc
      have e2 : c = c1 := by
        rw [h2, hc2] <;> rfl
      rw [e2]
      exact hc2
  have fc : ∀ {y}, scope.names.lookup y = some .free → ∃ c, (cloFrom X.env.cells scope.names []).lookup y = some c := fun {y} hl => mem_lookup (cloFrom_has (cells := X.env.cells) (acc := []) (PySem.mem_of_lookup hl))
  have cellK : ∀ {c : Addr} {v : Option Value}, H c = none → s.heap.IsCell c v → g1.IsCell c v := fun {c v} n ⟨o, ho, hd⟩ => by
    obtain ⟨sl, q⟩ := un.any ho n (by simp)
    exact ⟨_, kp _ _ q, hd⟩
  have noA : ∀ b : Addr, b ∉ (lamCx X A outer s1 HZ E scope f c').ex := fun b z => absurd (show b ∈ ([] : List Addr) from z) (by simp)
  refine ⟨⟨e0.mod, L.kind, rfl, rfl, Nat.le_refl _, fun y z c e1 e2 => I.ok.inj y z c (cm e1) (cm e2), fun y hy => ?_, fun y c z _ => ?_, fun _ => hd, Around.frames_deeper e0.frames, .inr ⟨rfl, rfl⟩, fun b z => absurd z (noA b), e0.bs, e0.bsz, fun b _ _ => noA b, fun b z => absurd z (noA b), e0.funs, e0.frf⟩,
    rfl, e0.bare, Un.kept kp, ⟨_, hns, fun i y v e1 e2 e3 => ?_⟩, fun y c e => ?_, e0.hok.fresh (Nat.le_refl _), fun y c e => ?_, fun q hq => absurd (show q ∈ ([] : List (Addr × Obj)) ++ [] from hq) (by simp), e0.hok.kept kp, I.len⟩
  · rcases (show scope.names.lookup y = some .cell ∨ scope.names.lookup y = some .free from hy) with hy | hy
    · exact absurd rfl (L.own _ (PySem.mem_of_lookup hy)).2
    · exact fc hy
  · cases (show false = true from z)
  · rcases (show Vis scope y from e3) with k | k | k
    · exact absurd (List.mem_of_getElem? e1) ((L.own _ (PySem.mem_of_lookup k)).1 rfl)
    · exact absurd rfl (L.own _ (PySem.mem_of_lookup k)).2
    · obtain ⟨m, hn, hl⟩ := I.loc
      have vis : Vis X.env.scope y := (L.free _ (PySem.mem_of_lookup k) rfl).elim (fun k => .inr (.inl k)) fun k => .inr (.inr k)
      obtain ⟨w', r, q⟩ := hl i y v e1 e2 vis
      obtain ⟨c2, h2⟩ := fc k
      refine ⟨w', r, .inr ⟨.inr k, c2, h2, ?_⟩⟩
      have c1 := cm h2
      rcases q with ⟨k2, _⟩ | ⟨_, c3, e', z⟩
      · have k3 : X.env.scope.names.lookup y = some .local := k2
        rcases L.free _ (PySem.mem_of_lookup k) rfl with k4 | k4 <;> rw [show X.env.scope.names.lookup y = _ from k4] at k3 <;> cases k3
      · rw [c1] at e'
        cases e'
        exact cellK (I.freeC y _ c1) z
  · obtain ⟨w', z⟩ := I.cell y c (cm e)
    exact ⟨w', cellK (I.freeC y c (cm e)) z⟩
  · obtain ⟨v, o, ho, hd⟩ := I.cell y c (cm e)
    exact un.free c o ho (I.freeC y c (cm e)) (by simp)
/-- how a lambda's parameters come to their values -/
structure BindL (params : Arguments) (body : Expr) (scope : Scope) (d : Option Int) : Prop where
  b0 : d = none → ∀ (q : Str) (cl : List (Str × Addr)) (pm cv ct : Value), bindArgs (lFn q params body scope cl pm cv ct .none) ⟨[], []⟩ = pure []
  b1 : ∀ i, d = some i → ∃ nm : Str, scope.names.lookup nm = some .local ∧ ∀ (q : Str) (cl : List (Str × Addr)) (pm cv ct : Value) (t : Addr) (tk : Tok), ∀ S, PySem.W.peek [(t, tupO [.int i tk])] S (bindArgs (lFn q params body scope cl pm cv ct (.ref t)) ⟨[], []⟩) = some [(nm, .int i tk)]
theorem BindL.at {params : Arguments} {body : Expr} {scope : Scope} {d : Option Int} (b : BindL params body scope d) {dV : Value} {H1 : Hp} {s' s2 : Shared} (k : DfOk X d dV H1 s') (up : ∀ b o, s'.heap.get? b = some o → H1 b = none → b ∉ frs X.stack → s2.heap.get? b = some o)
    (q : Str) (cl : List (Str × Addr)) (pm cv ct : Value) : ∃ bs, BindsTo s2 (lFn q params body scope cl pm cv ct dV) ⟨[], []⟩ bs ∧ ∀ y ∈ bs, scope.names.lookup y.1 = some .local := by
  cases d with
  | none =>
    cases (show dV = .none from k)
    exact ⟨[], .of_eq (b.b0 rfl q cl pm cv ct), fun y hy => nomatch hy⟩
  | some i =>
    obtain ⟨t, tk, rfl, h1, h2, h3⟩ := k
    obtain ⟨nm, n1, n2⟩ := b.b1 i rfl
    refine ⟨[(nm, .int i tk)], PySem.W.kp_binds (K := [(t, tupO [.int i tk])]) (fun a o e => ?_) (n2 q cl pm cv ct t tk), fun y hy => ?_⟩
    · have e' : List.lookup a [(t, tupO [.int i tk])] = some o := e
      by_cases hb : a = t
      · subst hb
        simp [List.lookup] at e'
        subst e'
        exact up _ _ h1 h2 h3
      · have : (a == t) = false := by simpa using hb
        simp [List.lookup, this] at e'
    · rw [List.mem_singleton] at hy
      subst hy
      exact n1
/-- x(), in the def that got the lambda -/
theorem pe_act3 {CXg : CXT} {Eg : XK} {Ng : List Str} {qg : Str} {sg : Scope} {g f c' : Addr} {cdg : Value} {params : Arguments} {body : Expr} {scope : Scope} {k i : Nat} {a : Str} {pn : List (Addr × Obj)} {xe : Value → Shared → Prop} {W : WX} {tb : XK → TE} {p1 p2 : Pos} {dV : Value} {d : Option Int}
    (I : Inv X pins σ H s) (L : LamP X.N X.env.scope scope) (hf : ∃ pm ct, s.heap.get? f = some (lObj (X.env.qual ++ "<lambda>") params body scope (cloFrom X.env.cells scope.names []) pm c' ct dV)) (hfn : H f = none) (hfr : f ∉ frs X.stack) (hdf : DfOk X d dV H s) (hb : BindL params body scope d)
    (tk : Takes ((cxOf CXg X.prog X.w X.K X.mg X.base Ng qg sg g cdg X.A X.stack s H Eg).tr pn xe) W) (hr : Room (k + 1) (X.A.deeper (envOfC qg sg s.heap.objs.size g cdg)))
    (hbody : ∀ (A : Around) (outer : List Env) (s : Shared) (H : Hp) (E : XK), A.guards = X.A.guards → Room k (A.deeper (lamEnv X scope s.heap.objs.size f c')) → PE (lamCx X A outer s H E scope f c') body (tb E))
    (hN : Ng[i]? = some a) (hv : Vis sg a) (hd : (a == ("__debug__" : Str)) = false := by decide) (hcd : (a == ("__classdict__" : Str)) = false := by decide) :
    PE ((cxOf CXg X.prog X.w X.K X.mg X.base Ng qg sg g cdg X.A X.stack s H Eg).tr pn xe) (.Call (.Name a p1) [] [] p2)
      (fun σZ HZ Q => σZ[i]? = some (some (.ref f)) ∧ HZ c' = some (CodeO c' (X.env.qual ++ "<lambda>")) ∧ tb (WE W σZ) σ HZ Q) := by
  obtain ⟨pm, ct, hf⟩ := hf
  refine ⟨fun pinsZ sZ σZ HZ Q IZ ⟨hs, hc, ht⟩ => ?_⟩
  refine wpAny_Call_Name_kw (thn ((pe_var (pos := p1) (i := i) hN hv hd hcd).run pinsZ sZ σZ HZ (fun v H1 => v = .ref f ∧ H1 = HZ) IZ ⟨.ref f, hs, rfl, rfl⟩) fun u s1 ⟨v, H1, I1, r1, ev, eH⟩ => ?_)
  subst ev
  rw [eH] at I1
  obtain rfl : u = Value.ref f := r1
  have up : ∀ b o, s.heap.get? b = some o → H b = none → b ∉ frs X.stack → s1.heap.get? b = some o := fun b o e n z => I1.base.keep b o e n z (fun z => nomatch (show b ∈ ([] : List Addr) from z))
  have of1 := up _ _ hf hfn hfr
  refine PySem.W.callWith_F0 ⟨_, _, _, _, of1⟩ ?_
  have un : Un (frs X.stack) [] H HZ s.heap s1.heap := I1.base
  obtain ⟨⟨oc, vs, t, hoc, hdc, hvc⟩, _, _⟩ := I1.hok c' _ hc
  have rc : codeAny (model X.prog X.w) (X.A.deeper (envOfC qg sg s.heap.objs.size g cdg)) (.call (.ref f) ⟨[], []⟩) (CR (L2.CX X.prog X.w) (envOfC qg sg s.heap.objs.size g cdg :: X.stack) X.prog X.w HZ s1 Q (WE W σZ)) s1 := by
    obtain ⟨bs, hbs, hl⟩ := hb.at hdf (s2 := s1) up (X.env.qual ++ "<lambda>") (cloFrom X.env.cells scope.names []) pm (.ref c') ct
    refine PySem.W.kla_callFunE hr.depth of1 rfl L.co L.gen rfl ⟨c', oc, vs, t, rfl, hoc, hdc, hvc⟩ (hbs _ _ _ _ ?_)
    refine wpAny_newFunctionEnv (fun y hy => (L.own y hy).2) hl (fun g1 hns hsb => ⟨I1.nolimit.fresh _ hsb, ?_⟩) L.kind
    show codeAny _ _ (.expr body (lamEnv X scope s1.heap.objs.size f c')) _ _
    have kp : ∀ b o, s1.heap.get? b = some o → g1.get? b = some o := fun b o e => hsb.extBut b o (Nat.ne_of_lt (Heap.lt_size e)) (Heap.get?_push_of_some _ e)
    have J : Inv (lamCx X (X.A.deeper (envOfC qg sg s.heap.objs.size g cdg)) (envOfC qg sg s.heap.objs.size g cdg :: X.stack) s1 HZ (WE W σZ) scope f c') [] σ HZ { s1 with heap := g1, toks := s1.toks + bs.length } := lam_start3 I L I1.env0 hr.hd un hns kp
    refine PySem.W.kla_codeExpr (wpAny_mono ((hbody (X.A.deeper (envOfC qg sg s.heap.objs.size g cdg)) (envOfC qg sg s.heap.objs.size g cdg :: X.stack) s1 HZ (WE W σZ) rfl (hr.deeper _)).run [] _ _ HZ Q J ht) (fun v s' hq => ?_) fun e s' hq => hq)
    obtain ⟨w', H', J', rv, q⟩ := hq
    exact ⟨w', H', J'.os, J'.bare, J'.base, J'.hok, rv, q⟩
  have hx := passAt tk σZ
  refine wpAny_call (codeAny_mono rc fun r s' hq => ?_)
  rcases r with e | (_ | _ | _ | u)
  · exact hx pinsZ HZ s1 e s' I1 hq
  all_goals first | exact I1.after hq | exact False.elim hq
end
end EXL
end

section
set_option Elab.async false
set_option linter.all false
set_option maxRecDepth 100000
set_option maxHeartbeats 2000000
namespace EV
open PySem L2 EXL
/-! ### a def that gets a lambda -/
abbrev mX (P : Program) (w : World) (K : PySem.W.Frag) (mg : Str → Option Value) (base : Heap) (Ng : List Str) (y : Str) (sg : Scope) (g : Addr) (cdg : Value) (A : Around) (outer : List Env) (s : Shared) (H : Hp) : Cx := (cxOf C8.CX0 P w K mg base Ng y sg g cdg A outer s H C8.E0).nox
/-- what is known while it runs: the lambda is at slot 0, the maker's heap is left as it was -/
def JM (f c' : Addr) (q : Str) (Z0 : Addr → Prop) (η0 : List Addr) (h0 : Hs) (H0 : Hp) : JT := fun σ Z η h H => σ[0]? = some (some (.ref f)) ∧ H c' = some (LamX.CodeO c' q) ∧ Z = Z0 ∧ FR0 η0 h0 H0 η h H
section
variable {S : Sc} {K : PySem.W.Frag} {Z0 : Addr → Prop} {η0 : List Addr} {h0 : Hs} {H0 : Hp} {f c' : Addr} {q : Str}
theorem jm_ok (R0 : HR S K Z0 η0 h0 H0) : JOk S K (JM f c' q Z0 η0 h0 H0) := ⟨fun {σ Z η η' h h' H H'} R g j => ⟨j.1, g.keep c' _ j.2.1 (fun m => by
  obtain ⟨vs, e⟩ := R.mutK m
  rw [j.2.1] at e
  cases e) (fun ps z => LamX.codeO_ne ps z), j.2.2.1, j.2.2.2.trans g R0⟩⟩
/-- the heap with one more code object and a longer table -/
theorem fr_ext {Z : Addr → Prop} {η : List Addr} {h : Hs} {H H1 : Hp} (e : LamX.ExtN H H1) (here : ∀ b o, H b = some o → ∃ o', H1 b = some o') : FR η h H η h H1 := ⟨⟨⟨[], by simp⟩, fun a o z _ t => e a o z t, fun a m => .inl m, here⟩, fun _ _ z => z⟩
theorem hr_ext {Z : Addr → Prop} {η : List Addr} {h : Hs} {H H1 : Hp} (R : HR S K Z η h H) (e : LamX.ExtN H H1) (here : ∀ b o, H b = some o → ∃ o', H1 b = some o') (t : LamX.Tabs S.T H1) : HR S K Z η h H1 := by
  have f2 : FR η h H η h H1 := fr_ext (Z := Z) e here
  refine ⟨R.len, R.nd, fun n a o ea q => ?_, fun a z => ?_, R.zd, t⟩
  · have z := R.obj n a o ea q
    cases o with
    | lst us =>
      obtain ⟨ys, e1, rs⟩ := z
      exact ⟨ys, e a _ e1 (fun ps z => nomatch z), f2.rws R rs⟩
    | lck us =>
      obtain ⟨ys, e1, rs⟩ := z
      exact ⟨ys, e a _ e1 (fun ps z => nomatch z), f2.rws R rs⟩
    | frz y => exact ObjR.mono f2.toFR0 R (fun _ q => nomatch q) (fun _ q => nomatch q) z
  · obtain ⟨vs, e1⟩ := R.zk a z
    exact ⟨vs, e a _ e1 (fun ps z => nomatch z)⟩
end
/-- the promise of a def that gets a lambda: its body does what mbody tells, if a() does what the lambda does -/
def MetOk (S : Sc) (P : Program) (w : World) (K : PySem.W.Frag) (mg : Str → Option Value) (base : Heap) (Ng : List Str) (y : Str) (sg : Scope) (g : Addr) (cdg : Value) (bg : List Stmt) (a : Str) (mbody : SS) : Prop :=
  ∀ (A : Around) (outer : List Env) (s : Shared) (H : Hp) (f c' : Addr) (q : Str) (Z0 : Addr → Prop) (η0 : List Addr) (h0 : Hs) (H0 : Hp) (C : Cv), A.guards = some [] → A.units + 203 < cLine → HR S K Z0 η0 h0 H0 →
    (∀ (W2 : WX) (pn : List (Addr × Obj)) (xe : Value → Shared → Prop) (p1 p2 : Pos), Takes ((mX P w K mg base Ng y sg g cdg A outer s H).tr pn xe) W2 → SPE S ((mX P w K mg base Ng y sg g cdg A outer s H).tr pn xe) (JM f c' q Z0 η0 h0 H0) W2 C (.Call (.Name a p1) [] [] p2) cClo) →
    SPSs S (mX P w K mg base Ng y sg g cdg A outer s H) (JM f c' q Z0 η0 h0 H0) WNo C bg mbody
theorem start0 {Ng : List Str} {f : Addr} : (L2.start Ng [V.ref f])[0]? = some (some (V.ref f)) := rfl
section
variable {X : Cx} {S : Sc} {W : WX} {C : Cv} {y a : Str} {g c Pt : Addr} {k jg : Nat} {pg : Arguments} {bg : List Stmt} {sg : Scope} {dV kV doc pm cdv ct oc : Value} {an od : Option Addr} {osl : Array (Option Value)} {Ng : List Str} {params : Arguments} {body : Expr} {scope : Scope} {m : SE} {mbody : SS} {p lpos pos : Pos} {d : Option Int}
theorem s_lam (x : Xk S X J0 W) (hg : Gl X y) (hm : X.mg y = some (.ref g)) (hk : PySem.W.keepIn X.K (.ref g) = true) (lk : X.K.lookup g = some ⟨oc, od, .func (PySem.W.fnOf y y pg bg sg dV kV doc pm an cdv ct), osl⟩) (hcg : PySem.W.codeIn X.K cdv y = true)
    (hb : L2.Binds X.K (PySem.W.fnOf y y pg bg sg dV kV doc pm an cdv ct) [a] []) (Sg : FnScope Ng [a] sg) (hNg : Ng[0]? = some a) (hva : Vis sg a) (met : MetOk S X.prog X.w X.K X.mg X.base Ng y sg g cdv bg a mbody)
    (TB : LamX.TabB X.base X.mg c Pt) (hcode : X.env.code = .ref c) (hmT : (Pt, X.env.qual ++ "<lambda>") ∈ S.T) (hu : ∀ p ∈ S.T, p.1 = Pt → p.2 = X.env.qual ++ "<lambda>") (hr : Room (k + 2) X.A) (L : LamP X.N X.env.scope scope) (hdef : Dflt params X.env d) (hbl : BindL params body scope d)
    (hbody : ∀ (A : Around) (outer : List Env) (s : Shared) (H : Hp) (E : XK) (f c' : Addr), A.guards = X.A.guards → Room k (A.deeper (LamX.lamEnv X scope s.heap.objs.size f c')) → SPE S (LamX.lamCx X A outer s H E scope f c') J0 (bW E) C body m)
    (hG : ∃ F wf, ∀ lam h, C.G jg lam h = finF (mbody ⟨F, fun _ _ _ => .no, wf, some lam, none⟩ (List.replicate Ng.length none) h))
    (hdb : (y == ("__debug__" : Str)) = false := by decide) (hd : (a == ("__debug__" : Str)) = false := by decide) (hcd : (a == ("__classdict__" : Str)) = false := by decide) :
    SPE S X J0 W C (.Call (.Name y p) [.Lambda params body scope lpos] [] pos) (cLam jg m) := by
  refine ⟨fun pins s σ H Q I ⟨Z, η, ρ, h, A, kk⟩ => ?_⟩
  obtain ⟨F, wf, hG⟩ := hG
  refine wpAny_Call_Name_kw (ld_glob I hg hm ?_ hdb)
  refine PySem.W.callWith_K (h₀ := X.base) I.ok.mod.kin hk ?_ (by rfl) (by rfl)
  show wpAny _ _ (spliced ((false, eval (.Lambda params body scope lpos) X.env) :: backTo pos (starEach [] X.env))) _ _ s
  refine Calls.spliced_cons (lam_make3 I TB hcode hmT hu A.hr.tabs hdef (L.has I.ok) fun f c' dV' H1 s' ⟨s0, M⟩ hdf => Calls.spliced_nil ⟨M.inv.kIn, ?_⟩)
  have R1 := hr_ext A.hr M.ext M.here M.tabs
  have f1 : FR η h H η h H1 := fr_ext (Z := Z) M.ext M.here
  have k1 := KG.step kk f1 A.hr
  have sr1 := f1.sr A.hr A.sr
  let lam : Hs → Re EV.W := fun h1 => m C ρ h1
  have k2 : KG S X.K J0 W Z η h H1 (VP X.K Z Q) (nx (finF (mbody ⟨F, fun _ _ _ => .no, wf, some lam, none⟩ (List.replicate Ng.length none) h))) := by
    have e := hG lam h
    have k3 : KG S X.K J0 W Z η h H1 (VP X.K Z Q) (nx (C.G jg lam h)) := k1
    rw [e] at k3
    exact k3
  have rc : codeAny (model X.prog X.w) X.A (.call (.ref g) ⟨[.ref f], []⟩) (CR C8.CX0 X.stack X.prog X.w H1 s' Q C8.E0) s' := by
    refine LamX.run_ofS (N := Ng) (ps := [a]) (us := [.ref f]) (vs := [.ref f]) lk hcg Sg (show Room (k + 1 + 1) X.A from hr) M.inv.env0 (hb s' [.ref f] M.inv.kIn rfl) (.cons rfl .nil) rfl fun hr' => ?_
    let Cm : Cv := ⟨F, fun _ _ _ => .no, wf, some lam, none⟩
    have hun := hr.un
    refine ⟨tS S X.K (JM f c' (X.env.qual ++ "<lambda>") Z η h H1) WNo (mbody Cm), PSs.nox (met X.A X.stack s' H1 f c' (X.env.qual ++ "<lambda>") Z η h H1 Cm x.gd (by omega) R1 fun W2 pn xe p1 p2 tk => ?_), ?_⟩
    · refine PE.conseq (pe_act3 (CXg := C8.CX0) (Eg := C8.E0) (Ng := Ng) (qg := y) (sg := sg) (g := g) (cdg := cdv) (i := 0) (tb := fun E => tE S X.K J0 (bW E) (m C)) M.inv L M.fn M.fresh M.fr hdf hbl tk hr' (fun A2 outer s2 H2 E hgd hr2 => hbody A2 outer s2 H2 E f c' hgd hr2) hNg hva hd hcd) fun σZ HZ Q2 ⟨Z2, η2, ρ2, h2, A2, k4⟩ => ?_
      obtain ⟨j1, j2, rfl, j4⟩ := A2.jj
      refine ⟨j1, j2, Z2, η2, ρ, h2, ⟨A2.hr, j4.sr R1 sr1, trivial⟩, ?_⟩
      have k5 : KG S X.K (JM f c' (X.env.qual ++ "<lambda>") Z2 η h H1) W2 Z2 η2 h2 HZ (VP X.K Z2 Q2) (m C ρ h2) := k4
      show KG S X.K J0 (bW (WE W2 σZ)) Z2 η2 h2 HZ (VP X.K Z2 Q2) (m C ρ h2)
      generalize m C ρ h2 = r0 at k5
      cases r0 with
      | ok w h3 => exact k5
      | no => exact k5.elim
      | ex e h3 => exact fun η3 H3 cls da σ3 f3 R3 _ rx => k5 η3 H3 cls da σZ f3 R3 ((jm_ok R1).step A2.hr f3.toFR0 ⟨j1, j2, rfl, j4⟩) rx
    · refine ⟨Z, η, List.replicate Ng.length none, h, ⟨R1, ⟨by simp [L2.start]; omega, fun i w e => ?_⟩, start0, M.code, rfl, FR0.refl⟩, ?_⟩
      · rw [List.getElem?_replicate] at e
        split at e <;> cases e
      · generalize mbody Cm (List.replicate Ng.length none) h = r0 at k2
        cases r0 with
        | ok fl h' =>
          cases fl with
          | nx ρ' => exact fun η' H' f' R' σ' _ _ => k2 η' H' f' R' .non RV.non
          | rt w => exact fun η' H' f' R' v rv => k2 η' H' f' R' v rv
          | bk ρ' => exact k2.elim
          | ct ρ' => exact k2.elim
        | ex e h' => exact k2.elim
        | no => exact k2.elim
  refine wpAny_call (codeAny_mono rc fun r s2 hq => ?_)
  rcases r with e | (_ | _ | _ | u)
  · exact (show False from hq).elim
  all_goals first | exact M.inv.after hq | exact False.elim hq
end
end EV
end

section
set_option Elab.async false
set_option linter.all false
set_option maxRecDepth 100000
set_option maxHeartbeats 2000000
namespace EXH
open PySem PySem.Spec PyProof.Rows L2 He
/-- a class of exceptions whose __init__ calls that of its base and keeps what it is given -/
structure SupD where
  name : Str
  qual : Str
  params : Arguments
  body : List Stmt
  scope : Scope
  fld : Str
  B : String
  newId : String
  initId : String
  bm : List Value
abbrev InV : Type := Option (Str × Str × Arguments × FuncBody × Scope × Addr × List Str × Addr)
def iniA (K : PySem.W.Frag) (x : Str) : Addr := ma K (ga K x) "__init__"
def iniW (K : PySem.W.Frag) (x : Str) : InV := match K.lookup (iniA K x) with
  | some ⟨_, _, .func fd, _⟩ => some (fd.name, fd.qualname, fd.params, fd.body, fd.scope, fd.globals, fd.closure.map (·.1), fd.builtins)
  | _ => none
def SupD.val (d : SupD) : InV := some ("__init__", d.qual, d.params, .stmts d.body, d.scope, mainGlobals, ["__class__"], builtinsNs)
def codB (K : PySem.W.Frag) (file : Str) (cda : Addr) : Bool := match K.lookup cda with
  | some ⟨_, _, .fields vs, _⟩ => (match (vs[2]? : Option Value) with
    | some (.str f2 _) => decide (f2 = file)
    | _ => false)
  | _ => false
def celB (K : PySem.W.Frag) (C cc : Addr) : Bool := match K.lookup cc with
  | some ⟨_, _, .cell (some v), _⟩ => decide (v = .ref C)
  | _ => false
def cloB (K : PySem.W.Frag) (C : Addr) (qual file : Str) (cda : Addr) : List (Str × Addr) → Bool
  | [q] => PySem.W.codeIn K (.ref cda) qual && (codB K file cda && celB K C q.2)
  | _ => false
def cdvB (K : PySem.W.Frag) (C : Addr) (qual file : Str) (cl : List (Str × Addr)) : Value → Bool
  | .ref cda => cloB K C qual file cda cl
  | _ => false
def cellB (K : PySem.W.Frag) (C fI : Addr) (qual file : Str) : Bool := match K.lookup fI with
  | some ⟨_, _, .func fd, _⟩ => decide (fd.defaults = .none) && cdvB K C qual file fd.closure fd.code
  | _ => false
theorem codB_ok {K : PySem.W.Frag} {file : Str} {cda : Addr} (h : codB K file cda = true) : ∃ ccl cdd vs ccs tf, K.lookup cda = some ⟨ccl, cdd, .fields vs, ccs⟩ ∧ vs[2]? = some (.str file tf) := by
  unfold codB at h
  cases q : K.lookup cda with
  | none => rw [q] at h; cases h
  | some o =>
    obtain ⟨ccl, cdd, dt, ccs⟩ := o
    rw [q] at h
    cases dt with
    | fields vs =>
      have k : (match (vs[2]? : Option Value) with
        | some (.str f2 _) => decide (f2 = file)
        | _ => false) = true := h
      cases q3 : (vs[2]? : Option Value) with
      | none => rw [q3] at k; cases k
      | some v3 =>
        rw [q3] at k
        cases v3 with
        | str f2 tf =>
          have e3 : f2 = file := of_decide_eq_true k
          subst e3
          exact ⟨ccl, cdd, vs, ccs, tf, rfl, q3⟩
        | _ => cases k
    | _ => cases h
theorem celB_ok {K : PySem.W.Frag} {C cc : Addr} (h : celB K C cc = true) : ∃ cl cld csl, K.lookup cc = some ⟨cl, cld, .cell (some (.ref C)), csl⟩ := by
  unfold celB at h
  cases q : K.lookup cc with
  | none => rw [q] at h; cases h
  | some o =>
    obtain ⟨cl, cld, dt, csl⟩ := o
    rw [q] at h
    cases dt with
    | cell v =>
      cases v with
      | none => cases h
      | some v =>
        have e : v = .ref C := of_decide_eq_true h
        subst e
        exact ⟨cl, cld, csl, rfl⟩
    | _ => cases h
def SupD.clsB (K : PySem.W.Frag) (d : SupD) : Bool :=
  let C := ga K d.name
  PySem.W.excInitIn K C d.bm d.newId && (PySem.W.excOver K C d.bm && (PySem.W.hasDictIn K C && (eqO (PySem.W.findIn K (.ref C) "__setattr__") (some (some (.builtin "object.__setattr__"))) && (decide (PySem.W.takerIn K C d.fld = some none) &&
    (eqO (PySem.W.ks_superIn K C C "__init__") (some (some (.builtin d.initId))) && (decide (PySem.W.subIn K (.ref C) (.type d.B) = some true) && (decide (PySem.W.mroIn K C (.ref C) = some true) && (PySem.W.clsIn K C).isSome)))))))
def SupD.makeB (K : PySem.W.Frag) (d : SupD) : Bool :=
  let C := ga K d.name
  eqO (PySem.W.findIn K (.ref C) "__init__") (some (some (.ref (iniA K d.name)))) && (decide (PySem.W.typeIn K (.ref (iniA K d.name)) = some (.type "function")) && (decide (PySem.W.subIn K (.ref C) (.type "BaseException") = some true) &&
    (decide (PySem.W.typeIn K (.ref C) = some (.type "type")) && (PySem.W.keepIn K (.ref C) && (xfB K C && eqO (PySem.W.findIn K (.ref C) d.fld) (some none))))))
def SupD.ok (K : PySem.W.Frag) (file : Str) (d : SupD) : Bool := d.clsB K && (d.makeB K && (cellB K (ga K d.name) (iniA K d.name) d.qual file && (eqO (PySem.W.nsIn K cStatics "thirdparty.any") (some none) && eqO (PySem.W.nsIn K mainGlobals "super") (some none))))
/-! ### the Hook -/
structure SaysY (fa : List Fa) (fn : List DefD) (tf : List Defn) (sup : List SupD) (file : Str) (h : Heap) (K : PySem.W.Frag) : Prop where
  d : SaysD fa fn K
  hd : ∀ p ∈ tf, PySem.W.codeHdIn K (cT K p).1 (cT K p).2 = true
  out : ∀ p ∈ tf, K.lookup (cT K p).2 = none
  empty : ∀ p ∈ tf, h.get? (cT K p).2 = some { cls := .none, data := .fields #[] }
  nd : (tf.map fun p => (cT K p).2).Nodup
  sok : ∀ d ∈ sup, d.ok K file = true
  siv : ∀ d ∈ sup, iniW K d.name = d.val
def nodupB : List Addr → Bool
  | [] => true
  | a :: r => !r.contains a && nodupB r
theorem nodupB_ok : ∀ {l : List Addr}, nodupB l = true → l.Nodup
  | [], _ => List.nodup_nil
  | a :: r, h => by
    simp only [nodupB, Bool.and_eq_true, Bool.not_eq_true'] at h
    refine List.nodup_cons.mpr ⟨fun m => ?_, nodupB_ok h.2⟩
    rw [List.contains_iff_mem.mpr m] at h
    cases h.1
abbrev AlY : Type := AlD × Bool × List InV
def frY (g : Addr → Option Obj) (n : Nat) : PySem.W.Frag := frT g (cStatics :: asD g n)
def obsY (n : Nat) (fa : List Fa) (fn : List DefD) (tf : List Defn) (sup : List SupD) (file : Str) (g : Addr → Option Obj) : AlY :=
  (obsD fa fn (frY g n), tabsB g tf (frY g n) && (nodupB (tf.map fun p => (cT (frY g n) p).2) && sup.all fun d => d.ok (frY g n) file), sup.map fun d => iniW (frY g n) d.name)
def valY (fn : List DefD) (sup : List SupD) : AlY := (valD fn, true, sup.map SupD.val)
theorem saysY_of {n : Nat} {fa : List Fa} {fn : List DefD} {tf : List Defn} {sup : List SupD} {file : Str} {h : Heap} (e : obsY n fa fn tf sup file h.get? = valY fn sup) : SaysY fa fn tf sup file h (frY h.get? n) := by
  have e1 : obsD fa fn (frY h.get? n) = valD fn := congrArg (fun z : AlY => z.1) e
  have e2 : (tabsB h.get? tf (frY h.get? n) && (nodupB (tf.map fun p => (cT (frY h.get? n) p).2) && sup.all fun d => d.ok (frY h.get? n) file)) = true := congrArg (fun z : AlY => z.2.1) e
  have e3 : (sup.map fun d => iniW (frY h.get? n) d.name) = sup.map SupD.val := congrArg (fun z : AlY => z.2.2) e
  obtain ⟨h2, e2⟩ := ba e2
  obtain ⟨h5, h6⟩ := ba e2
  have key : ∀ p ∈ tf, PySem.W.codeHdIn (frY h.get? n) (cT (frY h.get? n) p).1 (cT (frY h.get? n) p).2 = true ∧ ∃ o, h.get? (cT (frY h.get? n) p).2 = some o ∧ emptyTab o = true := fun p hp => by
    obtain ⟨h3, h4⟩ := ba (List.all_eq_true.mp h2 p hp)
    refine ⟨h3, ?_⟩
    cases q : h.get? (cT (frY h.get? n) p).2 with
    | none =>
      rw [q] at h4
      cases h4
    | some o =>
      rw [q] at h4
      exact ⟨o, rfl, h4⟩
  exact ⟨e1, fun p hp => (key p hp).1, fun p hp => by
    obtain ⟨_, o, q, z⟩ := key p hp
    exact frT_none q z, fun p hp => by
    obtain ⟨_, o, q, z⟩ := key p hp
    rw [q, emptyTab_eq z], nodupB_ok h5, fun d hd => List.all_eq_true.mp h6 d hd, fun d hd => List.map_inj_left.mp e3 d hd⟩
def hookY (n : Nat) (fa : List Fa) (fn : List DefD) (tf : List Defn) (sup : List SupD) (file : Str) : PySem.W.Hook where
  α := AlY
  obs := fun s => obsY n fa fn tf sup file s.heap.get?
  val := fun _ => valY fn sup
  says := fun _ h => ∃ K : PySem.W.Frag, K.In h ∧ SaysY fa fn tf sup file h K
  of := fun _ _ e => ⟨_, frT_in, saysY_of e⟩
  keeps := fun _ _ _ ⟨K, hK, c⟩ k => ⟨K, PySem.W.Frag.In.keeps hK k, ⟨c.d, c.hd, c.out, fun p hp => k _ _ (c.empty p hp), c.nd, c.sok, c.siv⟩⟩
theorem obsY_eq {n : Nat} {fa : List Fa} {fn : List DefD} {tf : List Defn} {sup : List SupD} {file : Str} {g : Addr → Option Obj} {s : Shared} (h : ∀ a, g a = s.heap.get? a) : obsY n fa fn tf sup file g = (hookY n fa fn tf sup file).obs s := by
  have e : g = s.heap.get? := funext h
  rw [e] <;> rfl
/-! ### what it gives -/
section
variable {K : PySem.W.Frag} {d : SupD} {file : Str} {prog : Program}
theorem cellB_ok {C fI : Addr} {qual file : Str} (h : cellB K C fI qual file = true) (e : iniW K d.name = d.val) (hf : iniA K d.name = fI) (hq : d.qual = qual) (hp : (prog.main.file : Str) = file) :
    ∃ oc od kV doc pm an cda ct cc osl ccl cdd vs ccs file tf cl cld csl, K.lookup fI = some ⟨oc, od, .func (PySem.W.ksFn "__init__" qual d.params d.body d.scope .none kV doc pm an (.ref cda) ct cc), osl⟩ ∧ PySem.W.codeIn K (.ref cda) qual = true ∧
    K.lookup cda = some ⟨ccl, cdd, .fields vs, ccs⟩ ∧ vs[2]? = some (.str file tf) ∧ ((prog.main.file : Str) == file) = true ∧ K.lookup cc = some ⟨cl, cld, .cell (some (.ref C)), csl⟩ := by
  subst hf hq
  unfold iniW at e
  unfold cellB at h
  cases q : K.lookup (iniA K d.name) with
  | none =>
    rw [q] at h
    cases h
  | some o =>
    obtain ⟨oc, od, dt, osl⟩ := o
    rw [q] at h e
    cases dt with
    | func fd =>
      obtain ⟨n1, n2, n3, n4, n5, n6, n7, n8, n9, n10, n11, n12, n13, n14, n15⟩ := fd
      have e2 : (some (n1, n2, n3, n4, n5, n6, n7.map (·.1), n15) : InV) = d.val := e
      unfold SupD.val at e2
      simp only [Option.some.injEq, Prod.mk.injEq] at e2
      obtain ⟨h1, h2, h3, h4, h5, h6, h7, h8⟩ := e2
      subst h1 h2 h3 h4 h5 h6 h8
      obtain ⟨h8, h9⟩ := ba (show (decide (n8 = .none) && cdvB K C d.qual file n7 n13) = true from h)
      have e8 := of_decide_eq_true h8
      subst e8
      cases n13 with
      | ref cda =>
        have h10 : cloB K C d.qual file cda n7 = true := h9
        match n7, h7, h10 with
        | [(nm, cc)], h7, h10 =>
          have e7 : nm = "__class__" := by simpa using h7
          subst e7
          obtain ⟨k1, k2⟩ := ba h10
          obtain ⟨k2, k3⟩ := ba k2
          obtain ⟨ccl, cdd, vs, ccs, tf, z1, z2⟩ := codB_ok k2
          obtain ⟨cl, cld, csl, z3⟩ := celB_ok k3
          exact ⟨oc, od, n9, n10, n11, n12, cda, n14, cc, osl, ccl, cdd, vs, ccs, file, tf, cl, cld, csl, rfl, k1, z1, z2, by rw [hp]; exact beq_self_eq_true _, z3⟩
      | _ => cases h9
    | _ => cases h
/-- the positions in such a body -/
abbrev Ps : Type := Pos × Pos × Pos × Pos × Pos × Pos × Pos × Pos × Pos × Pos
def psOf : List Stmt → Ps
  | [.Expr (.Call (.Attribute (.Call (.Name _ p0) _ _ p1) _ p2) [.Name _ p3] _ p4) p5, .Assign [.Attribute (.Name _ p6) _ p7] (.Name _ p8) p9] => (p0, p1, p2, p3, p4, p5, p6, p7, p8, p9)
  | _ => (⟨0, 0, 0, 0⟩, ⟨0, 0, 0, 0⟩, ⟨0, 0, 0, 0⟩, ⟨0, 0, 0, 0⟩, ⟨0, 0, 0, 0⟩, ⟨0, 0, 0, 0⟩, ⟨0, 0, 0, 0⟩, ⟨0, 0, 0, 0⟩, ⟨0, 0, 0, 0⟩, ⟨0, 0, 0, 0⟩)
def clsDef (s : Stmt) : Stmt := match s with
  | .ClassDef _ _ _ (b :: _) _ _ _ _ _ _ _ => b
  | s => s
theorem sup_k {par : Str} {ps : Ps} (h : d.ok K file = true) (e : iniW K d.name = d.val) (hp : (prog.main.file : Str) = file) (fb : ExcBaseFacts d.B d.newId d.initId d.bm) (kf : PySem.W.KxsFacts d.B d.initId) (sf : StoreFacts d.B d.bm "object.__setattr__" "object")
    (hb : d.body = EXS.iniBody par d.fld ps.1 ps.2.1 ps.2.2.1 ps.2.2.2.1 ps.2.2.2.2.1 ps.2.2.2.2.2.1 ps.2.2.2.2.2.2.1 ps.2.2.2.2.2.2.2.1 ps.2.2.2.2.2.2.2.2.1 ps.2.2.2.2.2.2.2.2.2) :
    EXS.SupK K prog (ga K d.name) (iniA K d.name) d.B d.newId d.initId d.bm d.fld d.qual d.params (EXS.iniBody par d.fld ps.1 ps.2.1 ps.2.2.1 ps.2.2.2.1 ps.2.2.2.2.1 ps.2.2.2.2.2.1 ps.2.2.2.2.2.2.1 ps.2.2.2.2.2.2.2.1 ps.2.2.2.2.2.2.2.2.1 ps.2.2.2.2.2.2.2.2.2) d.scope := by
  obtain ⟨h1, h⟩ := ba h
  obtain ⟨h2, h⟩ := ba h
  obtain ⟨h3, h⟩ := ba h
  obtain ⟨h4, h5⟩ := ba h
  obtain ⟨c1, h1⟩ := ba h1
  obtain ⟨c2, h1⟩ := ba h1
  obtain ⟨c3, h1⟩ := ba h1
  obtain ⟨c4, h1⟩ := ba h1
  obtain ⟨c5, h1⟩ := ba h1
  obtain ⟨c6, h1⟩ := ba h1
  obtain ⟨c7, h1⟩ := ba h1
  obtain ⟨c8, c9⟩ := ba h1
  refine ⟨fb, kf, sf, c1, c2, c3, eqO_ok c4, of_decide_eq_true c5, eqO_ok c6, of_decide_eq_true c7, of_decide_eq_true c8, Option.isSome_iff_exists.mp c9, eqO_ok h4, eqO_ok h5, ?_⟩
  rw [← hb]
  exact cellB_ok h3 e rfl rfl hp
end
end EXH
end

section
set_option Elab.async false
set_option linter.all false
set_option maxRecDepth 100000
set_option maxHeartbeats 2000000
namespace EV
open PySem PySem.Spec PyProof.Rows L2 He EXH
section
variable {X : Cx} {S : Sc} {J : JT} {W : WX} {C : Cv}
/-- in a lambda's body -/
theorem xk_lam {A : Around} {outer : List Env} {s : Shared} {H : Hp} {E : XK} {scope : Scope} {f c' : Addr} {k : Nat} (x : Xk S X J0 W) (gd : A.guards = X.A.guards) (hr : Room k (A.deeper (LamX.lamEnv X scope s.heap.objs.size f c'))) : Xk S (LamX.lamCx X A outer s H E scope f c') J0 (bW E) where
  jo := j0_ok
  un := by
    have := hr.un
    show (A.deeper _).units + 200 < cLine
    omega
  gd := gd.trans x.gd
  tk := L2.takes_of rfl rfl rfl rfl
  nd := x.nd
/-- in the def that gets it -/
theorem xk_met {P : Program} {w : World} {K : PySem.W.Frag} {mg : Str → Option Value} {base : Heap} {Ng ps : List Str} {y : Str} {sg : Scope} {g : Addr} {cdg : Value} {A : Around} {outer : List Env} {s : Shared} {H : Hp} {f c' : Addr} {q : Str} {Z0 : Addr → Prop} {η0 : List Addr} {h0 : Hs} {H0 : Hp}
    (Sg : FnScope Ng ps sg) (R : HR S K Z0 η0 h0 H0) (gd : A.guards = some []) (hu : A.units + 203 < cLine) : Xk S (mX P w K mg base Ng y sg g cdg A outer s H) (JM f c' q Z0 η0 h0 H0) WNo where
  jo := jm_ok R
  un := by
    show (A.deeper _).units + 200 < cLine
    have : (A.deeper (envOfC y sg s.heap.objs.size g cdg)).units = A.units + 3 := rfl
    omega
  gd := gd
  tk := takes_none5
  nd := Sg.nd
/-- a body that means nothing -/
theorem ss_dead {b : List Stmt} {g : SS} (h : ∀ ρ h, g C ρ h = .no) : SPSs S X J W C b g := ⟨fun pins s σ H D I ⟨Z, η, ρ, h1, A, k⟩ => by
  rw [h ρ h1] at k
  exact k.elim⟩
end
/-! ### making exceptions -/
def PmkT (P : Program) (K : PySem.W.Frag) (mg : Str → Option Value) (C : Addr) (x : Str) : Prop := ∀ (X : Cx) (m : Str) (j : Nat) (p p2 pos : Pos), X.prog = P → X.K = K → X.mg = mg → Gl X x → PMk X (.Call (.Name x p) [.Constant (.str m) j p2] [] pos) (fun _ H Q => Q (.ref C) none H)
def PmkV (P : Program) (K : PySem.W.Frag) (mg : Str → Option Value) (C : Addr) (x f : Str) : Prop := ∀ (X : Cx) (k : Nat) (e : Expr) (ta : TE) (p pos : Pos), X.prog = P → X.K = K → X.mg = mg → Room (k + 1) X.A → Gl X x → PE X e ta → starEach [e] X.env = (false, eval e X.env) :: starEach [] X.env →
  PMk X (.Call (.Name x p) [e] [] pos) (fun σ H Q => ta σ H fun v H1 => ∀ d, H1 d = none → Q (.ref C) (some d) (upd H1 d (.xd [(f, v)])))
section
variable {P : Program} {K : PySem.W.Frag} {mg : Str → Option Value} {fa : List Fa} {fn : List DefD} {tf : List Defn} {sup : List SupD} {file : Str} {h h2 : Heap}
theorem pmkT_of (c : SaysD fa fn K) {x : Str} (hx : Fa.exc x ∈ fa) (hm : mg x = some (.ref (ga K x))) (hdb : (x == ("__debug__" : Str)) = false) : PmkT P K mg (ga K x) x := by
  intro X m j p p2 pos eP eK eM hg
  subst eP eK eM
  obtain ⟨e1, e2, e3, e4⟩ := exc_ok (c.facts hx)
  exact L2.pmk_own PySem.F.excBase_ValueError e1 hm e2 (raises_own e3 e4) hg hdb
theorem pmkV_of {d : SupD} {par : Str} {ps : Ps} (X₀ : K.In h) (G : h.Ns mainGlobals mg) (c : SaysY fa fn tf sup file h2 K) (hd : d ∈ sup) (fb : ExcBaseFacts d.B d.newId d.initId d.bm) (kf : PySem.W.KxsFacts d.B d.initId) (sf : StoreFacts d.B d.bm "object.__setattr__" "object")
    (hb : d.body = EXS.iniBody par d.fld ps.1 ps.2.1 ps.2.2.1 ps.2.2.2.1 ps.2.2.2.2.1 ps.2.2.2.2.2.1 ps.2.2.2.2.2.2.1 ps.2.2.2.2.2.2.2.1 ps.2.2.2.2.2.2.2.2.1 ps.2.2.2.2.2.2.2.2.2)
    (sc : EXS.IniScope par d.params d.scope) (hp : (P.main.file : Str) = file) (top : (P.main.scope.names.lookup ("super" : Str)).isSome = false) (pd : (par == ("__debug__" : Str)) = false)
    (sw : ∀ env : Env, swapsWith (.Name par ps.2.2.2.2.2.2.2.2.1) (some (.Attribute (.Name "self" ps.2.2.2.2.2.2.1) d.fld ps.2.2.2.2.2.2.2.1)) ps.2.2.2.2.2.2.2.2.2.line env = pure false)
    (ev : ∀ (L a cc : Addr) (cd : Value), ∃ pl : Sem Bool, eval (.Call (.Attribute (.Call (.Name "super" ps.1) [] [] ps.2.1) "__init__" ps.2.2.1) [.Name par ps.2.2.2.1] [] ps.2.2.2.2.1) (PySem.W.ksEnv d.qual d.scope L a cd cc) = (do
      let ov ← attributeBase (.Call (.Name "super" ps.1) [] [] ps.2.1) "__init__" (PySem.W.ksEnv d.qual d.scope L a cd cc) (eval (.Call (.Name "super" ps.1) [] [] ps.2.1) (PySem.W.ksEnv d.qual d.scope L a cd cc))
      standAt ps.2.2.1.atName
      let (f, first) ← holding [ov] (getMethod ov "__init__" pl)
      callWith ps.2.2.2.2.1 f first (backTo ps.2.2.2.2.1 (starEach [.Name par ps.2.2.2.1] (PySem.W.ksEnv d.qual d.scope L a cd cc))) []))
    (hm : mg d.name = some (.ref (ga K d.name))) (hdb : (d.name == ("__debug__" : Str)) = false) : PmkV P K mg (ga K d.name) d.name d.fld := by
  intro X k e ta p pos eP eK eM hr hg he hs
  subst eP eK eM
  have ok := c.sok d hd
  have iv := c.siv d hd
  have sk := sup_k (ps := ps) ok iv hp fb kf sf hb
  obtain ⟨_, o2⟩ := ba ok
  obtain ⟨o2, _⟩ := ba o2
  obtain ⟨m1, o2⟩ := ba o2
  obtain ⟨m2, o2⟩ := ba o2
  obtain ⟨m3, o2⟩ := ba o2
  obtain ⟨m4, o2⟩ := ba o2
  obtain ⟨m5, o2⟩ := ba o2
  have hS : X.mg "super" = none := PySem.W.mg_none_of X₀ G sk.supG
  exact EXS.pmk_sup (fI := iniA X.K d.name) (ps := ps) ⟨sk, sc, eqO_ok m1, of_decide_eq_true m2, of_decide_eq_true m3, of_decide_eq_true m4, m5, top, hS, pd, sw, ev⟩ hr hg hm he hs hdb
theorem xf_of (c : SaysY fa fn tf sup file h2 K) {d : SupD} (hd : d ∈ sup) : XfC K (ga K d.name) ∧ PySem.W.findIn K (.ref (ga K d.name)) d.fld = some none := by
  obtain ⟨_, o2⟩ := ba (c.sok d hd)
  obtain ⟨o2, _⟩ := ba o2
  obtain ⟨m1, o2⟩ := ba o2
  obtain ⟨m2, o2⟩ := ba o2
  obtain ⟨m3, o2⟩ := ba o2
  obtain ⟨m4, o2⟩ := ba o2
  obtain ⟨m5, o2⟩ := ba o2
  obtain ⟨m6, m7⟩ := ba o2
  exact ⟨xfB_ok m6, eqO_ok m7⟩
end
section
variable {X : Cx} {S : Sc} {J : JT} {W : WX} {C : Cv} {e : Expr} {me : SE} {c k : Nat} {f n : Str} {p p2 pos pos2 : Pos} {m : Str} {j : Nat}
theorem s_rT (x : Xk S X J W) (hc : X.calm = true) (t : PmkT X.prog X.K X.mg (S.cls c) n) (hg : Gl X n) : SPS S X J W C (.Raise (some (.Call (.Name n p) [.Constant (.str m) j p2] [] pos)) none pos2) (sRaise0 c) := s_raiseT x hc (t X m j p p2 pos rfl rfl rfl hg)
theorem s_rV (x : Xk S X J W) (hc : X.calm = true) (t : PmkV X.prog X.K X.mg (S.cls c) n f) (hf : S.fld c = f) (hr : Room (k + 1) X.A) (hg : Gl X n) (he : SPE S X J W C e me) (hs : starEach [e] X.env = (false, eval e X.env) :: starEach [] X.env := by rfl) :
    SPS S X J W C (.Raise (some (.Call (.Name n p) [e] [] pos)) none pos2) (sRaise c me) := s_raiseV x hc hf (t X k e _ p pos rfl rfl rfl hr hg he hs)
end
/-! ### which class catches which -/
def subF (tab : List (Nat × Nat × Bool)) (t c : Nat) : Option Bool := match tab.find? fun q => Nat.beq q.1 t && Nat.beq q.2.1 c with
  | some q => some q.2.2
  | none => none
def exmFa (names : List Str) (tab : List (Nat × Nat × Bool)) : List Fa := tab.map fun q => .exm (names.getD q.1 "") (names.getD q.2.1 "") q.2.2
theorem sub_ok {fa fx : List Fa} {fn : List DefD} {K : PySem.W.Frag} {names : List Str} {tab : List (Nat × Nat × Bool)} {S : Sc} (c : SaysD fa fn K) (hf : fa = fx ++ exmFa names tab) (hS : ∀ i, S.cls i = ga K (names.getD i "")) :
    ∀ t c b, subF tab t c = some b → PySem.W.exmOne K (.ref (S.cls t)) (.ref (S.cls c)) = some b := by
  intro t c2 b h
  unfold subF at h
  split at h
  · rename_i q e
    cases h
    have h2 := List.find?_some e
    have h3 := List.mem_of_find?_eq_some e
    rw [Bool.and_eq_true] at h2
    have e1 := Nat.eq_of_beq_eq_true h2.1
    have e2 := Nat.eq_of_beq_eq_true h2.2
    have h4 : Fa.exm (names.getD q.1 "") (names.getD q.2.1 "") q.2.2 ∈ fa := by
      rw [hf]
      exact List.mem_append_right _ (List.mem_map.mpr ⟨q, h3, rfl⟩)
    have z := exm_ok (c.facts h4)
    rw [hS, hS, ← e1, ← e2]
    exact z
  · cases h
/-! ### the end -/
theorem code_at {K : PySem.W.Frag} {x qual : Str} {params : Arguments} {body : List Stmt} {scope : Scope} {dvs : List V} {kws : List (Str × V)} {p : Defn} {fd : FuncData} (D : FunD K x qual params body scope dvs kws (fAd K p) fd) : fd.code = .ref (codeOf K p) := by
  obtain ⟨oc, od, dV, kV, doc, pm, an, cdv, ct, osl, rfl, lk, hcd, _, _⟩ := D.ex
  obtain ⟨c, rfl⟩ := codeIn_ref hcd
  rw [codeOf_eq lk rfl] <;> rfl
/-- the law's def at the head, with tables -/
theorem law_callGT {P : Program} {w : World} {K : PySem.W.Frag} {mg mb : Str → Option Value} {k j : Nat} {fa a : Addr} {cs : List (Addr × Addr)} {S : Sc} {pg : Pg} {s₁ : Shared} {vs : List Value} {ns : List Int} {h2 : Hs}
    (KX : K.In s₁.heap) (hns : s₁.heap.Ns mainGlobals mg) (hb : s₁.heap.Ns builtinsNs mb) (hbb : ∀ x : Str, x ≠ "__name__" → mb x = bootBuiltins x) (hlim : s₁.heap.NoLimit) (hg : s₁.gens = #[])
    (hT : ∀ p ∈ cs, s₁.heap.get? p.2 = some { cls := .none, data := .fields #[] }) (nT : ∀ p ∈ cs, K.lookup p.2 = none) (Cd : ∀ p ∈ cs, PySem.W.CodeHd s₁.heap p.1 p.2)
    (hbm : ∃ (bm : Addr) (ob : Obj), mg "__builtins__" = some (.ref bm) ∧ bm ≠ builtinsNs ∧ s₁.heap.get? bm = some ob ∧ ob.cls = .type "module" ∧ ob.dict = some builtinsNs ∧ ob.data = .plain)
    (ha : s₁.heap.get? a = some { cls := .type "list", data := .seq vs.toArray }) (hi : IntsAre vs ns) (hl : ns.length ≤ sizeLine) (hr : Room (3 * k) callerA)
    (F : ∀ base : Heap, K.In base → base.Ns mainGlobals mg → (∀ p ∈ cs, LamX.TabB base mg p.1 p.2) → FnG P w K mg base (L2.CX P w) (3 * k) fa (spI S K pg k j)) (hST : ∀ p ∈ S.T, p.1 ∈ cs.map (·.2))
    (run : runF pg k j [.d (.list (ns.map .int))] [] = .ok (.d (.bool true)) h2) :
    codeAny (model P w) callerA (.call (.ref fa) ⟨[.ref a], []⟩) (fun r s' => r = .ok (.ret (.bool true)) ∧ OldK s₁.heap s'.heap ∧ s'.os = s₁.os ∧ AllBare s'.gens) s₁ := by
  have rv := vals_ints hi
  have lenV := hi.length
  have rvI : ∀ {H : Hp} {M : Addr → Prop} (ns : List Int), RVs K H M (ns.map V.int) (ns.map .int) := by
    intro H M ns
    induction ns with
    | nil => exact .nil
    | cons i r ih => exact .cons (.int i) ih
  have isT : ∀ b : Addr, b ∈ cs.map (·.2) → s₁.heap.get? b = some { cls := .none, data := .fields #[] } := fun b hb => by
    obtain ⟨p, hp, e⟩ := List.mem_map.mp hb
    rw [← e]
    exact hT p hp
  have aT : a ∉ cs.map (·.2) := fun z => by
    have q := isT a z
    rw [ha] at q
    have z' : Data.seq vs.toArray _ = Data.fields #[] := congrArg Obj.data (Option.some.inj q)
    cases z'
  have memT : ∀ p ∈ cs, p.2 ∈ cs.map (·.2) := fun p hp => List.mem_map.mpr ⟨p, hp, rfl⟩
  have core : ∀ H : Hp, (∀ b ∈ cs.map (·.2), H b = some (.tbl #[])) → (∀ b, H b = none ∨ b ∈ cs.map (·.2) ∨ (b = a ∧ ∃ o xs, H b = some (.frz o (.lst xs)))) → HOk P w H s₁.heap → (H a ≠ none → K.lookup a = none) → RV K H (fun _ => False) (.ref a) (.list (ns.map .int)) →
      codeAny (model P w) callerA (.call (.ref fa) ⟨[.ref a], []⟩) (fun r s' => r = .ok (.ret (.bool true)) ∧ OldK s₁.heap s'.heap ∧ s'.os = s₁.os ∧ AllBare s'.gens) s₁ := by
    intro H hH hO hok hK hrv
    have hA : ∀ b, H b ≠ none → b = a ∨ b ∈ cs.map (·.2) := fun b z => (hO b).elim (fun q => absurd q z) fun q => q.elim .inr fun q => .inl q.1
    have base_of : ∀ {b : Addr} {o : Obj}, s₁.heap.get? b = some o → H b = none → (hidT s₁.heap H).get? b = some o := fun e n => hidT_get e n
    have noD : ∀ {b : Addr} {o : Obj}, s₁.heap.get? b = some o → (∀ vs n, o.data ≠ .seq vs n) → o.data ≠ .fields #[] → H b = none := fun {b o} e h1 h2 => by
      cases q : H b with
      | none => rfl
      | some u =>
        rcases hA b (by rw [q]; simp) with e' | e'
        · rw [e', ha] at e
          cases e
          exact (h1 _ _ rfl).elim
        · rw [isT b e'] at e
          cases e
          exact (h2 rfl).elim
    have noA : ∀ {b : Addr} {o : Obj} {es : Array DictEntry} {ep : Nat}, s₁.heap.get? b = some o → o.data = .dict es ep → H b = none := fun {b o es ep} e d => by
      refine noD e (fun vs n z => ?_) fun z => ?_
      · rw [d] at z
        cases z
      · rw [d] at z
        cases z
    have nsK : ∀ {b : Addr} {m : Str → Option Value}, s₁.heap.Ns b m → (hidT s₁.heap H).Ns b m := fun {b m} ⟨o, es, ep, e, d, r⟩ => ⟨o, es, ep, base_of e (noA e d), d, r⟩
    have kb : K.In (hidT s₁.heap H) := fun b o e => base_of (KX b o e) (by
      cases q : H b with
      | none => rfl
      | some u =>
        rcases hA b (by rw [q]; simp) with e' | e'
        · rw [e'] at e q
          rw [hK (by rw [q]; simp)] at e
          cases e
        · obtain ⟨p, hp, ep⟩ := List.mem_map.mp e'
          rw [← ep, nT p hp] at e
          cases e)
    have hM : L2.Mod K mg (hidT s₁.heap H) := ⟨kb, nsK hns, ⟨mb, nsK hb, hbb⟩, by
      obtain ⟨mc, h1, h2⟩ := hlim
      exact ⟨mc, nsK h1, h2⟩⟩
    have TB : ∀ p ∈ cs, LamX.TabB (hidT s₁.heap H) mg p.1 p.2 := fun p hp => by
      have hTp := hT p hp
      refine ⟨?_, ?_, fun z => ?_⟩
      · obtain ⟨o, us, file, tf, flags, tg, inF, text, tt, e1, r1, r2, r3, r4, r5, r6, r7, r8, hne⟩ := Cd p hp
        refine ⟨o, us, file, tf, flags, tg, inF, text, tt, base_of e1 (noD e1 (fun vs n z => ?_) fun z => ?_), r1, r2, r3, r4, r5, r6, r7, r8, hne⟩
        · rw [r2] at z
          cases z
        · rw [r2] at z
          cases z
          simp at r3
      · obtain ⟨bm, ob, b1, b2, b3, b4, b5, b6⟩ := hbm
        have nG : bm ≠ mainGlobals := fun q => by
          obtain ⟨o, es, ep, e, hd, _⟩ := hns
          rw [q, e] at b3
          cases b3
          rw [hd] at b6
          cases b6
        have nP : bm ≠ p.2 := fun q => by
          rw [q, hTp] at b3
          cases b3
          cases b6
        refine ⟨bm, ob, b1, b2, nG, nP, base_of b3 (noD b3 (fun vs n z => ?_) fun z => ?_), b4, b5, b6⟩
        · rw [b6] at z
          cases z
        · rw [b6] at z
          cases z
      · obtain ⟨o, es, ep, e, hd, _⟩ := hns
        rw [z, hTp] at e
        cases e
        cases hd
    have e0 : Env0 P w K mg (hidT s₁.heap H) callerA [] s₁ H :=
      ⟨rfl, hM, fun b o e => of_hidT e, Nat.le_of_eq (hidT_size _ _), trivial, fun b z => absurd (show b ∈ ([] : List Addr) from z) (by simp), hok, .of_eq hg⟩
    have hR : HR S K (fun _ => False) [] [] H := ⟨rfl, List.nodup_nil, fun n b o e => by simp at e, fun b z => z.elim, fun b z => z.elim, fun p hp => LamX.TabS.nil (hH _ (hST p hp))⟩
    have sp : spI S K pg k j [V.ref a] H (fun v _ => v = .bl true) (fun _ _ _ => False) := by
      refine ⟨fun _ => False, [], [], [.d (.list (ns.map .int))], hR, .cons (RV.less (fun b m => ?_) hrv) .nil, ?_⟩
      · rcases m with m | ⟨n, e, _⟩
        · exact m
        · simp at e
      · rw [run]
        intro η' H' f R' v r
        cases r
        rfl
    refine codeAny_mono (F _ kb (nsK hns) TB callerA [] s₁ H [.ref a] [.ref a] _ _ rfl hr e0 (.cons rfl .nil) sp) fun r s' hq => ?_
    cases r with
    | error e =>
      obtain ⟨_, _, _, _, _, _, _, _, _, _, _, _, z⟩ := hq
      exact z.elim
    | ok fl =>
      cases fl with
      | next => exact hq.elim
      | brk => exact hq.elim
      | cont => exact hq.elim
      | ret u =>
        obtain ⟨v, H', os, bare, un, hok', r', q⟩ := hq
        obtain rfl : v = .bl true := q
        obtain rfl : u = Value.bool true := r'
        have key : ∀ b o, b ∉ cs.map (·.2) → s₁.heap.get? b = some o → s'.heap.get? b = some o := fun b o nb e => by
          cases q : H b with
          | none => exact un.keep b o e q (by intro z; exact absurd (show b ∈ ([] : List Addr) from z) (by simp)) (by simp)
          | some u =>
            rcases hO b with z | z | ⟨_, ob, xs, z⟩
            · rw [q] at z; cases z
            · exact absurd z nb
            · have z2 := un.frzs b ob _ z
              obtain ⟨e1, _⟩ := hok b _ z
              obtain ⟨e2, _⟩ := hok' b _ z2
              rw [e] at e1; cases e1
              exact e2
        have grown : ∀ p ∈ cs, ∃ more : Array Value, s'.heap.get? p.2 = some { cls := .none, data := .fields more } := fun p hp => by
          obtain ⟨more, z⟩ := un.tbls p.2 #[] (hH p.2 (memT p hp))
          exact ⟨_, hok' p.2 _ z⟩
        refine ⟨rfl, ⟨fun b o e => ?_, fun b o e => ?_⟩, os, bare⟩
        · by_cases hb : b ∈ cs.map (·.2)
          · obtain ⟨p, hp, ep⟩ := List.mem_map.mp hb
            obtain ⟨more, hm⟩ := grown p hp
            rw [← ep] at e ⊢
            rw [hT p hp] at e
            cases e
            exact .inr (.inl ⟨((Cd p hp).tab (hT p hp)).isCodeTable, rfl, #[], more, rfl, by rw [Array.empty_append]; exact hm⟩)
          · exact .inl (key b o hb e)
        · by_cases hb : b ∈ cs.map (·.2)
          · obtain ⟨p, hp, ep⟩ := List.mem_map.mp hb
            obtain ⟨more, hm⟩ := grown p hp
            rw [← ep]
            exact ⟨_, hm⟩
          · exact ⟨o, key b o hb e⟩
  have hz : (ns.map V.int).length ≤ sizeLine := by rw [List.length_map]; exact hl
  cases hk : K.lookup a with
  | some o =>
    have e := KX a o hk
    rw [ha] at e
    cases e
    refine core (fun b => if b ∈ cs.map (·.2) then some (.tbl #[]) else none) (fun b hb => if_pos hb) (fun b => ?_) (fun b u z => ?_) (fun z => absurd (show (if a ∈ cs.map (·.2) then some (HO.tbl #[]) else none) = none from if_neg aT) z) (.kls ⟨vs, 0, hk, rv, hz⟩ (rvI ns))
    · by_cases hb : b ∈ cs.map (·.2)
      · exact .inr (.inl hb)
      · exact .inl (if_neg hb)
    · by_cases hb : b ∈ cs.map (·.2)
      · have z' := (if_pos hb).symm.trans z
        cases z'
        exact isT b hb
      · have z' := (if_neg hb).symm.trans z
        cases z'
  | none =>
    refine core (fun b => if b = a then some (.frz { cls := .type "list", data := .seq vs.toArray } (.lst (ns.map V.int))) else if b ∈ cs.map (·.2) then some (.tbl #[]) else none) (fun b hb => (if_neg (show ¬ b = a from fun z => aT (by rw [← z]; exact hb))).trans (if_pos hb)) (fun b => ?_) (fun b u z => ?_) (fun _ => hk)
      (.lst (.inr ⟨{ cls := .type "list", data := .seq vs.toArray }, if_pos rfl⟩) (fun z => z) (rvI ns))
    · by_cases hb : b = a
      · exact .inr (.inr ⟨hb, _, _, if_pos hb⟩)
      · by_cases hb2 : b ∈ cs.map (·.2)
        · exact .inr (.inl hb2)
        · exact .inl ((if_neg hb).trans (if_neg hb2))
    · by_cases hb : b = a
      · have z' := (if_pos hb).symm.trans z
        cases z'
        rw [hb]
        exact ⟨ha, hz, vs, _, rv, ha⟩
      · have z1 := (if_neg hb).symm.trans z
        by_cases hb2 : b ∈ cs.map (·.2)
        · have z' := (if_pos hb2).symm.trans z1
          cases z'
          exact isT b hb2
        · have z' := (if_neg hb2).symm.trans z1
          cases z'
/-- a law with lambdas and own exceptions, by its run in the evaluator -/
theorem walk_evT {l : PySem.W.OpenLaw} {m k : Nat} {q : Program} {loose : List Str} {XP : (Str → Option Value) → Heap → Prop} {YP : World → Heap → Prop} {d : DefRec}
    (hn : l.most = some m) (hm : m ≤ sizeLine) (hdf : d.params.defaults = []) (hr : Room (3 * k) callerA)
    (F : ∀ (w : World) (mg : Str → Option Value) (fa : Addr) (h : Heap), YP w h → h.Ns mainGlobals mg → mg d.name = some (.ref fa) →
      ∃ (K : PySem.W.Frag) (S : Sc) (pg : Pg) (j : Nat) (cs : List (Addr × Addr)), K.In h ∧ (∀ p ∈ cs, h.get? p.2 = some { cls := .none, data := .fields #[] }) ∧ (∀ p ∈ cs, K.lookup p.2 = none) ∧ (∀ p ∈ cs, PySem.W.codeHdIn K p.1 p.2 = true) ∧ (∀ p ∈ S.T, p.1 ∈ cs.map (·.2)) ∧
        (∀ base : Heap, K.In base → base.Ns mainGlobals mg → (∀ p ∈ cs, LamX.TabB base mg p.1 p.2) → FnG l.prog w K mg base (L2.CX l.prog w) (3 * k) fa (spI S K pg k j)) ∧
        ∀ ns : List Int, ns.length ≤ m → (∀ i ∈ ns, Builtin.Int.intBits i ≤ 1048576) → ∃ h2, runF pg k j [.d (.list (ns.map .int))] [] = .ok (.d (.bool true)) h2) :
    PySem.W.WalkO q loose XP YP l.row.toRowW d [] (fun f vs => PySem.call f vs) := by
  refine Att.attach_callB hn hdf fun w s₀ s₁ mg mb fa o pm cd doc a vs ns G Y ho hd hcd hmg hobj hints hlen hbits hg => ?_
  obtain ⟨K, S, pg, j, cs, KX, hT, nT, Cd, hST, hF, run⟩ := F w mg fa _ Y G.T.g hmg
  obtain ⟨h2, run⟩ := run ns hlen hbits
  exact law_callGT KX G.T.g G.T.b G.T.builtins G.T.nolimit hg hT nT (fun p hp => PySem.W.codeHd_of_K KX (Cd p hp)) G.T.bmain hobj hints (Nat.le_trans hlen hm) hr hF hST run
end EV
namespace EV
open PySem PySem.Spec PyProof.Rows L2 He EXH EXL
theorem lookup_self {t : Addr} {o : Obj} : List.lookup t [(t, o)] = some o := by simp [List.lookup]
theorem peek_load {β : Type} {K : PySem.W.Frag} {S : Setting} {a : Addr} {o : Obj} {r : β} (hK : K.lookup a = some o) {w} {k : Obj → Sem β} (e : PySem.W.peek K S (k o) = some r) : PySem.W.peek K S (.load a w k) = some r := by
  rw [PySem.W.peek]
  simp only [hK]
  exact e
/-- the j-th def gets a lambda -/
def GetsL (S : Sc) (P : Program) (w : World) (K : PySem.W.Frag) (mg : Str → Option Value) (base : Heap) (C : Cv) (jg : Nat) (y : Str) : Prop :=
  ∃ (a : Str) (Ng : List Str) (sg : Scope) (pg : Arguments) (bg : List Stmt) (g : Addr) (dV kV doc pm cdv ct oc : Value) (an od : Option Addr) (osl : Array (Option Value)) (mbody : SS),
    mg y = some (.ref g) ∧ PySem.W.keepIn K (.ref g) = true ∧ K.lookup g = some ⟨oc, od, .func (PySem.W.fnOf y y pg bg sg dV kV doc pm an cdv ct), osl⟩ ∧ PySem.W.codeIn K cdv y = true ∧ L2.Binds K (PySem.W.fnOf y y pg bg sg dV kV doc pm an cdv ct) [a] [] ∧
    FnScope Ng [a] sg ∧ Ng[0]? = some a ∧ Vis sg a ∧ MetOk S P w K mg base Ng y sg g cdv bg a mbody ∧ (∃ F wf, ∀ lam h, C.G jg lam h = finF (mbody ⟨F, fun _ _ _ => .no, wf, some lam, none⟩ (List.replicate Ng.length none) h)) ∧ (a == ("__debug__" : Str)) = false ∧ (a == ("__classdict__" : Str)) = false
structure TabL (S : Sc) (mg : Str → Option Value) (base : Heap) (c Pt : Addr) (q : Str) : Prop where
  tb : LamX.TabB base mg c Pt
  mem : (Pt, q) ∈ S.T
  u : ∀ p ∈ S.T, p.1 = Pt → p.2 = q
theorem s_lam2 {X : Cx} {S : Sc} {W : WX} {C : Cv} {y : Str} {c Pt : Addr} {k jg : Nat} {params : Arguments} {body : Expr} {scope : Scope} {m : SE} {p lpos pos : Pos} {d : Option Int} (x : Xk S X J0 W) (hg : Gl X y) (G : GetsL S X.prog X.w X.K X.mg X.base C jg y)
    (T : TabL S X.mg X.base c Pt (X.env.qual ++ "<lambda>")) (hcode : X.env.code = .ref c) (hr : Room (k + 2) X.A) (L : lamPB X.N X.env.scope scope = true) (hdef : Dflt params X.env d) (hbl : BindL params body scope d)
    (hbody : ∀ (A : Around) (outer : List Env) (s : Shared) (H : Hp) (E : XK) (f c' : Addr), A.guards = X.A.guards → Room k (A.deeper (LamX.lamEnv X scope s.heap.objs.size f c')) → SPE S (LamX.lamCx X A outer s H E scope f c') J0 (bW E) C body m)
    (hdb : (y == ("__debug__" : Str)) = false := by decide) : SPE S X J0 W C (.Call (.Name y p) [.Lambda params body scope lpos] [] pos) (cLam jg m) := by
  obtain ⟨a, Ng, sg, pg, bg, g, dV, kV, doc, pm, cdv, ct, oc, an, od, osl, mbody, h1, h2, h3, h4, h5, h6, h7, h8, h9, h10, h11, h12⟩ := G
  exact s_lam x hg h1 h2 h3 h4 h5 h6 h7 h8 h9 T.tb hcode T.mem T.u hr (lamP_by L) hdef hbl hbody h10 hdb h11 h12
theorem getsL_of {S : Sc} {P : Program} {w : World} {K : PySem.W.Frag} {mg : Str → Option Value} {base : Heap} {C : Cv} {jg : Nat} {y a : Str} {Ng : List Str} {sg : Scope} {pg : Arguments} {bg : List Stmt} {g : Addr} {fd : FuncData} {mbody : SS}
    (D : FunD K y y pg bg sg [] [] g fd) (hm : mg y = some (.ref g)) (hb : L2.Binds K fd [a] []) (Sg : FnScope Ng [a] sg) (hN : Ng[0]? = some a) (hv : Vis sg a) (met : ∀ cdv, MetOk S P w K mg base Ng y sg g cdv bg a mbody)
    (hG : ∃ F wf, ∀ lam h, C.G jg lam h = finF (mbody ⟨F, fun _ _ _ => .no, wf, some lam, none⟩ (List.replicate Ng.length none) h)) (h1 : (a == ("__debug__" : Str)) = false := by decide) (h2 : (a == ("__classdict__" : Str)) = false := by decide) : GetsL S P w K mg base C jg y := by
  obtain ⟨oc, od, dV, kV, doc, pm, an, cdv, ct, osl, rfl, lk, hcd, _, _⟩ := D.ex
  exact ⟨a, Ng, sg, pg, bg, g, dV, kV, doc, pm, cdv, ct, oc, an, od, osl, mbody, hm, D.kp, lk, hcd, hb, Sg, hN, hv, met cdv, hG, h1, h2⟩
/-- the tables of the defs tf -/
def tabT (K : PySem.W.Frag) (tf : List Defn) : List (Addr × Str) := tf.map fun p => ((cT K p).2, (p.1 ++ ".<locals>.") ++ "<lambda>")
theorem tabL_of {S : Sc} {mg : Str → Option Value} {base : Heap} {K : PySem.W.Frag} {tf : List Defn} {p : Defn} (hS : S.T = tabT K tf) (nd : (tf.map fun p => (cT K p).2).Nodup) (hp : p ∈ tf) (TB : ∀ q ∈ tf.map (cT K), LamX.TabB base mg q.1 q.2) :
    TabL S mg base (codeOf K p) (tabOf K (codeOf K p)) ((p.1 ++ ".<locals>.") ++ "<lambda>") := by
  refine ⟨TB (cT K p) (List.mem_map.mpr ⟨p, hp, rfl⟩), ?_, fun q hq e => ?_⟩
  · rw [hS]
    exact List.mem_map.mpr ⟨p, hp, rfl⟩
  · rw [hS] at hq
    obtain ⟨r, hr, rfl⟩ := List.mem_map.mp hq
    have e2 : (cT K r).2 = (cT K p).2 := e
    have : r = p := by
      clear hS TB hq e
      induction tf with
      | nil => cases hp
      | cons t ts ih =>
        rw [List.map_cons, List.nodup_cons] at nd
        rcases List.mem_cons.mp hp with rfl | hp2
        · rcases List.mem_cons.mp hr with rfl | hr2
          · rfl
          · exact absurd (List.mem_map.mpr ⟨r, hr2, e2⟩) nd.1
        · rcases List.mem_cons.mp hr with rfl | hr2
          · exact absurd (List.mem_map.mpr ⟨p, hp2, e2.symm⟩) nd.1
          · exact ih nd.2 hp2 hr2
    rw [this]
/-- what field a caught class keeps -/
theorem sf_ok {tab : List (Nat × Nat × Bool)} {fld : Nat → Str} {c : Nat} {f : Str} (h : (tab.all fun q => !(Nat.beq q.2.1 c && q.2.2) || decide (fld q.1 = f)) = true) : ∀ t, subF tab t c = some true → fld t = f := by
  intro t e
  unfold subF at e
  split at e
  · rename_i q e1
    have h2 := List.find?_some e1
    have h3 := List.mem_of_find?_eq_some e1
    rw [Bool.and_eq_true] at h2
    have z := List.all_eq_true.mp h q h3
    rw [h2.2] at z
    have e4 : q.2.2 = true := Option.some.inj e
    rw [e4] at z
    simp only [Bool.and_self, Bool.not_true, Bool.false_or, decide_eq_true_eq] at z
    rw [← Nat.eq_of_beq_eq_true h2.1]
    exact z
  · cases e
end EV
end

section
set_option Elab.async false
set_option linter.all false
set_option maxRecDepth 100000
set_option maxHeartbeats 0
open PySem PySem.Spec PyProof.Rows L2 EV EXH EXL He
namespace K75
abbrev tx : Program := PySem.Challenge.pw_tiedblocks_k75_errors_of_packed_systems
def top (i : Nat) : Stmt := tx.main.body.getD i (.Pass ⟨0, 0, 0, 0⟩)
def subTab : List (Nat × Nat × Bool) := [(1, 1, true), (1, 2, false), (1, 3, false), (1, 4, false), (1, 5, false), (1, 6, false), (1, 7, false), (1, 8, false), (1, 9, false), (1, 10, false), (8, 1, false), (8, 2, false), (8, 3, false), (8, 4, false), (8, 5, false), (8, 6, false), (8, 7, false), (8, 8, true), (8, 9, false), (8, 10, false), (9, 1, false), (9, 2, false), (9, 3, false), (9, 4, false), (9, 5, false), (9, 6, false), (9, 7, false), (9, 8, false), (9, 9, true), (9, 10, false)]
def cn : List Str := ["BlocksError", "InvalidSystem", "InvalidTable", "InvalidPoint", "InvalidLot", "InvalidRow", "InvalidReport", "InvalidOperation", "InvalidNumber", "TooMany", "Refused"]
def fl : List Str := ["", "", "", "", "", "", "", "", "given", "limit", "reason"]
/- 0 is_int ['value'] -/
def g0 : SS := (sSeq (sRet (cAnd (cIsi (cSlot 0) .int) (cNot (cIsi (cSlot 0) .bool))))
    sPass)
/- 1 is_within ['value', 'low', 'high'] -/
def g1 : SS := (sSeq (sRet (cAnd (cCall 0 (lOne (cSlot 0) lNil)) (cChain .le .le (cSlot 1) (cSlot 0) (cSlot 2))))
    sPass)
/- 2 choices ['many', 'few', 'found', 'step'] -/
def g2 : SS := (sSeq (sIf (cNot (cChain .le .le (cCon (.int (.ofNat 0))) (cSlot 1) (cSlot 0))) (sSeq (sRet (cCon (.int (.ofNat 0))))
    sPass) sPass)
    (sSeq (sAsg (gNm 2) (cCon (.int (.ofNat 1))))
    (sSeq (sFor (gNm 3) (iRng1 (cSlot 1)) (sSeq (sAsg (gNm 2) (cBin .fdiv (cBin .mul (cSlot 2) (cBin .sub (cSlot 0) (cSlot 3))) (cBin .add (cSlot 3) (cCon (.int (.ofNat 1))))))
    sPass))
    (sSeq (sRet (cSlot 2))
    sPass))))
/- 3 lots_of ['size', 'many', 'found', 'step', 'lot', 'point'] -/
def g3 : SS := (sSeq (sAsg (gNm 2) (cIf (cCmp .ge (cSlot 1) (cCon (.int (.ofNat 0)))) (cNew false (lOne (cTup lNil) lNil)) (cNew false lNil)))
    (sSeq (sFor (gNm 3) (iRng1 (cSlot 1)) (sSeq (sAsg (gNm 2) (cNew false (lComp2 [4, 5] (gNm 4) (iSeq (cSlot 2)) oNo (lIn [5] (gNm 5) (iRng2 (cIf (cCmp .ne (cSlot 4) (cTup lNil)) (cBin .add (cIdx (cSlot 4) (cNeg (cCon (.int (.ofNat 1))))) (cCon (.int (.ofNat 1)))) (cCon (.int (.ofNat 0)))) (cSlot 0)) oNo (cTup (lStar (cSlot 4) (lOne (cSlot 5) lNil)))))))
    sPass))
    (sSeq (sRet (cSlot 2))
    sPass)))
/- 4 is_lot_of ['size', 'value', 'one', 'other'] -/
def g4 : SS := (sSeq (sIf (cOr (cNot (cIsi (cSlot 1) .tuple)) (cNot (cB1 .all (cNew false (lComp [2] (gNm 2) (iSeq (cSlot 1)) oNo (cCall 1 (lOne (cSlot 2) (lOne (cCon (.int (.ofNat 0))) (lOne (cBin .sub (cSlot 0) (cCon (.int (.ofNat 1)))) lNil))))))))) (sSeq (sRet (cCon (.bool false)))
    sPass) sPass)
    (sSeq (sRet (cB1 .all (cNew false (lComp [2, 3] (gTup 2 (gsCons (gNm 2) (gsCons (gNm 3) gsNil))) (iZip (cSlot 1) (cSlc (cSlot 1) (cYes (cCon (.int (.ofNat 1)))) oNo)) oNo (cCmp .lt (cSlot 2) (cSlot 3))))))
    sPass))
/- 5 is_system_of ['value', 'size', 'blocks', 'block', 'one', 'other'] -/
def g5 : SS := (sSeq (sIf (cOr (cNot (cIsi (cSlot 0) .tuple)) (cOr (cCmp .ne (cB1 .len (cSlot 0)) (cCon (.int (.ofNat 2)))) (cNot (cCall 1 (lOne (cIdx (cSlot 0) (cCon (.int (.ofNat 0)))) (lOne (cCon (.int (.ofNat 1))) (lOne (cCon (.int (.ofNat 13))) lNil))))))) (sSeq (sRet (cCon (.bool false)))
    sPass) sPass)
    (sSeq (sAsg (gTup 2 (gsCons (gNm 1) (gsCons (gNm 2) gsNil))) (cSlot 0))
    (sSeq (sIf (cOr (cNot (cIsi (cSlot 2) .tuple)) (cCmp .gt (cB1 .len (cSlot 2)) (cCon (.int (.ofNat 60))))) (sSeq (sRet (cCon (.bool false)))
    sPass) sPass)
    (sSeq (sIf (cNot (cB1 .all (cNew false (lComp [3] (gNm 3) (iSeq (cSlot 2)) oNo (cAnd (cCall 4 (lOne (cSlot 1) (lOne (cSlot 3) lNil))) (cCmp .ne (cSlot 3) (cTup lNil))))))) (sSeq (sRet (cCon (.bool false)))
    sPass) sPass)
    (sSeq (sRet (cB1 .all (cNew false (lComp [4, 5] (gTup 2 (gsCons (gNm 4) (gsCons (gNm 5) gsNil))) (iZip (cSlot 2) (cSlc (cSlot 2) (cYes (cCon (.int (.ofNat 1)))) oNo)) oNo (cCmp .lt (cSlot 4) (cSlot 5))))))
    sPass)))))
/- 6 holds ['block', 'lot', 'point'] -/
def g6 : SS := (sSeq (sRet (cB1 .all (cNew false (lComp [2] (gNm 2) (iSeq (cSlot 1)) oNo (cCmp .in_ (cSlot 2) (cSlot 0))))))
    sPass)
/- 7 require_system ['systems', 'system'] -/
def g7 : SS := (sSeq (sIf (cNot (cB1 .all (cNew false (lComp [1] (gNm 1) (iSeq (cSlot 0)) oNo (cCall 5 (lOne (cSlot 1) lNil)))))) (sSeq (sRaise0 1)
    sPass) sPass)
    sPass)
/- 8 require_size ['size'] -/
def g8 : SS := (sSeq (sIf (cNot (cCall 1 (lOne (cSlot 0) (lOne (cCon (.int (.ofNat 1))) (lOne (cCon (.int (.ofNat 13))) lNil))))) (sSeq (sRaise 8 (cSlot 0))
    sPass) sPass)
    sPass)
/- 9 require_strength ['strength'] -/
def g9 : SS := (sSeq (sIf (cNot (cCall 1 (lOne (cSlot 0) (lOne (cCon (.int (.ofNat 0))) (lOne (cCon (.int (.ofNat 5))) lNil))))) (sSeq (sRaise 8 (cSlot 0))
    sPass) sPass)
    sPass)
/- 10 size_bar ['system', 'strength', 'index', 'block'] -/
def g10 : SS := (sSeq (sFor (gTup 2 (gsCons (gNm 2) (gsCons (gNm 3) gsNil))) (iEnm (cIdx (cSlot 0) (cCon (.int (.ofNat 1))))) (sSeq (sIf (cCmp .ne (cB1 .len (cSlot 3)) (cB1 .len (cIdx (cIdx (cSlot 0) (cCon (.int (.ofNat 1)))) (cCon (.int (.ofNat 0)))))) (sSeq (sRet (cTup (lOne (cCon (.str ⟨#[115, 105, 122, 101, 115]⟩)) (lOne (cCon (.int (.ofNat 0))) (lOne (cSlot 2) lNil)))))
    sPass) sPass)
    (sSeq (sIf (cCmp .lt (cB1 .len (cSlot 3)) (cSlot 1)) (sSeq (sRet (cTup (lOne (cCon (.str ⟨#[115, 104, 111, 114, 116]⟩)) (lOne (cSlot 2) lNil))))
    sPass) sPass)
    sPass)))
    (sSeq (sRet (cCon .none))
    sPass))
/- 11 do_share ['block', 'far', 'strength', 'point'] -/
def g11 : SS := (sSeq (sRet (cCmp .ge (cB1 .len (cNew false (lComp [3] (gNm 3) (iSeq (cSlot 0)) (cYes (cCmp .in_ (cSlot 3) (cSlot 1))) (cSlot 3)))) (cSlot 2)))
    sPass)
/- 12 packed_bar ['system', 'strength', 'found', 'one', 'far'] -/
def g12 : SS := (sSeq (sAsg (gNm 2) (cCall 10 (lOne (cSlot 0) (lOne (cSlot 1) lNil))))
    (sSeq (sIf (cCmp .isn (cSlot 2) (cCon .none)) (sSeq (sRet (cSlot 2))
    sPass) sPass)
    (sSeq (sFor (gTup 2 (gsCons (gNm 3) (gsCons (gNm 4) gsNil))) (iSeq (cCall 3 (lOne (cB1 .len (cIdx (cSlot 0) (cCon (.int (.ofNat 1))))) (lOne (cCon (.int (.ofNat 2))) lNil)))) (sSeq (sIf (cCall 11 (lOne (cIdx (cIdx (cSlot 0) (cCon (.int (.ofNat 1)))) (cSlot 3)) (lOne (cIdx (cIdx (cSlot 0) (cCon (.int (.ofNat 1)))) (cSlot 4)) (lOne (cSlot 1) lNil)))) (sSeq (sRet (cTup (lOne (cCon (.str ⟨#[98, 108, 111, 99, 107, 115]⟩)) (lOne (cSlot 3) (lOne (cSlot 4) lNil)))))
    sPass) sPass)
    sPass))
    (sSeq (sRet (cCon .none))
    sPass))))
/- 13 bare_lot ['blocks', 'size', 'strength', 'lot', 'block'] -/
def g13 : SS := (sSeq (sFor (gNm 3) (iSeq (cCall 3 (lOne (cSlot 1) (lOne (cSlot 2) lNil)))) (sSeq (sIf (cNot (cB1 .any (cNew false (lComp [4] (gNm 4) (iSeq (cSlot 0)) oNo (cCall 6 (lOne (cSlot 4) (lOne (cSlot 3) lNil))))))) (sSeq (sRet (cSlot 3))
    sPass) sPass)
    sPass))
    (sSeq (sRet (cCon .none))
    sPass))
/- 14 covering_bar ['system', 'strength', 'found', 'lot'] -/
def g14 : SS := (sSeq (sAsg (gNm 2) (cCall 10 (lOne (cSlot 0) (lOne (cSlot 1) lNil))))
    (sSeq (sIf (cCmp .isn (cSlot 2) (cCon .none)) (sSeq (sRet (cSlot 2))
    sPass) sPass)
    (sSeq (sAsg (gNm 3) (cCall 13 (lOne (cIdx (cSlot 0) (cCon (.int (.ofNat 1)))) (lOne (cIdx (cSlot 0) (cCon (.int (.ofNat 0)))) (lOne (cSlot 1) lNil)))))
    (sSeq (sRet (cIf (cCmp .isn (cSlot 3) (cCon .none)) (cTup (lOne (cCon (.str ⟨#[98, 97, 114, 101]⟩)) (lOne (cSlot 3) lNil))) (cCon .none)))
    sPass))))
/- 15 is_size_bar ['system', 'strength', 'value', 'blocks', 'one'] -/
def g15 : SS := (sSeq (sAsg (gNm 3) (cIdx (cSlot 0) (cCon (.int (.ofNat 1)))))
    (sSeq (sIf (cNot (cB1 .all (cNew false (lComp [4] (gNm 4) (iSeq (cSlc (cSlot 2) (cYes (cCon (.int (.ofNat 1)))) oNo)) oNo (cCall 1 (lOne (cSlot 4) (lOne (cCon (.int (.ofNat 0))) (lOne (cBin .sub (cB1 .len (cSlot 3)) (cCon (.int (.ofNat 1)))) lNil)))))))) (sSeq (sRet (cCon (.bool false)))
    sPass) sPass)
    (sSeq (sIf (cCmp .eq (cB1 .len (cSlot 2)) (cCon (.int (.ofNat 2)))) (sSeq (sRet (cAnd (cCmp .eq (cIdx (cSlot 2) (cCon (.int (.ofNat 0)))) (cCon (.str ⟨#[115, 104, 111, 114, 116]⟩))) (cCmp .lt (cB1 .len (cIdx (cSlot 3) (cIdx (cSlot 2) (cCon (.int (.ofNat 1)))))) (cSlot 1))))
    sPass) sPass)
    (sSeq (sRet (cAnd (cCmp .eq (cB1 .len (cSlot 2)) (cCon (.int (.ofNat 3)))) (cAnd (cCmp .eq (cIdx (cSlot 2) (cCon (.int (.ofNat 0)))) (cCon (.str ⟨#[115, 105, 122, 101, 115]⟩))) (cCmp .ne (cB1 .len (cIdx (cSlot 3) (cIdx (cSlot 2) (cCon (.int (.ofNat 1)))))) (cB1 .len (cIdx (cSlot 3) (cIdx (cSlot 2) (cCon (.int (.ofNat 2))))))))))
    sPass))))
/- 16 most_in ['size', 'wide', 'strength'] -/
def g16 : SS := (sSeq (sRet (cIf (cCmp .eq (cSlot 2) (cCon (.int (.ofNat 0)))) (cCon (.int (.ofNat 1))) (cBin .fdiv (cBin .mul (cSlot 0) (cCall 16 (lOne (cBin .sub (cSlot 0) (cCon (.int (.ofNat 1)))) (lOne (cBin .sub (cSlot 1) (cCon (.int (.ofNat 1)))) (lOne (cBin .sub (cSlot 2) (cCon (.int (.ofNat 1)))) lNil))))) (cSlot 1))))
    sPass)
/- 17 fewest_in ['size', 'wide', 'strength'] -/
def g17 : SS := (sSeq (sRet (cIf (cCmp .eq (cSlot 2) (cCon (.int (.ofNat 0)))) (cCon (.int (.ofNat 1))) (cNeg (cBin .fdiv (cBin .mul (cNeg (cSlot 0)) (cCall 17 (lOne (cBin .sub (cSlot 0) (cCon (.int (.ofNat 1)))) (lOne (cBin .sub (cSlot 1) (cCon (.int (.ofNat 1)))) (lOne (cBin .sub (cSlot 2) (cCon (.int (.ofNat 1)))) lNil))))) (cSlot 1)))))
    sPass)
/- 18 packed_in ['size', 'wide', 'strength', 'waits', 'every', 'best', 'goal', 'part', 'start', 'at', 'block'] -/
def g18 : SS := (sSeq (sAsg (gTup 3 (gsCons (gNm 4) (gsCons (gNm 5) (gsCons (gNm 6) gsNil)))) (cTup (lOne (cCall 3 (lOne (cSlot 0) (lOne (cSlot 1) lNil))) (lOne (cTup lNil) (lOne (cCall 16 (lOne (cSlot 0) (lOne (cSlot 1) (lOne (cSlot 2) lNil)))) lNil)))))
    (sSeq (sAsg (gNm 3) (cNew true (lOne (cTup (lOne (cTup lNil) (lOne (cCon (.int (.ofNat 0))) lNil))) lNil)))
    (sSeq (sWhile (cCmp .ne (cSlot 3) (cNew false lNil)) (sSeq (sAsg (gTup 2 (gsCons (gNm 7) (gsCons (gNm 8) gsNil))) (cPop (cSlot 3)))
    (sSeq (sIf (cCmp .gt (cB1 .len (cSlot 7)) (cB1 .len (cSlot 5))) (sSeq (sAsg (gNm 5) (cSlot 7))
    sPass) sPass)
    (sSeq (sIf (cCmp .eq (cB1 .len (cSlot 5)) (cSlot 6)) (sSeq (sRet (cSlot 5))
    sPass) sPass)
    (sSeq (sIf (cCmp .gt (cBin .sub (cBin .add (cB1 .len (cSlot 7)) (cB1 .len (cSlot 4))) (cSlot 8)) (cB1 .len (cSlot 5))) (sSeq (sFor (gNm 9) (iRng3 (cBin .sub (cB1 .len (cSlot 4)) (cCon (.int (.ofNat 1)))) (cBin .sub (cSlot 8) (cCon (.int (.ofNat 1)))) (-1)) (sSeq (sIf (cNot (cB1 .any (cNew false (lComp [10] (gNm 10) (iSeq (cSlot 7)) oNo (cCall 11 (lOne (cSlot 10) (lOne (cIdx (cSlot 4) (cSlot 9)) (lOne (cSlot 2) lNil)))))))) (sSeq (sExpr (cApp (cSlot 3) (cTup (lOne (cTup (lStar (cSlot 7) (lOne (cIdx (cSlot 4) (cSlot 9)) lNil))) (lOne (cBin .add (cSlot 9) (cCon (.int (.ofNat 1)))) lNil)))))
    sPass) sPass)
    sPass))
    sPass) sPass)
    sPass)))))
    (sSeq (sRet (cSlot 5))
    sPass))))
/- 19 covering_with ['size', 'wide', 'strength', 'many', 'waits', 'part', 'lot', 'left', 'block'] -/
def g19 : SS := (sSeq (sAsg (gNm 4) (cNew true (lOne (cTup lNil) lNil)))
    (sSeq (sWhile (cCmp .ne (cSlot 4) (cNew false lNil)) (sSeq (sAsg (gNm 5) (cPop (cSlot 4)))
    (sSeq (sAsg (gNm 6) (cCall 13 (lOne (cSlot 5) (lOne (cSlot 0) (lOne (cSlot 2) lNil)))))
    (sSeq (sIf (cCmp .is_ (cSlot 6) (cCon .none)) (sSeq (sRet (cTupOf (iSeq (cNew false (lSrt (cSlot 5))))))
    sPass) sPass)
    (sSeq (sAsg (gNm 7) (cBin .sub (cCall 2 (lOne (cSlot 0) (lOne (cSlot 2) lNil))) (cCall 20 (lOne (cSlot 5) (lOne (cSlot 0) (lOne (cSlot 2) lNil))))))
    (sSeq (sIf (cCmp .le (cSlot 7) (cBin .mul (cBin .sub (cSlot 3) (cB1 .len (cSlot 5))) (cCall 2 (lOne (cSlot 1) (lOne (cSlot 2) lNil))))) (sSeq (sExpr (cExt (cSlot 4) (cNew true (lComp [8] (gNm 8) (iSeq (cCall 3 (lOne (cSlot 0) (lOne (cSlot 1) lNil)))) (cYes (cCall 6 (lOne (cSlot 8) (lOne (cSlot 6) lNil)))) (cTup (lStar (cSlot 5) (lOne (cSlot 8) lNil)))))))
    sPass) sPass)
    sPass))))))
    (sSeq (sRet (cCon .none))
    sPass)))
/- 20 covered_in ['blocks', 'size', 'strength', 'lot', 'block'] -/
def g20 : SS := (sSeq (sRet (cB1 .len (cNew false (lComp [3] (gNm 3) (iSeq (cCall 3 (lOne (cSlot 1) (lOne (cSlot 2) lNil)))) (cYes (cB1 .any (cNew false (lComp [4] (gNm 4) (iSeq (cSlot 0)) oNo (cCall 6 (lOne (cSlot 4) (lOne (cSlot 3) lNil))))))) (cSlot 3)))))
    sPass)
/- 21 covering_in ['size', 'wide', 'strength', 'many'] -/
def g21 : SS := (sSeq (sAsg (gNm 3) (cCall 17 (lOne (cSlot 0) (lOne (cSlot 1) (lOne (cSlot 2) lNil)))))
    (sSeq (sWhile (cCmp .is_ (cCall 19 (lOne (cSlot 0) (lOne (cSlot 1) (lOne (cSlot 2) (lOne (cSlot 3) lNil))))) (cCon .none)) (sSeq (sAug 3 .add (cCon (.int (.ofNat 1))))
    sPass))
    (sSeq (sRet (cCall 19 (lOne (cSlot 0) (lOne (cSlot 1) (lOne (cSlot 2) (lOne (cSlot 3) lNil))))))
    sPass)))
/- 22 require_three ['size', 'wide', 'strength'] -/
def g22 : SS := (sSeq (sExpr (cCall 8 (lOne (cSlot 0) lNil)))
    (sSeq (sIf (cNot (cCall 1 (lOne (cSlot 1) (lOne (cCon (.int (.ofNat 1))) (lOne (cSlot 0) lNil))))) (sSeq (sRaise 8 (cSlot 1))
    sPass) sPass)
    (sSeq (sIf (cNot (cCall 1 (lOne (cSlot 2) (lOne (cCon (.int (.ofNat 1))) (lOne (cSlot 1) lNil))))) (sSeq (sRaise 8 (cSlot 2))
    sPass) sPass)
    sPass)))
/- 23 require_few ['size', 'wide', 'strength'] -/
def g23 : SS := (sSeq (sExpr (cCall 22 (lOne (cSlot 0) (lOne (cSlot 1) (lOne (cSlot 2) lNil)))))
    (sSeq (sIf (cCmp .gt (cSlot 0) (cCon (.int (.ofNat 6)))) (sSeq (sRaise 9 (cCon (.int (.ofNat 6))))
    sPass) sPass)
    sPass))
/- 24 require_number ['number'] -/
def g24 : SS := (sSeq (sIf (cNot (cCall 1 (lOne (cSlot 0) (lOne (cCon (.int (.ofNat 3))) (lOne (cCon (.int (.ofNat 999))) lNil))))) (sSeq (sRaise 8 (cSlot 0))
    sPass) sPass)
    sPass)
/- 25 packed_paper ['system', 'strength', 'found'] -/
def g25 : SS := (sSeq (sExpr (cCall 7 (lOne (cSlot 0) lNil)))
    (sSeq (sExpr (cCall 9 (lOne (cSlot 1) lNil)))
    (sSeq (sAsg (gNm 2) (cCall 12 (lOne (cSlot 0) (lOne (cSlot 1) lNil))))
    (sSeq (sRet (cIf (cCmp .is_ (cSlot 2) (cCon .none)) (cTup (lOne (cCon (.str ⟨#[112, 97, 99, 107, 101, 100]⟩)) lNil)) (cSlot 2)))
    sPass))))
/- 26 is_packed_paper ['system', 'strength', 'value', 'one'] -/
def g26 : SS := (sSeq (sExpr (cCall 7 (lOne (cSlot 0) lNil)))
    (sSeq (sExpr (cCall 9 (lOne (cSlot 1) lNil)))
    (sSeq (sIf (cOr (cNot (cIsi (cSlot 2) .tuple)) (cOr (cNot (cChain .le .le (cCon (.int (.ofNat 1))) (cB1 .len (cSlot 2)) (cCon (.int (.ofNat 3))))) (cNot (cIsi (cIdx (cSlot 2) (cCon (.int (.ofNat 0)))) .str)))) (sSeq (sRet (cCon (.bool false)))
    sPass) sPass)
    (sSeq (sIf (cCmp .eq (cB1 .len (cSlot 2)) (cCon (.int (.ofNat 1)))) (sSeq (sRet (cAnd (cCmp .eq (cIdx (cSlot 2) (cCon (.int (.ofNat 0)))) (cCon (.str ⟨#[112, 97, 99, 107, 101, 100]⟩))) (cCmp .is_ (cCall 12 (lOne (cSlot 0) (lOne (cSlot 1) lNil))) (cCon .none))))
    sPass) sPass)
    (sSeq (sIf (cCmp .ne (cIdx (cSlot 2) (cCon (.int (.ofNat 0)))) (cCon (.str ⟨#[98, 108, 111, 99, 107, 115]⟩))) (sSeq (sRet (cCall 15 (lOne (cSlot 0) (lOne (cSlot 1) (lOne (cSlot 2) lNil)))))
    sPass) sPass)
    (sSeq (sIf (cOr (cCmp .ne (cB1 .len (cSlot 2)) (cCon (.int (.ofNat 3)))) (cNot (cB1 .all (cNew false (lComp [3] (gNm 3) (iSeq (cSlc (cSlot 2) (cYes (cCon (.int (.ofNat 1)))) oNo)) oNo (cCall 1 (lOne (cSlot 3) (lOne (cCon (.int (.ofNat 0))) (lOne (cBin .sub (cB1 .len (cIdx (cSlot 0) (cCon (.int (.ofNat 1))))) (cCon (.int (.ofNat 1)))) lNil))))))))) (sSeq (sRet (cCon (.bool false)))
    sPass) sPass)
    (sSeq (sRet (cAnd (cCmp .ne (cIdx (cSlot 2) (cCon (.int (.ofNat 1)))) (cIdx (cSlot 2) (cCon (.int (.ofNat 2))))) (cCall 11 (lOne (cIdx (cIdx (cSlot 0) (cCon (.int (.ofNat 1)))) (cIdx (cSlot 2) (cCon (.int (.ofNat 1))))) (lOne (cIdx (cIdx (cSlot 0) (cCon (.int (.ofNat 1)))) (cIdx (cSlot 2) (cCon (.int (.ofNat 2))))) (lOne (cSlot 1) lNil))))))
    sPass)))))))
/- 27 covering_paper ['system', 'strength', 'found'] -/
def g27 : SS := (sSeq (sExpr (cCall 7 (lOne (cSlot 0) lNil)))
    (sSeq (sExpr (cCall 9 (lOne (cSlot 1) lNil)))
    (sSeq (sAsg (gNm 2) (cCall 14 (lOne (cSlot 0) (lOne (cSlot 1) lNil))))
    (sSeq (sRet (cIf (cCmp .is_ (cSlot 2) (cCon .none)) (cTup (lOne (cCon (.str ⟨#[99, 111, 118, 101, 114, 115]⟩)) lNil)) (cSlot 2)))
    sPass))))
/- 28 is_covering_paper ['system', 'strength', 'value', 'block'] -/
def g28 : SS := (sSeq (sExpr (cCall 7 (lOne (cSlot 0) lNil)))
    (sSeq (sExpr (cCall 9 (lOne (cSlot 1) lNil)))
    (sSeq (sIf (cOr (cNot (cIsi (cSlot 2) .tuple)) (cOr (cNot (cChain .le .le (cCon (.int (.ofNat 1))) (cB1 .len (cSlot 2)) (cCon (.int (.ofNat 3))))) (cNot (cIsi (cIdx (cSlot 2) (cCon (.int (.ofNat 0)))) .str)))) (sSeq (sRet (cCon (.bool false)))
    sPass) sPass)
    (sSeq (sIf (cCmp .eq (cB1 .len (cSlot 2)) (cCon (.int (.ofNat 1)))) (sSeq (sRet (cAnd (cCmp .eq (cIdx (cSlot 2) (cCon (.int (.ofNat 0)))) (cCon (.str ⟨#[99, 111, 118, 101, 114, 115]⟩))) (cCmp .is_ (cCall 14 (lOne (cSlot 0) (lOne (cSlot 1) lNil))) (cCon .none))))
    sPass) sPass)
    (sSeq (sIf (cCmp .ne (cIdx (cSlot 2) (cCon (.int (.ofNat 0)))) (cCon (.str ⟨#[98, 97, 114, 101]⟩))) (sSeq (sRet (cCall 15 (lOne (cSlot 0) (lOne (cSlot 1) (lOne (cSlot 2) lNil)))))
    sPass) sPass)
    (sSeq (sIf (cOr (cCmp .ne (cB1 .len (cSlot 2)) (cCon (.int (.ofNat 2)))) (cOr (cNot (cCall 4 (lOne (cIdx (cSlot 0) (cCon (.int (.ofNat 0)))) (lOne (cIdx (cSlot 2) (cCon (.int (.ofNat 1)))) lNil)))) (cCmp .ne (cB1 .len (cIdx (cSlot 2) (cCon (.int (.ofNat 1))))) (cSlot 1)))) (sSeq (sRet (cCon (.bool false)))
    sPass) sPass)
    (sSeq (sRet (cNot (cB1 .any (cNew false (lComp [3] (gNm 3) (iSeq (cIdx (cSlot 0) (cCon (.int (.ofNat 1))))) oNo (cCall 6 (lOne (cSlot 3) (lOne (cIdx (cSlot 2) (cCon (.int (.ofNat 1)))) lNil))))))))
    sPass)))))))
/- 29 most_blocks ['size', 'wide', 'strength'] -/
def g29 : SS := (sSeq (sExpr (cCall 22 (lOne (cSlot 0) (lOne (cSlot 1) (lOne (cSlot 2) lNil)))))
    (sSeq (sRet (cCall 16 (lOne (cSlot 0) (lOne (cSlot 1) (lOne (cSlot 2) lNil)))))
    sPass))
/- 30 fewest_blocks ['size', 'wide', 'strength'] -/
def g30 : SS := (sSeq (sExpr (cCall 22 (lOne (cSlot 0) (lOne (cSlot 1) (lOne (cSlot 2) lNil)))))
    (sSeq (sRet (cCall 17 (lOne (cSlot 0) (lOne (cSlot 1) (lOne (cSlot 2) lNil)))))
    sPass))
/- 31 most_triples ['number'] -/
def g31 : SS := (sSeq (sExpr (cCall 24 (lOne (cSlot 0) lNil)))
    (sSeq (sRet (cBin .sub (cCall 16 (lOne (cSlot 0) (lOne (cCon (.int (.ofNat 3))) (lOne (cCon (.int (.ofNat 2))) lNil)))) (cIf (cCmp .eq (cBin .mod (cSlot 0) (cCon (.int (.ofNat 6)))) (cCon (.int (.ofNat 5)))) (cCon (.int (.ofNat 1))) (cCon (.int (.ofNat 0))))))
    sPass))
/- 32 fewest_triples ['number'] -/
def g32 : SS := (sSeq (sExpr (cCall 24 (lOne (cSlot 0) lNil)))
    (sSeq (sRet (cCall 17 (lOne (cSlot 0) (lOne (cCon (.int (.ofNat 3))) (lOne (cCon (.int (.ofNat 2))) lNil)))))
    sPass))
/- 33 packed_number ['size', 'wide', 'strength'] -/
def g33 : SS := (sSeq (sExpr (cCall 23 (lOne (cSlot 0) (lOne (cSlot 1) (lOne (cSlot 2) lNil)))))
    (sSeq (sRet (cB1 .len (cCall 18 (lOne (cSlot 0) (lOne (cSlot 1) (lOne (cSlot 2) lNil))))))
    sPass))
/- 34 some_packed ['size', 'wide', 'strength'] -/
def g34 : SS := (sSeq (sExpr (cCall 23 (lOne (cSlot 0) (lOne (cSlot 1) (lOne (cSlot 2) lNil)))))
    (sSeq (sRet (cTup (lOne (cSlot 0) (lOne (cCall 18 (lOne (cSlot 0) (lOne (cSlot 1) (lOne (cSlot 2) lNil)))) lNil))))
    sPass))
/- 35 covering_number ['size', 'wide', 'strength'] -/
def g35 : SS := (sSeq (sExpr (cCall 23 (lOne (cSlot 0) (lOne (cSlot 1) (lOne (cSlot 2) lNil)))))
    (sSeq (sRet (cB1 .len (cCall 21 (lOne (cSlot 0) (lOne (cSlot 1) (lOne (cSlot 2) lNil))))))
    sPass))
/- 36 some_covering ['size', 'wide', 'strength'] -/
def g36 : SS := (sSeq (sExpr (cCall 23 (lOne (cSlot 0) (lOne (cSlot 1) (lOne (cSlot 2) lNil)))))
    (sSeq (sRet (cTup (lOne (cSlot 0) (lOne (cCall 21 (lOne (cSlot 0) (lOne (cSlot 1) (lOne (cSlot 2) lNil)))) lNil))))
    sPass))
/- 37 _law_jar ['script', 'spot', 'cell', 'great'] -/
def g37 : SS := (sSeq (sAsg (gNm 2) (cIf (cCmp .lt (cSlot 1) (cB1 .len (cSlot 0))) (cB1 .int (cIdx (cSlot 0) (cSlot 1))) (cBin .add (cBin .mul (cCon (.int (.ofNat 113))) (cSlot 1)) (cCon (.int (.ofNat 59))))))
    (sSeq (sAsg (gNm 3) (cBin .mod (cB2 .max (cCon (.int (.ofNat 0))) (cBin .sub (cB1 .abs (cSlot 2)) (cBin .pow (cCon (.int (.ofNat 10))) (cCon (.int (.ofNat 17)))))) (cBin .mul (cBin .pow (cCon (.int (.ofNat 10))) (cCon (.int (.ofNat 58)))) (cBin .pow (cCon (.int (.ofNat 10))) (cCon (.int (.ofNat 59)))))))
    (sSeq (sRet (cNew true (lOne (cSlot 3) (lOne (cBin .add (cBin .add (cBin .add (cBin .mul (cBin .mod (cB1 .abs (cSlot 2)) (cCon (.int (.ofNat 1152921504606847009)))) (cCon (.int (.ofNat 103)))) (cBin .mul (cCon (.int (.ofNat 1013))) (cSlot 1))) (cBin .mul (cCon (.int (.ofNat 71))) (cB1 .int (cCmp .lt (cSlot 2) (cCon (.int (.ofNat 0))))))) (cCon (.int (.ofNat 13)))) (lOne (cCon (.int (.ofNat 0))) lNil)))))
    sPass)))
/- 38 _law_dip ['jar', 'many', 'one', 'two', 'found'] -/
def g38 : SS := (sSeq (sIf (cCmp .gt (cIdx (cSlot 0) (cCon (.int (.ofNat 0)))) (cCon (.int (.ofNat 0)))) (sSeq (sAsg (gNm 4) (cBin .mod (cB1 .int (cIdx (cSlot 0) (cCon (.int (.ofNat 0))))) (cSlot 1)))
    (sSeq (sAsg (gSub (cSlot 0) (cCon (.int (.ofNat 0)))) (cBin .fdiv (cIdx (cSlot 0) (cCon (.int (.ofNat 0)))) (cSlot 1)))
    (sSeq (sRet (cSlot 4))
    sPass))) sPass)
    (sSeq (sAsg (gSub (cSlot 0) (cCon (.int (.ofNat 2)))) (cBin .add (cIdx (cSlot 0) (cCon (.int (.ofNat 2)))) (cCon (.int (.ofNat 1)))))
    (sSeq (sAsg (gNm 2) (cBin .mod (cB1 .int (cBin .add (cIdx (cSlot 0) (cCon (.int (.ofNat 1)))) (cBin .mul (cCon (.int (.ofNat 67867967))) (cIdx (cSlot 0) (cCon (.int (.ofNat 2))))))) (cCon (.int (.ofNat 2305843009213693951)))))
    (sSeq (sAsg (gNm 3) (cBin .add (cBin .mul (cBin .mod (cB1 .int (cBin .add (cBin .mul (cSlot 2) (cSlot 2)) (cBin .mul (cCon (.int (.ofNat 109))) (cIdx (cSlot 0) (cCon (.int (.ofNat 2))))))) (cCon (.int (.ofNat 2305843009213693921)))) (cCon (.int (.ofNat 5999993)))) (cSlot 2)))
    (sSeq (sRet (cBin .mod (cB1 .int (cBin .fdiv (cSlot 3) (cCon (.int (.ofNat 65537))))) (cSlot 1)))
    sPass)))))
/- 39 _law_one ['jar', 'items'] -/
def g39 : SS := (sSeq (sRet (cIdx (cSlot 1) (cCallR 38 (lOne (cSlot 0) (lOne (cB1 .len (cSlot 1)) lNil)))))
    sPass)
/- 40 _law_met ['call', 'error'] -/
def g40 : SS := (sSeq (sTry (subF subTab) (sSeq (sRet (cTup (lOne (cCon (.str ⟨#[116, 111, 108, 100]⟩)) (lOne cClo lNil))))
    sPass) [(1, (cTup (lOne (cCon (.str ⟨#[115, 121, 115, 116, 101, 109]⟩)) lNil))), (3, (cTup (lOne (cCon (.str ⟨#[112, 111, 105, 110, 116]⟩)) lNil))), (4, (cTup (lOne (cCon (.str ⟨#[108, 111, 116]⟩)) lNil))), (5, (cTup (lOne (cCon (.str ⟨#[114, 111, 119]⟩)) lNil))), (2, (cTup (lOne (cCon (.str ⟨#[116, 97, 98, 108, 101]⟩)) lNil))), (6, (cTup (lOne (cCon (.str ⟨#[114, 101, 112, 111, 114, 116]⟩)) lNil))), (7, (cTup (lOne (cCon (.str ⟨#[111, 112, 101, 114, 97, 116, 105, 111, 110]⟩)) lNil))), (8, (cTup (lOne (cCon (.str ⟨#[110, 117, 109, 98, 101, 114]⟩)) (lOne (cB1 .repr cFld) lNil)))), (9, (cTup (lOne (cCon (.str ⟨#[109, 97, 110, 121]⟩)) (lOne cFld lNil)))), (10, (cTup (lOne (cCon (.str ⟨#[114, 101, 102, 117, 115, 101, 100]⟩)) (lOne cFld lNil))))])
    sPass)
/- 41 _law_no_system ['jar', 'some'] -/
def g41 : SS := (sSeq (sAsg (gNm 1) (cNew false (lOne (cCon .none) (lOne (cTup lNil) (lOne (cCon (.int (.ofNat 0))) (lOne (cTup (lOne (cCon (.int (.ofNat 0))) (lOne (cTup lNil) lNil))) (lOne (cTup (lOne (cCon (.int (.ofNat 14))) (lOne (cTup lNil) lNil))) (lOne (cTup (lOne (cCon (.bool true)) (lOne (cTup lNil) lNil))) (lOne (cTup (lOne (cCon (.str ⟨#[51]⟩)) (lOne (cTup lNil) lNil))) (lOne (cNew false (lOne (cCon (.int (.ofNat 3))) (lOne (cTup lNil) lNil))) (lOne (cTup (lOne (cCon (.int (.ofNat 3))) (lOne (cNew false (lOne (cTup (lOne (cCon (.int (.ofNat 0))) (lOne (cCon (.int (.ofNat 1))) lNil))) lNil)) lNil))) (lOne (cTup (lOne (cCon (.int (.ofNat 3))) (lOne (cTup (lOne (cTup (lOne (cCon (.int (.ofNat 1))) (lOne (cCon (.int (.ofNat 0))) lNil))) lNil)) lNil))) (lOne (cTup (lOne (cCon (.int (.ofNat 3))) (lOne (cTup (lOne (cTup (lOne (cCon (.int (.ofNat 0))) (lOne (cCon (.int (.ofNat 0))) lNil))) lNil)) lNil))) (lOne (cTup (lOne (cCon (.int (.ofNat 3))) (lOne (cTup (lOne (cTup (lOne (cCon (.int (.ofNat 0))) (lOne (cCon (.int (.ofNat 3))) lNil))) lNil)) lNil))) (lOne (cTup (lOne (cCon (.int (.ofNat 3))) (lOne (cTup (lOne (cTup lNil) lNil)) lNil))) (lOne (cTup (lOne (cCon (.int (.ofNat 3))) (lOne (cTup (lOne (cTup (lOne (cCon (.int (.ofNat 0))) (lOne (cCon (.int (.ofNat 1))) lNil))) (lOne (cTup (lOne (cCon (.int (.ofNat 0))) (lOne (cCon (.int (.ofNat 1))) lNil))) lNil))) lNil))) lNil))))))))))))))))
    (sSeq (sAsg (gNm 1) (cNew false (lCat (cSlot 1) (cNew false (lOne (cTup (lOne (cCon (.int (.ofNat 3))) (lOne (cTup (lOne (cTup (lOne (cCon (.int (.ofNat 1))) (lOne (cCon (.int (.ofNat 2))) lNil))) (lOne (cTup (lOne (cCon (.int (.ofNat 0))) (lOne (cCon (.int (.ofNat 1))) lNil))) lNil))) lNil))) (lOne (cTup (lOne (cCon (.int (.ofNat 3))) (lOne (cTup (lOne (cTup (lOne (cCon (.int (.ofNat 0))) (lOne (cCon (.bool true)) lNil))) lNil)) lNil))) (lOne (cTup (lOne (cCon (.int (.ofNat 3))) (lOne (cTup (lOne (cTup (lOne (cCon (.int (.ofNat 0))) (lOne (cCon (.str ⟨#[49]⟩)) lNil))) lNil)) lNil))) (lOne (cTup (lOne (cCon (.int (.ofNat 3))) (lOne (cTup (lOne (cNew false (lOne (cCon (.int (.ofNat 0))) (lOne (cCon (.int (.ofNat 1))) lNil))) lNil)) lNil))) (lOne (cTup (lOne (cCon (.int (.ofNat 3))) (lOne (cCon .none) lNil))) (lOne (cTup (lOne (cCon (.int (.ofNat 3))) (lOne (cTup lNil) (lOne (cCon (.int (.ofNat 0))) lNil)))) (lOne (cCon (.dict [])) (lOne (cTup (lOne (cBin .pow (cCon (.int (.ofNat 10))) (cCon (.int (.ofNat 60)))) (lOne (cTup lNil) lNil))) (lOne (cTup (lOne (cCon (.int (.ofNat 3))) (lOne (cTup (lOne (cCon (.int (.ofNat 0))) (lOne (cCon (.int (.ofNat 1))) lNil))) lNil))) (lOne (cTup (lOne (cCon (.int (.ofNat 3))) (lOne (cTup (lOne (cTup (lOne (cCon (.int (.ofNat 0))) (lOne (cNeg (cCon (.int (.ofNat 1)))) lNil))) lNil)) lNil))) lNil))))))))))))))
    (sSeq (sRet (cCallR 39 (lOne (cSlot 0) (lOne (cSlot 1) lNil))))
    sPass)))
/- 42 _law_of_system ['system', 'strength', 'told'] -/
def g42 : SS := (sSeq (sAsg (gNm 2) (cNew true (lOne (cLam 40 (cCmp .is_ (cCall 25 (lOne (cSlot 0) (lOne (cSlot 1) lNil))) (cCon .none))) lNil)))
    (sSeq (sExpr (cApp (cSlot 2) (cLam 40 (cCall 26 (lOne (cSlot 0) (lOne (cSlot 1) (lOne (cCon .none) lNil)))))))
    (sSeq (sExpr (cApp (cSlot 2) (cLam 40 (cCmp .is_ (cCall 27 (lOne (cSlot 0) (lOne (cSlot 1) lNil))) (cCon .none)))))
    (sSeq (sExpr (cApp (cSlot 2) (cLam 40 (cCall 28 (lOne (cSlot 0) (lOne (cSlot 1) (lOne (cCon .none) lNil)))))))
    (sSeq (sRet (cSlot 2))
    sPass)))))
/- 43 _law_of_three ['size', 'wide', 'strength', 'told'] -/
def g43 : SS := (sSeq (sAsg (gNm 3) (cNew true (lOne (cLam 40 (cCmp .is_ (cCall 29 (lOne (cSlot 0) (lOne (cSlot 1) (lOne (cSlot 2) lNil)))) (cCon .none))) lNil)))
    (sSeq (sExpr (cApp (cSlot 3) (cLam 40 (cCmp .is_ (cCall 30 (lOne (cSlot 0) (lOne (cSlot 1) (lOne (cSlot 2) lNil)))) (cCon .none)))))
    (sSeq (sExpr (cApp (cSlot 3) (cLam 40 (cCmp .is_ (cCall 33 (lOne (cSlot 0) (lOne (cSlot 1) (lOne (cSlot 2) lNil)))) (cCon .none)))))
    (sSeq (sExpr (cApp (cSlot 3) (cLam 40 (cCmp .is_ (cCall 34 (lOne (cSlot 0) (lOne (cSlot 1) (lOne (cSlot 2) lNil)))) (cCon .none)))))
    (sSeq (sExpr (cApp (cSlot 3) (cLam 40 (cCmp .is_ (cCall 35 (lOne (cSlot 0) (lOne (cSlot 1) (lOne (cSlot 2) lNil)))) (cCon .none)))))
    (sSeq (sExpr (cApp (cSlot 3) (cLam 40 (cCmp .is_ (cCall 36 (lOne (cSlot 0) (lOne (cSlot 1) (lOne (cSlot 2) lNil)))) (cCon .none)))))
    (sSeq (sRet (cSlot 3))
    sPass)))))))
/- 44 _law_right ['jar', 'strength', 'few', 'number', 'path', 'fine', 'size', 'wide'] -/
def g44 : SS := (sSeq (sAsg (gTup 2 (gsCons (gNm 4) (gsCons (gNm 5) gsNil))) (cTup (lOne (cTup (lOne (cCon (.int (.ofNat 3))) (lOne (cTup (lOne (cTup (lOne (cCon (.int (.ofNat 0))) (lOne (cCon (.int (.ofNat 1))) lNil))) (lOne (cTup (lOne (cCon (.int (.ofNat 1))) (lOne (cCon (.int (.ofNat 2))) lNil))) lNil))) lNil))) (lOne (cTup (lOne (cCon (.str ⟨#[116, 111, 108, 100]⟩)) (lOne (cCon (.bool false)) lNil))) lNil))))
    (sSeq (sAsg (gNm 1) (cCallR 39 (lOne (cSlot 0) (lOne (cNew false (lOne (cCon .none) (lOne (cCon (.int (.ofNat 6))) (lOne (cNeg (cCon (.int (.ofNat 1)))) (lOne (cCon (.bool true)) (lOne (cCon (.str ⟨#[50]⟩)) (lOne (cTup (lOne (cCon (.int (.ofNat 2))) lNil)) (lOne (cBin .pow (cCon (.int (.ofNat 10))) (cCon (.int (.ofNat 60)))) lNil)))))))) lNil))))
    (sSeq (sIf (cOr (cCmp .ne (cCall 42 (lOne (cCallR 41 (lOne (cSlot 0) lNil)) (lOne (cSlot 1) lNil))) (cNew false (lRep (cNew false (lOne (cTup (lOne (cCon (.str ⟨#[115, 121, 115, 116, 101, 109]⟩)) lNil)) lNil)) (cCon (.int (.ofNat 4)))))) (cCmp .ne (cCall 42 (lOne (cSlot 4) (lOne (cSlot 1) lNil))) (cNew false (lRep (cNew false (lOne (cTup (lOne (cCon (.str ⟨#[110, 117, 109, 98, 101, 114]⟩)) (lOne (cB1 .repr (cSlot 1)) lNil))) lNil)) (cCon (.int (.ofNat 4))))))) (sSeq (sRet (cCon (.bool false)))
    sPass) sPass)
    (sSeq (sIf (cCmp .ne (cCall 42 (lOne (cSlot 4) (lOne (cCallR 38 (lOne (cSlot 0) (lOne (cCon (.int (.ofNat 6))) lNil))) lNil))) (cNew false (lRep (cNew false (lOne (cSlot 5) lNil)) (cCon (.int (.ofNat 4)))))) (sSeq (sRet (cCon (.bool false)))
    sPass) sPass)
    (sSeq (sPar (gsCons (gNm 6) (gsCons (gNm 7) gsNil)) (lOne (cCallR 39 (lOne (cSlot 0) (lOne (cNew false (lOne (cCon .none) (lOne (cCon (.int (.ofNat 0))) (lOne (cCon (.int (.ofNat 14))) (lOne (cNeg (cCon (.int (.ofNat 1)))) (lOne (cCon (.bool true)) (lOne (cCon (.str ⟨#[51]⟩)) (lOne (cBin .pow (cCon (.int (.ofNat 10))) (cCon (.int (.ofNat 60)))) lNil)))))))) lNil))) (lOne (cCallR 39 (lOne (cSlot 0) (lOne (cNew false (lOne (cCon .none) (lOne (cCon (.int (.ofNat 0))) (lOne (cCon (.int (.ofNat 5))) (lOne (cNeg (cCon (.int (.ofNat 1)))) (lOne (cCon (.bool true)) (lOne (cCon (.str ⟨#[51]⟩)) (lOne (cTup (lOne (cCon (.int (.ofNat 1))) lNil)) lNil)))))))) lNil))) lNil)))
    (sSeq (sAsg (gNm 2) (cCallR 39 (lOne (cSlot 0) (lOne (cNew false (lOne (cCon .none) (lOne (cCon (.int (.ofNat 0))) (lOne (cCon (.int (.ofNat 4))) (lOne (cNeg (cCon (.int (.ofNat 1)))) (lOne (cCon (.bool true)) (lOne (cCon (.str ⟨#[49]⟩)) lNil))))))) lNil))))
    (sSeq (sIf (cOr (cCmp .ne (cCall 43 (lOne (cSlot 6) (lOne (cSlot 7) (lOne (cSlot 2) lNil)))) (cNew false (lRep (cNew false (lOne (cTup (lOne (cCon (.str ⟨#[110, 117, 109, 98, 101, 114]⟩)) (lOne (cB1 .repr (cSlot 6)) lNil))) lNil)) (cCon (.int (.ofNat 6)))))) (cOr (cCmp .ne (cCall 43 (lOne (cCon (.int (.ofNat 4))) (lOne (cSlot 7) (lOne (cSlot 2) lNil)))) (cNew false (lRep (cNew false (lOne (cTup (lOne (cCon (.str ⟨#[110, 117, 109, 98, 101, 114]⟩)) (lOne (cB1 .repr (cSlot 7)) lNil))) lNil)) (cCon (.int (.ofNat 6)))))) (cCmp .ne (cCall 43 (lOne (cCon (.int (.ofNat 4))) (lOne (cCon (.int (.ofNat 3))) (lOne (cSlot 2) lNil)))) (cNew false (lRep (cNew false (lOne (cTup (lOne (cCon (.str ⟨#[110, 117, 109, 98, 101, 114]⟩)) (lOne (cB1 .repr (cSlot 2)) lNil))) lNil)) (cCon (.int (.ofNat 6)))))))) (sSeq (sRet (cCon (.bool false)))
    sPass) sPass)
    (sSeq (sIf (cOr (cCmp .ne (cCall 43 (lOne (cCon (.int (.ofNat 4))) (lOne (cCon (.int (.ofNat 3))) (lOne (cCallR 39 (lOne (cSlot 0) (lOne (cNew false (lOne (cCon (.int (.ofNat 1))) (lOne (cCon (.int (.ofNat 2))) (lOne (cCon (.int (.ofNat 3))) lNil)))) lNil))) lNil)))) (cNew false (lRep (cNew false (lOne (cSlot 5) lNil)) (cCon (.int (.ofNat 6)))))) (cCmp .ne (cCall 43 (lOne (cCallR 39 (lOne (cSlot 0) (lOne (cNew false (lOne (cCon (.int (.ofNat 7))) (lOne (cCon (.int (.ofNat 13))) lNil))) lNil))) (lOne (cCon (.int (.ofNat 3))) (lOne (cCon (.int (.ofNat 2))) lNil)))) (cNew false (lCat (cNew false (lRep (cNew false (lOne (cSlot 5) lNil)) (cCon (.int (.ofNat 2))))) (cNew false (lRep (cNew false (lOne (cTup (lOne (cCon (.str ⟨#[109, 97, 110, 121]⟩)) (lOne (cCon (.int (.ofNat 6))) lNil))) lNil)) (cCon (.int (.ofNat 4))))))))) (sSeq (sRet (cCon (.bool false)))
    sPass) sPass)
    (sSeq (sAsg (gNm 3) (cCallR 39 (lOne (cSlot 0) (lOne (cNew false (lOne (cCon .none) (lOne (cCon (.int (.ofNat 2))) (lOne (cCon (.int (.ofNat 0))) (lOne (cCon (.int (.ofNat 1000))) (lOne (cNeg (cCon (.int (.ofNat 3)))) (lOne (cCon (.bool true)) (lOne (cCon (.str ⟨#[57]⟩)) (lOne (cBin .pow (cCon (.int (.ofNat 10))) (cCon (.int (.ofNat 60)))) lNil))))))))) lNil))))
    (sSeq (sRet (cCmp .eq (cNew false (lOne (cLam 40 (cCall 31 (lOne (cSlot 3) lNil))) (lOne (cLam 40 (cCall 32 (lOne (cSlot 3) lNil))) lNil))) (cNew false (lRep (cNew false (lOne (cTup (lOne (cCon (.str ⟨#[110, 117, 109, 98, 101, 114]⟩)) (lOne (cB1 .repr (cSlot 3)) lNil))) lNil)) (cCon (.int (.ofNat 2)))))))
    sPass))))))))))
/- 45 law ['script', 'spot', 'four', 'odd', 'found', 'jar', 'turn', 'value'] -/
def g45 : SS := (sSeq (sFor (gNm 1) (iRng1 (cB2 .max (cCon (.int (.ofNat 1))) (cB2 .min (cCon (.int (.ofNat 2))) (cB1 .len (cSlot 0))))) (sSeq (sAsg (gNm 5) (cCallR 37 (lOne (cSlot 0) (lOne (cSlot 1) lNil))))
    (sSeq (sFor (gNm 6) (iRng1 (cCon (.int (.ofNat 8)))) (sSeq (sIf (cNot (cCallR 44 (lOne (cSlot 5) lNil))) (sSeq (sRet (cCon (.bool false)))
    sPass) sPass)
    sPass))
    sPass)))
    (sSeq (sAsg (gNm 2) (cTup (lOne (cCon (.int (.ofNat 4))) (lOne (cTup (lOne (cTup (lOne (cCon (.int (.ofNat 0))) (lOne (cCon (.int (.ofNat 1))) lNil))) (lOne (cTup (lOne (cCon (.int (.ofNat 0))) (lOne (cCon (.int (.ofNat 2))) lNil))) (lOne (cTup (lOne (cCon (.int (.ofNat 0))) (lOne (cCon (.int (.ofNat 3))) lNil))) (lOne (cTup (lOne (cCon (.int (.ofNat 1))) (lOne (cCon (.int (.ofNat 2))) lNil))) (lOne (cTup (lOne (cCon (.int (.ofNat 1))) (lOne (cCon (.int (.ofNat 3))) lNil))) (lOne (cTup (lOne (cCon (.int (.ofNat 2))) (lOne (cCon (.int (.ofNat 3))) lNil))) lNil))))))) lNil))))
    (sSeq (sAsg (gNm 3) (cNew false (lOne (cCon .none) (lOne (cCon (.int (.ofNat 0))) (lOne (cTup lNil) (lOne (cNew false lNil) (lOne (cCon (.dict [])) (lOne (cCon (.str ⟨#[112, 97, 99, 107, 101, 100]⟩)) (lOne (cNew false (lOne (cCon (.str ⟨#[112, 97, 99, 107, 101, 100]⟩)) lNil)) (lOne (cTup (lOne (cCon (.str ⟨#[112, 97, 99, 107, 101, 100]⟩)) (lOne (cCon (.int (.ofNat 0))) lNil))) (lOne (cTup (lOne (cCon (.str ⟨#[115, 105, 122, 101, 115]⟩)) (lOne (cCon (.int (.ofNat 0))) (lOne (cCon (.int (.ofNat 1))) lNil)))) (lOne (cTup (lOne (cCon (.str ⟨#[115, 104, 111, 114, 116]⟩)) (lOne (cCon (.int (.ofNat 0))) lNil))) (lOne (cTup (lOne (cCon (.str ⟨#[98, 108, 111, 99, 107, 115]⟩)) (lOne (cCon (.int (.ofNat 0))) (lOne (cCon (.int (.ofNat 5))) lNil)))) (lOne (cTup (lOne (cCon (.str ⟨#[98, 97, 114, 101]⟩)) (lOne (cTup (lOne (cCon (.int (.ofNat 0))) (lOne (cCon (.int (.ofNat 1))) lNil))) lNil))) (lOne (cTup (lOne (cCon .none) lNil)) (lOne (cTup (lOne (cCon (.str ⟨#[98, 108, 111, 99, 107, 115]⟩)) (lOne (cCon (.int (.ofNat 0))) lNil))) (lOne (cTup (lOne (cCon (.str ⟨#[67, 111, 118, 101, 114, 115]⟩)) lNil)) lNil)))))))))))))))))
    (sSeq (sAsg (gNm 4) (cNew false (lComp [7] (gNm 7) (iSeq (cSlot 3)) (cYes (cOr (cCmp .isn (cCall 26 (lOne (cSlot 2) (lOne (cCon (.int (.ofNat 2))) (lOne (cSlot 7) lNil)))) (cCon (.bool false))) (cCmp .isn (cCall 28 (lOne (cSlot 2) (lOne (cCon (.int (.ofNat 2))) (lOne (cSlot 7) lNil)))) (cCon (.bool false))))) (cSlot 7))))
    (sSeq (sRet (cAnd (cCmp .eq (cSlot 4) (cNew false lNil)) (cAnd (cCmp .is_ (cCall 26 (lOne (cSlot 2) (lOne (cCon (.int (.ofNat 2))) (lOne (cTup (lOne (cCon (.str ⟨#[112, 97, 99, 107, 101, 100]⟩)) lNil)) lNil)))) (cCon (.bool true))) (cAnd (cCmp .is_ (cCall 28 (lOne (cSlot 2) (lOne (cCon (.int (.ofNat 2))) (lOne (cTup (lOne (cCon (.str ⟨#[99, 111, 118, 101, 114, 115]⟩)) lNil)) lNil)))) (cCon (.bool true))) (cCmp .eq (cCon (.int (.ofNat 6))) (cCon (.int (.ofNat 6))))))))
    sPass)))))
def pg : Pg := ⟨(.nd (.nd (.nd (.nd (.nd (.nd .lf ⟨1, false, 1, g31⟩ .lf) ⟨3, false, 5, g15⟩ .lf) ⟨1, true, 2, g7⟩ (.nd (.nd .lf ⟨2, false, 2, g39⟩ .lf) ⟨3, false, 3, g23⟩ .lf)) ⟨2, false, 6, g3⟩ (.nd (.nd (.nd .lf ⟨3, false, 3, g35⟩ .lf) ⟨4, false, 9, g19⟩ .lf) ⟨3, false, 4, g11⟩ (.nd (.nd .lf ⟨3, false, 4, g43⟩ .lf) ⟨2, false, 3, g27⟩ .lf))) ⟨3, false, 3, g1⟩ (.nd (.nd (.nd (.nd .lf ⟨3, false, 3, g33⟩ .lf) ⟨3, false, 3, g17⟩ .lf) ⟨1, false, 1, g9⟩ (.nd (.nd .lf ⟨1, false, 2, g41⟩ .lf) ⟨2, false, 3, g25⟩ .lf)) ⟨1, false, 6, g5⟩ (.nd (.nd (.nd .lf ⟨2, false, 4, g37⟩ .lf) ⟨3, false, 4, g21⟩ .lf) ⟨3, false, 5, g13⟩ (.nd (.nd .lf ⟨1, false, 8, g45⟩ .lf) ⟨3, false, 3, g29⟩ .lf)))) ⟨1, false, 1, g0⟩ (.nd (.nd (.nd (.nd (.nd .lf ⟨1, false, 1, g32⟩ .lf) ⟨3, false, 3, g16⟩ .lf) ⟨1, false, 1, g8⟩ (.nd (.nd .lf ⟨1, false, 2, g40⟩ .lf) ⟨1, false, 1, g24⟩ .lf)) ⟨2, false, 4, g4⟩ (.nd (.nd (.nd .lf ⟨3, false, 3, g36⟩ .lf) ⟨3, false, 5, g20⟩ .lf) ⟨2, false, 5, g12⟩ (.nd (.nd .lf ⟨1, false, 8, g44⟩ .lf) ⟨3, false, 4, g28⟩ .lf))) ⟨2, false, 4, g2⟩ (.nd (.nd (.nd (.nd .lf ⟨3, false, 3, g34⟩ .lf) ⟨3, false, 11, g18⟩ .lf) ⟨2, false, 4, g10⟩ (.nd (.nd .lf ⟨2, false, 3, g42⟩ .lf) ⟨3, false, 4, g26⟩ .lf)) ⟨2, false, 3, g6⟩ (.nd (.nd (.nd .lf ⟨2, false, 5, g38⟩ .lf) ⟨3, false, 3, g22⟩ .lf) ⟨2, false, 4, g14⟩ (.nd .lf ⟨3, false, 3, g30⟩ .lf))))), 1000000⟩
def ix_is_int : Nat := 0
def ix_is_within : Nat := 1
def ix_choices : Nat := 2
def ix_lots_of : Nat := 3
def ix_is_lot_of : Nat := 4
def ix_is_system_of : Nat := 5
def ix_holds : Nat := 6
def ix_require_system : Nat := 7
def ix_require_size : Nat := 8
def ix_require_strength : Nat := 9
def ix_size_bar : Nat := 10
def ix_do_share : Nat := 11
def ix_packed_bar : Nat := 12
def ix_bare_lot : Nat := 13
def ix_covering_bar : Nat := 14
def ix_is_size_bar : Nat := 15
def ix_most_in : Nat := 16
def ix_fewest_in : Nat := 17
def ix_packed_in : Nat := 18
def ix_covering_with : Nat := 19
def ix_covered_in : Nat := 20
def ix_covering_in : Nat := 21
def ix_require_three : Nat := 22
def ix_require_few : Nat := 23
def ix_require_number : Nat := 24
def ix_packed_paper : Nat := 25
def ix_is_packed_paper : Nat := 26
def ix_covering_paper : Nat := 27
def ix_is_covering_paper : Nat := 28
def ix_most_blocks : Nat := 29
def ix_fewest_blocks : Nat := 30
def ix_most_triples : Nat := 31
def ix_fewest_triples : Nat := 32
def ix_packed_number : Nat := 33
def ix_some_packed : Nat := 34
def ix_covering_number : Nat := 35
def ix_some_covering : Nat := 36
def ix__law_jar : Nat := 37
def ix__law_dip : Nat := 38
def ix__law_one : Nat := 39
def ix__law_met : Nat := 40
def ix__law_no_system : Nat := 41
def ix__law_of_system : Nat := 42
def ix__law_of_three : Nat := 43
def ix__law_right : Nat := 44
def ix_law : Nat := 45
structure Gl1 (mg : Str → Option Value) : Prop where
  abs : mg "abs" = none
  all : mg "all" = none
  any : mg "any" = none
  bool : mg "bool" = none
  enumerate : mg "enumerate" = none
  int : mg "int" = none
  isinstance : mg "isinstance" = none
  len : mg "len" = none
  max : mg "max" = none
  min : mg "min" = none
  range : mg "range" = none
  repr : mg "repr" = none
  sorted : mg "sorted" = none
  str : mg "str" = none
  tuple : mg "tuple" = none
  zip : mg "zip" = none
  MOST_BLOCKS : ∃ t, mg "MOST_BLOCKS" = some (.int 60 t)
  MOST_FORCED : ∃ t, mg "MOST_FORCED" = some (.int 6 t)
  MOST_POINTS : ∃ t, mg "MOST_POINTS" = some (.int 13 t)
  MOST_STRENGTH : ∃ t, mg "MOST_STRENGTH" = some (.int 5 t)
  MOST_TRIPLED : ∃ t, mg "MOST_TRIPLED" = some (.int 999 t)
  BARE : ∃ t, mg "BARE" = some (.str ⟨#[98, 97, 114, 101]⟩ t)
  BLOCKS : ∃ t, mg "BLOCKS" = some (.str ⟨#[98, 108, 111, 99, 107, 115]⟩ t)
  COVERS : ∃ t, mg "COVERS" = some (.str ⟨#[99, 111, 118, 101, 114, 115]⟩ t)
  PACKED : ∃ t, mg "PACKED" = some (.str ⟨#[112, 97, 99, 107, 101, 100]⟩ t)
  SHORT : ∃ t, mg "SHORT" = some (.str ⟨#[115, 104, 111, 114, 116]⟩ t)
  SIZES : ∃ t, mg "SIZES" = some (.str ⟨#[115, 105, 122, 101, 115]⟩ t)
structure Cl (X : Cx) (S : Sc) (C : Cv) : Prop where
  c0 : Cal X S C 0 "is_int"
  c1 : Cal X S C 1 "is_within"
  c2 : Cal X S C 2 "choices"
  c3 : Cal X S C 3 "lots_of"
  c4 : Cal X S C 4 "is_lot_of"
  c5 : Cal X S C 5 "is_system_of"
  c6 : Cal X S C 6 "holds"
  c7 : Cal X S C 7 "require_system"
  c8 : Cal X S C 8 "require_size"
  c9 : Cal X S C 9 "require_strength"
  c10 : Cal X S C 10 "size_bar"
  c11 : Cal X S C 11 "do_share"
  c12 : Cal X S C 12 "packed_bar"
  c13 : Cal X S C 13 "bare_lot"
  c14 : Cal X S C 14 "covering_bar"
  c15 : Cal X S C 15 "is_size_bar"
  c16 : Cal X S C 16 "most_in"
  c17 : Cal X S C 17 "fewest_in"
  c18 : Cal X S C 18 "packed_in"
  c19 : Cal X S C 19 "covering_with"
  c20 : Cal X S C 20 "covered_in"
  c21 : Cal X S C 21 "covering_in"
  c22 : Cal X S C 22 "require_three"
  c23 : Cal X S C 23 "require_few"
  c24 : Cal X S C 24 "require_number"
  c25 : Cal X S C 25 "packed_paper"
  c26 : Cal X S C 26 "is_packed_paper"
  c27 : Cal X S C 27 "covering_paper"
  c28 : Cal X S C 28 "is_covering_paper"
  c29 : Cal X S C 29 "most_blocks"
  c30 : Cal X S C 30 "fewest_blocks"
  c31 : Cal X S C 31 "most_triples"
  c32 : Cal X S C 32 "fewest_triples"
  c33 : Cal X S C 33 "packed_number"
  c34 : Cal X S C 34 "some_packed"
  c35 : Cal X S C 35 "covering_number"
  c36 : Cal X S C 36 "some_covering"
  c37 : Cal X S C 37 "_law_jar"
  c38 : Cal X S C 38 "_law_dip"
  c39 : Cal X S C 39 "_law_one"
  c40 : Cal X S C 40 "_law_met"
  c41 : Cal X S C 41 "_law_no_system"
  c42 : Cal X S C 42 "_law_of_system"
  c43 : Cal X S C 43 "_law_of_three"
  c44 : Cal X S C 44 "_law_right"
  c45 : Cal X S C 45 "law"
structure Xs (P : Program) (K : PySem.W.Frag) (mg : Str → Option Value) (S : Sc) : Prop where
  ex : ∀ t c b, subF subTab t c = some b → PySem.W.exmOne K (.ref (S.cls t)) (.ref (S.cls c)) = some b
  n1 : mg "InvalidSystem" = some (.ref (S.cls 1))
  n2 : mg "InvalidTable" = some (.ref (S.cls 2))
  n3 : mg "InvalidPoint" = some (.ref (S.cls 3))
  n4 : mg "InvalidLot" = some (.ref (S.cls 4))
  n5 : mg "InvalidRow" = some (.ref (S.cls 5))
  n6 : mg "InvalidReport" = some (.ref (S.cls 6))
  n7 : mg "InvalidOperation" = some (.ref (S.cls 7))
  n8 : mg "InvalidNumber" = some (.ref (S.cls 8))
  n9 : mg "TooMany" = some (.ref (S.cls 9))
  n10 : mg "Refused" = some (.ref (S.cls 10))
  t1 : PmkT P K mg (S.cls 1) "InvalidSystem"
  v8 : PmkV P K mg (S.cls 8) "InvalidNumber" "given"
  f8 : S.fld 8 = "given"
  v9 : PmkV P K mg (S.cls 9) "TooMany" "limit"
  f9 : S.fld 9 = "limit"
  xf_given : ∀ c, S.fld c = "given" → XfC K (S.cls c) ∧ PySem.W.findIn K (.ref (S.cls c)) "given" = some none
  xf_limit : ∀ c, S.fld c = "limit" → XfC K (S.cls c) ∧ PySem.W.findIn K (.ref (S.cls c)) "limit" = some none
  xf_reason : ∀ c, S.fld c = "reason" → XfC K (S.cls c) ∧ PySem.W.findIn K (.ref (S.cls c)) "reason" = some none
  sf8 : ∀ t, subF subTab t 8 = some true → S.fld t = "given"
  sf9 : ∀ t, subF subTab t 9 = some true → S.fld t = "limit"
  sf10 : ∀ t, subF subTab t 10 = some true → S.fld t = "reason"
section
variable {P : Program} {w : World} {K : PySem.W.Frag} {mg : Str → Option Value} {base : Heap} {f : Addr} {cdv : Value} {A : Around} {outer : List Env} {s : Shared} {H : Hp} {E : XK} {S : Sc} {C : Cv} {n : Nat}
abbrev N0 : List Str := ["value"]
abbrev sc0 : Scope := defScope (top 16)
abbrev X0 (P : Program) (w : World) (K : PySem.W.Frag) (mg : Str → Option Value) (base : Heap) (f : Addr) (cdv : Value) (A : Around) (outer : List Env) (s : Shared) (H : Hp) (E : XK) : Cx := bX P w K mg base N0 "is_int" sc0 f cdv A outer s H E
theorem p0 (x : Xk S (X0 P w K mg base f cdv A outer s H E) J0 (bW E)) (hr : Room (3 * n + 2) (X0 P w K mg base f cdv A outer s H E).A) (gl : Gl1 mg) (xs : Xs P K mg S) (cal : Cl (X0 P w K mg base f cdv A outer s H E) S C) : SPSs S (X0 P w K mg base f cdv A outer s H E) J0 (bW E) C (defBody (top 16)) g0 :=
  (ss_cons (s_ret (s_and x (s_isi (t := .int) x (by rfl) (gl.isinstance) (by rfl) (gl.int) (by decide +kernel) (by decide) (by decide) (s_nm 0 (by rfl))) (s_one1 (s_not x (s_isi (t := .bool) x (by rfl) (gl.isinstance) (by rfl) (gl.bool) (by decide +kernel) (by decide) (by decide) (s_nm 0 (by rfl)))))))
    ss_nil)
abbrev N1 : List Str := ["value", "low", "high"]
abbrev sc1 : Scope := defScope (top 17)
abbrev X1 (P : Program) (w : World) (K : PySem.W.Frag) (mg : Str → Option Value) (base : Heap) (f : Addr) (cdv : Value) (A : Around) (outer : List Env) (s : Shared) (H : Hp) (E : XK) : Cx := bX P w K mg base N1 "is_within" sc1 f cdv A outer s H E
theorem p1 (x : Xk S (X1 P w K mg base f cdv A outer s H E) J0 (bW E)) (hr : Room (3 * n + 2) (X1 P w K mg base f cdv A outer s H E).A) (gl : Gl1 mg) (xs : Xs P K mg S) (cal : Cl (X1 P w K mg base f cdv A outer s H E) S C) : SPSs S (X1 P w K mg base f cdv A outer s H E) J0 (bW E) C (defBody (top 17)) g1 :=
  (ss_cons (s_ret (s_and x (s_call x cal.c0 (by rfl) (a_one x (s_nm 0 (by rfl)) a_nil)) (s_one1 (s_chain (o := .le) (o' := .le) x (s_nm 1 (by rfl)) (s_nm 0 (by rfl)) (s_nm 2 (by rfl)) (by rfl)))))
    ss_nil)
abbrev N2 : List Str := ["many", "few", "found", "step"]
abbrev sc2 : Scope := defScope (top 18)
abbrev X2 (P : Program) (w : World) (K : PySem.W.Frag) (mg : Str → Option Value) (base : Heap) (f : Addr) (cdv : Value) (A : Around) (outer : List Env) (s : Shared) (H : Hp) (E : XK) : Cx := bX P w K mg base N2 "choices" sc2 f cdv A outer s H E
theorem p2 (x : Xk S (X2 P w K mg base f cdv A outer s H E) J0 (bW E)) (hr : Room (3 * n + 2) (X2 P w K mg base f cdv A outer s H E).A) (gl : Gl1 mg) (xs : Xs P K mg S) (cal : Cl (X2 P w K mg base f cdv A outer s H E) S C) : SPSs S (X2 P w K mg base f cdv A outer s H E) J0 (bW E) C (defBody (top 18)) g2 :=
  (ss_cons (s_ifs x (t_not x (t_chain (o := .le) (o' := .le) x (s_con (by rfl)) (s_nm 1 (by rfl)) (s_nm 0 (by rfl)) (by rfl))) (ss_cons (s_ret (s_con (by rfl)))
    ss_nil) ss_nil)
    (ss_cons (s_asg x (s_con (by rfl)) (g_nm x (j0_set 2) (by rfl) (loc_of (by rfl))))
    (ss_cons (s_for x bX_own (by rfl) (i_rng1 x (by rfl) (gl.range) (s_nm 1 (by rfl))) (g_nm x (j0_set 3) (by rfl) (loc_of (by rfl))) (ss_cons (s_asg x (s_bo .fdiv x (s_bo .mul x (s_nm 2 (by rfl)) (s_bo .sub x (s_nm 0 (by rfl)) (s_nm 3 (by rfl)))) (s_bo .add x (s_nm 3 (by rfl)) (s_con (by rfl)))) (g_nm x (j0_set 2) (by rfl) (loc_of (by rfl))))
    ss_nil))
    (ss_cons (s_ret (s_nm 2 (by rfl)))
    ss_nil))))
abbrev N3 : List Str := ["size", "many", "found", "step", "lot", "point"]
abbrev sc3 : Scope := defScope (top 19)
abbrev X3 (P : Program) (w : World) (K : PySem.W.Frag) (mg : Str → Option Value) (base : Heap) (f : Addr) (cdv : Value) (A : Around) (outer : List Env) (s : Shared) (H : Hp) (E : XK) : Cx := bX P w K mg base N3 "lots_of" sc3 f cdv A outer s H E
theorem p3 (x : Xk S (X3 P w K mg base f cdv A outer s H E) J0 (bW E)) (hr : Room (3 * n + 2) (X3 P w K mg base f cdv A outer s H E).A) (gl : Gl1 mg) (xs : Xs P K mg S) (cal : Cl (X3 P w K mg base f cdv A outer s H E) S C) : SPSs S (X3 P w K mg base f cdv A outer s H E) J0 (bW E) C (defBody (top 19)) g3 :=
  (ss_cons (s_asg x (s_if x (t_cmp (o := .ge) x (s_nm 1 (by rfl)) (s_con (by rfl)) (by rfl)) (s_lst x (a_one x (s_tup x a_nil) a_nil)) (s_lst x a_nil)) (g_nm x (j0_set 2) (by rfl) (loc_of (by rfl))))
    (ss_cons (s_for x bX_own (by rfl) (i_rng1 x (by rfl) (gl.range) (s_nm 1 (by rfl))) (g_nm x (j0_set 3) (by rfl) (loc_of (by rfl))) (ss_cons (s_setLc2 (i := 2) (ownp := [("lot", 4), ("point", 5)]) (vs1 := [5]) x (j0_set 2) (by rfl) (by rfl) (by rfl) (by rfl) (i_seq x (s_nm 2 (by rfl))) (blkOk_by (by rfl)) (by rfl) (by decide) (by decide) (by decide) (fun _ _ _ _ _ => (g_nm (x.blk _ _ _ _ _) (j0_set 4) (by rfl) (loc_of (by rfl)))) (fun _ _ _ _ _ => c_no) (fun _ _ _ _ _ => (i_rng2 (x.blk _ _ _ _ _) (by rfl) (gl.range) (s_if (x.blk _ _ _ _ _) (t_cmp (o := .ne) (x.blk _ _ _ _ _) (s_nm 4 (by rfl)) (s_tup (x.blk _ _ _ _ _) a_nil) (by rfl)) (s_bo .add (x.blk _ _ _ _ _) (s_idx (x.blk _ _ _ _ _) (s_nm 4 (by rfl)) (s_neg (x.blk _ _ _ _ _) (s_con (by rfl))) (fun _ _ => rfl)) (s_con (by rfl))) (s_con (by rfl))) (s_nm 0 (by rfl)))) (fun _ _ _ _ _ => (g_nm (x.blk _ _ _ _ _) (j0_set 5) (by rfl) (loc_of (by rfl)))) (fun _ _ _ _ _ => c_no) (fun _ _ _ _ _ => (s_tup (x.blk _ _ _ _ _) (a_star (x.blk _ _ _ _ _) (s_nm 4 (by rfl)) (a_one (x.blk _ _ _ _ _) (s_nm 5 (by rfl)) a_nil)))))
    ss_nil))
    (ss_cons (s_ret (s_nm 2 (by rfl)))
    ss_nil)))
abbrev N4 : List Str := ["size", "value", "one", "other"]
abbrev sc4 : Scope := defScope (top 20)
abbrev X4 (P : Program) (w : World) (K : PySem.W.Frag) (mg : Str → Option Value) (base : Heap) (f : Addr) (cdv : Value) (A : Around) (outer : List Env) (s : Shared) (H : Hp) (E : XK) : Cx := bX P w K mg base N4 "is_lot_of" sc4 f cdv A outer s H E
theorem p4 (x : Xk S (X4 P w K mg base f cdv A outer s H E) J0 (bW E)) (hr : Room (3 * n + 2) (X4 P w K mg base f cdv A outer s H E).A) (gl : Gl1 mg) (xs : Xs P K mg S) (cal : Cl (X4 P w K mg base f cdv A outer s H E) S C) : SPSs S (X4 P w K mg base f cdv A outer s H E) J0 (bW E) C (defBody (top 20)) g4 :=
  (ss_cons (s_ifs x (t_ofW (w_or x (t_not x (t_val (s_isi (t := .tuple) x (by rfl) (gl.isinstance) (by rfl) (gl.tuple) (by decide +kernel) (by decide) (by decide) (s_nm 1 (by rfl))) fun _ => rfl)) (w_or1 (t_not x (t_val (s_all x (by rfl) (by rfl) (gl.all) (s_lc (ownp := [("one", 2)]) x (by rfl) (i_seq x (s_nm 1 (by rfl))) (blkOk_by (by rfl)) (by rfl) (by decide) (fun _ _ _ _ _ => (g_nm (x.blk _ _ _ _ _) (j0_set 2) (by rfl) (loc_of (by rfl)))) (fun _ _ _ _ _ => c_no) (fun _ _ _ _ _ => (s_call (x.blk _ _ _ _ _) (cal.c1.blk _ _ _ _ _) (by rfl) (a_one (x.blk _ _ _ _ _) (s_nm 2 (by rfl)) (a_one (x.blk _ _ _ _ _) (s_con (by rfl)) (a_one (x.blk _ _ _ _ _) (s_bo .sub (x.blk _ _ _ _ _) (s_nm 0 (by rfl)) (s_con (by rfl))) a_nil))))))) fun _ => rfl))))) (ss_cons (s_ret (s_con (by rfl)))
    ss_nil) ss_nil)
    (ss_cons (s_ret (s_all x (by rfl) (by rfl) (gl.all) (s_lc (ownp := [("one", 2), ("other", 3)]) x (by rfl) (i_zip x (by rfl) (gl.zip) (s_nm 1 (by rfl)) (s_slc x (s_nm 1 (by rfl)) (o_yes x (s_con (by rfl))) o_no)) (blkOk_by (by rfl)) (by rfl) (by decide) (fun _ _ _ _ _ => (g_tup (x.blk _ _ _ _ _) (by rfl) (gs_cons (x.blk _ _ _ _ _) (g_nm (x.blk _ _ _ _ _) (j0_set 2) (by rfl) (loc_of (by rfl))) (gs_cons (x.blk _ _ _ _ _) (g_nm (x.blk _ _ _ _ _) (j0_set 3) (by rfl) (loc_of (by rfl))) gs_nil)))) (fun _ _ _ _ _ => c_no) (fun _ _ _ _ _ => (s_cmp (o := .lt) (x.blk _ _ _ _ _) (s_nm 2 (by rfl)) (s_nm 3 (by rfl)) (by rfl))))))
    ss_nil))
abbrev N5 : List Str := ["value", "size", "blocks", "block", "one", "other"]
abbrev sc5 : Scope := defScope (top 21)
abbrev X5 (P : Program) (w : World) (K : PySem.W.Frag) (mg : Str → Option Value) (base : Heap) (f : Addr) (cdv : Value) (A : Around) (outer : List Env) (s : Shared) (H : Hp) (E : XK) : Cx := bX P w K mg base N5 "is_system_of" sc5 f cdv A outer s H E
theorem p5 (x : Xk S (X5 P w K mg base f cdv A outer s H E) J0 (bW E)) (hr : Room (3 * n + 2) (X5 P w K mg base f cdv A outer s H E).A) (gl : Gl1 mg) (xs : Xs P K mg S) (cal : Cl (X5 P w K mg base f cdv A outer s H E) S C) : SPSs S (X5 P w K mg base f cdv A outer s H E) J0 (bW E) C (defBody (top 21)) g5 :=
  (ss_cons (s_ifs x (t_ofW (w_or x (t_not x (t_val (s_isi (t := .tuple) x (by rfl) (gl.isinstance) (by rfl) (gl.tuple) (by decide +kernel) (by decide) (by decide) (s_nm 0 (by rfl))) fun _ => rfl)) (w_or x (t_cmp (o := .ne) x (s_len x (by rfl) (gl.len) (s_nm 0 (by rfl))) (s_con (by rfl)) (by rfl)) (w_or1 (t_not x (t_val (s_call x cal.c1 (by rfl) (a_one x (s_idx x (s_nm 0 (by rfl)) (s_con (by rfl)) (fun _ _ => rfl)) (a_one x (s_con (by rfl)) (a_one x (s_gint (by rfl) gl.MOST_POINTS) a_nil)))) fun _ => rfl)))))) (ss_cons (s_ret (s_con (by rfl)))
    ss_nil) ss_nil)
    (ss_cons (s_asg x (s_nm 0 (by rfl)) (g_tup x (by rfl) (gs_cons x (g_nm x (j0_set 1) (by rfl) (loc_of (by rfl))) (gs_cons x (g_nm x (j0_set 2) (by rfl) (loc_of (by rfl))) gs_nil))))
    (ss_cons (s_ifs x (t_ofW (w_or x (t_not x (t_val (s_isi (t := .tuple) x (by rfl) (gl.isinstance) (by rfl) (gl.tuple) (by decide +kernel) (by decide) (by decide) (s_nm 2 (by rfl))) fun _ => rfl)) (w_or1 (t_cmp (o := .gt) x (s_len x (by rfl) (gl.len) (s_nm 2 (by rfl))) (s_gint (by rfl) gl.MOST_BLOCKS) (by rfl))))) (ss_cons (s_ret (s_con (by rfl)))
    ss_nil) ss_nil)
    (ss_cons (s_ifs x (t_not x (t_val (s_all x (by rfl) (by rfl) (gl.all) (s_lc (ownp := [("block", 3)]) x (by rfl) (i_seq x (s_nm 2 (by rfl))) (blkOk_by (by rfl)) (by rfl) (by decide) (fun _ _ _ _ _ => (g_nm (x.blk _ _ _ _ _) (j0_set 3) (by rfl) (loc_of (by rfl)))) (fun _ _ _ _ _ => c_no) (fun _ _ _ _ _ => (s_and (x.blk _ _ _ _ _) (s_call (x.blk _ _ _ _ _) (cal.c4.blk _ _ _ _ _) (by rfl) (a_one (x.blk _ _ _ _ _) (s_nm 1 (by rfl)) (a_one (x.blk _ _ _ _ _) (s_nm 3 (by rfl)) a_nil))) (s_one1 (s_cmp (o := .ne) (x.blk _ _ _ _ _) (s_nm 3 (by rfl)) (s_tup (x.blk _ _ _ _ _) a_nil) (by rfl))))))) fun _ => rfl)) (ss_cons (s_ret (s_con (by rfl)))
    ss_nil) ss_nil)
    (ss_cons (s_ret (s_all x (by rfl) (by rfl) (gl.all) (s_lc (ownp := [("one", 4), ("other", 5)]) x (by rfl) (i_zip x (by rfl) (gl.zip) (s_nm 2 (by rfl)) (s_slc x (s_nm 2 (by rfl)) (o_yes x (s_con (by rfl))) o_no)) (blkOk_by (by rfl)) (by rfl) (by decide) (fun _ _ _ _ _ => (g_tup (x.blk _ _ _ _ _) (by rfl) (gs_cons (x.blk _ _ _ _ _) (g_nm (x.blk _ _ _ _ _) (j0_set 4) (by rfl) (loc_of (by rfl))) (gs_cons (x.blk _ _ _ _ _) (g_nm (x.blk _ _ _ _ _) (j0_set 5) (by rfl) (loc_of (by rfl))) gs_nil)))) (fun _ _ _ _ _ => c_no) (fun _ _ _ _ _ => (s_cmp (o := .lt) (x.blk _ _ _ _ _) (s_nm 4 (by rfl)) (s_nm 5 (by rfl)) (by rfl))))))
    ss_nil)))))
abbrev N6 : List Str := ["block", "lot", "point"]
abbrev sc6 : Scope := defScope (top 22)
abbrev X6 (P : Program) (w : World) (K : PySem.W.Frag) (mg : Str → Option Value) (base : Heap) (f : Addr) (cdv : Value) (A : Around) (outer : List Env) (s : Shared) (H : Hp) (E : XK) : Cx := bX P w K mg base N6 "holds" sc6 f cdv A outer s H E
theorem p6 (x : Xk S (X6 P w K mg base f cdv A outer s H E) J0 (bW E)) (hr : Room (3 * n + 2) (X6 P w K mg base f cdv A outer s H E).A) (gl : Gl1 mg) (xs : Xs P K mg S) (cal : Cl (X6 P w K mg base f cdv A outer s H E) S C) : SPSs S (X6 P w K mg base f cdv A outer s H E) J0 (bW E) C (defBody (top 22)) g6 :=
  (ss_cons (s_ret (s_all x (by rfl) (by rfl) (gl.all) (s_lc (ownp := [("point", 2)]) x (by rfl) (i_seq x (s_nm 1 (by rfl))) (blkOk_by (by rfl)) (by rfl) (by decide) (fun _ _ _ _ _ => (g_nm (x.blk _ _ _ _ _) (j0_set 2) (by rfl) (loc_of (by rfl)))) (fun _ _ _ _ _ => c_no) (fun _ _ _ _ _ => (s_cmp (o := .in_) (x.blk _ _ _ _ _) (s_nm 2 (by rfl)) (s_nm 0 (by rfl)) (by rfl))))))
    ss_nil)
abbrev N7 : List Str := ["systems", "system"]
abbrev sc7 : Scope := defScope (top 23)
abbrev X7 (P : Program) (w : World) (K : PySem.W.Frag) (mg : Str → Option Value) (base : Heap) (f : Addr) (cdv : Value) (A : Around) (outer : List Env) (s : Shared) (H : Hp) (E : XK) : Cx := bX P w K mg base N7 "require_system" sc7 f cdv A outer s H E
theorem p7 (x : Xk S (X7 P w K mg base f cdv A outer s H E) J0 (bW E)) (hr : Room (3 * n + 2) (X7 P w K mg base f cdv A outer s H E).A) (gl : Gl1 mg) (xs : Xs P K mg S) (cal : Cl (X7 P w K mg base f cdv A outer s H E) S C) : SPSs S (X7 P w K mg base f cdv A outer s H E) J0 (bW E) C (defBody (top 23)) g7 :=
  (ss_cons (s_ifs x (t_not x (t_val (s_all x (by rfl) (by rfl) (gl.all) (s_lc (ownp := [("system", 1)]) x (by rfl) (i_seq x (s_nm 0 (by rfl))) (blkOk_by (by rfl)) (by rfl) (by decide) (fun _ _ _ _ _ => (g_nm (x.blk _ _ _ _ _) (j0_set 1) (by rfl) (loc_of (by rfl)))) (fun _ _ _ _ _ => c_no) (fun _ _ _ _ _ => (s_call (x.blk _ _ _ _ _) (cal.c5.blk _ _ _ _ _) (by rfl) (a_one (x.blk _ _ _ _ _) (s_nm 1 (by rfl)) a_nil))))) fun _ => rfl)) (ss_cons (s_rT x (by rfl) xs.t1 (by rfl))
    ss_nil) ss_nil)
    ss_nil)
abbrev N8 : List Str := ["size"]
abbrev sc8 : Scope := defScope (top 24)
abbrev X8 (P : Program) (w : World) (K : PySem.W.Frag) (mg : Str → Option Value) (base : Heap) (f : Addr) (cdv : Value) (A : Around) (outer : List Env) (s : Shared) (H : Hp) (E : XK) : Cx := bX P w K mg base N8 "require_size" sc8 f cdv A outer s H E
theorem p8 (x : Xk S (X8 P w K mg base f cdv A outer s H E) J0 (bW E)) (hr : Room (3 * n + 2) (X8 P w K mg base f cdv A outer s H E).A) (gl : Gl1 mg) (xs : Xs P K mg S) (cal : Cl (X8 P w K mg base f cdv A outer s H E) S C) : SPSs S (X8 P w K mg base f cdv A outer s H E) J0 (bW E) C (defBody (top 24)) g8 :=
  (ss_cons (s_ifs x (t_not x (t_val (s_call x cal.c1 (by rfl) (a_one x (s_nm 0 (by rfl)) (a_one x (s_con (by rfl)) (a_one x (s_gint (by rfl) gl.MOST_POINTS) a_nil)))) fun _ => rfl)) (ss_cons (s_rV x (by rfl) xs.v8 xs.f8 hr (by rfl) (s_nm 0 (by rfl)))
    ss_nil) ss_nil)
    ss_nil)
abbrev N9 : List Str := ["strength"]
abbrev sc9 : Scope := defScope (top 25)
abbrev X9 (P : Program) (w : World) (K : PySem.W.Frag) (mg : Str → Option Value) (base : Heap) (f : Addr) (cdv : Value) (A : Around) (outer : List Env) (s : Shared) (H : Hp) (E : XK) : Cx := bX P w K mg base N9 "require_strength" sc9 f cdv A outer s H E
theorem p9 (x : Xk S (X9 P w K mg base f cdv A outer s H E) J0 (bW E)) (hr : Room (3 * n + 2) (X9 P w K mg base f cdv A outer s H E).A) (gl : Gl1 mg) (xs : Xs P K mg S) (cal : Cl (X9 P w K mg base f cdv A outer s H E) S C) : SPSs S (X9 P w K mg base f cdv A outer s H E) J0 (bW E) C (defBody (top 25)) g9 :=
  (ss_cons (s_ifs x (t_not x (t_val (s_call x cal.c1 (by rfl) (a_one x (s_nm 0 (by rfl)) (a_one x (s_con (by rfl)) (a_one x (s_gint (by rfl) gl.MOST_STRENGTH) a_nil)))) fun _ => rfl)) (ss_cons (s_rV x (by rfl) xs.v8 xs.f8 hr (by rfl) (s_nm 0 (by rfl)))
    ss_nil) ss_nil)
    ss_nil)
abbrev N10 : List Str := ["system", "strength", "index", "block"]
abbrev sc10 : Scope := defScope (top 35)
abbrev X10 (P : Program) (w : World) (K : PySem.W.Frag) (mg : Str → Option Value) (base : Heap) (f : Addr) (cdv : Value) (A : Around) (outer : List Env) (s : Shared) (H : Hp) (E : XK) : Cx := bX P w K mg base N10 "size_bar" sc10 f cdv A outer s H E
theorem p10 (x : Xk S (X10 P w K mg base f cdv A outer s H E) J0 (bW E)) (hr : Room (3 * n + 2) (X10 P w K mg base f cdv A outer s H E).A) (gl : Gl1 mg) (xs : Xs P K mg S) (cal : Cl (X10 P w K mg base f cdv A outer s H E) S C) : SPSs S (X10 P w K mg base f cdv A outer s H E) J0 (bW E) C (defBody (top 35)) g10 :=
  (ss_cons (s_for x bX_own (by rfl) (i_enm x (by rfl) (gl.enumerate) (s_idx x (s_nm 0 (by rfl)) (s_con (by rfl)) (fun _ _ => rfl))) (g_tup x (by rfl) (gs_cons x (g_nm x (j0_set 2) (by rfl) (loc_of (by rfl))) (gs_cons x (g_nm x (j0_set 3) (by rfl) (loc_of (by rfl))) gs_nil))) (ss_cons (s_ifs x (t_cmp (o := .ne) x (s_len x (by rfl) (gl.len) (s_nm 3 (by rfl))) (s_len x (by rfl) (gl.len) (s_idx x (s_idx x (s_nm 0 (by rfl)) (s_con (by rfl)) (fun _ _ => rfl)) (s_con (by rfl)) (fun _ _ => rfl))) (by rfl)) (ss_cons (s_ret (s_tup x (a_one x (s_gstr (by rfl) gl.SIZES (by decide +kernel)) (a_one x (s_con (by rfl)) (a_one x (s_nm 2 (by rfl)) a_nil)))))
    ss_nil) ss_nil)
    (ss_cons (s_ifs x (t_cmp (o := .lt) x (s_len x (by rfl) (gl.len) (s_nm 3 (by rfl))) (s_nm 1 (by rfl)) (by rfl)) (ss_cons (s_ret (s_tup x (a_one x (s_gstr (by rfl) gl.SHORT (by decide +kernel)) (a_one x (s_nm 2 (by rfl)) a_nil))))
    ss_nil) ss_nil)
    ss_nil)))
    (ss_cons (s_ret (s_con (by rfl)))
    ss_nil))
abbrev N11 : List Str := ["block", "far", "strength", "point"]
abbrev sc11 : Scope := defScope (top 36)
abbrev X11 (P : Program) (w : World) (K : PySem.W.Frag) (mg : Str → Option Value) (base : Heap) (f : Addr) (cdv : Value) (A : Around) (outer : List Env) (s : Shared) (H : Hp) (E : XK) : Cx := bX P w K mg base N11 "do_share" sc11 f cdv A outer s H E
theorem p11 (x : Xk S (X11 P w K mg base f cdv A outer s H E) J0 (bW E)) (hr : Room (3 * n + 2) (X11 P w K mg base f cdv A outer s H E).A) (gl : Gl1 mg) (xs : Xs P K mg S) (cal : Cl (X11 P w K mg base f cdv A outer s H E) S C) : SPSs S (X11 P w K mg base f cdv A outer s H E) J0 (bW E) C (defBody (top 36)) g11 :=
  (ss_cons (s_ret (s_cmp (o := .ge) x (s_len x (by rfl) (gl.len) (s_lc (ownp := [("point", 3)]) x (by rfl) (i_seq x (s_nm 0 (by rfl))) (blkOk_by (by rfl)) (by rfl) (by decide) (fun _ _ _ _ _ => (g_nm (x.blk _ _ _ _ _) (j0_set 3) (by rfl) (loc_of (by rfl)))) (fun _ _ _ _ _ => (c_yes (x.blk _ _ _ _ _) (t_cmp (o := .in_) (x.blk _ _ _ _ _) (s_nm 3 (by rfl)) (s_nm 1 (by rfl)) (by rfl)))) (fun _ _ _ _ _ => (s_nm 3 (by rfl))))) (s_nm 2 (by rfl)) (by rfl)))
    ss_nil)
abbrev N12 : List Str := ["system", "strength", "found", "one", "far"]
abbrev sc12 : Scope := defScope (top 37)
abbrev X12 (P : Program) (w : World) (K : PySem.W.Frag) (mg : Str → Option Value) (base : Heap) (f : Addr) (cdv : Value) (A : Around) (outer : List Env) (s : Shared) (H : Hp) (E : XK) : Cx := bX P w K mg base N12 "packed_bar" sc12 f cdv A outer s H E
theorem p12 (x : Xk S (X12 P w K mg base f cdv A outer s H E) J0 (bW E)) (hr : Room (3 * n + 2) (X12 P w K mg base f cdv A outer s H E).A) (gl : Gl1 mg) (xs : Xs P K mg S) (cal : Cl (X12 P w K mg base f cdv A outer s H E) S C) : SPSs S (X12 P w K mg base f cdv A outer s H E) J0 (bW E) C (defBody (top 37)) g12 :=
  (ss_cons (s_asg x (s_call x cal.c10 (by rfl) (a_one x (s_nm 0 (by rfl)) (a_one x (s_nm 1 (by rfl)) a_nil))) (g_nm x (j0_set 2) (by rfl) (loc_of (by rfl))))
    (ss_cons (s_ifs x (t_cmp (o := .isn) x (s_nm 2 (by rfl)) (s_con (by rfl)) (by rfl)) (ss_cons (s_ret (s_nm 2 (by rfl)))
    ss_nil) ss_nil)
    (ss_cons (s_for x bX_own (by rfl) (i_seq x (s_call x cal.c3 (by rfl) (a_one x (s_len x (by rfl) (gl.len) (s_idx x (s_nm 0 (by rfl)) (s_con (by rfl)) (fun _ _ => rfl))) (a_one x (s_con (by rfl)) a_nil)))) (g_tup x (by rfl) (gs_cons x (g_nm x (j0_set 3) (by rfl) (loc_of (by rfl))) (gs_cons x (g_nm x (j0_set 4) (by rfl) (loc_of (by rfl))) gs_nil))) (ss_cons (s_ifs x (t_val (s_call x cal.c11 (by rfl) (a_one x (s_idx x (s_idx x (s_nm 0 (by rfl)) (s_con (by rfl)) (fun _ _ => rfl)) (s_nm 3 (by rfl)) (fun _ _ => rfl)) (a_one x (s_idx x (s_idx x (s_nm 0 (by rfl)) (s_con (by rfl)) (fun _ _ => rfl)) (s_nm 4 (by rfl)) (fun _ _ => rfl)) (a_one x (s_nm 1 (by rfl)) a_nil)))) fun _ => rfl) (ss_cons (s_ret (s_tup x (a_one x (s_gstr (by rfl) gl.BLOCKS (by decide +kernel)) (a_one x (s_nm 3 (by rfl)) (a_one x (s_nm 4 (by rfl)) a_nil)))))
    ss_nil) ss_nil)
    ss_nil))
    (ss_cons (s_ret (s_con (by rfl)))
    ss_nil))))
abbrev N13 : List Str := ["blocks", "size", "strength", "lot", "block"]
abbrev sc13 : Scope := defScope (top 38)
abbrev X13 (P : Program) (w : World) (K : PySem.W.Frag) (mg : Str → Option Value) (base : Heap) (f : Addr) (cdv : Value) (A : Around) (outer : List Env) (s : Shared) (H : Hp) (E : XK) : Cx := bX P w K mg base N13 "bare_lot" sc13 f cdv A outer s H E
theorem p13 (x : Xk S (X13 P w K mg base f cdv A outer s H E) J0 (bW E)) (hr : Room (3 * n + 2) (X13 P w K mg base f cdv A outer s H E).A) (gl : Gl1 mg) (xs : Xs P K mg S) (cal : Cl (X13 P w K mg base f cdv A outer s H E) S C) : SPSs S (X13 P w K mg base f cdv A outer s H E) J0 (bW E) C (defBody (top 38)) g13 :=
  (ss_cons (s_for x bX_own (by rfl) (i_seq x (s_call x cal.c3 (by rfl) (a_one x (s_nm 1 (by rfl)) (a_one x (s_nm 2 (by rfl)) a_nil)))) (g_nm x (j0_set 3) (by rfl) (loc_of (by rfl))) (ss_cons (s_ifs x (t_not x (t_val (s_any x (by rfl) (by rfl) (gl.any) (s_lc (ownp := [("block", 4)]) x (by rfl) (i_seq x (s_nm 0 (by rfl))) (blkOk_by (by rfl)) (by rfl) (by decide) (fun _ _ _ _ _ => (g_nm (x.blk _ _ _ _ _) (j0_set 4) (by rfl) (loc_of (by rfl)))) (fun _ _ _ _ _ => c_no) (fun _ _ _ _ _ => (s_call (x.blk _ _ _ _ _) (cal.c6.blk _ _ _ _ _) (by rfl) (a_one (x.blk _ _ _ _ _) (s_nm 4 (by rfl)) (a_one (x.blk _ _ _ _ _) (s_nm 3 (by rfl)) a_nil)))))) fun _ => rfl)) (ss_cons (s_ret (s_nm 3 (by rfl)))
    ss_nil) ss_nil)
    ss_nil))
    (ss_cons (s_ret (s_con (by rfl)))
    ss_nil))
abbrev N14 : List Str := ["system", "strength", "found", "lot"]
abbrev sc14 : Scope := defScope (top 39)
abbrev X14 (P : Program) (w : World) (K : PySem.W.Frag) (mg : Str → Option Value) (base : Heap) (f : Addr) (cdv : Value) (A : Around) (outer : List Env) (s : Shared) (H : Hp) (E : XK) : Cx := bX P w K mg base N14 "covering_bar" sc14 f cdv A outer s H E
theorem p14 (x : Xk S (X14 P w K mg base f cdv A outer s H E) J0 (bW E)) (hr : Room (3 * n + 2) (X14 P w K mg base f cdv A outer s H E).A) (gl : Gl1 mg) (xs : Xs P K mg S) (cal : Cl (X14 P w K mg base f cdv A outer s H E) S C) : SPSs S (X14 P w K mg base f cdv A outer s H E) J0 (bW E) C (defBody (top 39)) g14 :=
  (ss_cons (s_asg x (s_call x cal.c10 (by rfl) (a_one x (s_nm 0 (by rfl)) (a_one x (s_nm 1 (by rfl)) a_nil))) (g_nm x (j0_set 2) (by rfl) (loc_of (by rfl))))
    (ss_cons (s_ifs x (t_cmp (o := .isn) x (s_nm 2 (by rfl)) (s_con (by rfl)) (by rfl)) (ss_cons (s_ret (s_nm 2 (by rfl)))
    ss_nil) ss_nil)
    (ss_cons (s_asg x (s_call x cal.c13 (by rfl) (a_one x (s_idx x (s_nm 0 (by rfl)) (s_con (by rfl)) (fun _ _ => rfl)) (a_one x (s_idx x (s_nm 0 (by rfl)) (s_con (by rfl)) (fun _ _ => rfl)) (a_one x (s_nm 1 (by rfl)) a_nil)))) (g_nm x (j0_set 3) (by rfl) (loc_of (by rfl))))
    (ss_cons (s_ret (s_if x (t_cmp (o := .isn) x (s_nm 3 (by rfl)) (s_con (by rfl)) (by rfl)) (s_tup x (a_one x (s_gstr (by rfl) gl.BARE (by decide +kernel)) (a_one x (s_nm 3 (by rfl)) a_nil))) (s_con (by rfl))))
    ss_nil))))
abbrev N15 : List Str := ["system", "strength", "value", "blocks", "one"]
abbrev sc15 : Scope := defScope (top 40)
abbrev X15 (P : Program) (w : World) (K : PySem.W.Frag) (mg : Str → Option Value) (base : Heap) (f : Addr) (cdv : Value) (A : Around) (outer : List Env) (s : Shared) (H : Hp) (E : XK) : Cx := bX P w K mg base N15 "is_size_bar" sc15 f cdv A outer s H E
theorem p15 (x : Xk S (X15 P w K mg base f cdv A outer s H E) J0 (bW E)) (hr : Room (3 * n + 2) (X15 P w K mg base f cdv A outer s H E).A) (gl : Gl1 mg) (xs : Xs P K mg S) (cal : Cl (X15 P w K mg base f cdv A outer s H E) S C) : SPSs S (X15 P w K mg base f cdv A outer s H E) J0 (bW E) C (defBody (top 40)) g15 :=
  (ss_cons (s_asg x (s_idx x (s_nm 0 (by rfl)) (s_con (by rfl)) (fun _ _ => rfl)) (g_nm x (j0_set 3) (by rfl) (loc_of (by rfl))))
    (ss_cons (s_ifs x (t_not x (t_val (s_all x (by rfl) (by rfl) (gl.all) (s_lc (ownp := [("one", 4)]) x (by rfl) (i_seq x (s_slc x (s_nm 2 (by rfl)) (o_yes x (s_con (by rfl))) o_no)) (blkOk_by (by rfl)) (by rfl) (by decide) (fun _ _ _ _ _ => (g_nm (x.blk _ _ _ _ _) (j0_set 4) (by rfl) (loc_of (by rfl)))) (fun _ _ _ _ _ => c_no) (fun _ _ _ _ _ => (s_call (x.blk _ _ _ _ _) (cal.c1.blk _ _ _ _ _) (by rfl) (a_one (x.blk _ _ _ _ _) (s_nm 4 (by rfl)) (a_one (x.blk _ _ _ _ _) (s_con (by rfl)) (a_one (x.blk _ _ _ _ _) (s_bo .sub (x.blk _ _ _ _ _) (s_len (x.blk _ _ _ _ _) (by rfl) (gl.len) (s_nm 3 (by rfl))) (s_con (by rfl))) a_nil))))))) fun _ => rfl)) (ss_cons (s_ret (s_con (by rfl)))
    ss_nil) ss_nil)
    (ss_cons (s_ifs x (t_cmp (o := .eq) x (s_len x (by rfl) (gl.len) (s_nm 2 (by rfl))) (s_con (by rfl)) (by rfl)) (ss_cons (s_ret (s_and x (s_cmp (o := .eq) x (s_idx x (s_nm 2 (by rfl)) (s_con (by rfl)) (fun _ _ => rfl)) (s_gstr (by rfl) gl.SHORT (by decide +kernel)) (by rfl)) (s_one1 (s_cmp (o := .lt) x (s_len x (by rfl) (gl.len) (s_idx x (s_nm 3 (by rfl)) (s_idx x (s_nm 2 (by rfl)) (s_con (by rfl)) (fun _ _ => rfl)) (fun _ _ => rfl))) (s_nm 1 (by rfl)) (by rfl)))))
    ss_nil) ss_nil)
    (ss_cons (s_ret (s_and x (s_cmp (o := .eq) x (s_len x (by rfl) (gl.len) (s_nm 2 (by rfl))) (s_con (by rfl)) (by rfl)) (s_and x (s_cmp (o := .eq) x (s_idx x (s_nm 2 (by rfl)) (s_con (by rfl)) (fun _ _ => rfl)) (s_gstr (by rfl) gl.SIZES (by decide +kernel)) (by rfl)) (s_one1 (s_cmp (o := .ne) x (s_len x (by rfl) (gl.len) (s_idx x (s_nm 3 (by rfl)) (s_idx x (s_nm 2 (by rfl)) (s_con (by rfl)) (fun _ _ => rfl)) (fun _ _ => rfl))) (s_len x (by rfl) (gl.len) (s_idx x (s_nm 3 (by rfl)) (s_idx x (s_nm 2 (by rfl)) (s_con (by rfl)) (fun _ _ => rfl)) (fun _ _ => rfl))) (by rfl))))))
    ss_nil))))
abbrev N16 : List Str := ["size", "wide", "strength"]
abbrev sc16 : Scope := defScope (top 41)
abbrev X16 (P : Program) (w : World) (K : PySem.W.Frag) (mg : Str → Option Value) (base : Heap) (f : Addr) (cdv : Value) (A : Around) (outer : List Env) (s : Shared) (H : Hp) (E : XK) : Cx := bX P w K mg base N16 "most_in" sc16 f cdv A outer s H E
theorem p16 (x : Xk S (X16 P w K mg base f cdv A outer s H E) J0 (bW E)) (hr : Room (3 * n + 2) (X16 P w K mg base f cdv A outer s H E).A) (gl : Gl1 mg) (xs : Xs P K mg S) (cal : Cl (X16 P w K mg base f cdv A outer s H E) S C) : SPSs S (X16 P w K mg base f cdv A outer s H E) J0 (bW E) C (defBody (top 41)) g16 :=
  (ss_cons (s_ret (s_if x (t_cmp (o := .eq) x (s_nm 2 (by rfl)) (s_con (by rfl)) (by rfl)) (s_con (by rfl)) (s_bo .fdiv x (s_bo .mul x (s_nm 0 (by rfl)) (s_call x cal.c16 (by rfl) (a_one x (s_bo .sub x (s_nm 0 (by rfl)) (s_con (by rfl))) (a_one x (s_bo .sub x (s_nm 1 (by rfl)) (s_con (by rfl))) (a_one x (s_bo .sub x (s_nm 2 (by rfl)) (s_con (by rfl))) a_nil))))) (s_nm 1 (by rfl)))))
    ss_nil)
abbrev N17 : List Str := ["size", "wide", "strength"]
abbrev sc17 : Scope := defScope (top 42)
abbrev X17 (P : Program) (w : World) (K : PySem.W.Frag) (mg : Str → Option Value) (base : Heap) (f : Addr) (cdv : Value) (A : Around) (outer : List Env) (s : Shared) (H : Hp) (E : XK) : Cx := bX P w K mg base N17 "fewest_in" sc17 f cdv A outer s H E
theorem p17 (x : Xk S (X17 P w K mg base f cdv A outer s H E) J0 (bW E)) (hr : Room (3 * n + 2) (X17 P w K mg base f cdv A outer s H E).A) (gl : Gl1 mg) (xs : Xs P K mg S) (cal : Cl (X17 P w K mg base f cdv A outer s H E) S C) : SPSs S (X17 P w K mg base f cdv A outer s H E) J0 (bW E) C (defBody (top 42)) g17 :=
  (ss_cons (s_ret (s_if x (t_cmp (o := .eq) x (s_nm 2 (by rfl)) (s_con (by rfl)) (by rfl)) (s_con (by rfl)) (s_neg x (s_bo .fdiv x (s_bo .mul x (s_neg x (s_nm 0 (by rfl))) (s_call x cal.c17 (by rfl) (a_one x (s_bo .sub x (s_nm 0 (by rfl)) (s_con (by rfl))) (a_one x (s_bo .sub x (s_nm 1 (by rfl)) (s_con (by rfl))) (a_one x (s_bo .sub x (s_nm 2 (by rfl)) (s_con (by rfl))) a_nil))))) (s_nm 1 (by rfl))))))
    ss_nil)
abbrev N18 : List Str := ["size", "wide", "strength", "waits", "every", "best", "goal", "part", "start", "at", "block"]
abbrev sc18 : Scope := defScope (top 43)
abbrev X18 (P : Program) (w : World) (K : PySem.W.Frag) (mg : Str → Option Value) (base : Heap) (f : Addr) (cdv : Value) (A : Around) (outer : List Env) (s : Shared) (H : Hp) (E : XK) : Cx := bX P w K mg base N18 "packed_in" sc18 f cdv A outer s H E
theorem p18 (x : Xk S (X18 P w K mg base f cdv A outer s H E) J0 (bW E)) (hr : Room (3 * n + 2) (X18 P w K mg base f cdv A outer s H E).A) (gl : Gl1 mg) (xs : Xs P K mg S) (cal : Cl (X18 P w K mg base f cdv A outer s H E) S C) : SPSs S (X18 P w K mg base f cdv A outer s H E) J0 (bW E) C (defBody (top 43)) g18 :=
  (ss_cons (s_asg x (s_tup x (a_one x (s_call x cal.c3 (by rfl) (a_one x (s_nm 0 (by rfl)) (a_one x (s_nm 1 (by rfl)) a_nil))) (a_one x (s_tup x a_nil) (a_one x (s_call x cal.c16 (by rfl) (a_one x (s_nm 0 (by rfl)) (a_one x (s_nm 1 (by rfl)) (a_one x (s_nm 2 (by rfl)) a_nil)))) a_nil)))) (g_tup x (by rfl) (gs_cons x (g_nm x (j0_set 4) (by rfl) (loc_of (by rfl))) (gs_cons x (g_nm x (j0_set 5) (by rfl) (loc_of (by rfl))) (gs_cons x (g_nm x (j0_set 6) (by rfl) (loc_of (by rfl))) gs_nil)))))
    (ss_cons (s_asg x (s_lst x (a_one x (s_tup x (a_one x (s_tup x a_nil) (a_one x (s_con (by rfl)) a_nil))) a_nil)) (g_nm x (j0_set 3) (by rfl) (loc_of (by rfl))))
    (ss_cons (s_while x bX_own (t_cmp (o := .ne) x (s_nm 3 (by rfl)) (s_lst x a_nil) (by rfl)) (ss_cons (s_asg x (s_pop x (s_nm 3 (by rfl))) (g_tup x (by rfl) (gs_cons x (g_nm x (j0_set 7) (by rfl) (loc_of (by rfl))) (gs_cons x (g_nm x (j0_set 8) (by rfl) (loc_of (by rfl))) gs_nil))))
    (ss_cons (s_ifs x (t_cmp (o := .gt) x (s_len x (by rfl) (gl.len) (s_nm 7 (by rfl))) (s_len x (by rfl) (gl.len) (s_nm 5 (by rfl))) (by rfl)) (ss_cons (s_asg x (s_nm 7 (by rfl)) (g_nm x (j0_set 5) (by rfl) (loc_of (by rfl))))
    ss_nil) ss_nil)
    (ss_cons (s_ifs x (t_cmp (o := .eq) x (s_len x (by rfl) (gl.len) (s_nm 5 (by rfl))) (s_nm 6 (by rfl)) (by rfl)) (ss_cons (s_ret (s_nm 5 (by rfl)))
    ss_nil) ss_nil)
    (ss_cons (s_ifs x (t_cmp (o := .gt) x (s_bo .sub x (s_bo .add x (s_len x (by rfl) (gl.len) (s_nm 7 (by rfl))) (s_len x (by rfl) (gl.len) (s_nm 4 (by rfl)))) (s_nm 8 (by rfl))) (s_len x (by rfl) (gl.len) (s_nm 5 (by rfl))) (by rfl)) (ss_cons (s_for x bX_own (by rfl) (i_rng3 x (by rfl) (gl.range) (s_bo .sub x (s_len x (by rfl) (gl.len) (s_nm 4 (by rfl))) (s_con (by rfl))) (s_bo .sub x (s_nm 8 (by rfl)) (s_con (by rfl))) (s_mone x)) (g_nm x (j0_set 9) (by rfl) (loc_of (by rfl))) (ss_cons (s_ifs x (t_not x (t_val (s_any x (by rfl) (by rfl) (gl.any) (s_lc (ownp := [("block", 10)]) x (by rfl) (i_seq x (s_nm 7 (by rfl))) (blkOk_by (by rfl)) (by rfl) (by decide) (fun _ _ _ _ _ => (g_nm (x.blk _ _ _ _ _) (j0_set 10) (by rfl) (loc_of (by rfl)))) (fun _ _ _ _ _ => c_no) (fun _ _ _ _ _ => (s_call (x.blk _ _ _ _ _) (cal.c11.blk _ _ _ _ _) (by rfl) (a_one (x.blk _ _ _ _ _) (s_nm 10 (by rfl)) (a_one (x.blk _ _ _ _ _) (s_idx (x.blk _ _ _ _ _) (s_nm 4 (by rfl)) (s_nm 9 (by rfl)) (fun _ _ => rfl)) (a_one (x.blk _ _ _ _ _) (s_nm 2 (by rfl)) a_nil))))))) fun _ => rfl)) (ss_cons (s_expr x (s_app x (s_nm 3 (by rfl)) (s_tup x (a_one x (s_tup x (a_star x (s_nm 7 (by rfl)) (a_one x (s_idx x (s_nm 4 (by rfl)) (s_nm 9 (by rfl)) (fun _ _ => rfl)) a_nil))) (a_one x (s_bo .add x (s_nm 9 (by rfl)) (s_con (by rfl))) a_nil)))))
    ss_nil) ss_nil)
    ss_nil))
    ss_nil) ss_nil)
    ss_nil)))))
    (ss_cons (s_ret (s_nm 5 (by rfl)))
    ss_nil))))
abbrev N19 : List Str := ["size", "wide", "strength", "many", "waits", "part", "lot", "left", "block"]
abbrev sc19 : Scope := defScope (top 44)
abbrev X19 (P : Program) (w : World) (K : PySem.W.Frag) (mg : Str → Option Value) (base : Heap) (f : Addr) (cdv : Value) (A : Around) (outer : List Env) (s : Shared) (H : Hp) (E : XK) : Cx := bX P w K mg base N19 "covering_with" sc19 f cdv A outer s H E
theorem p19 (x : Xk S (X19 P w K mg base f cdv A outer s H E) J0 (bW E)) (hr : Room (3 * n + 2) (X19 P w K mg base f cdv A outer s H E).A) (gl : Gl1 mg) (xs : Xs P K mg S) (cal : Cl (X19 P w K mg base f cdv A outer s H E) S C) : SPSs S (X19 P w K mg base f cdv A outer s H E) J0 (bW E) C (defBody (top 44)) g19 :=
  (ss_cons (s_asg x (s_lst x (a_one x (s_tup x a_nil) a_nil)) (g_nm x (j0_set 4) (by rfl) (loc_of (by rfl))))
    (ss_cons (s_while x bX_own (t_cmp (o := .ne) x (s_nm 4 (by rfl)) (s_lst x a_nil) (by rfl)) (ss_cons (s_asg x (s_pop x (s_nm 4 (by rfl))) (g_nm x (j0_set 5) (by rfl) (loc_of (by rfl))))
    (ss_cons (s_asg x (s_call x cal.c13 (by rfl) (a_one x (s_nm 5 (by rfl)) (a_one x (s_nm 0 (by rfl)) (a_one x (s_nm 2 (by rfl)) a_nil)))) (g_nm x (j0_set 6) (by rfl) (loc_of (by rfl))))
    (ss_cons (s_ifs x (t_cmp (o := .is_) x (s_nm 6 (by rfl)) (s_con (by rfl)) (by rfl)) (ss_cons (s_ret (s_tupOf x (by rfl) (gl.tuple) (s_srt x (by rfl) (by rfl) (gl.sorted) (s_nm 5 (by rfl)))))
    ss_nil) ss_nil)
    (ss_cons (s_asg x (s_bo .sub x (s_call x cal.c2 (by rfl) (a_one x (s_nm 0 (by rfl)) (a_one x (s_nm 2 (by rfl)) a_nil))) (s_call x cal.c20 (by rfl) (a_one x (s_nm 5 (by rfl)) (a_one x (s_nm 0 (by rfl)) (a_one x (s_nm 2 (by rfl)) a_nil))))) (g_nm x (j0_set 7) (by rfl) (loc_of (by rfl))))
    (ss_cons (s_ifs x (t_cmp (o := .le) x (s_nm 7 (by rfl)) (s_bo .mul x (s_bo .sub x (s_nm 3 (by rfl)) (s_len x (by rfl) (gl.len) (s_nm 5 (by rfl)))) (s_call x cal.c2 (by rfl) (a_one x (s_nm 1 (by rfl)) (a_one x (s_nm 2 (by rfl)) a_nil)))) (by rfl)) (ss_cons (s_expr x (s_ext x (s_nm 4 (by rfl)) (s_lc (ownp := [("block", 8)]) x (by rfl) (i_seq x (s_call x cal.c3 (by rfl) (a_one x (s_nm 0 (by rfl)) (a_one x (s_nm 1 (by rfl)) a_nil)))) (blkOk_by (by rfl)) (by rfl) (by decide) (fun _ _ _ _ _ => (g_nm (x.blk _ _ _ _ _) (j0_set 8) (by rfl) (loc_of (by rfl)))) (fun _ _ _ _ _ => (c_yes (x.blk _ _ _ _ _) (t_val (s_call (x.blk _ _ _ _ _) (cal.c6.blk _ _ _ _ _) (by rfl) (a_one (x.blk _ _ _ _ _) (s_nm 8 (by rfl)) (a_one (x.blk _ _ _ _ _) (s_nm 6 (by rfl)) a_nil))) fun _ => rfl))) (fun _ _ _ _ _ => (s_tup (x.blk _ _ _ _ _) (a_star (x.blk _ _ _ _ _) (s_nm 5 (by rfl)) (a_one (x.blk _ _ _ _ _) (s_nm 8 (by rfl)) a_nil)))))))
    ss_nil) ss_nil)
    ss_nil))))))
    (ss_cons (s_ret (s_con (by rfl)))
    ss_nil)))
abbrev N20 : List Str := ["blocks", "size", "strength", "lot", "block"]
abbrev sc20 : Scope := defScope (top 45)
abbrev X20 (P : Program) (w : World) (K : PySem.W.Frag) (mg : Str → Option Value) (base : Heap) (f : Addr) (cdv : Value) (A : Around) (outer : List Env) (s : Shared) (H : Hp) (E : XK) : Cx := bX P w K mg base N20 "covered_in" sc20 f cdv A outer s H E
theorem p20 (x : Xk S (X20 P w K mg base f cdv A outer s H E) J0 (bW E)) (hr : Room (3 * n + 2) (X20 P w K mg base f cdv A outer s H E).A) (gl : Gl1 mg) (xs : Xs P K mg S) (cal : Cl (X20 P w K mg base f cdv A outer s H E) S C) : SPSs S (X20 P w K mg base f cdv A outer s H E) J0 (bW E) C (defBody (top 45)) g20 :=
  (ss_cons (s_ret (s_len x (by rfl) (gl.len) (s_lc (ownp := [("lot", 3)]) x (by rfl) (i_seq x (s_call x cal.c3 (by rfl) (a_one x (s_nm 1 (by rfl)) (a_one x (s_nm 2 (by rfl)) a_nil)))) (blkOk_by (by rfl)) (by rfl) (by decide) (fun _ _ _ _ _ => (g_nm (x.blk _ _ _ _ _) (j0_set 3) (by rfl) (loc_of (by rfl)))) (fun _ _ _ _ _ => (c_yes (x.blk _ _ _ _ _) (t_val (s_any (x.blk _ _ _ _ _) (by rfl) (by rfl) (gl.any) (s_lc (ownp := [("block", 4)]) (x.blk _ _ _ _ _) (by rfl) (i_seq (x.blk _ _ _ _ _) (s_nm 0 (by rfl))) (blkOk_by (by rfl)) (by rfl) (by decide) (fun _ _ _ _ _ => (g_nm ((x.blk _ _ _ _ _).blk _ _ _ _ _) (j0_set 4) (by rfl) (loc_of (by rfl)))) (fun _ _ _ _ _ => c_no) (fun _ _ _ _ _ => (s_call ((x.blk _ _ _ _ _).blk _ _ _ _ _) ((cal.c6.blk _ _ _ _ _).blk _ _ _ _ _) (by rfl) (a_one ((x.blk _ _ _ _ _).blk _ _ _ _ _) (s_nm 4 (by rfl)) (a_one ((x.blk _ _ _ _ _).blk _ _ _ _ _) (s_nm 3 (by rfl)) a_nil)))))) fun _ => rfl))) (fun _ _ _ _ _ => (s_nm 3 (by rfl))))))
    ss_nil)
abbrev N21 : List Str := ["size", "wide", "strength", "many"]
abbrev sc21 : Scope := defScope (top 46)
abbrev X21 (P : Program) (w : World) (K : PySem.W.Frag) (mg : Str → Option Value) (base : Heap) (f : Addr) (cdv : Value) (A : Around) (outer : List Env) (s : Shared) (H : Hp) (E : XK) : Cx := bX P w K mg base N21 "covering_in" sc21 f cdv A outer s H E
theorem p21 (x : Xk S (X21 P w K mg base f cdv A outer s H E) J0 (bW E)) (hr : Room (3 * n + 2) (X21 P w K mg base f cdv A outer s H E).A) (gl : Gl1 mg) (xs : Xs P K mg S) (cal : Cl (X21 P w K mg base f cdv A outer s H E) S C) : SPSs S (X21 P w K mg base f cdv A outer s H E) J0 (bW E) C (defBody (top 46)) g21 :=
  (ss_cons (s_asg x (s_call x cal.c17 (by rfl) (a_one x (s_nm 0 (by rfl)) (a_one x (s_nm 1 (by rfl)) (a_one x (s_nm 2 (by rfl)) a_nil)))) (g_nm x (j0_set 3) (by rfl) (loc_of (by rfl))))
    (ss_cons (s_while x bX_own (t_cmp (o := .is_) x (s_call x cal.c19 (by rfl) (a_one x (s_nm 0 (by rfl)) (a_one x (s_nm 1 (by rfl)) (a_one x (s_nm 2 (by rfl)) (a_one x (s_nm 3 (by rfl)) a_nil))))) (s_con (by rfl)) (by rfl)) (ss_cons (s_aug x (j0_set 3) (by rfl) (loc_of (by rfl)) (s_con (by rfl)) ip_add (fun _ _ => rfl))
    ss_nil))
    (ss_cons (s_ret (s_call x cal.c19 (by rfl) (a_one x (s_nm 0 (by rfl)) (a_one x (s_nm 1 (by rfl)) (a_one x (s_nm 2 (by rfl)) (a_one x (s_nm 3 (by rfl)) a_nil))))))
    ss_nil)))
abbrev N22 : List Str := ["size", "wide", "strength"]
abbrev sc22 : Scope := defScope (top 47)
abbrev X22 (P : Program) (w : World) (K : PySem.W.Frag) (mg : Str → Option Value) (base : Heap) (f : Addr) (cdv : Value) (A : Around) (outer : List Env) (s : Shared) (H : Hp) (E : XK) : Cx := bX P w K mg base N22 "require_three" sc22 f cdv A outer s H E
theorem p22 (x : Xk S (X22 P w K mg base f cdv A outer s H E) J0 (bW E)) (hr : Room (3 * n + 2) (X22 P w K mg base f cdv A outer s H E).A) (gl : Gl1 mg) (xs : Xs P K mg S) (cal : Cl (X22 P w K mg base f cdv A outer s H E) S C) : SPSs S (X22 P w K mg base f cdv A outer s H E) J0 (bW E) C (defBody (top 47)) g22 :=
  (ss_cons (s_expr x (s_call x cal.c8 (by rfl) (a_one x (s_nm 0 (by rfl)) a_nil)))
    (ss_cons (s_ifs x (t_not x (t_val (s_call x cal.c1 (by rfl) (a_one x (s_nm 1 (by rfl)) (a_one x (s_con (by rfl)) (a_one x (s_nm 0 (by rfl)) a_nil)))) fun _ => rfl)) (ss_cons (s_rV x (by rfl) xs.v8 xs.f8 hr (by rfl) (s_nm 1 (by rfl)))
    ss_nil) ss_nil)
    (ss_cons (s_ifs x (t_not x (t_val (s_call x cal.c1 (by rfl) (a_one x (s_nm 2 (by rfl)) (a_one x (s_con (by rfl)) (a_one x (s_nm 1 (by rfl)) a_nil)))) fun _ => rfl)) (ss_cons (s_rV x (by rfl) xs.v8 xs.f8 hr (by rfl) (s_nm 2 (by rfl)))
    ss_nil) ss_nil)
    ss_nil)))
abbrev N23 : List Str := ["size", "wide", "strength"]
abbrev sc23 : Scope := defScope (top 48)
abbrev X23 (P : Program) (w : World) (K : PySem.W.Frag) (mg : Str → Option Value) (base : Heap) (f : Addr) (cdv : Value) (A : Around) (outer : List Env) (s : Shared) (H : Hp) (E : XK) : Cx := bX P w K mg base N23 "require_few" sc23 f cdv A outer s H E
theorem p23 (x : Xk S (X23 P w K mg base f cdv A outer s H E) J0 (bW E)) (hr : Room (3 * n + 2) (X23 P w K mg base f cdv A outer s H E).A) (gl : Gl1 mg) (xs : Xs P K mg S) (cal : Cl (X23 P w K mg base f cdv A outer s H E) S C) : SPSs S (X23 P w K mg base f cdv A outer s H E) J0 (bW E) C (defBody (top 48)) g23 :=
  (ss_cons (s_expr x (s_call x cal.c22 (by rfl) (a_one x (s_nm 0 (by rfl)) (a_one x (s_nm 1 (by rfl)) (a_one x (s_nm 2 (by rfl)) a_nil)))))
    (ss_cons (s_ifs x (t_cmp (o := .gt) x (s_nm 0 (by rfl)) (s_gint (by rfl) gl.MOST_FORCED) (by rfl)) (ss_cons (s_rV x (by rfl) xs.v9 xs.f9 hr (by rfl) (s_gint (by rfl) gl.MOST_FORCED))
    ss_nil) ss_nil)
    ss_nil))
abbrev N24 : List Str := ["number"]
abbrev sc24 : Scope := defScope (top 49)
abbrev X24 (P : Program) (w : World) (K : PySem.W.Frag) (mg : Str → Option Value) (base : Heap) (f : Addr) (cdv : Value) (A : Around) (outer : List Env) (s : Shared) (H : Hp) (E : XK) : Cx := bX P w K mg base N24 "require_number" sc24 f cdv A outer s H E
theorem p24 (x : Xk S (X24 P w K mg base f cdv A outer s H E) J0 (bW E)) (hr : Room (3 * n + 2) (X24 P w K mg base f cdv A outer s H E).A) (gl : Gl1 mg) (xs : Xs P K mg S) (cal : Cl (X24 P w K mg base f cdv A outer s H E) S C) : SPSs S (X24 P w K mg base f cdv A outer s H E) J0 (bW E) C (defBody (top 49)) g24 :=
  (ss_cons (s_ifs x (t_not x (t_val (s_call x cal.c1 (by rfl) (a_one x (s_nm 0 (by rfl)) (a_one x (s_con (by rfl)) (a_one x (s_gint (by rfl) gl.MOST_TRIPLED) a_nil)))) fun _ => rfl)) (ss_cons (s_rV x (by rfl) xs.v8 xs.f8 hr (by rfl) (s_nm 0 (by rfl)))
    ss_nil) ss_nil)
    ss_nil)
abbrev N25 : List Str := ["system", "strength", "found"]
abbrev sc25 : Scope := defScope (top 50)
abbrev X25 (P : Program) (w : World) (K : PySem.W.Frag) (mg : Str → Option Value) (base : Heap) (f : Addr) (cdv : Value) (A : Around) (outer : List Env) (s : Shared) (H : Hp) (E : XK) : Cx := bX P w K mg base N25 "packed_paper" sc25 f cdv A outer s H E
theorem p25 (x : Xk S (X25 P w K mg base f cdv A outer s H E) J0 (bW E)) (hr : Room (3 * n + 2) (X25 P w K mg base f cdv A outer s H E).A) (gl : Gl1 mg) (xs : Xs P K mg S) (cal : Cl (X25 P w K mg base f cdv A outer s H E) S C) : SPSs S (X25 P w K mg base f cdv A outer s H E) J0 (bW E) C (defBody (top 50)) g25 :=
  (ss_cons (s_expr x (s_call x cal.c7 (by rfl) (a_one x (s_nm 0 (by rfl)) a_nil)))
    (ss_cons (s_expr x (s_call x cal.c9 (by rfl) (a_one x (s_nm 1 (by rfl)) a_nil)))
    (ss_cons (s_asg x (s_call x cal.c12 (by rfl) (a_one x (s_nm 0 (by rfl)) (a_one x (s_nm 1 (by rfl)) a_nil))) (g_nm x (j0_set 2) (by rfl) (loc_of (by rfl))))
    (ss_cons (s_ret (s_if x (t_cmp (o := .is_) x (s_nm 2 (by rfl)) (s_con (by rfl)) (by rfl)) (s_tup x (a_one x (s_gstr (by rfl) gl.PACKED (by decide +kernel)) a_nil)) (s_nm 2 (by rfl))))
    ss_nil))))
abbrev N26 : List Str := ["system", "strength", "value", "one"]
abbrev sc26 : Scope := defScope (top 51)
abbrev X26 (P : Program) (w : World) (K : PySem.W.Frag) (mg : Str → Option Value) (base : Heap) (f : Addr) (cdv : Value) (A : Around) (outer : List Env) (s : Shared) (H : Hp) (E : XK) : Cx := bX P w K mg base N26 "is_packed_paper" sc26 f cdv A outer s H E
theorem p26 (x : Xk S (X26 P w K mg base f cdv A outer s H E) J0 (bW E)) (hr : Room (3 * n + 2) (X26 P w K mg base f cdv A outer s H E).A) (gl : Gl1 mg) (xs : Xs P K mg S) (cal : Cl (X26 P w K mg base f cdv A outer s H E) S C) : SPSs S (X26 P w K mg base f cdv A outer s H E) J0 (bW E) C (defBody (top 51)) g26 :=
  (ss_cons (s_expr x (s_call x cal.c7 (by rfl) (a_one x (s_nm 0 (by rfl)) a_nil)))
    (ss_cons (s_expr x (s_call x cal.c9 (by rfl) (a_one x (s_nm 1 (by rfl)) a_nil)))
    (ss_cons (s_ifs x (t_ofW (w_or x (t_not x (t_val (s_isi (t := .tuple) x (by rfl) (gl.isinstance) (by rfl) (gl.tuple) (by decide +kernel) (by decide) (by decide) (s_nm 2 (by rfl))) fun _ => rfl)) (w_or x (t_not x (t_chain (o := .le) (o' := .le) x (s_con (by rfl)) (s_len x (by rfl) (gl.len) (s_nm 2 (by rfl))) (s_con (by rfl)) (by rfl))) (w_or1 (t_not x (t_val (s_isi (t := .str) x (by rfl) (gl.isinstance) (by rfl) (gl.str) (by decide +kernel) (by decide) (by decide) (s_idx x (s_nm 2 (by rfl)) (s_con (by rfl)) (fun _ _ => rfl))) fun _ => rfl)))))) (ss_cons (s_ret (s_con (by rfl)))
    ss_nil) ss_nil)
    (ss_cons (s_ifs x (t_cmp (o := .eq) x (s_len x (by rfl) (gl.len) (s_nm 2 (by rfl))) (s_con (by rfl)) (by rfl)) (ss_cons (s_ret (s_and x (s_cmp (o := .eq) x (s_idx x (s_nm 2 (by rfl)) (s_con (by rfl)) (fun _ _ => rfl)) (s_gstr (by rfl) gl.PACKED (by decide +kernel)) (by rfl)) (s_one1 (s_cmp (o := .is_) x (s_call x cal.c12 (by rfl) (a_one x (s_nm 0 (by rfl)) (a_one x (s_nm 1 (by rfl)) a_nil))) (s_con (by rfl)) (by rfl)))))
    ss_nil) ss_nil)
    (ss_cons (s_ifs x (t_cmp (o := .ne) x (s_idx x (s_nm 2 (by rfl)) (s_con (by rfl)) (fun _ _ => rfl)) (s_gstr (by rfl) gl.BLOCKS (by decide +kernel)) (by rfl)) (ss_cons (s_ret (s_call x cal.c15 (by rfl) (a_one x (s_nm 0 (by rfl)) (a_one x (s_nm 1 (by rfl)) (a_one x (s_nm 2 (by rfl)) a_nil)))))
    ss_nil) ss_nil)
    (ss_cons (s_ifs x (t_ofW (w_or x (t_cmp (o := .ne) x (s_len x (by rfl) (gl.len) (s_nm 2 (by rfl))) (s_con (by rfl)) (by rfl)) (w_or1 (t_not x (t_val (s_all x (by rfl) (by rfl) (gl.all) (s_lc (ownp := [("one", 3)]) x (by rfl) (i_seq x (s_slc x (s_nm 2 (by rfl)) (o_yes x (s_con (by rfl))) o_no)) (blkOk_by (by rfl)) (by rfl) (by decide) (fun _ _ _ _ _ => (g_nm (x.blk _ _ _ _ _) (j0_set 3) (by rfl) (loc_of (by rfl)))) (fun _ _ _ _ _ => c_no) (fun _ _ _ _ _ => (s_call (x.blk _ _ _ _ _) (cal.c1.blk _ _ _ _ _) (by rfl) (a_one (x.blk _ _ _ _ _) (s_nm 3 (by rfl)) (a_one (x.blk _ _ _ _ _) (s_con (by rfl)) (a_one (x.blk _ _ _ _ _) (s_bo .sub (x.blk _ _ _ _ _) (s_len (x.blk _ _ _ _ _) (by rfl) (gl.len) (s_idx (x.blk _ _ _ _ _) (s_nm 0 (by rfl)) (s_con (by rfl)) (fun _ _ => rfl))) (s_con (by rfl))) a_nil))))))) fun _ => rfl))))) (ss_cons (s_ret (s_con (by rfl)))
    ss_nil) ss_nil)
    (ss_cons (s_ret (s_and x (s_cmp (o := .ne) x (s_idx x (s_nm 2 (by rfl)) (s_con (by rfl)) (fun _ _ => rfl)) (s_idx x (s_nm 2 (by rfl)) (s_con (by rfl)) (fun _ _ => rfl)) (by rfl)) (s_one1 (s_call x cal.c11 (by rfl) (a_one x (s_idx x (s_idx x (s_nm 0 (by rfl)) (s_con (by rfl)) (fun _ _ => rfl)) (s_idx x (s_nm 2 (by rfl)) (s_con (by rfl)) (fun _ _ => rfl)) (fun _ _ => rfl)) (a_one x (s_idx x (s_idx x (s_nm 0 (by rfl)) (s_con (by rfl)) (fun _ _ => rfl)) (s_idx x (s_nm 2 (by rfl)) (s_con (by rfl)) (fun _ _ => rfl)) (fun _ _ => rfl)) (a_one x (s_nm 1 (by rfl)) a_nil)))))))
    ss_nil)))))))
abbrev N27 : List Str := ["system", "strength", "found"]
abbrev sc27 : Scope := defScope (top 52)
abbrev X27 (P : Program) (w : World) (K : PySem.W.Frag) (mg : Str → Option Value) (base : Heap) (f : Addr) (cdv : Value) (A : Around) (outer : List Env) (s : Shared) (H : Hp) (E : XK) : Cx := bX P w K mg base N27 "covering_paper" sc27 f cdv A outer s H E
theorem p27 (x : Xk S (X27 P w K mg base f cdv A outer s H E) J0 (bW E)) (hr : Room (3 * n + 2) (X27 P w K mg base f cdv A outer s H E).A) (gl : Gl1 mg) (xs : Xs P K mg S) (cal : Cl (X27 P w K mg base f cdv A outer s H E) S C) : SPSs S (X27 P w K mg base f cdv A outer s H E) J0 (bW E) C (defBody (top 52)) g27 :=
  (ss_cons (s_expr x (s_call x cal.c7 (by rfl) (a_one x (s_nm 0 (by rfl)) a_nil)))
    (ss_cons (s_expr x (s_call x cal.c9 (by rfl) (a_one x (s_nm 1 (by rfl)) a_nil)))
    (ss_cons (s_asg x (s_call x cal.c14 (by rfl) (a_one x (s_nm 0 (by rfl)) (a_one x (s_nm 1 (by rfl)) a_nil))) (g_nm x (j0_set 2) (by rfl) (loc_of (by rfl))))
    (ss_cons (s_ret (s_if x (t_cmp (o := .is_) x (s_nm 2 (by rfl)) (s_con (by rfl)) (by rfl)) (s_tup x (a_one x (s_gstr (by rfl) gl.COVERS (by decide +kernel)) a_nil)) (s_nm 2 (by rfl))))
    ss_nil))))
abbrev N28 : List Str := ["system", "strength", "value", "block"]
abbrev sc28 : Scope := defScope (top 53)
abbrev X28 (P : Program) (w : World) (K : PySem.W.Frag) (mg : Str → Option Value) (base : Heap) (f : Addr) (cdv : Value) (A : Around) (outer : List Env) (s : Shared) (H : Hp) (E : XK) : Cx := bX P w K mg base N28 "is_covering_paper" sc28 f cdv A outer s H E
theorem p28 (x : Xk S (X28 P w K mg base f cdv A outer s H E) J0 (bW E)) (hr : Room (3 * n + 2) (X28 P w K mg base f cdv A outer s H E).A) (gl : Gl1 mg) (xs : Xs P K mg S) (cal : Cl (X28 P w K mg base f cdv A outer s H E) S C) : SPSs S (X28 P w K mg base f cdv A outer s H E) J0 (bW E) C (defBody (top 53)) g28 :=
  (ss_cons (s_expr x (s_call x cal.c7 (by rfl) (a_one x (s_nm 0 (by rfl)) a_nil)))
    (ss_cons (s_expr x (s_call x cal.c9 (by rfl) (a_one x (s_nm 1 (by rfl)) a_nil)))
    (ss_cons (s_ifs x (t_ofW (w_or x (t_not x (t_val (s_isi (t := .tuple) x (by rfl) (gl.isinstance) (by rfl) (gl.tuple) (by decide +kernel) (by decide) (by decide) (s_nm 2 (by rfl))) fun _ => rfl)) (w_or x (t_not x (t_chain (o := .le) (o' := .le) x (s_con (by rfl)) (s_len x (by rfl) (gl.len) (s_nm 2 (by rfl))) (s_con (by rfl)) (by rfl))) (w_or1 (t_not x (t_val (s_isi (t := .str) x (by rfl) (gl.isinstance) (by rfl) (gl.str) (by decide +kernel) (by decide) (by decide) (s_idx x (s_nm 2 (by rfl)) (s_con (by rfl)) (fun _ _ => rfl))) fun _ => rfl)))))) (ss_cons (s_ret (s_con (by rfl)))
    ss_nil) ss_nil)
    (ss_cons (s_ifs x (t_cmp (o := .eq) x (s_len x (by rfl) (gl.len) (s_nm 2 (by rfl))) (s_con (by rfl)) (by rfl)) (ss_cons (s_ret (s_and x (s_cmp (o := .eq) x (s_idx x (s_nm 2 (by rfl)) (s_con (by rfl)) (fun _ _ => rfl)) (s_gstr (by rfl) gl.COVERS (by decide +kernel)) (by rfl)) (s_one1 (s_cmp (o := .is_) x (s_call x cal.c14 (by rfl) (a_one x (s_nm 0 (by rfl)) (a_one x (s_nm 1 (by rfl)) a_nil))) (s_con (by rfl)) (by rfl)))))
    ss_nil) ss_nil)
    (ss_cons (s_ifs x (t_cmp (o := .ne) x (s_idx x (s_nm 2 (by rfl)) (s_con (by rfl)) (fun _ _ => rfl)) (s_gstr (by rfl) gl.BARE (by decide +kernel)) (by rfl)) (ss_cons (s_ret (s_call x cal.c15 (by rfl) (a_one x (s_nm 0 (by rfl)) (a_one x (s_nm 1 (by rfl)) (a_one x (s_nm 2 (by rfl)) a_nil)))))
    ss_nil) ss_nil)
    (ss_cons (s_ifs x (t_ofW (w_or x (t_cmp (o := .ne) x (s_len x (by rfl) (gl.len) (s_nm 2 (by rfl))) (s_con (by rfl)) (by rfl)) (w_or x (t_not x (t_val (s_call x cal.c4 (by rfl) (a_one x (s_idx x (s_nm 0 (by rfl)) (s_con (by rfl)) (fun _ _ => rfl)) (a_one x (s_idx x (s_nm 2 (by rfl)) (s_con (by rfl)) (fun _ _ => rfl)) a_nil))) fun _ => rfl)) (w_or1 (t_cmp (o := .ne) x (s_len x (by rfl) (gl.len) (s_idx x (s_nm 2 (by rfl)) (s_con (by rfl)) (fun _ _ => rfl))) (s_nm 1 (by rfl)) (by rfl)))))) (ss_cons (s_ret (s_con (by rfl)))
    ss_nil) ss_nil)
    (ss_cons (s_ret (s_not x (s_any x (by rfl) (by rfl) (gl.any) (s_lc (ownp := [("block", 3)]) x (by rfl) (i_seq x (s_idx x (s_nm 0 (by rfl)) (s_con (by rfl)) (fun _ _ => rfl))) (blkOk_by (by rfl)) (by rfl) (by decide) (fun _ _ _ _ _ => (g_nm (x.blk _ _ _ _ _) (j0_set 3) (by rfl) (loc_of (by rfl)))) (fun _ _ _ _ _ => c_no) (fun _ _ _ _ _ => (s_call (x.blk _ _ _ _ _) (cal.c6.blk _ _ _ _ _) (by rfl) (a_one (x.blk _ _ _ _ _) (s_nm 3 (by rfl)) (a_one (x.blk _ _ _ _ _) (s_idx (x.blk _ _ _ _ _) (s_nm 2 (by rfl)) (s_con (by rfl)) (fun _ _ => rfl)) a_nil))))))))
    ss_nil)))))))
abbrev N29 : List Str := ["size", "wide", "strength"]
abbrev sc29 : Scope := defScope (top 54)
abbrev X29 (P : Program) (w : World) (K : PySem.W.Frag) (mg : Str → Option Value) (base : Heap) (f : Addr) (cdv : Value) (A : Around) (outer : List Env) (s : Shared) (H : Hp) (E : XK) : Cx := bX P w K mg base N29 "most_blocks" sc29 f cdv A outer s H E
theorem p29 (x : Xk S (X29 P w K mg base f cdv A outer s H E) J0 (bW E)) (hr : Room (3 * n + 2) (X29 P w K mg base f cdv A outer s H E).A) (gl : Gl1 mg) (xs : Xs P K mg S) (cal : Cl (X29 P w K mg base f cdv A outer s H E) S C) : SPSs S (X29 P w K mg base f cdv A outer s H E) J0 (bW E) C (defBody (top 54)) g29 :=
  (ss_cons (s_expr x (s_call x cal.c22 (by rfl) (a_one x (s_nm 0 (by rfl)) (a_one x (s_nm 1 (by rfl)) (a_one x (s_nm 2 (by rfl)) a_nil)))))
    (ss_cons (s_ret (s_call x cal.c16 (by rfl) (a_one x (s_nm 0 (by rfl)) (a_one x (s_nm 1 (by rfl)) (a_one x (s_nm 2 (by rfl)) a_nil)))))
    ss_nil))
abbrev N30 : List Str := ["size", "wide", "strength"]
abbrev sc30 : Scope := defScope (top 55)
abbrev X30 (P : Program) (w : World) (K : PySem.W.Frag) (mg : Str → Option Value) (base : Heap) (f : Addr) (cdv : Value) (A : Around) (outer : List Env) (s : Shared) (H : Hp) (E : XK) : Cx := bX P w K mg base N30 "fewest_blocks" sc30 f cdv A outer s H E
theorem p30 (x : Xk S (X30 P w K mg base f cdv A outer s H E) J0 (bW E)) (hr : Room (3 * n + 2) (X30 P w K mg base f cdv A outer s H E).A) (gl : Gl1 mg) (xs : Xs P K mg S) (cal : Cl (X30 P w K mg base f cdv A outer s H E) S C) : SPSs S (X30 P w K mg base f cdv A outer s H E) J0 (bW E) C (defBody (top 55)) g30 :=
  (ss_cons (s_expr x (s_call x cal.c22 (by rfl) (a_one x (s_nm 0 (by rfl)) (a_one x (s_nm 1 (by rfl)) (a_one x (s_nm 2 (by rfl)) a_nil)))))
    (ss_cons (s_ret (s_call x cal.c17 (by rfl) (a_one x (s_nm 0 (by rfl)) (a_one x (s_nm 1 (by rfl)) (a_one x (s_nm 2 (by rfl)) a_nil)))))
    ss_nil))
abbrev N31 : List Str := ["number"]
abbrev sc31 : Scope := defScope (top 56)
abbrev X31 (P : Program) (w : World) (K : PySem.W.Frag) (mg : Str → Option Value) (base : Heap) (f : Addr) (cdv : Value) (A : Around) (outer : List Env) (s : Shared) (H : Hp) (E : XK) : Cx := bX P w K mg base N31 "most_triples" sc31 f cdv A outer s H E
theorem p31 (x : Xk S (X31 P w K mg base f cdv A outer s H E) J0 (bW E)) (hr : Room (3 * n + 2) (X31 P w K mg base f cdv A outer s H E).A) (gl : Gl1 mg) (xs : Xs P K mg S) (cal : Cl (X31 P w K mg base f cdv A outer s H E) S C) : SPSs S (X31 P w K mg base f cdv A outer s H E) J0 (bW E) C (defBody (top 56)) g31 :=
  (ss_cons (s_expr x (s_call x cal.c24 (by rfl) (a_one x (s_nm 0 (by rfl)) a_nil)))
    (ss_cons (s_ret (s_bo .sub x (s_call x cal.c16 (by rfl) (a_one x (s_nm 0 (by rfl)) (a_one x (s_con (by rfl)) (a_one x (s_con (by rfl)) a_nil)))) (s_if x (t_cmp (o := .eq) x (s_bo .mod x (s_nm 0 (by rfl)) (s_con (by rfl))) (s_con (by rfl)) (by rfl)) (s_con (by rfl)) (s_con (by rfl)))))
    ss_nil))
abbrev N32 : List Str := ["number"]
abbrev sc32 : Scope := defScope (top 57)
abbrev X32 (P : Program) (w : World) (K : PySem.W.Frag) (mg : Str → Option Value) (base : Heap) (f : Addr) (cdv : Value) (A : Around) (outer : List Env) (s : Shared) (H : Hp) (E : XK) : Cx := bX P w K mg base N32 "fewest_triples" sc32 f cdv A outer s H E
theorem p32 (x : Xk S (X32 P w K mg base f cdv A outer s H E) J0 (bW E)) (hr : Room (3 * n + 2) (X32 P w K mg base f cdv A outer s H E).A) (gl : Gl1 mg) (xs : Xs P K mg S) (cal : Cl (X32 P w K mg base f cdv A outer s H E) S C) : SPSs S (X32 P w K mg base f cdv A outer s H E) J0 (bW E) C (defBody (top 57)) g32 :=
  (ss_cons (s_expr x (s_call x cal.c24 (by rfl) (a_one x (s_nm 0 (by rfl)) a_nil)))
    (ss_cons (s_ret (s_call x cal.c17 (by rfl) (a_one x (s_nm 0 (by rfl)) (a_one x (s_con (by rfl)) (a_one x (s_con (by rfl)) a_nil)))))
    ss_nil))
abbrev N33 : List Str := ["size", "wide", "strength"]
abbrev sc33 : Scope := defScope (top 58)
abbrev X33 (P : Program) (w : World) (K : PySem.W.Frag) (mg : Str → Option Value) (base : Heap) (f : Addr) (cdv : Value) (A : Around) (outer : List Env) (s : Shared) (H : Hp) (E : XK) : Cx := bX P w K mg base N33 "packed_number" sc33 f cdv A outer s H E
theorem p33 (x : Xk S (X33 P w K mg base f cdv A outer s H E) J0 (bW E)) (hr : Room (3 * n + 2) (X33 P w K mg base f cdv A outer s H E).A) (gl : Gl1 mg) (xs : Xs P K mg S) (cal : Cl (X33 P w K mg base f cdv A outer s H E) S C) : SPSs S (X33 P w K mg base f cdv A outer s H E) J0 (bW E) C (defBody (top 58)) g33 :=
  (ss_cons (s_expr x (s_call x cal.c23 (by rfl) (a_one x (s_nm 0 (by rfl)) (a_one x (s_nm 1 (by rfl)) (a_one x (s_nm 2 (by rfl)) a_nil)))))
    (ss_cons (s_ret (s_len x (by rfl) (gl.len) (s_call x cal.c18 (by rfl) (a_one x (s_nm 0 (by rfl)) (a_one x (s_nm 1 (by rfl)) (a_one x (s_nm 2 (by rfl)) a_nil))))))
    ss_nil))
abbrev N34 : List Str := ["size", "wide", "strength"]
abbrev sc34 : Scope := defScope (top 59)
abbrev X34 (P : Program) (w : World) (K : PySem.W.Frag) (mg : Str → Option Value) (base : Heap) (f : Addr) (cdv : Value) (A : Around) (outer : List Env) (s : Shared) (H : Hp) (E : XK) : Cx := bX P w K mg base N34 "some_packed" sc34 f cdv A outer s H E
theorem p34 (x : Xk S (X34 P w K mg base f cdv A outer s H E) J0 (bW E)) (hr : Room (3 * n + 2) (X34 P w K mg base f cdv A outer s H E).A) (gl : Gl1 mg) (xs : Xs P K mg S) (cal : Cl (X34 P w K mg base f cdv A outer s H E) S C) : SPSs S (X34 P w K mg base f cdv A outer s H E) J0 (bW E) C (defBody (top 59)) g34 :=
  (ss_cons (s_expr x (s_call x cal.c23 (by rfl) (a_one x (s_nm 0 (by rfl)) (a_one x (s_nm 1 (by rfl)) (a_one x (s_nm 2 (by rfl)) a_nil)))))
    (ss_cons (s_ret (s_tup x (a_one x (s_nm 0 (by rfl)) (a_one x (s_call x cal.c18 (by rfl) (a_one x (s_nm 0 (by rfl)) (a_one x (s_nm 1 (by rfl)) (a_one x (s_nm 2 (by rfl)) a_nil)))) a_nil))))
    ss_nil))
abbrev N35 : List Str := ["size", "wide", "strength"]
abbrev sc35 : Scope := defScope (top 60)
abbrev X35 (P : Program) (w : World) (K : PySem.W.Frag) (mg : Str → Option Value) (base : Heap) (f : Addr) (cdv : Value) (A : Around) (outer : List Env) (s : Shared) (H : Hp) (E : XK) : Cx := bX P w K mg base N35 "covering_number" sc35 f cdv A outer s H E
theorem p35 (x : Xk S (X35 P w K mg base f cdv A outer s H E) J0 (bW E)) (hr : Room (3 * n + 2) (X35 P w K mg base f cdv A outer s H E).A) (gl : Gl1 mg) (xs : Xs P K mg S) (cal : Cl (X35 P w K mg base f cdv A outer s H E) S C) : SPSs S (X35 P w K mg base f cdv A outer s H E) J0 (bW E) C (defBody (top 60)) g35 :=
  (ss_cons (s_expr x (s_call x cal.c23 (by rfl) (a_one x (s_nm 0 (by rfl)) (a_one x (s_nm 1 (by rfl)) (a_one x (s_nm 2 (by rfl)) a_nil)))))
    (ss_cons (s_ret (s_len x (by rfl) (gl.len) (s_call x cal.c21 (by rfl) (a_one x (s_nm 0 (by rfl)) (a_one x (s_nm 1 (by rfl)) (a_one x (s_nm 2 (by rfl)) a_nil))))))
    ss_nil))
abbrev N36 : List Str := ["size", "wide", "strength"]
abbrev sc36 : Scope := defScope (top 61)
abbrev X36 (P : Program) (w : World) (K : PySem.W.Frag) (mg : Str → Option Value) (base : Heap) (f : Addr) (cdv : Value) (A : Around) (outer : List Env) (s : Shared) (H : Hp) (E : XK) : Cx := bX P w K mg base N36 "some_covering" sc36 f cdv A outer s H E
theorem p36 (x : Xk S (X36 P w K mg base f cdv A outer s H E) J0 (bW E)) (hr : Room (3 * n + 2) (X36 P w K mg base f cdv A outer s H E).A) (gl : Gl1 mg) (xs : Xs P K mg S) (cal : Cl (X36 P w K mg base f cdv A outer s H E) S C) : SPSs S (X36 P w K mg base f cdv A outer s H E) J0 (bW E) C (defBody (top 61)) g36 :=
  (ss_cons (s_expr x (s_call x cal.c23 (by rfl) (a_one x (s_nm 0 (by rfl)) (a_one x (s_nm 1 (by rfl)) (a_one x (s_nm 2 (by rfl)) a_nil)))))
    (ss_cons (s_ret (s_tup x (a_one x (s_nm 0 (by rfl)) (a_one x (s_call x cal.c21 (by rfl) (a_one x (s_nm 0 (by rfl)) (a_one x (s_nm 1 (by rfl)) (a_one x (s_nm 2 (by rfl)) a_nil)))) a_nil))))
    ss_nil))
abbrev N37 : List Str := ["script", "spot", "cell", "great"]
abbrev sc37 : Scope := defScope (top 63)
abbrev X37 (P : Program) (w : World) (K : PySem.W.Frag) (mg : Str → Option Value) (base : Heap) (f : Addr) (cdv : Value) (A : Around) (outer : List Env) (s : Shared) (H : Hp) (E : XK) : Cx := bX P w K mg base N37 "_law_jar" sc37 f cdv A outer s H E
theorem p37 (x : Xk S (X37 P w K mg base f cdv A outer s H E) J0 (bW E)) (hr : Room (3 * n + 2) (X37 P w K mg base f cdv A outer s H E).A) (gl : Gl1 mg) (xs : Xs P K mg S) (cal : Cl (X37 P w K mg base f cdv A outer s H E) S C) : SPSs S (X37 P w K mg base f cdv A outer s H E) J0 (bW E) C (defBody (top 63)) g37 :=
  (ss_cons (s_asg x (s_if x (t_cmp (o := .lt) x (s_nm 1 (by rfl)) (s_len x (by rfl) (gl.len) (s_nm 0 (by rfl))) (by rfl)) (s_int x (by rfl) (gl.int) (s_idx x (s_nm 0 (by rfl)) (s_nm 1 (by rfl)) (fun _ _ => rfl))) (s_bo .add x (s_bo .mul x (s_con (by rfl)) (s_nm 1 (by rfl))) (s_con (by rfl)))) (g_nm x (j0_set 2) (by rfl) (loc_of (by rfl))))
    (ss_cons (s_asg x (s_bo .mod x (s_max2 x (by rfl) (by rfl) (gl.max) (s_con (by rfl)) (s_bo .sub x (s_abs x (by rfl) (gl.abs) (s_nm 2 (by rfl))) (s_bo .pow x (s_con (by rfl)) (s_con (by rfl))))) (s_bo .mul x (s_bo .pow x (s_con (by rfl)) (s_con (by rfl))) (s_bo .pow x (s_con (by rfl)) (s_con (by rfl))))) (g_nm x (j0_set 3) (by rfl) (loc_of (by rfl))))
    (ss_cons (s_ret (s_lst x (a_one x (s_nm 3 (by rfl)) (a_one x (s_bo .add x (s_bo .add x (s_bo .add x (s_bo .mul x (s_bo .mod x (s_abs x (by rfl) (gl.abs) (s_nm 2 (by rfl))) (s_con (by rfl))) (s_con (by rfl))) (s_bo .mul x (s_con (by rfl)) (s_nm 1 (by rfl)))) (s_bo .mul x (s_con (by rfl)) (s_int x (by rfl) (gl.int) (s_cmp (o := .lt) x (s_nm 2 (by rfl)) (s_con (by rfl)) (by rfl))))) (s_con (by rfl))) (a_one x (s_con (by rfl)) a_nil)))))
    ss_nil)))
abbrev N38 : List Str := ["jar", "many", "one", "two", "found"]
abbrev sc38 : Scope := defScope (top 64)
abbrev X38 (P : Program) (w : World) (K : PySem.W.Frag) (mg : Str → Option Value) (base : Heap) (f : Addr) (cdv : Value) (A : Around) (outer : List Env) (s : Shared) (H : Hp) (E : XK) : Cx := bX P w K mg base N38 "_law_dip" sc38 f cdv A outer s H E
theorem p38 (x : Xk S (X38 P w K mg base f cdv A outer s H E) J0 (bW E)) (hr : Room (3 * n + 2) (X38 P w K mg base f cdv A outer s H E).A) (gl : Gl1 mg) (xs : Xs P K mg S) (cal : Cl (X38 P w K mg base f cdv A outer s H E) S C) : SPSs S (X38 P w K mg base f cdv A outer s H E) J0 (bW E) C (defBody (top 64)) g38 :=
  (ss_cons (s_ifs x (t_cmp (o := .gt) x (s_idx x (s_nm 0 (by rfl)) (s_con (by rfl)) (fun _ _ => rfl)) (s_con (by rfl)) (by rfl)) (ss_cons (s_asg x (s_bo .mod x (s_int x (by rfl) (gl.int) (s_idx x (s_nm 0 (by rfl)) (s_con (by rfl)) (fun _ _ => rfl))) (s_nm 1 (by rfl))) (g_nm x (j0_set 4) (by rfl) (loc_of (by rfl))))
    (ss_cons (s_asg x (s_bo .fdiv x (s_idx x (s_nm 0 (by rfl)) (s_con (by rfl)) (fun _ _ => rfl)) (s_nm 1 (by rfl))) (g_sub (own := []) x (s_nm 0 (by rfl)) (s_con (by rfl))))
    (ss_cons (s_ret (s_nm 4 (by rfl)))
    ss_nil))) ss_nil)
    (ss_cons (s_asg x (s_bo .add x (s_idx x (s_nm 0 (by rfl)) (s_con (by rfl)) (fun _ _ => rfl)) (s_con (by rfl))) (g_sub (own := []) x (s_nm 0 (by rfl)) (s_con (by rfl))))
    (ss_cons (s_asg x (s_bo .mod x (s_int x (by rfl) (gl.int) (s_bo .add x (s_idx x (s_nm 0 (by rfl)) (s_con (by rfl)) (fun _ _ => rfl)) (s_bo .mul x (s_con (by rfl)) (s_idx x (s_nm 0 (by rfl)) (s_con (by rfl)) (fun _ _ => rfl))))) (s_con (by rfl))) (g_nm x (j0_set 2) (by rfl) (loc_of (by rfl))))
    (ss_cons (s_asg x (s_bo .add x (s_bo .mul x (s_bo .mod x (s_int x (by rfl) (gl.int) (s_bo .add x (s_bo .mul x (s_nm 2 (by rfl)) (s_nm 2 (by rfl))) (s_bo .mul x (s_con (by rfl)) (s_idx x (s_nm 0 (by rfl)) (s_con (by rfl)) (fun _ _ => rfl))))) (s_con (by rfl))) (s_con (by rfl))) (s_nm 2 (by rfl))) (g_nm x (j0_set 3) (by rfl) (loc_of (by rfl))))
    (ss_cons (s_ret (s_bo .mod x (s_int x (by rfl) (gl.int) (s_bo .fdiv x (s_nm 3 (by rfl)) (s_con (by rfl)))) (s_nm 1 (by rfl))))
    ss_nil)))))
abbrev N39 : List Str := ["jar", "items"]
abbrev sc39 : Scope := defScope (top 65)
abbrev X39 (P : Program) (w : World) (K : PySem.W.Frag) (mg : Str → Option Value) (base : Heap) (f : Addr) (cdv : Value) (A : Around) (outer : List Env) (s : Shared) (H : Hp) (E : XK) : Cx := bX P w K mg base N39 "_law_one" sc39 f cdv A outer s H E
theorem p39 (x : Xk S (X39 P w K mg base f cdv A outer s H E) J0 (bW E)) (hr : Room (3 * n + 2) (X39 P w K mg base f cdv A outer s H E).A) (gl : Gl1 mg) (xs : Xs P K mg S) (cal : Cl (X39 P w K mg base f cdv A outer s H E) S C) : SPSs S (X39 P w K mg base f cdv A outer s H E) J0 (bW E) C (defBody (top 65)) g39 :=
  (ss_cons (s_ret (s_idx x (s_nm 1 (by rfl)) (s_callR x cal.c38 (by rfl) (a_one x (s_nm 0 (by rfl)) (a_one x (s_len x (by rfl) (gl.len) (s_nm 1 (by rfl))) a_nil))) (fun _ _ => rfl)))
    ss_nil)
abbrev N40 : List Str := ["call", "error"]
abbrev sc40 : Scope := defScope (top 66)
abbrev X40 (P : Program) (w : World) (K : PySem.W.Frag) (mg : Str → Option Value) (base : Heap) (f : Addr) (cdv : Value) (A : Around) (outer : List Env) (s : Shared) (H : Hp) (E : XK) : Cx := bX P w K mg base N40 "_law_met" sc40 f cdv A outer s H E
theorem q40 (xs : Xs P K mg S) (gl : Gl1 mg) : MetOk S P w K mg base N40 "_law_met" sc40 f cdv (defBody (top 66)) "call" g40 :=
  fun A outer s H f1 c1 q1 Z0 η0 h0 H0 C gd hu R hcall => have x := xk_met (show FnScope N40 ["call"] sc40 from ⟨rfl, rfl, rfl, by decide +kernel, rfl, by decide +kernel, by decide +kernel⟩) R gd hu
  (ss_cons (s_try x (by rfl) (by rfl) (fun W2 pn xe tk po => (ss_cons (s_ret (s_tup (xk_tr x tk) (a_one (xk_tr x tk) (s_cstr (by decide +kernel)) (a_one (xk_tr x tk) (hcall _ _ _ _ _ tk) a_nil))))
    ss_nil)) (.bare (c := 1) ⟨rfl, by decide, .inl xs.n1⟩ (fun a o cls d pn ex hz hd hs => (s_tup (xk_suite x) (a_one (xk_suite x) (s_cstr (by decide +kernel)) a_nil))) (.bare (c := 3) ⟨rfl, by decide, .inl xs.n3⟩ (fun a o cls d pn ex hz hd hs => (s_tup (xk_suite x) (a_one (xk_suite x) (s_cstr (by decide +kernel)) a_nil))) (.bare (c := 4) ⟨rfl, by decide, .inl xs.n4⟩ (fun a o cls d pn ex hz hd hs => (s_tup (xk_suite x) (a_one (xk_suite x) (s_cstr (by decide +kernel)) a_nil))) (.bare (c := 5) ⟨rfl, by decide, .inl xs.n5⟩ (fun a o cls d pn ex hz hd hs => (s_tup (xk_suite x) (a_one (xk_suite x) (s_cstr (by decide +kernel)) a_nil))) (.bare (c := 2) ⟨rfl, by decide, .inl xs.n2⟩ (fun a o cls d pn ex hz hd hs => (s_tup (xk_suite x) (a_one (xk_suite x) (s_cstr (by decide +kernel)) a_nil))) (.bare (c := 6) ⟨rfl, by decide, .inl xs.n6⟩ (fun a o cls d pn ex hz hd hs => (s_tup (xk_suite x) (a_one (xk_suite x) (s_cstr (by decide +kernel)) a_nil))) (.bare (c := 7) ⟨rfl, by decide, .inl xs.n7⟩ (fun a o cls d pn ex hz hd hs => (s_tup (xk_suite x) (a_one (xk_suite x) (s_cstr (by decide +kernel)) a_nil))) (.name (c := 8) (j := 1) ⟨rfl, by decide, .inl xs.n8⟩ (by rfl) (by rfl) (fun a o cls d pn ex hz hd hs => (s_tup (xk_suite x) (a_one (xk_suite x) (s_cstr (by decide +kernel)) (a_one (xk_suite x) (s_repr (xk_suite x) (by rfl) (gl.repr) (s_fld (c := 0) (j := 1) hz hd xs.xf_given (xs.sf8 _ hs) (by rfl) (.inl (by rfl)) (by decide) (by decide) (by rfl))) a_nil)))) (.name (c := 9) (j := 1) ⟨rfl, by decide, .inl xs.n9⟩ (by rfl) (by rfl) (fun a o cls d pn ex hz hd hs => (s_tup (xk_suite x) (a_one (xk_suite x) (s_cstr (by decide +kernel)) (a_one (xk_suite x) (s_fld (c := 0) (j := 1) hz hd xs.xf_limit (xs.sf9 _ hs) (by rfl) (.inl (by rfl)) (by decide) (by decide) (by rfl)) a_nil)))) (.name (c := 10) (j := 1) ⟨rfl, by decide, .inl xs.n10⟩ (by rfl) (by rfl) (fun a o cls d pn ex hz hd hs => (s_tup (xk_suite x) (a_one (xk_suite x) (s_cstr (by decide +kernel)) (a_one (xk_suite x) (s_fld (c := 0) (j := 1) hz hd xs.xf_reason (xs.sf10 _ hs) (by rfl) (.inl (by rfl)) (by decide) (by decide) (by rfl)) a_nil)))) .nil)))))))))) xs.ex)
    ss_nil)
theorem p40 {FF : Nat → List EV.W → Hs → Re EV.W} {GG : Nat → (Hs → Re EV.W) → Hs → Re EV.W} {wf : Nat} : SPSs S (X40 P w K mg base f cdv A outer s H E) J0 (bW E) ⟨FF, GG, wf, none, none⟩ (defBody (top 66)) g40 := ss_dead fun _ _ => rfl
abbrev N41 : List Str := ["jar", "some"]
abbrev sc41 : Scope := defScope (top 67)
abbrev X41 (P : Program) (w : World) (K : PySem.W.Frag) (mg : Str → Option Value) (base : Heap) (f : Addr) (cdv : Value) (A : Around) (outer : List Env) (s : Shared) (H : Hp) (E : XK) : Cx := bX P w K mg base N41 "_law_no_system" sc41 f cdv A outer s H E
theorem p41 (x : Xk S (X41 P w K mg base f cdv A outer s H E) J0 (bW E)) (hr : Room (3 * n + 2) (X41 P w K mg base f cdv A outer s H E).A) (gl : Gl1 mg) (xs : Xs P K mg S) (cal : Cl (X41 P w K mg base f cdv A outer s H E) S C) : SPSs S (X41 P w K mg base f cdv A outer s H E) J0 (bW E) C (defBody (top 67)) g41 :=
  (ss_cons (s_asg x (s_lst x (a_one x (s_con (by rfl)) (a_one x (s_tup x a_nil) (a_one x (s_con (by rfl)) (a_one x (s_tup x (a_one x (s_con (by rfl)) (a_one x (s_tup x a_nil) a_nil))) (a_one x (s_tup x (a_one x (s_con (by rfl)) (a_one x (s_tup x a_nil) a_nil))) (a_one x (s_tup x (a_one x (s_con (by rfl)) (a_one x (s_tup x a_nil) a_nil))) (a_one x (s_tup x (a_one x (s_cstr (by decide +kernel)) (a_one x (s_tup x a_nil) a_nil))) (a_one x (s_lst x (a_one x (s_con (by rfl)) (a_one x (s_tup x a_nil) a_nil))) (a_one x (s_tup x (a_one x (s_con (by rfl)) (a_one x (s_lst x (a_one x (s_tup x (a_one x (s_con (by rfl)) (a_one x (s_con (by rfl)) a_nil))) a_nil)) a_nil))) (a_one x (s_tup x (a_one x (s_con (by rfl)) (a_one x (s_tup x (a_one x (s_tup x (a_one x (s_con (by rfl)) (a_one x (s_con (by rfl)) a_nil))) a_nil)) a_nil))) (a_one x (s_tup x (a_one x (s_con (by rfl)) (a_one x (s_tup x (a_one x (s_tup x (a_one x (s_con (by rfl)) (a_one x (s_con (by rfl)) a_nil))) a_nil)) a_nil))) (a_one x (s_tup x (a_one x (s_con (by rfl)) (a_one x (s_tup x (a_one x (s_tup x (a_one x (s_con (by rfl)) (a_one x (s_con (by rfl)) a_nil))) a_nil)) a_nil))) (a_one x (s_tup x (a_one x (s_con (by rfl)) (a_one x (s_tup x (a_one x (s_tup x a_nil) a_nil)) a_nil))) (a_one x (s_tup x (a_one x (s_con (by rfl)) (a_one x (s_tup x (a_one x (s_tup x (a_one x (s_con (by rfl)) (a_one x (s_con (by rfl)) a_nil))) (a_one x (s_tup x (a_one x (s_con (by rfl)) (a_one x (s_con (by rfl)) a_nil))) a_nil))) a_nil))) a_nil))))))))))))))) (g_nm x (j0_set 1) (by rfl) (loc_of (by rfl))))
    (ss_cons (s_asg x (s_cat x (s_nm 1 (by rfl)) (s_lst x (a_one x (s_tup x (a_one x (s_con (by rfl)) (a_one x (s_tup x (a_one x (s_tup x (a_one x (s_con (by rfl)) (a_one x (s_con (by rfl)) a_nil))) (a_one x (s_tup x (a_one x (s_con (by rfl)) (a_one x (s_con (by rfl)) a_nil))) a_nil))) a_nil))) (a_one x (s_tup x (a_one x (s_con (by rfl)) (a_one x (s_tup x (a_one x (s_tup x (a_one x (s_con (by rfl)) (a_one x (s_con (by rfl)) a_nil))) a_nil)) a_nil))) (a_one x (s_tup x (a_one x (s_con (by rfl)) (a_one x (s_tup x (a_one x (s_tup x (a_one x (s_con (by rfl)) (a_one x (s_cstr (by decide +kernel)) a_nil))) a_nil)) a_nil))) (a_one x (s_tup x (a_one x (s_con (by rfl)) (a_one x (s_tup x (a_one x (s_lst x (a_one x (s_con (by rfl)) (a_one x (s_con (by rfl)) a_nil))) a_nil)) a_nil))) (a_one x (s_tup x (a_one x (s_con (by rfl)) (a_one x (s_con (by rfl)) a_nil))) (a_one x (s_tup x (a_one x (s_con (by rfl)) (a_one x (s_tup x a_nil) (a_one x (s_con (by rfl)) a_nil)))) (a_one x s_dnew (a_one x (s_tup x (a_one x (s_bo .pow x (s_con (by rfl)) (s_con (by rfl))) (a_one x (s_tup x a_nil) a_nil))) (a_one x (s_tup x (a_one x (s_con (by rfl)) (a_one x (s_tup x (a_one x (s_con (by rfl)) (a_one x (s_con (by rfl)) a_nil))) a_nil))) (a_one x (s_tup x (a_one x (s_con (by rfl)) (a_one x (s_tup x (a_one x (s_tup x (a_one x (s_con (by rfl)) (a_one x (s_neg x (s_con (by rfl))) a_nil))) a_nil)) a_nil))) a_nil)))))))))))) (g_nm x (j0_set 1) (by rfl) (loc_of (by rfl))))
    (ss_cons (s_ret (s_callR x cal.c39 (by rfl) (a_one x (s_nm 0 (by rfl)) (a_one x (s_nm 1 (by rfl)) a_nil))))
    ss_nil)))
abbrev N42 : List Str := ["system", "strength", "told"]
abbrev sc42 : Scope := defScope (top 68)
abbrev X42 (P : Program) (w : World) (K : PySem.W.Frag) (mg : Str → Option Value) (base : Heap) (f : Addr) (cdv : Value) (A : Around) (outer : List Env) (s : Shared) (H : Hp) (E : XK) : Cx := bX P w K mg base N42 "_law_of_system" sc42 f cdv A outer s H E
theorem p42 (x : Xk S (X42 P w K mg base f cdv A outer s H E) J0 (bW E)) (hr : Room (3 * n + 2) (X42 P w K mg base f cdv A outer s H E).A) (gl : Gl1 mg) (xs : Xs P K mg S) (cal : Cl (X42 P w K mg base f cdv A outer s H E) S C) (lm40 : GetsL S P w K mg base C 40 "_law_met") {cd Pt : Addr} (tl : TabL S mg base cd Pt (("_law_of_system" ++ ".<locals>.") ++ "<lambda>")) (hcd : cdv = .ref cd) (calL : ∀ (A2 : Around) (o2 : List Env) (s2 : Shared) (H2 : Hp) (E2 : XK) (sc2 : Scope) (f2 c2 : Addr), Room (3 * n) (A2.deeper (LamX.lamEnv (X42 P w K mg base f cdv A outer s H E) sc2 s2.heap.objs.size f2 c2)) → Cl (LamX.lamCx (X42 P w K mg base f cdv A outer s H E) A2 o2 s2 H2 E2 sc2 f2 c2) S C) : SPSs S (X42 P w K mg base f cdv A outer s H E) J0 (bW E) C (defBody (top 68)) g42 :=
  (ss_cons (s_asg x (s_lst x (a_one x (s_lam2 x (by rfl) lm40 tl hcd hr (by kernel_rfl) (.none (by rfl)) ⟨fun _ _ _ _ _ _ => rfl, fun i h => nomatch h⟩ fun A2 o2 s2 H2 E2 f2 c2 gd2 hr2 => (s_cmp (o := .is_) (xk_lam x gd2 hr2) (s_call (xk_lam x gd2 hr2) (calL _ _ _ _ _ _ _ _ hr2).c25 (by rfl) (a_one (xk_lam x gd2 hr2) (s_nm 0 (by rfl)) (a_one (xk_lam x gd2 hr2) (s_nm 1 (by rfl)) a_nil))) (s_con (by rfl)) (by rfl))) a_nil)) (g_nm x (j0_set 2) (by rfl) (loc_of (by rfl))))
    (ss_cons (s_expr x (s_app x (s_nm 2 (by rfl)) (s_lam2 x (by rfl) lm40 tl hcd hr (by kernel_rfl) (.none (by rfl)) ⟨fun _ _ _ _ _ _ => rfl, fun i h => nomatch h⟩ fun A2 o2 s2 H2 E2 f2 c2 gd2 hr2 => (s_call (xk_lam x gd2 hr2) (calL _ _ _ _ _ _ _ _ hr2).c26 (by rfl) (a_one (xk_lam x gd2 hr2) (s_nm 0 (by rfl)) (a_one (xk_lam x gd2 hr2) (s_nm 1 (by rfl)) (a_one (xk_lam x gd2 hr2) (s_con (by rfl)) a_nil)))))))
    (ss_cons (s_expr x (s_app x (s_nm 2 (by rfl)) (s_lam2 x (by rfl) lm40 tl hcd hr (by kernel_rfl) (.none (by rfl)) ⟨fun _ _ _ _ _ _ => rfl, fun i h => nomatch h⟩ fun A2 o2 s2 H2 E2 f2 c2 gd2 hr2 => (s_cmp (o := .is_) (xk_lam x gd2 hr2) (s_call (xk_lam x gd2 hr2) (calL _ _ _ _ _ _ _ _ hr2).c27 (by rfl) (a_one (xk_lam x gd2 hr2) (s_nm 0 (by rfl)) (a_one (xk_lam x gd2 hr2) (s_nm 1 (by rfl)) a_nil))) (s_con (by rfl)) (by rfl)))))
    (ss_cons (s_expr x (s_app x (s_nm 2 (by rfl)) (s_lam2 x (by rfl) lm40 tl hcd hr (by kernel_rfl) (.none (by rfl)) ⟨fun _ _ _ _ _ _ => rfl, fun i h => nomatch h⟩ fun A2 o2 s2 H2 E2 f2 c2 gd2 hr2 => (s_call (xk_lam x gd2 hr2) (calL _ _ _ _ _ _ _ _ hr2).c28 (by rfl) (a_one (xk_lam x gd2 hr2) (s_nm 0 (by rfl)) (a_one (xk_lam x gd2 hr2) (s_nm 1 (by rfl)) (a_one (xk_lam x gd2 hr2) (s_con (by rfl)) a_nil)))))))
    (ss_cons (s_ret (s_nm 2 (by rfl)))
    ss_nil)))))
abbrev N43 : List Str := ["size", "wide", "strength", "told"]
abbrev sc43 : Scope := defScope (top 69)
abbrev X43 (P : Program) (w : World) (K : PySem.W.Frag) (mg : Str → Option Value) (base : Heap) (f : Addr) (cdv : Value) (A : Around) (outer : List Env) (s : Shared) (H : Hp) (E : XK) : Cx := bX P w K mg base N43 "_law_of_three" sc43 f cdv A outer s H E
theorem p43 (x : Xk S (X43 P w K mg base f cdv A outer s H E) J0 (bW E)) (hr : Room (3 * n + 2) (X43 P w K mg base f cdv A outer s H E).A) (gl : Gl1 mg) (xs : Xs P K mg S) (cal : Cl (X43 P w K mg base f cdv A outer s H E) S C) (lm40 : GetsL S P w K mg base C 40 "_law_met") {cd Pt : Addr} (tl : TabL S mg base cd Pt (("_law_of_three" ++ ".<locals>.") ++ "<lambda>")) (hcd : cdv = .ref cd) (calL : ∀ (A2 : Around) (o2 : List Env) (s2 : Shared) (H2 : Hp) (E2 : XK) (sc2 : Scope) (f2 c2 : Addr), Room (3 * n) (A2.deeper (LamX.lamEnv (X43 P w K mg base f cdv A outer s H E) sc2 s2.heap.objs.size f2 c2)) → Cl (LamX.lamCx (X43 P w K mg base f cdv A outer s H E) A2 o2 s2 H2 E2 sc2 f2 c2) S C) : SPSs S (X43 P w K mg base f cdv A outer s H E) J0 (bW E) C (defBody (top 69)) g43 :=
  (ss_cons (s_asg x (s_lst x (a_one x (s_lam2 x (by rfl) lm40 tl hcd hr (by kernel_rfl) (.none (by rfl)) ⟨fun _ _ _ _ _ _ => rfl, fun i h => nomatch h⟩ fun A2 o2 s2 H2 E2 f2 c2 gd2 hr2 => (s_cmp (o := .is_) (xk_lam x gd2 hr2) (s_call (xk_lam x gd2 hr2) (calL _ _ _ _ _ _ _ _ hr2).c29 (by rfl) (a_one (xk_lam x gd2 hr2) (s_nm 0 (by rfl)) (a_one (xk_lam x gd2 hr2) (s_nm 1 (by rfl)) (a_one (xk_lam x gd2 hr2) (s_nm 2 (by rfl)) a_nil)))) (s_con (by rfl)) (by rfl))) a_nil)) (g_nm x (j0_set 3) (by rfl) (loc_of (by rfl))))
    (ss_cons (s_expr x (s_app x (s_nm 3 (by rfl)) (s_lam2 x (by rfl) lm40 tl hcd hr (by kernel_rfl) (.none (by rfl)) ⟨fun _ _ _ _ _ _ => rfl, fun i h => nomatch h⟩ fun A2 o2 s2 H2 E2 f2 c2 gd2 hr2 => (s_cmp (o := .is_) (xk_lam x gd2 hr2) (s_call (xk_lam x gd2 hr2) (calL _ _ _ _ _ _ _ _ hr2).c30 (by rfl) (a_one (xk_lam x gd2 hr2) (s_nm 0 (by rfl)) (a_one (xk_lam x gd2 hr2) (s_nm 1 (by rfl)) (a_one (xk_lam x gd2 hr2) (s_nm 2 (by rfl)) a_nil)))) (s_con (by rfl)) (by rfl)))))
    (ss_cons (s_expr x (s_app x (s_nm 3 (by rfl)) (s_lam2 x (by rfl) lm40 tl hcd hr (by kernel_rfl) (.none (by rfl)) ⟨fun _ _ _ _ _ _ => rfl, fun i h => nomatch h⟩ fun A2 o2 s2 H2 E2 f2 c2 gd2 hr2 => (s_cmp (o := .is_) (xk_lam x gd2 hr2) (s_call (xk_lam x gd2 hr2) (calL _ _ _ _ _ _ _ _ hr2).c33 (by rfl) (a_one (xk_lam x gd2 hr2) (s_nm 0 (by rfl)) (a_one (xk_lam x gd2 hr2) (s_nm 1 (by rfl)) (a_one (xk_lam x gd2 hr2) (s_nm 2 (by rfl)) a_nil)))) (s_con (by rfl)) (by rfl)))))
    (ss_cons (s_expr x (s_app x (s_nm 3 (by rfl)) (s_lam2 x (by rfl) lm40 tl hcd hr (by kernel_rfl) (.none (by rfl)) ⟨fun _ _ _ _ _ _ => rfl, fun i h => nomatch h⟩ fun A2 o2 s2 H2 E2 f2 c2 gd2 hr2 => (s_cmp (o := .is_) (xk_lam x gd2 hr2) (s_call (xk_lam x gd2 hr2) (calL _ _ _ _ _ _ _ _ hr2).c34 (by rfl) (a_one (xk_lam x gd2 hr2) (s_nm 0 (by rfl)) (a_one (xk_lam x gd2 hr2) (s_nm 1 (by rfl)) (a_one (xk_lam x gd2 hr2) (s_nm 2 (by rfl)) a_nil)))) (s_con (by rfl)) (by rfl)))))
    (ss_cons (s_expr x (s_app x (s_nm 3 (by rfl)) (s_lam2 x (by rfl) lm40 tl hcd hr (by kernel_rfl) (.none (by rfl)) ⟨fun _ _ _ _ _ _ => rfl, fun i h => nomatch h⟩ fun A2 o2 s2 H2 E2 f2 c2 gd2 hr2 => (s_cmp (o := .is_) (xk_lam x gd2 hr2) (s_call (xk_lam x gd2 hr2) (calL _ _ _ _ _ _ _ _ hr2).c35 (by rfl) (a_one (xk_lam x gd2 hr2) (s_nm 0 (by rfl)) (a_one (xk_lam x gd2 hr2) (s_nm 1 (by rfl)) (a_one (xk_lam x gd2 hr2) (s_nm 2 (by rfl)) a_nil)))) (s_con (by rfl)) (by rfl)))))
    (ss_cons (s_expr x (s_app x (s_nm 3 (by rfl)) (s_lam2 x (by rfl) lm40 tl hcd hr (by kernel_rfl) (.none (by rfl)) ⟨fun _ _ _ _ _ _ => rfl, fun i h => nomatch h⟩ fun A2 o2 s2 H2 E2 f2 c2 gd2 hr2 => (s_cmp (o := .is_) (xk_lam x gd2 hr2) (s_call (xk_lam x gd2 hr2) (calL _ _ _ _ _ _ _ _ hr2).c36 (by rfl) (a_one (xk_lam x gd2 hr2) (s_nm 0 (by rfl)) (a_one (xk_lam x gd2 hr2) (s_nm 1 (by rfl)) (a_one (xk_lam x gd2 hr2) (s_nm 2 (by rfl)) a_nil)))) (s_con (by rfl)) (by rfl)))))
    (ss_cons (s_ret (s_nm 3 (by rfl)))
    ss_nil)))))))
abbrev N44 : List Str := ["jar", "strength", "few", "number", "path", "fine", "size", "wide"]
abbrev sc44 : Scope := defScope (top 70)
abbrev X44 (P : Program) (w : World) (K : PySem.W.Frag) (mg : Str → Option Value) (base : Heap) (f : Addr) (cdv : Value) (A : Around) (outer : List Env) (s : Shared) (H : Hp) (E : XK) : Cx := bX P w K mg base N44 "_law_right" sc44 f cdv A outer s H E
theorem p44 (x : Xk S (X44 P w K mg base f cdv A outer s H E) J0 (bW E)) (hr : Room (3 * n + 2) (X44 P w K mg base f cdv A outer s H E).A) (gl : Gl1 mg) (xs : Xs P K mg S) (cal : Cl (X44 P w K mg base f cdv A outer s H E) S C) (lm40 : GetsL S P w K mg base C 40 "_law_met") {cd Pt : Addr} (tl : TabL S mg base cd Pt (("_law_right" ++ ".<locals>.") ++ "<lambda>")) (hcd : cdv = .ref cd) (calL : ∀ (A2 : Around) (o2 : List Env) (s2 : Shared) (H2 : Hp) (E2 : XK) (sc2 : Scope) (f2 c2 : Addr), Room (3 * n) (A2.deeper (LamX.lamEnv (X44 P w K mg base f cdv A outer s H E) sc2 s2.heap.objs.size f2 c2)) → Cl (LamX.lamCx (X44 P w K mg base f cdv A outer s H E) A2 o2 s2 H2 E2 sc2 f2 c2) S C) : SPSs S (X44 P w K mg base f cdv A outer s H E) J0 (bW E) C (defBody (top 70)) g44 :=
  (ss_cons (s_asg x (s_tup x (a_one x (s_tup x (a_one x (s_con (by rfl)) (a_one x (s_tup x (a_one x (s_tup x (a_one x (s_con (by rfl)) (a_one x (s_con (by rfl)) a_nil))) (a_one x (s_tup x (a_one x (s_con (by rfl)) (a_one x (s_con (by rfl)) a_nil))) a_nil))) a_nil))) (a_one x (s_tup x (a_one x (s_cstr (by decide +kernel)) (a_one x (s_con (by rfl)) a_nil))) a_nil))) (g_tup x (by rfl) (gs_cons x (g_nm x (j0_set 4) (by rfl) (loc_of (by rfl))) (gs_cons x (g_nm x (j0_set 5) (by rfl) (loc_of (by rfl))) gs_nil))))
    (ss_cons (s_asg x (s_callR x cal.c39 (by rfl) (a_one x (s_nm 0 (by rfl)) (a_one x (s_lst x (a_one x (s_con (by rfl)) (a_one x (s_con (by rfl)) (a_one x (s_neg x (s_con (by rfl))) (a_one x (s_con (by rfl)) (a_one x (s_cstr (by decide +kernel)) (a_one x (s_tup x (a_one x (s_con (by rfl)) a_nil)) (a_one x (s_bo .pow x (s_con (by rfl)) (s_con (by rfl))) a_nil)))))))) a_nil))) (g_nm x (j0_set 1) (by rfl) (loc_of (by rfl))))
    (ss_cons (s_ifs x (t_ofW (w_or x (t_cmp (o := .ne) x (s_call x cal.c42 (by rfl) (a_one x (s_callR x cal.c41 (by rfl) (a_one x (s_nm 0 (by rfl)) a_nil)) (a_one x (s_nm 1 (by rfl)) a_nil))) (s_rep x (s_lst x (a_one x (s_tup x (a_one x (s_cstr (by decide +kernel)) a_nil)) a_nil)) (s_con (by rfl))) (by rfl)) (w_or1 (t_cmp (o := .ne) x (s_call x cal.c42 (by rfl) (a_one x (s_nm 4 (by rfl)) (a_one x (s_nm 1 (by rfl)) a_nil))) (s_rep x (s_lst x (a_one x (s_tup x (a_one x (s_cstr (by decide +kernel)) (a_one x (s_repr x (by rfl) (gl.repr) (s_nm 1 (by rfl))) a_nil))) a_nil)) (s_con (by rfl))) (by rfl))))) (ss_cons (s_ret (s_con (by rfl)))
    ss_nil) ss_nil)
    (ss_cons (s_ifs x (t_cmp (o := .ne) x (s_call x cal.c42 (by rfl) (a_one x (s_nm 4 (by rfl)) (a_one x (s_callR x cal.c38 (by rfl) (a_one x (s_nm 0 (by rfl)) (a_one x (s_con (by rfl)) a_nil))) a_nil))) (s_rep x (s_lst x (a_one x (s_nm 5 (by rfl)) a_nil)) (s_con (by rfl))) (by rfl)) (ss_cons (s_ret (s_con (by rfl)))
    ss_nil) ss_nil)
    (ss_cons (s_par x (j0_set 6) (j0_set 7) (by rfl) (by rfl) (by rfl) (by decide) (by rfl) (by rfl) (a_one x (s_callR x cal.c39 (by rfl) (a_one x (s_nm 0 (by rfl)) (a_one x (s_lst x (a_one x (s_con (by rfl)) (a_one x (s_con (by rfl)) (a_one x (s_con (by rfl)) (a_one x (s_neg x (s_con (by rfl))) (a_one x (s_con (by rfl)) (a_one x (s_cstr (by decide +kernel)) (a_one x (s_bo .pow x (s_con (by rfl)) (s_con (by rfl))) a_nil)))))))) a_nil))) (a_one x (s_callR x cal.c39 (by rfl) (a_one x (s_nm 0 (by rfl)) (a_one x (s_lst x (a_one x (s_con (by rfl)) (a_one x (s_con (by rfl)) (a_one x (s_con (by rfl)) (a_one x (s_neg x (s_con (by rfl))) (a_one x (s_con (by rfl)) (a_one x (s_cstr (by decide +kernel)) (a_one x (s_tup x (a_one x (s_con (by rfl)) a_nil)) a_nil)))))))) a_nil))) a_nil)) (by rfl))
    (ss_cons (s_asg x (s_callR x cal.c39 (by rfl) (a_one x (s_nm 0 (by rfl)) (a_one x (s_lst x (a_one x (s_con (by rfl)) (a_one x (s_con (by rfl)) (a_one x (s_con (by rfl)) (a_one x (s_neg x (s_con (by rfl))) (a_one x (s_con (by rfl)) (a_one x (s_cstr (by decide +kernel)) a_nil))))))) a_nil))) (g_nm x (j0_set 2) (by rfl) (loc_of (by rfl))))
    (ss_cons (s_ifs x (t_ofW (w_or x (t_cmp (o := .ne) x (s_call x cal.c43 (by rfl) (a_one x (s_nm 6 (by rfl)) (a_one x (s_nm 7 (by rfl)) (a_one x (s_nm 2 (by rfl)) a_nil)))) (s_rep x (s_lst x (a_one x (s_tup x (a_one x (s_cstr (by decide +kernel)) (a_one x (s_repr x (by rfl) (gl.repr) (s_nm 6 (by rfl))) a_nil))) a_nil)) (s_con (by rfl))) (by rfl)) (w_or x (t_cmp (o := .ne) x (s_call x cal.c43 (by rfl) (a_one x (s_con (by rfl)) (a_one x (s_nm 7 (by rfl)) (a_one x (s_nm 2 (by rfl)) a_nil)))) (s_rep x (s_lst x (a_one x (s_tup x (a_one x (s_cstr (by decide +kernel)) (a_one x (s_repr x (by rfl) (gl.repr) (s_nm 7 (by rfl))) a_nil))) a_nil)) (s_con (by rfl))) (by rfl)) (w_or1 (t_cmp (o := .ne) x (s_call x cal.c43 (by rfl) (a_one x (s_con (by rfl)) (a_one x (s_con (by rfl)) (a_one x (s_nm 2 (by rfl)) a_nil)))) (s_rep x (s_lst x (a_one x (s_tup x (a_one x (s_cstr (by decide +kernel)) (a_one x (s_repr x (by rfl) (gl.repr) (s_nm 2 (by rfl))) a_nil))) a_nil)) (s_con (by rfl))) (by rfl)))))) (ss_cons (s_ret (s_con (by rfl)))
    ss_nil) ss_nil)
    (ss_cons (s_ifs x (t_ofW (w_or x (t_cmp (o := .ne) x (s_call x cal.c43 (by rfl) (a_one x (s_con (by rfl)) (a_one x (s_con (by rfl)) (a_one x (s_callR x cal.c39 (by rfl) (a_one x (s_nm 0 (by rfl)) (a_one x (s_lst x (a_one x (s_con (by rfl)) (a_one x (s_con (by rfl)) (a_one x (s_con (by rfl)) a_nil)))) a_nil))) a_nil)))) (s_rep x (s_lst x (a_one x (s_nm 5 (by rfl)) a_nil)) (s_con (by rfl))) (by rfl)) (w_or1 (t_cmp (o := .ne) x (s_call x cal.c43 (by rfl) (a_one x (s_callR x cal.c39 (by rfl) (a_one x (s_nm 0 (by rfl)) (a_one x (s_lst x (a_one x (s_con (by rfl)) (a_one x (s_con (by rfl)) a_nil))) a_nil))) (a_one x (s_con (by rfl)) (a_one x (s_con (by rfl)) a_nil)))) (s_cat x (s_rep x (s_lst x (a_one x (s_nm 5 (by rfl)) a_nil)) (s_con (by rfl))) (s_rep x (s_lst x (a_one x (s_tup x (a_one x (s_cstr (by decide +kernel)) (a_one x (s_con (by rfl)) a_nil))) a_nil)) (s_con (by rfl)))) (by rfl))))) (ss_cons (s_ret (s_con (by rfl)))
    ss_nil) ss_nil)
    (ss_cons (s_asg x (s_callR x cal.c39 (by rfl) (a_one x (s_nm 0 (by rfl)) (a_one x (s_lst x (a_one x (s_con (by rfl)) (a_one x (s_con (by rfl)) (a_one x (s_con (by rfl)) (a_one x (s_con (by rfl)) (a_one x (s_neg x (s_con (by rfl))) (a_one x (s_con (by rfl)) (a_one x (s_cstr (by decide +kernel)) (a_one x (s_bo .pow x (s_con (by rfl)) (s_con (by rfl))) a_nil))))))))) a_nil))) (g_nm x (j0_set 3) (by rfl) (loc_of (by rfl))))
    (ss_cons (s_ret (s_cmp (o := .eq) x (s_lst x (a_one x (s_lam2 x (by rfl) lm40 tl hcd hr (by kernel_rfl) (.none (by rfl)) ⟨fun _ _ _ _ _ _ => rfl, fun i h => nomatch h⟩ fun A2 o2 s2 H2 E2 f2 c2 gd2 hr2 => (s_call (xk_lam x gd2 hr2) (calL _ _ _ _ _ _ _ _ hr2).c31 (by rfl) (a_one (xk_lam x gd2 hr2) (s_nm 3 (by rfl)) a_nil))) (a_one x (s_lam2 x (by rfl) lm40 tl hcd hr (by kernel_rfl) (.one (i := 0) (by rfl)) ⟨fun h => (nomatch h), fun i h => by cases h; exact ⟨"one", rfl, fun _ _ _ _ _ _ _ _ => peek_load lookup_self rfl⟩⟩ fun A2 o2 s2 H2 E2 f2 c2 gd2 hr2 => (s_call (xk_lam x gd2 hr2) (calL _ _ _ _ _ _ _ _ hr2).c32 (by rfl) (a_one (xk_lam x gd2 hr2) (s_nm 3 (by rfl)) a_nil))) a_nil))) (s_rep x (s_lst x (a_one x (s_tup x (a_one x (s_cstr (by decide +kernel)) (a_one x (s_repr x (by rfl) (gl.repr) (s_nm 3 (by rfl))) a_nil))) a_nil)) (s_con (by rfl))) (by rfl)))
    ss_nil))))))))))
abbrev N45 : List Str := ["script", "spot", "four", "odd", "found", "jar", "turn", "value"]
abbrev sc45 : Scope := defScope (top 71)
abbrev X45 (P : Program) (w : World) (K : PySem.W.Frag) (mg : Str → Option Value) (base : Heap) (f : Addr) (cdv : Value) (A : Around) (outer : List Env) (s : Shared) (H : Hp) (E : XK) : Cx := bX P w K mg base N45 "law" sc45 f cdv A outer s H E
theorem p45 (x : Xk S (X45 P w K mg base f cdv A outer s H E) J0 (bW E)) (hr : Room (3 * n + 2) (X45 P w K mg base f cdv A outer s H E).A) (gl : Gl1 mg) (xs : Xs P K mg S) (cal : Cl (X45 P w K mg base f cdv A outer s H E) S C) : SPSs S (X45 P w K mg base f cdv A outer s H E) J0 (bW E) C (defBody (top 71)) g45 :=
  (ss_cons (s_for x bX_own (by rfl) (i_rng1 x (by rfl) (gl.range) (s_max2 x (by rfl) (by rfl) (gl.max) (s_con (by rfl)) (s_min2 x (by rfl) (by rfl) (gl.min) (s_con (by rfl)) (s_len x (by rfl) (gl.len) (s_nm 0 (by rfl)))))) (g_nm x (j0_set 1) (by rfl) (loc_of (by rfl))) (ss_cons (s_asg x (s_callR x cal.c37 (by rfl) (a_one x (s_nm 0 (by rfl)) (a_one x (s_nm 1 (by rfl)) a_nil))) (g_nm x (j0_set 5) (by rfl) (loc_of (by rfl))))
    (ss_cons (s_for x bX_own (by rfl) (i_rng1 x (by rfl) (gl.range) (s_con (by rfl))) (g_nm x (j0_set 6) (by rfl) (loc_of (by rfl))) (ss_cons (s_ifs x (t_not x (t_val (s_callR x cal.c44 (by rfl) (a_one x (s_nm 5 (by rfl)) a_nil)) fun _ => rfl)) (ss_cons (s_ret (s_con (by rfl)))
    ss_nil) ss_nil)
    ss_nil))
    ss_nil)))
    (ss_cons (s_asg x (s_tup x (a_one x (s_con (by rfl)) (a_one x (s_tup x (a_one x (s_tup x (a_one x (s_con (by rfl)) (a_one x (s_con (by rfl)) a_nil))) (a_one x (s_tup x (a_one x (s_con (by rfl)) (a_one x (s_con (by rfl)) a_nil))) (a_one x (s_tup x (a_one x (s_con (by rfl)) (a_one x (s_con (by rfl)) a_nil))) (a_one x (s_tup x (a_one x (s_con (by rfl)) (a_one x (s_con (by rfl)) a_nil))) (a_one x (s_tup x (a_one x (s_con (by rfl)) (a_one x (s_con (by rfl)) a_nil))) (a_one x (s_tup x (a_one x (s_con (by rfl)) (a_one x (s_con (by rfl)) a_nil))) a_nil))))))) a_nil))) (g_nm x (j0_set 2) (by rfl) (loc_of (by rfl))))
    (ss_cons (s_asg x (s_lst x (a_one x (s_con (by rfl)) (a_one x (s_con (by rfl)) (a_one x (s_tup x a_nil) (a_one x (s_lst x a_nil) (a_one x s_dnew (a_one x (s_cstr (by decide +kernel)) (a_one x (s_lst x (a_one x (s_cstr (by decide +kernel)) a_nil)) (a_one x (s_tup x (a_one x (s_cstr (by decide +kernel)) (a_one x (s_con (by rfl)) a_nil))) (a_one x (s_tup x (a_one x (s_cstr (by decide +kernel)) (a_one x (s_con (by rfl)) (a_one x (s_con (by rfl)) a_nil)))) (a_one x (s_tup x (a_one x (s_cstr (by decide +kernel)) (a_one x (s_con (by rfl)) a_nil))) (a_one x (s_tup x (a_one x (s_cstr (by decide +kernel)) (a_one x (s_con (by rfl)) (a_one x (s_con (by rfl)) a_nil)))) (a_one x (s_tup x (a_one x (s_cstr (by decide +kernel)) (a_one x (s_tup x (a_one x (s_con (by rfl)) (a_one x (s_con (by rfl)) a_nil))) a_nil))) (a_one x (s_tup x (a_one x (s_con (by rfl)) a_nil)) (a_one x (s_tup x (a_one x (s_cstr (by decide +kernel)) (a_one x (s_con (by rfl)) a_nil))) (a_one x (s_tup x (a_one x (s_cstr (by decide +kernel)) a_nil)) a_nil)))))))))))))))) (g_nm x (j0_set 3) (by rfl) (loc_of (by rfl))))
    (ss_cons (s_setLc (i := 4) (ownp := [("value", 7)]) x (j0_set 4) (by rfl) (by rfl) (by rfl) (by rfl) (i_seq x (s_nm 3 (by rfl))) (blkOk_by (by rfl)) (by rfl) (by decide) (fun _ _ _ _ _ => (g_nm (x.blk _ _ _ _ _) (j0_set 7) (by rfl) (loc_of (by rfl)))) (fun _ _ _ _ _ => (c_yes (x.blk _ _ _ _ _) (t_ofW (w_or (x.blk _ _ _ _ _) (t_cmp (o := .isn) (x.blk _ _ _ _ _) (s_call (x.blk _ _ _ _ _) (cal.c26.blk _ _ _ _ _) (by rfl) (a_one (x.blk _ _ _ _ _) (s_nm 2 (by rfl)) (a_one (x.blk _ _ _ _ _) (s_con (by rfl)) (a_one (x.blk _ _ _ _ _) (s_nm 7 (by rfl)) a_nil)))) (s_con (by rfl)) (by rfl)) (w_or1 (t_cmp (o := .isn) (x.blk _ _ _ _ _) (s_call (x.blk _ _ _ _ _) (cal.c28.blk _ _ _ _ _) (by rfl) (a_one (x.blk _ _ _ _ _) (s_nm 2 (by rfl)) (a_one (x.blk _ _ _ _ _) (s_con (by rfl)) (a_one (x.blk _ _ _ _ _) (s_nm 7 (by rfl)) a_nil)))) (s_con (by rfl)) (by rfl))))))) (fun _ _ _ _ _ => (s_nm 7 (by rfl))))
    (ss_cons (s_ret (s_and x (s_cmp (o := .eq) x (s_nm 4 (by rfl)) (s_lst x a_nil) (by rfl)) (s_and x (s_cmp (o := .is_) x (s_call x cal.c26 (by rfl) (a_one x (s_nm 2 (by rfl)) (a_one x (s_con (by rfl)) (a_one x (s_tup x (a_one x (s_cstr (by decide +kernel)) a_nil)) a_nil)))) (s_con (by rfl)) (by rfl)) (s_and x (s_cmp (o := .is_) x (s_call x cal.c28 (by rfl) (a_one x (s_nm 2 (by rfl)) (a_one x (s_con (by rfl)) (a_one x (s_tup x (a_one x (s_cstr (by decide +kernel)) a_nil)) a_nil)))) (s_con (by rfl)) (by rfl)) (s_one1 (s_cmp (o := .eq) x (s_gint (by rfl) gl.MOST_FORCED) (s_con (by rfl)) (by rfl)))))))
    ss_nil)))))
end
theorem S0 : FnScope N0 ["value"] sc0 := ⟨rfl, rfl, rfl, by decide +kernel, rfl, by decide +kernel, by decide +kernel⟩
abbrev D0 (K : PySem.W.Frag) (fd : FuncData) : Prop := FunD K "is_int" "is_int" (defArgs (top 16)) (defBody (top 16)) sc0 [] [] (He.ga K "is_int") fd
theorem S1 : FnScope N1 ["value", "low", "high"] sc1 := ⟨rfl, rfl, rfl, by decide +kernel, rfl, by decide +kernel, by decide +kernel⟩
abbrev D1 (K : PySem.W.Frag) (fd : FuncData) : Prop := FunD K "is_within" "is_within" (defArgs (top 17)) (defBody (top 17)) sc1 [] [] (He.ga K "is_within") fd
theorem S2 : FnScope N2 ["many", "few"] sc2 := ⟨rfl, rfl, rfl, by decide +kernel, rfl, by decide +kernel, by decide +kernel⟩
abbrev D2 (K : PySem.W.Frag) (fd : FuncData) : Prop := FunD K "choices" "choices" (defArgs (top 18)) (defBody (top 18)) sc2 [] [] (He.ga K "choices") fd
theorem S3 : FnScope N3 ["size", "many"] sc3 := ⟨rfl, rfl, rfl, by decide +kernel, rfl, by decide +kernel, by decide +kernel⟩
abbrev D3 (K : PySem.W.Frag) (fd : FuncData) : Prop := FunD K "lots_of" "lots_of" (defArgs (top 19)) (defBody (top 19)) sc3 [] [] (He.ga K "lots_of") fd
theorem S4 : FnScope N4 ["size", "value"] sc4 := ⟨rfl, rfl, rfl, by decide +kernel, rfl, by decide +kernel, by decide +kernel⟩
abbrev D4 (K : PySem.W.Frag) (fd : FuncData) : Prop := FunD K "is_lot_of" "is_lot_of" (defArgs (top 20)) (defBody (top 20)) sc4 [] [] (He.ga K "is_lot_of") fd
theorem S5 : FnScope N5 ["value"] sc5 := ⟨rfl, rfl, rfl, by decide +kernel, rfl, by decide +kernel, by decide +kernel⟩
abbrev D5 (K : PySem.W.Frag) (fd : FuncData) : Prop := FunD K "is_system_of" "is_system_of" (defArgs (top 21)) (defBody (top 21)) sc5 [] [] (He.ga K "is_system_of") fd
theorem S6 : FnScope N6 ["block", "lot"] sc6 := ⟨rfl, rfl, rfl, by decide +kernel, rfl, by decide +kernel, by decide +kernel⟩
abbrev D6 (K : PySem.W.Frag) (fd : FuncData) : Prop := FunD K "holds" "holds" (defArgs (top 22)) (defBody (top 22)) sc6 [] [] (He.ga K "holds") fd
theorem S7 : FnScope N7 (([] : List Str) ++ [("systems" : Str)]) sc7 := ⟨rfl, rfl, rfl, by decide +kernel, rfl, by decide +kernel, by decide +kernel⟩
abbrev D7 (K : PySem.W.Frag) (fd : FuncData) : Prop := FunD K "require_system" "require_system" (defArgs (top 23)) (defBody (top 23)) sc7 [] [] (He.ga K "require_system") fd
theorem S8 : FnScope N8 ["size"] sc8 := ⟨rfl, rfl, rfl, by decide +kernel, rfl, by decide +kernel, by decide +kernel⟩
abbrev D8 (K : PySem.W.Frag) (fd : FuncData) : Prop := FunD K "require_size" "require_size" (defArgs (top 24)) (defBody (top 24)) sc8 [] [] (He.ga K "require_size") fd
theorem S9 : FnScope N9 ["strength"] sc9 := ⟨rfl, rfl, rfl, by decide +kernel, rfl, by decide +kernel, by decide +kernel⟩
abbrev D9 (K : PySem.W.Frag) (fd : FuncData) : Prop := FunD K "require_strength" "require_strength" (defArgs (top 25)) (defBody (top 25)) sc9 [] [] (He.ga K "require_strength") fd
theorem S10 : FnScope N10 ["system", "strength"] sc10 := ⟨rfl, rfl, rfl, by decide +kernel, rfl, by decide +kernel, by decide +kernel⟩
abbrev D10 (K : PySem.W.Frag) (fd : FuncData) : Prop := FunD K "size_bar" "size_bar" (defArgs (top 35)) (defBody (top 35)) sc10 [] [] (He.ga K "size_bar") fd
theorem S11 : FnScope N11 ["block", "far", "strength"] sc11 := ⟨rfl, rfl, rfl, by decide +kernel, rfl, by decide +kernel, by decide +kernel⟩
abbrev D11 (K : PySem.W.Frag) (fd : FuncData) : Prop := FunD K "do_share" "do_share" (defArgs (top 36)) (defBody (top 36)) sc11 [] [] (He.ga K "do_share") fd
theorem S12 : FnScope N12 ["system", "strength"] sc12 := ⟨rfl, rfl, rfl, by decide +kernel, rfl, by decide +kernel, by decide +kernel⟩
abbrev D12 (K : PySem.W.Frag) (fd : FuncData) : Prop := FunD K "packed_bar" "packed_bar" (defArgs (top 37)) (defBody (top 37)) sc12 [] [] (He.ga K "packed_bar") fd
theorem S13 : FnScope N13 ["blocks", "size", "strength"] sc13 := ⟨rfl, rfl, rfl, by decide +kernel, rfl, by decide +kernel, by decide +kernel⟩
abbrev D13 (K : PySem.W.Frag) (fd : FuncData) : Prop := FunD K "bare_lot" "bare_lot" (defArgs (top 38)) (defBody (top 38)) sc13 [] [] (He.ga K "bare_lot") fd
theorem S14 : FnScope N14 ["system", "strength"] sc14 := ⟨rfl, rfl, rfl, by decide +kernel, rfl, by decide +kernel, by decide +kernel⟩
abbrev D14 (K : PySem.W.Frag) (fd : FuncData) : Prop := FunD K "covering_bar" "covering_bar" (defArgs (top 39)) (defBody (top 39)) sc14 [] [] (He.ga K "covering_bar") fd
theorem S15 : FnScope N15 ["system", "strength", "value"] sc15 := ⟨rfl, rfl, rfl, by decide +kernel, rfl, by decide +kernel, by decide +kernel⟩
abbrev D15 (K : PySem.W.Frag) (fd : FuncData) : Prop := FunD K "is_size_bar" "is_size_bar" (defArgs (top 40)) (defBody (top 40)) sc15 [] [] (He.ga K "is_size_bar") fd
theorem S16 : FnScope N16 ["size", "wide", "strength"] sc16 := ⟨rfl, rfl, rfl, by decide +kernel, rfl, by decide +kernel, by decide +kernel⟩
abbrev D16 (K : PySem.W.Frag) (fd : FuncData) : Prop := FunD K "most_in" "most_in" (defArgs (top 41)) (defBody (top 41)) sc16 [] [] (He.ga K "most_in") fd
theorem S17 : FnScope N17 ["size", "wide", "strength"] sc17 := ⟨rfl, rfl, rfl, by decide +kernel, rfl, by decide +kernel, by decide +kernel⟩
abbrev D17 (K : PySem.W.Frag) (fd : FuncData) : Prop := FunD K "fewest_in" "fewest_in" (defArgs (top 42)) (defBody (top 42)) sc17 [] [] (He.ga K "fewest_in") fd
theorem S18 : FnScope N18 ["size", "wide", "strength"] sc18 := ⟨rfl, rfl, rfl, by decide +kernel, rfl, by decide +kernel, by decide +kernel⟩
abbrev D18 (K : PySem.W.Frag) (fd : FuncData) : Prop := FunD K "packed_in" "packed_in" (defArgs (top 43)) (defBody (top 43)) sc18 [] [] (He.ga K "packed_in") fd
theorem S19 : FnScope N19 ["size", "wide", "strength", "many"] sc19 := ⟨rfl, rfl, rfl, by decide +kernel, rfl, by decide +kernel, by decide +kernel⟩
abbrev D19 (K : PySem.W.Frag) (fd : FuncData) : Prop := FunD K "covering_with" "covering_with" (defArgs (top 44)) (defBody (top 44)) sc19 [] [] (He.ga K "covering_with") fd
theorem S20 : FnScope N20 ["blocks", "size", "strength"] sc20 := ⟨rfl, rfl, rfl, by decide +kernel, rfl, by decide +kernel, by decide +kernel⟩
abbrev D20 (K : PySem.W.Frag) (fd : FuncData) : Prop := FunD K "covered_in" "covered_in" (defArgs (top 45)) (defBody (top 45)) sc20 [] [] (He.ga K "covered_in") fd
theorem S21 : FnScope N21 ["size", "wide", "strength"] sc21 := ⟨rfl, rfl, rfl, by decide +kernel, rfl, by decide +kernel, by decide +kernel⟩
abbrev D21 (K : PySem.W.Frag) (fd : FuncData) : Prop := FunD K "covering_in" "covering_in" (defArgs (top 46)) (defBody (top 46)) sc21 [] [] (He.ga K "covering_in") fd
theorem S22 : FnScope N22 ["size", "wide", "strength"] sc22 := ⟨rfl, rfl, rfl, by decide +kernel, rfl, by decide +kernel, by decide +kernel⟩
abbrev D22 (K : PySem.W.Frag) (fd : FuncData) : Prop := FunD K "require_three" "require_three" (defArgs (top 47)) (defBody (top 47)) sc22 [] [] (He.ga K "require_three") fd
theorem S23 : FnScope N23 ["size", "wide", "strength"] sc23 := ⟨rfl, rfl, rfl, by decide +kernel, rfl, by decide +kernel, by decide +kernel⟩
abbrev D23 (K : PySem.W.Frag) (fd : FuncData) : Prop := FunD K "require_few" "require_few" (defArgs (top 48)) (defBody (top 48)) sc23 [] [] (He.ga K "require_few") fd
theorem S24 : FnScope N24 ["number"] sc24 := ⟨rfl, rfl, rfl, by decide +kernel, rfl, by decide +kernel, by decide +kernel⟩
abbrev D24 (K : PySem.W.Frag) (fd : FuncData) : Prop := FunD K "require_number" "require_number" (defArgs (top 49)) (defBody (top 49)) sc24 [] [] (He.ga K "require_number") fd
theorem S25 : FnScope N25 ["system", "strength"] sc25 := ⟨rfl, rfl, rfl, by decide +kernel, rfl, by decide +kernel, by decide +kernel⟩
abbrev D25 (K : PySem.W.Frag) (fd : FuncData) : Prop := FunD K "packed_paper" "packed_paper" (defArgs (top 50)) (defBody (top 50)) sc25 [] [] (He.ga K "packed_paper") fd
theorem S26 : FnScope N26 ["system", "strength", "value"] sc26 := ⟨rfl, rfl, rfl, by decide +kernel, rfl, by decide +kernel, by decide +kernel⟩
abbrev D26 (K : PySem.W.Frag) (fd : FuncData) : Prop := FunD K "is_packed_paper" "is_packed_paper" (defArgs (top 51)) (defBody (top 51)) sc26 [] [] (He.ga K "is_packed_paper") fd
theorem S27 : FnScope N27 ["system", "strength"] sc27 := ⟨rfl, rfl, rfl, by decide +kernel, rfl, by decide +kernel, by decide +kernel⟩
abbrev D27 (K : PySem.W.Frag) (fd : FuncData) : Prop := FunD K "covering_paper" "covering_paper" (defArgs (top 52)) (defBody (top 52)) sc27 [] [] (He.ga K "covering_paper") fd
theorem S28 : FnScope N28 ["system", "strength", "value"] sc28 := ⟨rfl, rfl, rfl, by decide +kernel, rfl, by decide +kernel, by decide +kernel⟩
abbrev D28 (K : PySem.W.Frag) (fd : FuncData) : Prop := FunD K "is_covering_paper" "is_covering_paper" (defArgs (top 53)) (defBody (top 53)) sc28 [] [] (He.ga K "is_covering_paper") fd
theorem S29 : FnScope N29 ["size", "wide", "strength"] sc29 := ⟨rfl, rfl, rfl, by decide +kernel, rfl, by decide +kernel, by decide +kernel⟩
abbrev D29 (K : PySem.W.Frag) (fd : FuncData) : Prop := FunD K "most_blocks" "most_blocks" (defArgs (top 54)) (defBody (top 54)) sc29 [] [] (He.ga K "most_blocks") fd
theorem S30 : FnScope N30 ["size", "wide", "strength"] sc30 := ⟨rfl, rfl, rfl, by decide +kernel, rfl, by decide +kernel, by decide +kernel⟩
abbrev D30 (K : PySem.W.Frag) (fd : FuncData) : Prop := FunD K "fewest_blocks" "fewest_blocks" (defArgs (top 55)) (defBody (top 55)) sc30 [] [] (He.ga K "fewest_blocks") fd
theorem S31 : FnScope N31 ["number"] sc31 := ⟨rfl, rfl, rfl, by decide +kernel, rfl, by decide +kernel, by decide +kernel⟩
abbrev D31 (K : PySem.W.Frag) (fd : FuncData) : Prop := FunD K "most_triples" "most_triples" (defArgs (top 56)) (defBody (top 56)) sc31 [] [] (He.ga K "most_triples") fd
theorem S32 : FnScope N32 ["number"] sc32 := ⟨rfl, rfl, rfl, by decide +kernel, rfl, by decide +kernel, by decide +kernel⟩
abbrev D32 (K : PySem.W.Frag) (fd : FuncData) : Prop := FunD K "fewest_triples" "fewest_triples" (defArgs (top 57)) (defBody (top 57)) sc32 [] [] (He.ga K "fewest_triples") fd
theorem S33 : FnScope N33 ["size", "wide", "strength"] sc33 := ⟨rfl, rfl, rfl, by decide +kernel, rfl, by decide +kernel, by decide +kernel⟩
abbrev D33 (K : PySem.W.Frag) (fd : FuncData) : Prop := FunD K "packed_number" "packed_number" (defArgs (top 58)) (defBody (top 58)) sc33 [] [] (He.ga K "packed_number") fd
theorem S34 : FnScope N34 ["size", "wide", "strength"] sc34 := ⟨rfl, rfl, rfl, by decide +kernel, rfl, by decide +kernel, by decide +kernel⟩
abbrev D34 (K : PySem.W.Frag) (fd : FuncData) : Prop := FunD K "some_packed" "some_packed" (defArgs (top 59)) (defBody (top 59)) sc34 [] [] (He.ga K "some_packed") fd
theorem S35 : FnScope N35 ["size", "wide", "strength"] sc35 := ⟨rfl, rfl, rfl, by decide +kernel, rfl, by decide +kernel, by decide +kernel⟩
abbrev D35 (K : PySem.W.Frag) (fd : FuncData) : Prop := FunD K "covering_number" "covering_number" (defArgs (top 60)) (defBody (top 60)) sc35 [] [] (He.ga K "covering_number") fd
theorem S36 : FnScope N36 ["size", "wide", "strength"] sc36 := ⟨rfl, rfl, rfl, by decide +kernel, rfl, by decide +kernel, by decide +kernel⟩
abbrev D36 (K : PySem.W.Frag) (fd : FuncData) : Prop := FunD K "some_covering" "some_covering" (defArgs (top 61)) (defBody (top 61)) sc36 [] [] (He.ga K "some_covering") fd
theorem S37 : FnScope N37 ["script", "spot"] sc37 := ⟨rfl, rfl, rfl, by decide +kernel, rfl, by decide +kernel, by decide +kernel⟩
abbrev D37 (K : PySem.W.Frag) (fd : FuncData) : Prop := FunD K "_law_jar" "_law_jar" (defArgs (top 63)) (defBody (top 63)) sc37 [] [] (He.ga K "_law_jar") fd
theorem S38 : FnScope N38 ["jar", "many"] sc38 := ⟨rfl, rfl, rfl, by decide +kernel, rfl, by decide +kernel, by decide +kernel⟩
abbrev D38 (K : PySem.W.Frag) (fd : FuncData) : Prop := FunD K "_law_dip" "_law_dip" (defArgs (top 64)) (defBody (top 64)) sc38 [] [] (He.ga K "_law_dip") fd
theorem S39 : FnScope N39 ["jar", "items"] sc39 := ⟨rfl, rfl, rfl, by decide +kernel, rfl, by decide +kernel, by decide +kernel⟩
abbrev D39 (K : PySem.W.Frag) (fd : FuncData) : Prop := FunD K "_law_one" "_law_one" (defArgs (top 65)) (defBody (top 65)) sc39 [] [] (He.ga K "_law_one") fd
theorem S40 : FnScope N40 ["call"] sc40 := ⟨rfl, rfl, rfl, by decide +kernel, rfl, by decide +kernel, by decide +kernel⟩
abbrev D40 (K : PySem.W.Frag) (fd : FuncData) : Prop := FunD K "_law_met" "_law_met" (defArgs (top 66)) (defBody (top 66)) sc40 [] [] (He.ga K "_law_met") fd
theorem S41 : FnScope N41 ["jar"] sc41 := ⟨rfl, rfl, rfl, by decide +kernel, rfl, by decide +kernel, by decide +kernel⟩
abbrev D41 (K : PySem.W.Frag) (fd : FuncData) : Prop := FunD K "_law_no_system" "_law_no_system" (defArgs (top 67)) (defBody (top 67)) sc41 [] [] (He.ga K "_law_no_system") fd
theorem S42 : FnScope N42 ["system", "strength"] sc42 := ⟨rfl, rfl, rfl, by decide +kernel, rfl, by decide +kernel, by decide +kernel⟩
abbrev D42 (K : PySem.W.Frag) (fd : FuncData) : Prop := FunD K "_law_of_system" "_law_of_system" (defArgs (top 68)) (defBody (top 68)) sc42 [] [] (He.ga K "_law_of_system") fd
theorem S43 : FnScope N43 ["size", "wide", "strength"] sc43 := ⟨rfl, rfl, rfl, by decide +kernel, rfl, by decide +kernel, by decide +kernel⟩
abbrev D43 (K : PySem.W.Frag) (fd : FuncData) : Prop := FunD K "_law_of_three" "_law_of_three" (defArgs (top 69)) (defBody (top 69)) sc43 [] [] (He.ga K "_law_of_three") fd
theorem S44 : FnScope N44 ["jar"] sc44 := ⟨rfl, rfl, rfl, by decide +kernel, rfl, by decide +kernel, by decide +kernel⟩
abbrev D44 (K : PySem.W.Frag) (fd : FuncData) : Prop := FunD K "_law_right" "_law_right" (defArgs (top 70)) (defBody (top 70)) sc44 [] [] (He.ga K "_law_right") fd
theorem S45 : FnScope N45 ["script"] sc45 := ⟨rfl, rfl, rfl, by decide +kernel, rfl, by decide +kernel, by decide +kernel⟩
abbrev D45 (K : PySem.W.Frag) (fd : FuncData) : Prop := FunD K "law" "law" (defArgs (top 71)) (defBody (top 71)) sc45 [] [] (He.ga K "law") fd
structure Ds (K : PySem.W.Frag) : Prop where
  d0 : ∃ fd, D0 K fd
  d1 : ∃ fd, D1 K fd
  d2 : ∃ fd, D2 K fd
  d3 : ∃ fd, D3 K fd
  d4 : ∃ fd, D4 K fd
  d5 : ∃ fd, D5 K fd
  d6 : ∃ fd, D6 K fd
  d7 : ∃ fd, D7 K fd
  d8 : ∃ fd, D8 K fd
  d9 : ∃ fd, D9 K fd
  d10 : ∃ fd, D10 K fd
  d11 : ∃ fd, D11 K fd
  d12 : ∃ fd, D12 K fd
  d13 : ∃ fd, D13 K fd
  d14 : ∃ fd, D14 K fd
  d15 : ∃ fd, D15 K fd
  d16 : ∃ fd, D16 K fd
  d17 : ∃ fd, D17 K fd
  d18 : ∃ fd, D18 K fd
  d19 : ∃ fd, D19 K fd
  d20 : ∃ fd, D20 K fd
  d21 : ∃ fd, D21 K fd
  d22 : ∃ fd, D22 K fd
  d23 : ∃ fd, D23 K fd
  d24 : ∃ fd, D24 K fd
  d25 : ∃ fd, D25 K fd
  d26 : ∃ fd, D26 K fd
  d27 : ∃ fd, D27 K fd
  d28 : ∃ fd, D28 K fd
  d29 : ∃ fd, D29 K fd
  d30 : ∃ fd, D30 K fd
  d31 : ∃ fd, D31 K fd
  d32 : ∃ fd, D32 K fd
  d33 : ∃ fd, D33 K fd
  d34 : ∃ fd, D34 K fd
  d35 : ∃ fd, D35 K fd
  d36 : ∃ fd, D36 K fd
  d37 : ∃ fd, D37 K fd
  d38 : ∃ fd, D38 K fd
  d39 : ∃ fd, D39 K fd
  d40 : ∃ fd, D40 K fd
  d41 : ∃ fd, D41 K fd
  d42 : ∃ fd, D42 K fd
  d43 : ∃ fd, D43 K fd
  d44 : ∃ fd, D44 K fd
  d45 : ∃ fd, D45 K fd
structure Mg (K : PySem.W.Frag) (mg : Str → Option Value) : Prop where
  m0 : mg "is_int" = some (.ref (He.ga K "is_int"))
  m1 : mg "is_within" = some (.ref (He.ga K "is_within"))
  m2 : mg "choices" = some (.ref (He.ga K "choices"))
  m3 : mg "lots_of" = some (.ref (He.ga K "lots_of"))
  m4 : mg "is_lot_of" = some (.ref (He.ga K "is_lot_of"))
  m5 : mg "is_system_of" = some (.ref (He.ga K "is_system_of"))
  m6 : mg "holds" = some (.ref (He.ga K "holds"))
  m7 : mg "require_system" = some (.ref (He.ga K "require_system"))
  m8 : mg "require_size" = some (.ref (He.ga K "require_size"))
  m9 : mg "require_strength" = some (.ref (He.ga K "require_strength"))
  m10 : mg "size_bar" = some (.ref (He.ga K "size_bar"))
  m11 : mg "do_share" = some (.ref (He.ga K "do_share"))
  m12 : mg "packed_bar" = some (.ref (He.ga K "packed_bar"))
  m13 : mg "bare_lot" = some (.ref (He.ga K "bare_lot"))
  m14 : mg "covering_bar" = some (.ref (He.ga K "covering_bar"))
  m15 : mg "is_size_bar" = some (.ref (He.ga K "is_size_bar"))
  m16 : mg "most_in" = some (.ref (He.ga K "most_in"))
  m17 : mg "fewest_in" = some (.ref (He.ga K "fewest_in"))
  m18 : mg "packed_in" = some (.ref (He.ga K "packed_in"))
  m19 : mg "covering_with" = some (.ref (He.ga K "covering_with"))
  m20 : mg "covered_in" = some (.ref (He.ga K "covered_in"))
  m21 : mg "covering_in" = some (.ref (He.ga K "covering_in"))
  m22 : mg "require_three" = some (.ref (He.ga K "require_three"))
  m23 : mg "require_few" = some (.ref (He.ga K "require_few"))
  m24 : mg "require_number" = some (.ref (He.ga K "require_number"))
  m25 : mg "packed_paper" = some (.ref (He.ga K "packed_paper"))
  m26 : mg "is_packed_paper" = some (.ref (He.ga K "is_packed_paper"))
  m27 : mg "covering_paper" = some (.ref (He.ga K "covering_paper"))
  m28 : mg "is_covering_paper" = some (.ref (He.ga K "is_covering_paper"))
  m29 : mg "most_blocks" = some (.ref (He.ga K "most_blocks"))
  m30 : mg "fewest_blocks" = some (.ref (He.ga K "fewest_blocks"))
  m31 : mg "most_triples" = some (.ref (He.ga K "most_triples"))
  m32 : mg "fewest_triples" = some (.ref (He.ga K "fewest_triples"))
  m33 : mg "packed_number" = some (.ref (He.ga K "packed_number"))
  m34 : mg "some_packed" = some (.ref (He.ga K "some_packed"))
  m35 : mg "covering_number" = some (.ref (He.ga K "covering_number"))
  m36 : mg "some_covering" = some (.ref (He.ga K "some_covering"))
  m37 : mg "_law_jar" = some (.ref (He.ga K "_law_jar"))
  m38 : mg "_law_dip" = some (.ref (He.ga K "_law_dip"))
  m39 : mg "_law_one" = some (.ref (He.ga K "_law_one"))
  m40 : mg "_law_met" = some (.ref (He.ga K "_law_met"))
  m41 : mg "_law_no_system" = some (.ref (He.ga K "_law_no_system"))
  m42 : mg "_law_of_system" = some (.ref (He.ga K "_law_of_system"))
  m43 : mg "_law_of_three" = some (.ref (He.ga K "_law_of_three"))
  m44 : mg "_law_right" = some (.ref (He.ga K "_law_right"))
  m45 : mg "law" = some (.ref (He.ga K "law"))
section
variable {P : Program} {w : World} {K : PySem.W.Frag} {mg : Str → Option Value} {base : Heap} {S : Sc}
structure Fs (P : Program) (w : World) (K : PySem.W.Frag) (mg : Str → Option Value) (base : Heap) (S : Sc) (n : Nat) : Prop where
  f0 : FnG P w K mg base (L2.CX P w) (3 * n) (He.ga K "is_int") (spI S K pg n 0)
  f1 : FnG P w K mg base (L2.CX P w) (3 * n) (He.ga K "is_within") (spI S K pg n 1)
  f2 : FnG P w K mg base (L2.CX P w) (3 * n) (He.ga K "choices") (spI S K pg n 2)
  f3 : FnG P w K mg base (L2.CX P w) (3 * n) (He.ga K "lots_of") (spI S K pg n 3)
  f4 : FnG P w K mg base (L2.CX P w) (3 * n) (He.ga K "is_lot_of") (spI S K pg n 4)
  f5 : FnG P w K mg base (L2.CX P w) (3 * n) (He.ga K "is_system_of") (spI S K pg n 5)
  f6 : FnG P w K mg base (L2.CX P w) (3 * n) (He.ga K "holds") (spI S K pg n 6)
  f7 : FnG P w K mg base (L2.CX P w) (3 * n) (He.ga K "require_system") (spI S K pg n 7)
  f8 : FnG P w K mg base (L2.CX P w) (3 * n) (He.ga K "require_size") (spI S K pg n 8)
  f9 : FnG P w K mg base (L2.CX P w) (3 * n) (He.ga K "require_strength") (spI S K pg n 9)
  f10 : FnG P w K mg base (L2.CX P w) (3 * n) (He.ga K "size_bar") (spI S K pg n 10)
  f11 : FnG P w K mg base (L2.CX P w) (3 * n) (He.ga K "do_share") (spI S K pg n 11)
  f12 : FnG P w K mg base (L2.CX P w) (3 * n) (He.ga K "packed_bar") (spI S K pg n 12)
  f13 : FnG P w K mg base (L2.CX P w) (3 * n) (He.ga K "bare_lot") (spI S K pg n 13)
  f14 : FnG P w K mg base (L2.CX P w) (3 * n) (He.ga K "covering_bar") (spI S K pg n 14)
  f15 : FnG P w K mg base (L2.CX P w) (3 * n) (He.ga K "is_size_bar") (spI S K pg n 15)
  f16 : FnG P w K mg base (L2.CX P w) (3 * n) (He.ga K "most_in") (spI S K pg n 16)
  f17 : FnG P w K mg base (L2.CX P w) (3 * n) (He.ga K "fewest_in") (spI S K pg n 17)
  f18 : FnG P w K mg base (L2.CX P w) (3 * n) (He.ga K "packed_in") (spI S K pg n 18)
  f19 : FnG P w K mg base (L2.CX P w) (3 * n) (He.ga K "covering_with") (spI S K pg n 19)
  f20 : FnG P w K mg base (L2.CX P w) (3 * n) (He.ga K "covered_in") (spI S K pg n 20)
  f21 : FnG P w K mg base (L2.CX P w) (3 * n) (He.ga K "covering_in") (spI S K pg n 21)
  f22 : FnG P w K mg base (L2.CX P w) (3 * n) (He.ga K "require_three") (spI S K pg n 22)
  f23 : FnG P w K mg base (L2.CX P w) (3 * n) (He.ga K "require_few") (spI S K pg n 23)
  f24 : FnG P w K mg base (L2.CX P w) (3 * n) (He.ga K "require_number") (spI S K pg n 24)
  f25 : FnG P w K mg base (L2.CX P w) (3 * n) (He.ga K "packed_paper") (spI S K pg n 25)
  f26 : FnG P w K mg base (L2.CX P w) (3 * n) (He.ga K "is_packed_paper") (spI S K pg n 26)
  f27 : FnG P w K mg base (L2.CX P w) (3 * n) (He.ga K "covering_paper") (spI S K pg n 27)
  f28 : FnG P w K mg base (L2.CX P w) (3 * n) (He.ga K "is_covering_paper") (spI S K pg n 28)
  f29 : FnG P w K mg base (L2.CX P w) (3 * n) (He.ga K "most_blocks") (spI S K pg n 29)
  f30 : FnG P w K mg base (L2.CX P w) (3 * n) (He.ga K "fewest_blocks") (spI S K pg n 30)
  f31 : FnG P w K mg base (L2.CX P w) (3 * n) (He.ga K "most_triples") (spI S K pg n 31)
  f32 : FnG P w K mg base (L2.CX P w) (3 * n) (He.ga K "fewest_triples") (spI S K pg n 32)
  f33 : FnG P w K mg base (L2.CX P w) (3 * n) (He.ga K "packed_number") (spI S K pg n 33)
  f34 : FnG P w K mg base (L2.CX P w) (3 * n) (He.ga K "some_packed") (spI S K pg n 34)
  f35 : FnG P w K mg base (L2.CX P w) (3 * n) (He.ga K "covering_number") (spI S K pg n 35)
  f36 : FnG P w K mg base (L2.CX P w) (3 * n) (He.ga K "some_covering") (spI S K pg n 36)
  f37 : FnG P w K mg base (L2.CX P w) (3 * n) (He.ga K "_law_jar") (spI S K pg n 37)
  f38 : FnG P w K mg base (L2.CX P w) (3 * n) (He.ga K "_law_dip") (spI S K pg n 38)
  f39 : FnG P w K mg base (L2.CX P w) (3 * n) (He.ga K "_law_one") (spI S K pg n 39)
  f40 : FnG P w K mg base (L2.CX P w) (3 * n) (He.ga K "_law_met") (spI S K pg n 40)
  f41 : FnG P w K mg base (L2.CX P w) (3 * n) (He.ga K "_law_no_system") (spI S K pg n 41)
  f42 : FnG P w K mg base (L2.CX P w) (3 * n) (He.ga K "_law_of_system") (spI S K pg n 42)
  f43 : FnG P w K mg base (L2.CX P w) (3 * n) (He.ga K "_law_of_three") (spI S K pg n 43)
  f44 : FnG P w K mg base (L2.CX P w) (3 * n) (He.ga K "_law_right") (spI S K pg n 44)
  f45 : FnG P w K mg base (L2.CX P w) (3 * n) (He.ga K "law") (spI S K pg n 45)
structure Tbs (K : PySem.W.Frag) (mg : Str → Option Value) (base : Heap) (S : Sc) : Prop where
  t42 : TabL S mg base (He.codeOf K ("_law_of_system", none)) (He.tabOf K (He.codeOf K ("_law_of_system", none))) (("_law_of_system" ++ ".<locals>.") ++ "<lambda>")
  t43 : TabL S mg base (He.codeOf K ("_law_of_three", none)) (He.tabOf K (He.codeOf K ("_law_of_three", none))) (("_law_of_three" ++ ".<locals>.") ++ "<lambda>")
  t44 : TabL S mg base (He.codeOf K ("_law_right", none)) (He.tabOf K (He.codeOf K ("_law_right", none))) (("_law_right" ++ ".<locals>.") ++ "<lambda>")
theorem cls {X : Cx} {S : Sc} {C : Cv} {n : Nat} (F : Fs X.prog X.w X.K X.mg X.base S n) (M : Mg X.K X.mg) (d : Ds X.K) (hr : Room (3 * n) X.A) (hC : C.F = runF pg n) : Cl X S C where
  c0 := by
    obtain ⟨fd, D⟩ := d.d0
    exact ⟨pg, n, _, F.f0, hr, M.m0, D.kp, by rw [hC]⟩
  c1 := by
    obtain ⟨fd, D⟩ := d.d1
    exact ⟨pg, n, _, F.f1, hr, M.m1, D.kp, by rw [hC]⟩
  c2 := by
    obtain ⟨fd, D⟩ := d.d2
    exact ⟨pg, n, _, F.f2, hr, M.m2, D.kp, by rw [hC]⟩
  c3 := by
    obtain ⟨fd, D⟩ := d.d3
    exact ⟨pg, n, _, F.f3, hr, M.m3, D.kp, by rw [hC]⟩
  c4 := by
    obtain ⟨fd, D⟩ := d.d4
    exact ⟨pg, n, _, F.f4, hr, M.m4, D.kp, by rw [hC]⟩
  c5 := by
    obtain ⟨fd, D⟩ := d.d5
    exact ⟨pg, n, _, F.f5, hr, M.m5, D.kp, by rw [hC]⟩
  c6 := by
    obtain ⟨fd, D⟩ := d.d6
    exact ⟨pg, n, _, F.f6, hr, M.m6, D.kp, by rw [hC]⟩
  c7 := by
    obtain ⟨fd, D⟩ := d.d7
    exact ⟨pg, n, _, F.f7, hr, M.m7, D.kp, by rw [hC]⟩
  c8 := by
    obtain ⟨fd, D⟩ := d.d8
    exact ⟨pg, n, _, F.f8, hr, M.m8, D.kp, by rw [hC]⟩
  c9 := by
    obtain ⟨fd, D⟩ := d.d9
    exact ⟨pg, n, _, F.f9, hr, M.m9, D.kp, by rw [hC]⟩
  c10 := by
    obtain ⟨fd, D⟩ := d.d10
    exact ⟨pg, n, _, F.f10, hr, M.m10, D.kp, by rw [hC]⟩
  c11 := by
    obtain ⟨fd, D⟩ := d.d11
    exact ⟨pg, n, _, F.f11, hr, M.m11, D.kp, by rw [hC]⟩
  c12 := by
    obtain ⟨fd, D⟩ := d.d12
    exact ⟨pg, n, _, F.f12, hr, M.m12, D.kp, by rw [hC]⟩
  c13 := by
    obtain ⟨fd, D⟩ := d.d13
    exact ⟨pg, n, _, F.f13, hr, M.m13, D.kp, by rw [hC]⟩
  c14 := by
    obtain ⟨fd, D⟩ := d.d14
    exact ⟨pg, n, _, F.f14, hr, M.m14, D.kp, by rw [hC]⟩
  c15 := by
    obtain ⟨fd, D⟩ := d.d15
    exact ⟨pg, n, _, F.f15, hr, M.m15, D.kp, by rw [hC]⟩
  c16 := by
    obtain ⟨fd, D⟩ := d.d16
    exact ⟨pg, n, _, F.f16, hr, M.m16, D.kp, by rw [hC]⟩
  c17 := by
    obtain ⟨fd, D⟩ := d.d17
    exact ⟨pg, n, _, F.f17, hr, M.m17, D.kp, by rw [hC]⟩
  c18 := by
    obtain ⟨fd, D⟩ := d.d18
    exact ⟨pg, n, _, F.f18, hr, M.m18, D.kp, by rw [hC]⟩
  c19 := by
    obtain ⟨fd, D⟩ := d.d19
    exact ⟨pg, n, _, F.f19, hr, M.m19, D.kp, by rw [hC]⟩
  c20 := by
    obtain ⟨fd, D⟩ := d.d20
    exact ⟨pg, n, _, F.f20, hr, M.m20, D.kp, by rw [hC]⟩
  c21 := by
    obtain ⟨fd, D⟩ := d.d21
    exact ⟨pg, n, _, F.f21, hr, M.m21, D.kp, by rw [hC]⟩
  c22 := by
    obtain ⟨fd, D⟩ := d.d22
    exact ⟨pg, n, _, F.f22, hr, M.m22, D.kp, by rw [hC]⟩
  c23 := by
    obtain ⟨fd, D⟩ := d.d23
    exact ⟨pg, n, _, F.f23, hr, M.m23, D.kp, by rw [hC]⟩
  c24 := by
    obtain ⟨fd, D⟩ := d.d24
    exact ⟨pg, n, _, F.f24, hr, M.m24, D.kp, by rw [hC]⟩
  c25 := by
    obtain ⟨fd, D⟩ := d.d25
    exact ⟨pg, n, _, F.f25, hr, M.m25, D.kp, by rw [hC]⟩
  c26 := by
    obtain ⟨fd, D⟩ := d.d26
    exact ⟨pg, n, _, F.f26, hr, M.m26, D.kp, by rw [hC]⟩
  c27 := by
    obtain ⟨fd, D⟩ := d.d27
    exact ⟨pg, n, _, F.f27, hr, M.m27, D.kp, by rw [hC]⟩
  c28 := by
    obtain ⟨fd, D⟩ := d.d28
    exact ⟨pg, n, _, F.f28, hr, M.m28, D.kp, by rw [hC]⟩
  c29 := by
    obtain ⟨fd, D⟩ := d.d29
    exact ⟨pg, n, _, F.f29, hr, M.m29, D.kp, by rw [hC]⟩
  c30 := by
    obtain ⟨fd, D⟩ := d.d30
    exact ⟨pg, n, _, F.f30, hr, M.m30, D.kp, by rw [hC]⟩
  c31 := by
    obtain ⟨fd, D⟩ := d.d31
    exact ⟨pg, n, _, F.f31, hr, M.m31, D.kp, by rw [hC]⟩
  c32 := by
    obtain ⟨fd, D⟩ := d.d32
    exact ⟨pg, n, _, F.f32, hr, M.m32, D.kp, by rw [hC]⟩
  c33 := by
    obtain ⟨fd, D⟩ := d.d33
    exact ⟨pg, n, _, F.f33, hr, M.m33, D.kp, by rw [hC]⟩
  c34 := by
    obtain ⟨fd, D⟩ := d.d34
    exact ⟨pg, n, _, F.f34, hr, M.m34, D.kp, by rw [hC]⟩
  c35 := by
    obtain ⟨fd, D⟩ := d.d35
    exact ⟨pg, n, _, F.f35, hr, M.m35, D.kp, by rw [hC]⟩
  c36 := by
    obtain ⟨fd, D⟩ := d.d36
    exact ⟨pg, n, _, F.f36, hr, M.m36, D.kp, by rw [hC]⟩
  c37 := by
    obtain ⟨fd, D⟩ := d.d37
    exact ⟨pg, n, _, F.f37, hr, M.m37, D.kp, by rw [hC]⟩
  c38 := by
    obtain ⟨fd, D⟩ := d.d38
    exact ⟨pg, n, _, F.f38, hr, M.m38, D.kp, by rw [hC]⟩
  c39 := by
    obtain ⟨fd, D⟩ := d.d39
    exact ⟨pg, n, _, F.f39, hr, M.m39, D.kp, by rw [hC]⟩
  c40 := by
    obtain ⟨fd, D⟩ := d.d40
    exact ⟨pg, n, _, F.f40, hr, M.m40, D.kp, by rw [hC]⟩
  c41 := by
    obtain ⟨fd, D⟩ := d.d41
    exact ⟨pg, n, _, F.f41, hr, M.m41, D.kp, by rw [hC]⟩
  c42 := by
    obtain ⟨fd, D⟩ := d.d42
    exact ⟨pg, n, _, F.f42, hr, M.m42, D.kp, by rw [hC]⟩
  c43 := by
    obtain ⟨fd, D⟩ := d.d43
    exact ⟨pg, n, _, F.f43, hr, M.m43, D.kp, by rw [hC]⟩
  c44 := by
    obtain ⟨fd, D⟩ := d.d44
    exact ⟨pg, n, _, F.f44, hr, M.m44, D.kp, by rw [hC]⟩
  c45 := by
    obtain ⟨fd, D⟩ := d.d45
    exact ⟨pg, n, _, F.f45, hr, M.m45, D.kp, by rw [hC]⟩
theorem lm40 {n : Nat} (M : Mg K mg) (d : Ds K) (gl : Gl1 mg) (xs : Xs P K mg S) : GetsL S P w K mg base ⟨runF pg n, runG pg (runF pg n), pg.wf, none, none⟩ 40 "_law_met" := by
  obtain ⟨fd, D⟩ := d.d40
  exact getsL_of (a := "call") D M.m40 (D.bindsN fun _ _ _ _ _ _ us hl => match us, hl with | [_], _ => rfl) S40 rfl (.inl rfl) (fun cdv => q40 xs gl) ⟨_, _, fun lam h => rfl⟩
theorem r0 {n : Nat} (F : Fs P w K mg base S n) (M : Mg K mg) (d : Ds K) (gl : Gl1 mg) (xs : Xs P K mg S) (tb : Tbs K mg base S) : FnG P w K mg base (L2.CX P w) (3 * (n + 1)) (He.ga K "is_int") (spI S K pg (n + 1) 0) := by
  obtain ⟨fd, D⟩ := d.d0
  exact fnG_step D S0 rfl rfl (by decide) (D.bindsN fun _ _ _ _ _ _ us hl => match us, hl with | [_], _ => rfl) (fun cdv hcd A outer s H E gd hr => p0 (xk_of S0 gd hr) hr gl xs (cls F M d (hr.mono (by omega)) rfl))
theorem r1 {n : Nat} (F : Fs P w K mg base S n) (M : Mg K mg) (d : Ds K) (gl : Gl1 mg) (xs : Xs P K mg S) (tb : Tbs K mg base S) : FnG P w K mg base (L2.CX P w) (3 * (n + 1)) (He.ga K "is_within") (spI S K pg (n + 1) 1) := by
  obtain ⟨fd, D⟩ := d.d1
  exact fnG_step D S1 rfl rfl (by decide) (D.bindsN fun _ _ _ _ _ _ us hl => match us, hl with | [_, _, _], _ => rfl) (fun cdv hcd A outer s H E gd hr => p1 (xk_of S1 gd hr) hr gl xs (cls F M d (hr.mono (by omega)) rfl))
theorem r2 {n : Nat} (F : Fs P w K mg base S n) (M : Mg K mg) (d : Ds K) (gl : Gl1 mg) (xs : Xs P K mg S) (tb : Tbs K mg base S) : FnG P w K mg base (L2.CX P w) (3 * (n + 1)) (He.ga K "choices") (spI S K pg (n + 1) 2) := by
  obtain ⟨fd, D⟩ := d.d2
  exact fnG_step D S2 rfl rfl (by decide) (D.bindsN fun _ _ _ _ _ _ us hl => match us, hl with | [_, _], _ => rfl) (fun cdv hcd A outer s H E gd hr => p2 (xk_of S2 gd hr) hr gl xs (cls F M d (hr.mono (by omega)) rfl))
theorem r3 {n : Nat} (F : Fs P w K mg base S n) (M : Mg K mg) (d : Ds K) (gl : Gl1 mg) (xs : Xs P K mg S) (tb : Tbs K mg base S) : FnG P w K mg base (L2.CX P w) (3 * (n + 1)) (He.ga K "lots_of") (spI S K pg (n + 1) 3) := by
  obtain ⟨fd, D⟩ := d.d3
  exact fnG_step D S3 rfl rfl (by decide) (D.bindsN fun _ _ _ _ _ _ us hl => match us, hl with | [_, _], _ => rfl) (fun cdv hcd A outer s H E gd hr => p3 (xk_of S3 gd hr) hr gl xs (cls F M d (hr.mono (by omega)) rfl))
theorem r4 {n : Nat} (F : Fs P w K mg base S n) (M : Mg K mg) (d : Ds K) (gl : Gl1 mg) (xs : Xs P K mg S) (tb : Tbs K mg base S) : FnG P w K mg base (L2.CX P w) (3 * (n + 1)) (He.ga K "is_lot_of") (spI S K pg (n + 1) 4) := by
  obtain ⟨fd, D⟩ := d.d4
  exact fnG_step D S4 rfl rfl (by decide) (D.bindsN fun _ _ _ _ _ _ us hl => match us, hl with | [_, _], _ => rfl) (fun cdv hcd A outer s H E gd hr => p4 (xk_of S4 gd hr) hr gl xs (cls F M d (hr.mono (by omega)) rfl))
theorem r5 {n : Nat} (F : Fs P w K mg base S n) (M : Mg K mg) (d : Ds K) (gl : Gl1 mg) (xs : Xs P K mg S) (tb : Tbs K mg base S) : FnG P w K mg base (L2.CX P w) (3 * (n + 1)) (He.ga K "is_system_of") (spI S K pg (n + 1) 5) := by
  obtain ⟨fd, D⟩ := d.d5
  exact fnG_step D S5 rfl rfl (by decide) (D.bindsN fun _ _ _ _ _ _ us hl => match us, hl with | [_], _ => rfl) (fun cdv hcd A outer s H E gd hr => p5 (xk_of S5 gd hr) hr gl xs (cls F M d (hr.mono (by omega)) rfl))
theorem r6 {n : Nat} (F : Fs P w K mg base S n) (M : Mg K mg) (d : Ds K) (gl : Gl1 mg) (xs : Xs P K mg S) (tb : Tbs K mg base S) : FnG P w K mg base (L2.CX P w) (3 * (n + 1)) (He.ga K "holds") (spI S K pg (n + 1) 6) := by
  obtain ⟨fd, D⟩ := d.d6
  exact fnG_step D S6 rfl rfl (by decide) (D.bindsN fun _ _ _ _ _ _ us hl => match us, hl with | [_, _], _ => rfl) (fun cdv hcd A outer s H E gd hr => p6 (xk_of S6 gd hr) hr gl xs (cls F M d (hr.mono (by omega)) rfl))
theorem r7 {n : Nat} (F : Fs P w K mg base S n) (M : Mg K mg) (d : Ds K) (gl : Gl1 mg) (xs : Xs P K mg S) (tb : Tbs K mg base S) : FnG P w K mg base (L2.CX P w) (3 * (n + 1)) (He.ga K "require_system") (spI S K pg (n + 1) 7) := by
  obtain ⟨fd, D⟩ := d.d7
  refine fnG_star (ps := []) (pv := "systems") D S7 rfl rfl (by decide) (fun us rest hl => ?_) (fun cdv hcd A outer s H E gd hr => p7 (xk_of S7 gd hr) hr gl xs (cls F M d (hr.mono (by omega)) rfl))
  obtain ⟨oc, od, dV, kV, doc, pm, an, cdv, ct, osl, rfl, lk, hcd, hD, hK⟩ := D.ex
  rcases hD with ⟨_, rfl⟩ | ⟨e, _⟩
  · match us, hl, rest with
    | [], _, [] => rfl
    | [], _, _ :: _ => rfl
  · exact absurd rfl e
theorem r8 {n : Nat} (F : Fs P w K mg base S n) (M : Mg K mg) (d : Ds K) (gl : Gl1 mg) (xs : Xs P K mg S) (tb : Tbs K mg base S) : FnG P w K mg base (L2.CX P w) (3 * (n + 1)) (He.ga K "require_size") (spI S K pg (n + 1) 8) := by
  obtain ⟨fd, D⟩ := d.d8
  exact fnG_step D S8 rfl rfl (by decide) (D.bindsN fun _ _ _ _ _ _ us hl => match us, hl with | [_], _ => rfl) (fun cdv hcd A outer s H E gd hr => p8 (xk_of S8 gd hr) hr gl xs (cls F M d (hr.mono (by omega)) rfl))
theorem r9 {n : Nat} (F : Fs P w K mg base S n) (M : Mg K mg) (d : Ds K) (gl : Gl1 mg) (xs : Xs P K mg S) (tb : Tbs K mg base S) : FnG P w K mg base (L2.CX P w) (3 * (n + 1)) (He.ga K "require_strength") (spI S K pg (n + 1) 9) := by
  obtain ⟨fd, D⟩ := d.d9
  exact fnG_step D S9 rfl rfl (by decide) (D.bindsN fun _ _ _ _ _ _ us hl => match us, hl with | [_], _ => rfl) (fun cdv hcd A outer s H E gd hr => p9 (xk_of S9 gd hr) hr gl xs (cls F M d (hr.mono (by omega)) rfl))
theorem r10 {n : Nat} (F : Fs P w K mg base S n) (M : Mg K mg) (d : Ds K) (gl : Gl1 mg) (xs : Xs P K mg S) (tb : Tbs K mg base S) : FnG P w K mg base (L2.CX P w) (3 * (n + 1)) (He.ga K "size_bar") (spI S K pg (n + 1) 10) := by
  obtain ⟨fd, D⟩ := d.d10
  exact fnG_step D S10 rfl rfl (by decide) (D.bindsN fun _ _ _ _ _ _ us hl => match us, hl with | [_, _], _ => rfl) (fun cdv hcd A outer s H E gd hr => p10 (xk_of S10 gd hr) hr gl xs (cls F M d (hr.mono (by omega)) rfl))
theorem r11 {n : Nat} (F : Fs P w K mg base S n) (M : Mg K mg) (d : Ds K) (gl : Gl1 mg) (xs : Xs P K mg S) (tb : Tbs K mg base S) : FnG P w K mg base (L2.CX P w) (3 * (n + 1)) (He.ga K "do_share") (spI S K pg (n + 1) 11) := by
  obtain ⟨fd, D⟩ := d.d11
  exact fnG_step D S11 rfl rfl (by decide) (D.bindsN fun _ _ _ _ _ _ us hl => match us, hl with | [_, _, _], _ => rfl) (fun cdv hcd A outer s H E gd hr => p11 (xk_of S11 gd hr) hr gl xs (cls F M d (hr.mono (by omega)) rfl))
theorem r12 {n : Nat} (F : Fs P w K mg base S n) (M : Mg K mg) (d : Ds K) (gl : Gl1 mg) (xs : Xs P K mg S) (tb : Tbs K mg base S) : FnG P w K mg base (L2.CX P w) (3 * (n + 1)) (He.ga K "packed_bar") (spI S K pg (n + 1) 12) := by
  obtain ⟨fd, D⟩ := d.d12
  exact fnG_step D S12 rfl rfl (by decide) (D.bindsN fun _ _ _ _ _ _ us hl => match us, hl with | [_, _], _ => rfl) (fun cdv hcd A outer s H E gd hr => p12 (xk_of S12 gd hr) hr gl xs (cls F M d (hr.mono (by omega)) rfl))
theorem r13 {n : Nat} (F : Fs P w K mg base S n) (M : Mg K mg) (d : Ds K) (gl : Gl1 mg) (xs : Xs P K mg S) (tb : Tbs K mg base S) : FnG P w K mg base (L2.CX P w) (3 * (n + 1)) (He.ga K "bare_lot") (spI S K pg (n + 1) 13) := by
  obtain ⟨fd, D⟩ := d.d13
  exact fnG_step D S13 rfl rfl (by decide) (D.bindsN fun _ _ _ _ _ _ us hl => match us, hl with | [_, _, _], _ => rfl) (fun cdv hcd A outer s H E gd hr => p13 (xk_of S13 gd hr) hr gl xs (cls F M d (hr.mono (by omega)) rfl))
theorem r14 {n : Nat} (F : Fs P w K mg base S n) (M : Mg K mg) (d : Ds K) (gl : Gl1 mg) (xs : Xs P K mg S) (tb : Tbs K mg base S) : FnG P w K mg base (L2.CX P w) (3 * (n + 1)) (He.ga K "covering_bar") (spI S K pg (n + 1) 14) := by
  obtain ⟨fd, D⟩ := d.d14
  exact fnG_step D S14 rfl rfl (by decide) (D.bindsN fun _ _ _ _ _ _ us hl => match us, hl with | [_, _], _ => rfl) (fun cdv hcd A outer s H E gd hr => p14 (xk_of S14 gd hr) hr gl xs (cls F M d (hr.mono (by omega)) rfl))
theorem r15 {n : Nat} (F : Fs P w K mg base S n) (M : Mg K mg) (d : Ds K) (gl : Gl1 mg) (xs : Xs P K mg S) (tb : Tbs K mg base S) : FnG P w K mg base (L2.CX P w) (3 * (n + 1)) (He.ga K "is_size_bar") (spI S K pg (n + 1) 15) := by
  obtain ⟨fd, D⟩ := d.d15
  exact fnG_step D S15 rfl rfl (by decide) (D.bindsN fun _ _ _ _ _ _ us hl => match us, hl with | [_, _, _], _ => rfl) (fun cdv hcd A outer s H E gd hr => p15 (xk_of S15 gd hr) hr gl xs (cls F M d (hr.mono (by omega)) rfl))
theorem r16 {n : Nat} (F : Fs P w K mg base S n) (M : Mg K mg) (d : Ds K) (gl : Gl1 mg) (xs : Xs P K mg S) (tb : Tbs K mg base S) : FnG P w K mg base (L2.CX P w) (3 * (n + 1)) (He.ga K "most_in") (spI S K pg (n + 1) 16) := by
  obtain ⟨fd, D⟩ := d.d16
  exact fnG_step D S16 rfl rfl (by decide) (D.bindsN fun _ _ _ _ _ _ us hl => match us, hl with | [_, _, _], _ => rfl) (fun cdv hcd A outer s H E gd hr => p16 (xk_of S16 gd hr) hr gl xs (cls F M d (hr.mono (by omega)) rfl))
theorem r17 {n : Nat} (F : Fs P w K mg base S n) (M : Mg K mg) (d : Ds K) (gl : Gl1 mg) (xs : Xs P K mg S) (tb : Tbs K mg base S) : FnG P w K mg base (L2.CX P w) (3 * (n + 1)) (He.ga K "fewest_in") (spI S K pg (n + 1) 17) := by
  obtain ⟨fd, D⟩ := d.d17
  exact fnG_step D S17 rfl rfl (by decide) (D.bindsN fun _ _ _ _ _ _ us hl => match us, hl with | [_, _, _], _ => rfl) (fun cdv hcd A outer s H E gd hr => p17 (xk_of S17 gd hr) hr gl xs (cls F M d (hr.mono (by omega)) rfl))
theorem r18 {n : Nat} (F : Fs P w K mg base S n) (M : Mg K mg) (d : Ds K) (gl : Gl1 mg) (xs : Xs P K mg S) (tb : Tbs K mg base S) : FnG P w K mg base (L2.CX P w) (3 * (n + 1)) (He.ga K "packed_in") (spI S K pg (n + 1) 18) := by
  obtain ⟨fd, D⟩ := d.d18
  exact fnG_step D S18 rfl rfl (by decide) (D.bindsN fun _ _ _ _ _ _ us hl => match us, hl with | [_, _, _], _ => rfl) (fun cdv hcd A outer s H E gd hr => p18 (xk_of S18 gd hr) hr gl xs (cls F M d (hr.mono (by omega)) rfl))
theorem r19 {n : Nat} (F : Fs P w K mg base S n) (M : Mg K mg) (d : Ds K) (gl : Gl1 mg) (xs : Xs P K mg S) (tb : Tbs K mg base S) : FnG P w K mg base (L2.CX P w) (3 * (n + 1)) (He.ga K "covering_with") (spI S K pg (n + 1) 19) := by
  obtain ⟨fd, D⟩ := d.d19
  exact fnG_step D S19 rfl rfl (by decide) (D.bindsN fun _ _ _ _ _ _ us hl => match us, hl with | [_, _, _, _], _ => rfl) (fun cdv hcd A outer s H E gd hr => p19 (xk_of S19 gd hr) hr gl xs (cls F M d (hr.mono (by omega)) rfl))
theorem r20 {n : Nat} (F : Fs P w K mg base S n) (M : Mg K mg) (d : Ds K) (gl : Gl1 mg) (xs : Xs P K mg S) (tb : Tbs K mg base S) : FnG P w K mg base (L2.CX P w) (3 * (n + 1)) (He.ga K "covered_in") (spI S K pg (n + 1) 20) := by
  obtain ⟨fd, D⟩ := d.d20
  exact fnG_step D S20 rfl rfl (by decide) (D.bindsN fun _ _ _ _ _ _ us hl => match us, hl with | [_, _, _], _ => rfl) (fun cdv hcd A outer s H E gd hr => p20 (xk_of S20 gd hr) hr gl xs (cls F M d (hr.mono (by omega)) rfl))
theorem r21 {n : Nat} (F : Fs P w K mg base S n) (M : Mg K mg) (d : Ds K) (gl : Gl1 mg) (xs : Xs P K mg S) (tb : Tbs K mg base S) : FnG P w K mg base (L2.CX P w) (3 * (n + 1)) (He.ga K "covering_in") (spI S K pg (n + 1) 21) := by
  obtain ⟨fd, D⟩ := d.d21
  exact fnG_step D S21 rfl rfl (by decide) (D.bindsN fun _ _ _ _ _ _ us hl => match us, hl with | [_, _, _], _ => rfl) (fun cdv hcd A outer s H E gd hr => p21 (xk_of S21 gd hr) hr gl xs (cls F M d (hr.mono (by omega)) rfl))
theorem r22 {n : Nat} (F : Fs P w K mg base S n) (M : Mg K mg) (d : Ds K) (gl : Gl1 mg) (xs : Xs P K mg S) (tb : Tbs K mg base S) : FnG P w K mg base (L2.CX P w) (3 * (n + 1)) (He.ga K "require_three") (spI S K pg (n + 1) 22) := by
  obtain ⟨fd, D⟩ := d.d22
  exact fnG_step D S22 rfl rfl (by decide) (D.bindsN fun _ _ _ _ _ _ us hl => match us, hl with | [_, _, _], _ => rfl) (fun cdv hcd A outer s H E gd hr => p22 (xk_of S22 gd hr) hr gl xs (cls F M d (hr.mono (by omega)) rfl))
theorem r23 {n : Nat} (F : Fs P w K mg base S n) (M : Mg K mg) (d : Ds K) (gl : Gl1 mg) (xs : Xs P K mg S) (tb : Tbs K mg base S) : FnG P w K mg base (L2.CX P w) (3 * (n + 1)) (He.ga K "require_few") (spI S K pg (n + 1) 23) := by
  obtain ⟨fd, D⟩ := d.d23
  exact fnG_step D S23 rfl rfl (by decide) (D.bindsN fun _ _ _ _ _ _ us hl => match us, hl with | [_, _, _], _ => rfl) (fun cdv hcd A outer s H E gd hr => p23 (xk_of S23 gd hr) hr gl xs (cls F M d (hr.mono (by omega)) rfl))
theorem r24 {n : Nat} (F : Fs P w K mg base S n) (M : Mg K mg) (d : Ds K) (gl : Gl1 mg) (xs : Xs P K mg S) (tb : Tbs K mg base S) : FnG P w K mg base (L2.CX P w) (3 * (n + 1)) (He.ga K "require_number") (spI S K pg (n + 1) 24) := by
  obtain ⟨fd, D⟩ := d.d24
  exact fnG_step D S24 rfl rfl (by decide) (D.bindsN fun _ _ _ _ _ _ us hl => match us, hl with | [_], _ => rfl) (fun cdv hcd A outer s H E gd hr => p24 (xk_of S24 gd hr) hr gl xs (cls F M d (hr.mono (by omega)) rfl))
theorem r25 {n : Nat} (F : Fs P w K mg base S n) (M : Mg K mg) (d : Ds K) (gl : Gl1 mg) (xs : Xs P K mg S) (tb : Tbs K mg base S) : FnG P w K mg base (L2.CX P w) (3 * (n + 1)) (He.ga K "packed_paper") (spI S K pg (n + 1) 25) := by
  obtain ⟨fd, D⟩ := d.d25
  exact fnG_step D S25 rfl rfl (by decide) (D.bindsN fun _ _ _ _ _ _ us hl => match us, hl with | [_, _], _ => rfl) (fun cdv hcd A outer s H E gd hr => p25 (xk_of S25 gd hr) hr gl xs (cls F M d (hr.mono (by omega)) rfl))
theorem r26 {n : Nat} (F : Fs P w K mg base S n) (M : Mg K mg) (d : Ds K) (gl : Gl1 mg) (xs : Xs P K mg S) (tb : Tbs K mg base S) : FnG P w K mg base (L2.CX P w) (3 * (n + 1)) (He.ga K "is_packed_paper") (spI S K pg (n + 1) 26) := by
  obtain ⟨fd, D⟩ := d.d26
  exact fnG_step D S26 rfl rfl (by decide) (D.bindsN fun _ _ _ _ _ _ us hl => match us, hl with | [_, _, _], _ => rfl) (fun cdv hcd A outer s H E gd hr => p26 (xk_of S26 gd hr) hr gl xs (cls F M d (hr.mono (by omega)) rfl))
theorem r27 {n : Nat} (F : Fs P w K mg base S n) (M : Mg K mg) (d : Ds K) (gl : Gl1 mg) (xs : Xs P K mg S) (tb : Tbs K mg base S) : FnG P w K mg base (L2.CX P w) (3 * (n + 1)) (He.ga K "covering_paper") (spI S K pg (n + 1) 27) := by
  obtain ⟨fd, D⟩ := d.d27
  exact fnG_step D S27 rfl rfl (by decide) (D.bindsN fun _ _ _ _ _ _ us hl => match us, hl with | [_, _], _ => rfl) (fun cdv hcd A outer s H E gd hr => p27 (xk_of S27 gd hr) hr gl xs (cls F M d (hr.mono (by omega)) rfl))
theorem r28 {n : Nat} (F : Fs P w K mg base S n) (M : Mg K mg) (d : Ds K) (gl : Gl1 mg) (xs : Xs P K mg S) (tb : Tbs K mg base S) : FnG P w K mg base (L2.CX P w) (3 * (n + 1)) (He.ga K "is_covering_paper") (spI S K pg (n + 1) 28) := by
  obtain ⟨fd, D⟩ := d.d28
  exact fnG_step D S28 rfl rfl (by decide) (D.bindsN fun _ _ _ _ _ _ us hl => match us, hl with | [_, _, _], _ => rfl) (fun cdv hcd A outer s H E gd hr => p28 (xk_of S28 gd hr) hr gl xs (cls F M d (hr.mono (by omega)) rfl))
theorem r29 {n : Nat} (F : Fs P w K mg base S n) (M : Mg K mg) (d : Ds K) (gl : Gl1 mg) (xs : Xs P K mg S) (tb : Tbs K mg base S) : FnG P w K mg base (L2.CX P w) (3 * (n + 1)) (He.ga K "most_blocks") (spI S K pg (n + 1) 29) := by
  obtain ⟨fd, D⟩ := d.d29
  exact fnG_step D S29 rfl rfl (by decide) (D.bindsN fun _ _ _ _ _ _ us hl => match us, hl with | [_, _, _], _ => rfl) (fun cdv hcd A outer s H E gd hr => p29 (xk_of S29 gd hr) hr gl xs (cls F M d (hr.mono (by omega)) rfl))
theorem r30 {n : Nat} (F : Fs P w K mg base S n) (M : Mg K mg) (d : Ds K) (gl : Gl1 mg) (xs : Xs P K mg S) (tb : Tbs K mg base S) : FnG P w K mg base (L2.CX P w) (3 * (n + 1)) (He.ga K "fewest_blocks") (spI S K pg (n + 1) 30) := by
  obtain ⟨fd, D⟩ := d.d30
  exact fnG_step D S30 rfl rfl (by decide) (D.bindsN fun _ _ _ _ _ _ us hl => match us, hl with | [_, _, _], _ => rfl) (fun cdv hcd A outer s H E gd hr => p30 (xk_of S30 gd hr) hr gl xs (cls F M d (hr.mono (by omega)) rfl))
theorem r31 {n : Nat} (F : Fs P w K mg base S n) (M : Mg K mg) (d : Ds K) (gl : Gl1 mg) (xs : Xs P K mg S) (tb : Tbs K mg base S) : FnG P w K mg base (L2.CX P w) (3 * (n + 1)) (He.ga K "most_triples") (spI S K pg (n + 1) 31) := by
  obtain ⟨fd, D⟩ := d.d31
  exact fnG_step D S31 rfl rfl (by decide) (D.bindsN fun _ _ _ _ _ _ us hl => match us, hl with | [_], _ => rfl) (fun cdv hcd A outer s H E gd hr => p31 (xk_of S31 gd hr) hr gl xs (cls F M d (hr.mono (by omega)) rfl))
theorem r32 {n : Nat} (F : Fs P w K mg base S n) (M : Mg K mg) (d : Ds K) (gl : Gl1 mg) (xs : Xs P K mg S) (tb : Tbs K mg base S) : FnG P w K mg base (L2.CX P w) (3 * (n + 1)) (He.ga K "fewest_triples") (spI S K pg (n + 1) 32) := by
  obtain ⟨fd, D⟩ := d.d32
  exact fnG_step D S32 rfl rfl (by decide) (D.bindsN fun _ _ _ _ _ _ us hl => match us, hl with | [_], _ => rfl) (fun cdv hcd A outer s H E gd hr => p32 (xk_of S32 gd hr) hr gl xs (cls F M d (hr.mono (by omega)) rfl))
theorem r33 {n : Nat} (F : Fs P w K mg base S n) (M : Mg K mg) (d : Ds K) (gl : Gl1 mg) (xs : Xs P K mg S) (tb : Tbs K mg base S) : FnG P w K mg base (L2.CX P w) (3 * (n + 1)) (He.ga K "packed_number") (spI S K pg (n + 1) 33) := by
  obtain ⟨fd, D⟩ := d.d33
  exact fnG_step D S33 rfl rfl (by decide) (D.bindsN fun _ _ _ _ _ _ us hl => match us, hl with | [_, _, _], _ => rfl) (fun cdv hcd A outer s H E gd hr => p33 (xk_of S33 gd hr) hr gl xs (cls F M d (hr.mono (by omega)) rfl))
theorem r34 {n : Nat} (F : Fs P w K mg base S n) (M : Mg K mg) (d : Ds K) (gl : Gl1 mg) (xs : Xs P K mg S) (tb : Tbs K mg base S) : FnG P w K mg base (L2.CX P w) (3 * (n + 1)) (He.ga K "some_packed") (spI S K pg (n + 1) 34) := by
  obtain ⟨fd, D⟩ := d.d34
  exact fnG_step D S34 rfl rfl (by decide) (D.bindsN fun _ _ _ _ _ _ us hl => match us, hl with | [_, _, _], _ => rfl) (fun cdv hcd A outer s H E gd hr => p34 (xk_of S34 gd hr) hr gl xs (cls F M d (hr.mono (by omega)) rfl))
theorem r35 {n : Nat} (F : Fs P w K mg base S n) (M : Mg K mg) (d : Ds K) (gl : Gl1 mg) (xs : Xs P K mg S) (tb : Tbs K mg base S) : FnG P w K mg base (L2.CX P w) (3 * (n + 1)) (He.ga K "covering_number") (spI S K pg (n + 1) 35) := by
  obtain ⟨fd, D⟩ := d.d35
  exact fnG_step D S35 rfl rfl (by decide) (D.bindsN fun _ _ _ _ _ _ us hl => match us, hl with | [_, _, _], _ => rfl) (fun cdv hcd A outer s H E gd hr => p35 (xk_of S35 gd hr) hr gl xs (cls F M d (hr.mono (by omega)) rfl))
theorem r36 {n : Nat} (F : Fs P w K mg base S n) (M : Mg K mg) (d : Ds K) (gl : Gl1 mg) (xs : Xs P K mg S) (tb : Tbs K mg base S) : FnG P w K mg base (L2.CX P w) (3 * (n + 1)) (He.ga K "some_covering") (spI S K pg (n + 1) 36) := by
  obtain ⟨fd, D⟩ := d.d36
  exact fnG_step D S36 rfl rfl (by decide) (D.bindsN fun _ _ _ _ _ _ us hl => match us, hl with | [_, _, _], _ => rfl) (fun cdv hcd A outer s H E gd hr => p36 (xk_of S36 gd hr) hr gl xs (cls F M d (hr.mono (by omega)) rfl))
theorem r37 {n : Nat} (F : Fs P w K mg base S n) (M : Mg K mg) (d : Ds K) (gl : Gl1 mg) (xs : Xs P K mg S) (tb : Tbs K mg base S) : FnG P w K mg base (L2.CX P w) (3 * (n + 1)) (He.ga K "_law_jar") (spI S K pg (n + 1) 37) := by
  obtain ⟨fd, D⟩ := d.d37
  exact fnG_step D S37 rfl rfl (by decide) (D.bindsN fun _ _ _ _ _ _ us hl => match us, hl with | [_, _], _ => rfl) (fun cdv hcd A outer s H E gd hr => p37 (xk_of S37 gd hr) hr gl xs (cls F M d (hr.mono (by omega)) rfl))
theorem r38 {n : Nat} (F : Fs P w K mg base S n) (M : Mg K mg) (d : Ds K) (gl : Gl1 mg) (xs : Xs P K mg S) (tb : Tbs K mg base S) : FnG P w K mg base (L2.CX P w) (3 * (n + 1)) (He.ga K "_law_dip") (spI S K pg (n + 1) 38) := by
  obtain ⟨fd, D⟩ := d.d38
  exact fnG_step D S38 rfl rfl (by decide) (D.bindsN fun _ _ _ _ _ _ us hl => match us, hl with | [_, _], _ => rfl) (fun cdv hcd A outer s H E gd hr => p38 (xk_of S38 gd hr) hr gl xs (cls F M d (hr.mono (by omega)) rfl))
theorem r39 {n : Nat} (F : Fs P w K mg base S n) (M : Mg K mg) (d : Ds K) (gl : Gl1 mg) (xs : Xs P K mg S) (tb : Tbs K mg base S) : FnG P w K mg base (L2.CX P w) (3 * (n + 1)) (He.ga K "_law_one") (spI S K pg (n + 1) 39) := by
  obtain ⟨fd, D⟩ := d.d39
  exact fnG_step D S39 rfl rfl (by decide) (D.bindsN fun _ _ _ _ _ _ us hl => match us, hl with | [_, _], _ => rfl) (fun cdv hcd A outer s H E gd hr => p39 (xk_of S39 gd hr) hr gl xs (cls F M d (hr.mono (by omega)) rfl))
theorem r40 {n : Nat} (F : Fs P w K mg base S n) (M : Mg K mg) (d : Ds K) (gl : Gl1 mg) (xs : Xs P K mg S) (tb : Tbs K mg base S) : FnG P w K mg base (L2.CX P w) (3 * (n + 1)) (He.ga K "_law_met") (spI S K pg (n + 1) 40) := by
  obtain ⟨fd, D⟩ := d.d40
  exact fnG_step D S40 rfl rfl (by decide) (D.bindsN fun _ _ _ _ _ _ us hl => match us, hl with | [_], _ => rfl) (fun cdv hcd A outer s H E gd hr => p40)
theorem r41 {n : Nat} (F : Fs P w K mg base S n) (M : Mg K mg) (d : Ds K) (gl : Gl1 mg) (xs : Xs P K mg S) (tb : Tbs K mg base S) : FnG P w K mg base (L2.CX P w) (3 * (n + 1)) (He.ga K "_law_no_system") (spI S K pg (n + 1) 41) := by
  obtain ⟨fd, D⟩ := d.d41
  exact fnG_step D S41 rfl rfl (by decide) (D.bindsN fun _ _ _ _ _ _ us hl => match us, hl with | [_], _ => rfl) (fun cdv hcd A outer s H E gd hr => p41 (xk_of S41 gd hr) hr gl xs (cls F M d (hr.mono (by omega)) rfl))
theorem r42 {n : Nat} (F : Fs P w K mg base S n) (M : Mg K mg) (d : Ds K) (gl : Gl1 mg) (xs : Xs P K mg S) (tb : Tbs K mg base S) : FnG P w K mg base (L2.CX P w) (3 * (n + 1)) (He.ga K "_law_of_system") (spI S K pg (n + 1) 42) := by
  obtain ⟨fd, D⟩ := d.d42
  exact fnG_step D S42 rfl rfl (by decide) (D.bindsN fun _ _ _ _ _ _ us hl => match us, hl with | [_, _], _ => rfl) (fun cdv hcd A outer s H E gd hr => p42 (xk_of S42 gd hr) hr gl xs (cls F M d (hr.mono (by omega)) rfl) (lm40 M d gl xs) tb.t42 (hcd.symm.trans (code_at (p := ("_law_of_system", none)) D)) (fun A2 o2 s2 H2 E2 sc2 f2 c2 hr2 => cls F M d hr2 rfl))
theorem r43 {n : Nat} (F : Fs P w K mg base S n) (M : Mg K mg) (d : Ds K) (gl : Gl1 mg) (xs : Xs P K mg S) (tb : Tbs K mg base S) : FnG P w K mg base (L2.CX P w) (3 * (n + 1)) (He.ga K "_law_of_three") (spI S K pg (n + 1) 43) := by
  obtain ⟨fd, D⟩ := d.d43
  exact fnG_step D S43 rfl rfl (by decide) (D.bindsN fun _ _ _ _ _ _ us hl => match us, hl with | [_, _, _], _ => rfl) (fun cdv hcd A outer s H E gd hr => p43 (xk_of S43 gd hr) hr gl xs (cls F M d (hr.mono (by omega)) rfl) (lm40 M d gl xs) tb.t43 (hcd.symm.trans (code_at (p := ("_law_of_three", none)) D)) (fun A2 o2 s2 H2 E2 sc2 f2 c2 hr2 => cls F M d hr2 rfl))
theorem r44 {n : Nat} (F : Fs P w K mg base S n) (M : Mg K mg) (d : Ds K) (gl : Gl1 mg) (xs : Xs P K mg S) (tb : Tbs K mg base S) : FnG P w K mg base (L2.CX P w) (3 * (n + 1)) (He.ga K "_law_right") (spI S K pg (n + 1) 44) := by
  obtain ⟨fd, D⟩ := d.d44
  exact fnG_step D S44 rfl rfl (by decide) (D.bindsN fun _ _ _ _ _ _ us hl => match us, hl with | [_], _ => rfl) (fun cdv hcd A outer s H E gd hr => p44 (xk_of S44 gd hr) hr gl xs (cls F M d (hr.mono (by omega)) rfl) (lm40 M d gl xs) tb.t44 (hcd.symm.trans (code_at (p := ("_law_right", none)) D)) (fun A2 o2 s2 H2 E2 sc2 f2 c2 hr2 => cls F M d hr2 rfl))
theorem r45 {n : Nat} (F : Fs P w K mg base S n) (M : Mg K mg) (d : Ds K) (gl : Gl1 mg) (xs : Xs P K mg S) (tb : Tbs K mg base S) : FnG P w K mg base (L2.CX P w) (3 * (n + 1)) (He.ga K "law") (spI S K pg (n + 1) 45) := by
  obtain ⟨fd, D⟩ := d.d45
  exact fnG_step D S45 rfl rfl (by decide) (D.bindsN fun _ _ _ _ _ _ us hl => match us, hl with | [_], _ => rfl) (fun cdv hcd A outer s H E gd hr => p45 (xk_of S45 gd hr) hr gl xs (cls F M d (hr.mono (by omega)) rfl))
theorem fs (M : Mg K mg) (d : Ds K) (gl : Gl1 mg) (xs : Xs P K mg S) (tb : Tbs K mg base S) : ∀ n, Fs P w K mg base S n
  | 0 => ⟨fnG_zero, fnG_zero, fnG_zero, fnG_zero, fnG_zero, fnG_zero, fnG_zero, fnG_zero, fnG_zero, fnG_zero, fnG_zero, fnG_zero, fnG_zero, fnG_zero, fnG_zero, fnG_zero, fnG_zero, fnG_zero, fnG_zero, fnG_zero, fnG_zero, fnG_zero, fnG_zero, fnG_zero, fnG_zero, fnG_zero, fnG_zero, fnG_zero, fnG_zero, fnG_zero, fnG_zero, fnG_zero, fnG_zero, fnG_zero, fnG_zero, fnG_zero, fnG_zero, fnG_zero, fnG_zero, fnG_zero, fnG_zero, fnG_zero, fnG_zero, fnG_zero, fnG_zero, fnG_zero⟩
  | n + 1 => have F := fs M d gl xs tb n
    ⟨r0 F M d gl xs tb, r1 F M d gl xs tb, r2 F M d gl xs tb, r3 F M d gl xs tb, r4 F M d gl xs tb, r5 F M d gl xs tb, r6 F M d gl xs tb, r7 F M d gl xs tb, r8 F M d gl xs tb, r9 F M d gl xs tb, r10 F M d gl xs tb, r11 F M d gl xs tb, r12 F M d gl xs tb, r13 F M d gl xs tb, r14 F M d gl xs tb, r15 F M d gl xs tb, r16 F M d gl xs tb, r17 F M d gl xs tb, r18 F M d gl xs tb, r19 F M d gl xs tb, r20 F M d gl xs tb, r21 F M d gl xs tb, r22 F M d gl xs tb, r23 F M d gl xs tb, r24 F M d gl xs tb, r25 F M d gl xs tb, r26 F M d gl xs tb, r27 F M d gl xs tb, r28 F M d gl xs tb, r29 F M d gl xs tb, r30 F M d gl xs tb, r31 F M d gl xs tb, r32 F M d gl xs tb, r33 F M d gl xs tb, r34 F M d gl xs tb, r35 F M d gl xs tb, r36 F M d gl xs tb, r37 F M d gl xs tb, r38 F M d gl xs tb, r39 F M d gl xs tb, r40 F M d gl xs tb, r41 F M d gl xs tb, r42 F M d gl xs tb, r43 F M d gl xs tb, r44 F M d gl xs tb, r45 F M d gl xs tb⟩
end
def H0 : He.DefD := ⟨("is_int", none), "is_int", "is_int", defArgs (top 16), defBody (top 16), sc0, [], []⟩
def H1 : He.DefD := ⟨("is_within", none), "is_within", "is_within", defArgs (top 17), defBody (top 17), sc1, [], []⟩
def H2 : He.DefD := ⟨("choices", none), "choices", "choices", defArgs (top 18), defBody (top 18), sc2, [], []⟩
def H3 : He.DefD := ⟨("lots_of", none), "lots_of", "lots_of", defArgs (top 19), defBody (top 19), sc3, [], []⟩
def H4 : He.DefD := ⟨("is_lot_of", none), "is_lot_of", "is_lot_of", defArgs (top 20), defBody (top 20), sc4, [], []⟩
def H5 : He.DefD := ⟨("is_system_of", none), "is_system_of", "is_system_of", defArgs (top 21), defBody (top 21), sc5, [], []⟩
def H6 : He.DefD := ⟨("holds", none), "holds", "holds", defArgs (top 22), defBody (top 22), sc6, [], []⟩
def H7 : He.DefD := ⟨("require_system", none), "require_system", "require_system", defArgs (top 23), defBody (top 23), sc7, [], []⟩
def H8 : He.DefD := ⟨("require_size", none), "require_size", "require_size", defArgs (top 24), defBody (top 24), sc8, [], []⟩
def H9 : He.DefD := ⟨("require_strength", none), "require_strength", "require_strength", defArgs (top 25), defBody (top 25), sc9, [], []⟩
def H10 : He.DefD := ⟨("size_bar", none), "size_bar", "size_bar", defArgs (top 35), defBody (top 35), sc10, [], []⟩
def H11 : He.DefD := ⟨("do_share", none), "do_share", "do_share", defArgs (top 36), defBody (top 36), sc11, [], []⟩
def H12 : He.DefD := ⟨("packed_bar", none), "packed_bar", "packed_bar", defArgs (top 37), defBody (top 37), sc12, [], []⟩
def H13 : He.DefD := ⟨("bare_lot", none), "bare_lot", "bare_lot", defArgs (top 38), defBody (top 38), sc13, [], []⟩
def H14 : He.DefD := ⟨("covering_bar", none), "covering_bar", "covering_bar", defArgs (top 39), defBody (top 39), sc14, [], []⟩
def H15 : He.DefD := ⟨("is_size_bar", none), "is_size_bar", "is_size_bar", defArgs (top 40), defBody (top 40), sc15, [], []⟩
def H16 : He.DefD := ⟨("most_in", none), "most_in", "most_in", defArgs (top 41), defBody (top 41), sc16, [], []⟩
def H17 : He.DefD := ⟨("fewest_in", none), "fewest_in", "fewest_in", defArgs (top 42), defBody (top 42), sc17, [], []⟩
def H18 : He.DefD := ⟨("packed_in", none), "packed_in", "packed_in", defArgs (top 43), defBody (top 43), sc18, [], []⟩
def H19 : He.DefD := ⟨("covering_with", none), "covering_with", "covering_with", defArgs (top 44), defBody (top 44), sc19, [], []⟩
def H20 : He.DefD := ⟨("covered_in", none), "covered_in", "covered_in", defArgs (top 45), defBody (top 45), sc20, [], []⟩
def H21 : He.DefD := ⟨("covering_in", none), "covering_in", "covering_in", defArgs (top 46), defBody (top 46), sc21, [], []⟩
def H22 : He.DefD := ⟨("require_three", none), "require_three", "require_three", defArgs (top 47), defBody (top 47), sc22, [], []⟩
def H23 : He.DefD := ⟨("require_few", none), "require_few", "require_few", defArgs (top 48), defBody (top 48), sc23, [], []⟩
def H24 : He.DefD := ⟨("require_number", none), "require_number", "require_number", defArgs (top 49), defBody (top 49), sc24, [], []⟩
def H25 : He.DefD := ⟨("packed_paper", none), "packed_paper", "packed_paper", defArgs (top 50), defBody (top 50), sc25, [], []⟩
def H26 : He.DefD := ⟨("is_packed_paper", none), "is_packed_paper", "is_packed_paper", defArgs (top 51), defBody (top 51), sc26, [], []⟩
def H27 : He.DefD := ⟨("covering_paper", none), "covering_paper", "covering_paper", defArgs (top 52), defBody (top 52), sc27, [], []⟩
def H28 : He.DefD := ⟨("is_covering_paper", none), "is_covering_paper", "is_covering_paper", defArgs (top 53), defBody (top 53), sc28, [], []⟩
def H29 : He.DefD := ⟨("most_blocks", none), "most_blocks", "most_blocks", defArgs (top 54), defBody (top 54), sc29, [], []⟩
def H30 : He.DefD := ⟨("fewest_blocks", none), "fewest_blocks", "fewest_blocks", defArgs (top 55), defBody (top 55), sc30, [], []⟩
def H31 : He.DefD := ⟨("most_triples", none), "most_triples", "most_triples", defArgs (top 56), defBody (top 56), sc31, [], []⟩
def H32 : He.DefD := ⟨("fewest_triples", none), "fewest_triples", "fewest_triples", defArgs (top 57), defBody (top 57), sc32, [], []⟩
def H33 : He.DefD := ⟨("packed_number", none), "packed_number", "packed_number", defArgs (top 58), defBody (top 58), sc33, [], []⟩
def H34 : He.DefD := ⟨("some_packed", none), "some_packed", "some_packed", defArgs (top 59), defBody (top 59), sc34, [], []⟩
def H35 : He.DefD := ⟨("covering_number", none), "covering_number", "covering_number", defArgs (top 60), defBody (top 60), sc35, [], []⟩
def H36 : He.DefD := ⟨("some_covering", none), "some_covering", "some_covering", defArgs (top 61), defBody (top 61), sc36, [], []⟩
def H37 : He.DefD := ⟨("_law_jar", none), "_law_jar", "_law_jar", defArgs (top 63), defBody (top 63), sc37, [], []⟩
def H38 : He.DefD := ⟨("_law_dip", none), "_law_dip", "_law_dip", defArgs (top 64), defBody (top 64), sc38, [], []⟩
def H39 : He.DefD := ⟨("_law_one", none), "_law_one", "_law_one", defArgs (top 65), defBody (top 65), sc39, [], []⟩
def H40 : He.DefD := ⟨("_law_met", none), "_law_met", "_law_met", defArgs (top 66), defBody (top 66), sc40, [], []⟩
def H41 : He.DefD := ⟨("_law_no_system", none), "_law_no_system", "_law_no_system", defArgs (top 67), defBody (top 67), sc41, [], []⟩
def H42 : He.DefD := ⟨("_law_of_system", none), "_law_of_system", "_law_of_system", defArgs (top 68), defBody (top 68), sc42, [], []⟩
def H43 : He.DefD := ⟨("_law_of_three", none), "_law_of_three", "_law_of_three", defArgs (top 69), defBody (top 69), sc43, [], []⟩
def H44 : He.DefD := ⟨("_law_right", none), "_law_right", "_law_right", defArgs (top 70), defBody (top 70), sc44, [], []⟩
def H45 : He.DefD := ⟨("law", none), "law", "law", defArgs (top 71), defBody (top 71), sc45, [], []⟩
def hn : List He.DefD := [H0, H1, H2, H3, H4, H5, H6, H7, H8, H9, H10, H11, H12, H13, H14, H15, H16, H17, H18, H19, H20, H21, H22, H23, H24, H25, H26, H27, H28, H29, H30, H31, H32, H33, H34, H35, H36, H37, H38, H39, H40, H41, H42, H43, H44, H45]
def ha0 : List He.Fa := [.glo "is_int", .glo "is_within", .glo "choices", .glo "lots_of", .glo "is_lot_of", .glo "is_system_of", .glo "holds", .glo "require_system", .glo "require_size", .glo "require_strength", .glo "size_bar", .glo "do_share", .glo "packed_bar", .glo "bare_lot", .glo "covering_bar", .glo "is_size_bar", .glo "most_in", .glo "fewest_in", .glo "packed_in", .glo "covering_with", .glo "covered_in", .glo "covering_in", .glo "require_three", .glo "require_few", .glo "require_number", .glo "packed_paper", .glo "is_packed_paper", .glo "covering_paper", .glo "is_covering_paper", .glo "most_blocks", .glo "fewest_blocks", .glo "most_triples", .glo "fewest_triples", .glo "packed_number", .glo "some_packed", .glo "covering_number", .glo "some_covering", .glo "_law_jar", .glo "_law_dip", .glo "_law_one", .glo "_law_met", .glo "_law_no_system", .glo "_law_of_system", .glo "_law_of_three", .glo "_law_right", .glo "law", .free "abs", .free "all", .free "any", .free "bool", .free "enumerate", .free "int", .free "isinstance", .free "len", .free "max", .free "min", .free "range", .free "repr", .free "sorted", .free "str", .free "tuple", .free "zip", .int "MOST_BLOCKS" 60, .int "MOST_FORCED" 6, .int "MOST_POINTS" 13, .int "MOST_STRENGTH" 5, .int "MOST_TRIPLED" 999, .str "BARE" ⟨#[98, 97, 114, 101]⟩, .str "BLOCKS" ⟨#[98, 108, 111, 99, 107, 115]⟩, .str "COVERS" ⟨#[99, 111, 118, 101, 114, 115]⟩, .str "PACKED" ⟨#[112, 97, 99, 107, 101, 100]⟩, .str "SHORT" ⟨#[115, 104, 111, 114, 116]⟩, .str "SIZES" ⟨#[115, 105, 122, 101, 115]⟩, .glo "InvalidSystem", .glo "InvalidTable", .glo "InvalidPoint", .glo "InvalidLot", .glo "InvalidRow", .glo "InvalidReport", .glo "InvalidOperation", .glo "InvalidNumber", .glo "TooMany", .glo "Refused", .exc "InvalidSystem"]
def ha : List He.Fa := ha0 ++ exmFa cn subTab
def U0 : SupD := ⟨"InvalidNumber", "InvalidNumber.__init__", defArgs (clsDef (top 9)), defBody (clsDef (top 9)), defScope (clsDef (top 9)), "given", "IndexError", "IndexError.__new__", "IndexError.__init__", [.type "IndexError", .type "LookupError", .type "Exception", .type "BaseException", .type "object"]⟩
def U1 : SupD := ⟨"TooMany", "TooMany.__init__", defArgs (clsDef (top 10)), defBody (clsDef (top 10)), defScope (clsDef (top 10)), "limit", "OverflowError", "OverflowError.__new__", "OverflowError.__init__", [.type "OverflowError", .type "ArithmeticError", .type "Exception", .type "BaseException", .type "object"]⟩
def U2 : SupD := ⟨"Refused", "Refused.__init__", defArgs (clsDef (top 11)), defBody (clsDef (top 11)), defScope (clsDef (top 11)), "reason", "ArithmeticError", "ArithmeticError.__new__", "ArithmeticError.__init__", [.type "ArithmeticError", .type "Exception", .type "BaseException", .type "object"]⟩
def sup : List SupD := [U0, U1, U2]
def tf : List He.Defn := [("_law_of_system", none), ("_law_of_three", none), ("_law_right", none)]
def file : Str := tx.main.file
abbrev sc (K : PySem.W.Frag) : Sc := ⟨tabT K tf, fun i => He.ga K (cn.getD i ""), fun i => fl.getD i ""⟩
abbrev R : PySem.W.OpenRow := PySem.W.OpenLaw.row PySem.Challenge.rw_tiedblocks_k75_errors_of_packed_systems
abbrev hk : PySem.W.Hook := EXH.hookY 4 ha hn tf sup file
def ob (s : PySem.W.SharedT) : EXH.AlY := EXH.obsY 4 ha hn tf sup file (HandSHeadRun.getT s)
theorem ob_eq (s : PySem.W.SharedT) : ob s = hk.obs s.abs := EXH.obsY_eq (HandSHeadRun.getT_eq s)
def loose0 : List Str := ["BlocksError", "InvalidSystem", "InvalidTable", "InvalidPoint", "InvalidLot", "InvalidRow", "InvalidReport", "InvalidOperation", "InvalidNumber", "TooMany", "Refused", "MOST_POINTS"]
def loose1 : List Str := ["MOST_BLOCKS", "MOST_STRENGTH", "is_int", "is_within", "choices", "lots_of", "is_lot_of", "is_system_of", "holds", "require_system", "require_size", "require_strength"]
def loose2 : List Str := ["MOST_FORCED", "MOST_TRIPLED", "PACKED", "COVERS", "SIZES", "SHORT", "BLOCKS", "BARE", "size_bar", "do_share", "packed_bar", "bare_lot"]
def loose3 : List Str := ["covering_bar", "is_size_bar", "most_in", "fewest_in", "packed_in", "covering_with", "covered_in", "covering_in", "require_three", "require_few", "require_number", "packed_paper"]
def loose4 : List Str := ["is_packed_paper", "covering_paper", "is_covering_paper", "most_blocks", "fewest_blocks", "most_triples", "fewest_triples", "packed_number", "some_packed", "covering_number", "some_covering", "_law_jar"]
def loose5 : List Str := ["_law_dip", "_law_one", "_law_met", "_law_no_system", "_law_of_system", "_law_of_three", "_law_right"]
def loose : List Str := loose0 ++ loose1 ++ loose2 ++ loose3 ++ loose4 ++ loose5
theorem xf_given {K : PySem.W.Frag} {h2 : Heap} (cy : EXH.SaysY ha hn tf sup file h2 K) : ∀ c, (sc K).fld c = "given" → XfC K ((sc K).cls c) ∧ PySem.W.findIn K (.ref ((sc K).cls c)) "given" = some none
  | 0, h => absurd h (by show ¬ (("" : Str) = "given"); decide)
  | 1, h => absurd h (by show ¬ (("" : Str) = "given"); decide)
  | 2, h => absurd h (by show ¬ (("" : Str) = "given"); decide)
  | 3, h => absurd h (by show ¬ (("" : Str) = "given"); decide)
  | 4, h => absurd h (by show ¬ (("" : Str) = "given"); decide)
  | 5, h => absurd h (by show ¬ (("" : Str) = "given"); decide)
  | 6, h => absurd h (by show ¬ (("" : Str) = "given"); decide)
  | 7, h => absurd h (by show ¬ (("" : Str) = "given"); decide)
  | 8, _ => EV.xf_of cy (d := U0) (List.mem_of_getElem? (i := 0) rfl)
  | 9, h => absurd h (by show ¬ (("limit" : Str) = "given"); decide)
  | 10, h => absurd h (by show ¬ (("reason" : Str) = "given"); decide)
  | n + 11, h => absurd h (by show ¬ (("" : Str) = "given"); decide)
theorem xf_limit {K : PySem.W.Frag} {h2 : Heap} (cy : EXH.SaysY ha hn tf sup file h2 K) : ∀ c, (sc K).fld c = "limit" → XfC K ((sc K).cls c) ∧ PySem.W.findIn K (.ref ((sc K).cls c)) "limit" = some none
  | 0, h => absurd h (by show ¬ (("" : Str) = "limit"); decide)
  | 1, h => absurd h (by show ¬ (("" : Str) = "limit"); decide)
  | 2, h => absurd h (by show ¬ (("" : Str) = "limit"); decide)
  | 3, h => absurd h (by show ¬ (("" : Str) = "limit"); decide)
  | 4, h => absurd h (by show ¬ (("" : Str) = "limit"); decide)
  | 5, h => absurd h (by show ¬ (("" : Str) = "limit"); decide)
  | 6, h => absurd h (by show ¬ (("" : Str) = "limit"); decide)
  | 7, h => absurd h (by show ¬ (("" : Str) = "limit"); decide)
  | 8, h => absurd h (by show ¬ (("given" : Str) = "limit"); decide)
  | 9, _ => EV.xf_of cy (d := U1) (List.mem_of_getElem? (i := 1) rfl)
  | 10, h => absurd h (by show ¬ (("reason" : Str) = "limit"); decide)
  | n + 11, h => absurd h (by show ¬ (("" : Str) = "limit"); decide)
theorem xf_reason {K : PySem.W.Frag} {h2 : Heap} (cy : EXH.SaysY ha hn tf sup file h2 K) : ∀ c, (sc K).fld c = "reason" → XfC K ((sc K).cls c) ∧ PySem.W.findIn K (.ref ((sc K).cls c)) "reason" = some none
  | 0, h => absurd h (by show ¬ (("" : Str) = "reason"); decide)
  | 1, h => absurd h (by show ¬ (("" : Str) = "reason"); decide)
  | 2, h => absurd h (by show ¬ (("" : Str) = "reason"); decide)
  | 3, h => absurd h (by show ¬ (("" : Str) = "reason"); decide)
  | 4, h => absurd h (by show ¬ (("" : Str) = "reason"); decide)
  | 5, h => absurd h (by show ¬ (("" : Str) = "reason"); decide)
  | 6, h => absurd h (by show ¬ (("" : Str) = "reason"); decide)
  | 7, h => absurd h (by show ¬ (("" : Str) = "reason"); decide)
  | 8, h => absurd h (by show ¬ (("given" : Str) = "reason"); decide)
  | 9, h => absurd h (by show ¬ (("limit" : Str) = "reason"); decide)
  | 10, _ => EV.xf_of cy (d := U2) (List.mem_of_getElem? (i := 2) rfl)
  | n + 11, h => absurd h (by show ¬ (("" : Str) = "reason"); decide)
theorem facts {K : PySem.W.Frag} {h : Heap} {mg : Str → Option Value} (X : K.In h) (G : h.Ns mainGlobals mg) {h2 : Heap} (cy : EXH.SaysY ha hn tf sup file h2 K) : Ds K ∧ Mg K mg ∧ Gl1 mg ∧ Xs R.prog K mg (sc K) :=
  have c := cy.d
  ⟨⟨c.def_ 0 (d := H0) rfl, c.def_ 1 (d := H1) rfl, c.def_ 2 (d := H2) rfl, c.def_ 3 (d := H3) rfl, c.def_ 4 (d := H4) rfl, c.def_ 5 (d := H5) rfl, c.def_ 6 (d := H6) rfl, c.def_ 7 (d := H7) rfl, c.def_ 8 (d := H8) rfl, c.def_ 9 (d := H9) rfl, c.def_ 10 (d := H10) rfl, c.def_ 11 (d := H11) rfl, c.def_ 12 (d := H12) rfl, c.def_ 13 (d := H13) rfl, c.def_ 14 (d := H14) rfl, c.def_ 15 (d := H15) rfl, c.def_ 16 (d := H16) rfl, c.def_ 17 (d := H17) rfl, c.def_ 18 (d := H18) rfl, c.def_ 19 (d := H19) rfl, c.def_ 20 (d := H20) rfl, c.def_ 21 (d := H21) rfl, c.def_ 22 (d := H22) rfl, c.def_ 23 (d := H23) rfl, c.def_ 24 (d := H24) rfl, c.def_ 25 (d := H25) rfl, c.def_ 26 (d := H26) rfl, c.def_ 27 (d := H27) rfl, c.def_ 28 (d := H28) rfl, c.def_ 29 (d := H29) rfl, c.def_ 30 (d := H30) rfl, c.def_ 31 (d := H31) rfl, c.def_ 32 (d := H32) rfl, c.def_ 33 (d := H33) rfl, c.def_ 34 (d := H34) rfl, c.def_ 35 (d := H35) rfl, c.def_ 36 (d := H36) rfl, c.def_ 37 (d := H37) rfl, c.def_ 38 (d := H38) rfl, c.def_ 39 (d := H39) rfl, c.def_ 40 (d := H40) rfl, c.def_ 41 (d := H41) rfl, c.def_ 42 (d := H42) rfl, c.def_ 43 (d := H43) rfl, c.def_ 44 (d := H44) rfl, c.def_ 45 (d := H45) rfl⟩,
   ⟨He.glo_ok X G (c.fact 0 (f := .glo "is_int") rfl), He.glo_ok X G (c.fact 1 (f := .glo "is_within") rfl), He.glo_ok X G (c.fact 2 (f := .glo "choices") rfl), He.glo_ok X G (c.fact 3 (f := .glo "lots_of") rfl), He.glo_ok X G (c.fact 4 (f := .glo "is_lot_of") rfl), He.glo_ok X G (c.fact 5 (f := .glo "is_system_of") rfl), He.glo_ok X G (c.fact 6 (f := .glo "holds") rfl), He.glo_ok X G (c.fact 7 (f := .glo "require_system") rfl), He.glo_ok X G (c.fact 8 (f := .glo "require_size") rfl), He.glo_ok X G (c.fact 9 (f := .glo "require_strength") rfl), He.glo_ok X G (c.fact 10 (f := .glo "size_bar") rfl), He.glo_ok X G (c.fact 11 (f := .glo "do_share") rfl), He.glo_ok X G (c.fact 12 (f := .glo "packed_bar") rfl), He.glo_ok X G (c.fact 13 (f := .glo "bare_lot") rfl), He.glo_ok X G (c.fact 14 (f := .glo "covering_bar") rfl), He.glo_ok X G (c.fact 15 (f := .glo "is_size_bar") rfl), He.glo_ok X G (c.fact 16 (f := .glo "most_in") rfl), He.glo_ok X G (c.fact 17 (f := .glo "fewest_in") rfl), He.glo_ok X G (c.fact 18 (f := .glo "packed_in") rfl), He.glo_ok X G (c.fact 19 (f := .glo "covering_with") rfl), He.glo_ok X G (c.fact 20 (f := .glo "covered_in") rfl), He.glo_ok X G (c.fact 21 (f := .glo "covering_in") rfl), He.glo_ok X G (c.fact 22 (f := .glo "require_three") rfl), He.glo_ok X G (c.fact 23 (f := .glo "require_few") rfl), He.glo_ok X G (c.fact 24 (f := .glo "require_number") rfl), He.glo_ok X G (c.fact 25 (f := .glo "packed_paper") rfl), He.glo_ok X G (c.fact 26 (f := .glo "is_packed_paper") rfl), He.glo_ok X G (c.fact 27 (f := .glo "covering_paper") rfl), He.glo_ok X G (c.fact 28 (f := .glo "is_covering_paper") rfl), He.glo_ok X G (c.fact 29 (f := .glo "most_blocks") rfl), He.glo_ok X G (c.fact 30 (f := .glo "fewest_blocks") rfl), He.glo_ok X G (c.fact 31 (f := .glo "most_triples") rfl), He.glo_ok X G (c.fact 32 (f := .glo "fewest_triples") rfl), He.glo_ok X G (c.fact 33 (f := .glo "packed_number") rfl), He.glo_ok X G (c.fact 34 (f := .glo "some_packed") rfl), He.glo_ok X G (c.fact 35 (f := .glo "covering_number") rfl), He.glo_ok X G (c.fact 36 (f := .glo "some_covering") rfl), He.glo_ok X G (c.fact 37 (f := .glo "_law_jar") rfl), He.glo_ok X G (c.fact 38 (f := .glo "_law_dip") rfl), He.glo_ok X G (c.fact 39 (f := .glo "_law_one") rfl), He.glo_ok X G (c.fact 40 (f := .glo "_law_met") rfl), He.glo_ok X G (c.fact 41 (f := .glo "_law_no_system") rfl), He.glo_ok X G (c.fact 42 (f := .glo "_law_of_system") rfl), He.glo_ok X G (c.fact 43 (f := .glo "_law_of_three") rfl), He.glo_ok X G (c.fact 44 (f := .glo "_law_right") rfl), He.glo_ok X G (c.fact 45 (f := .glo "law") rfl)⟩,
   ⟨He.free_ok X G (c.fact 46 (f := .free "abs") rfl), He.free_ok X G (c.fact 47 (f := .free "all") rfl), He.free_ok X G (c.fact 48 (f := .free "any") rfl), He.free_ok X G (c.fact 49 (f := .free "bool") rfl), He.free_ok X G (c.fact 50 (f := .free "enumerate") rfl), He.free_ok X G (c.fact 51 (f := .free "int") rfl), He.free_ok X G (c.fact 52 (f := .free "isinstance") rfl), He.free_ok X G (c.fact 53 (f := .free "len") rfl), He.free_ok X G (c.fact 54 (f := .free "max") rfl), He.free_ok X G (c.fact 55 (f := .free "min") rfl), He.free_ok X G (c.fact 56 (f := .free "range") rfl), He.free_ok X G (c.fact 57 (f := .free "repr") rfl), He.free_ok X G (c.fact 58 (f := .free "sorted") rfl), He.free_ok X G (c.fact 59 (f := .free "str") rfl), He.free_ok X G (c.fact 60 (f := .free "tuple") rfl), He.free_ok X G (c.fact 61 (f := .free "zip") rfl), He.int_ok X G (c.fact 62 (f := .int "MOST_BLOCKS" 60) rfl), He.int_ok X G (c.fact 63 (f := .int "MOST_FORCED" 6) rfl), He.int_ok X G (c.fact 64 (f := .int "MOST_POINTS" 13) rfl), He.int_ok X G (c.fact 65 (f := .int "MOST_STRENGTH" 5) rfl), He.int_ok X G (c.fact 66 (f := .int "MOST_TRIPLED" 999) rfl), He.str_ok X G (c.fact 67 (f := .str "BARE" ⟨#[98, 97, 114, 101]⟩) rfl), He.str_ok X G (c.fact 68 (f := .str "BLOCKS" ⟨#[98, 108, 111, 99, 107, 115]⟩) rfl), He.str_ok X G (c.fact 69 (f := .str "COVERS" ⟨#[99, 111, 118, 101, 114, 115]⟩) rfl), He.str_ok X G (c.fact 70 (f := .str "PACKED" ⟨#[112, 97, 99, 107, 101, 100]⟩) rfl), He.str_ok X G (c.fact 71 (f := .str "SHORT" ⟨#[115, 104, 111, 114, 116]⟩) rfl), He.str_ok X G (c.fact 72 (f := .str "SIZES" ⟨#[115, 105, 122, 101, 115]⟩) rfl)⟩,
   ⟨EV.sub_ok c (fx := ha0) rfl (fun _ => rfl),
    He.glo_ok X G (c.fact 73 (f := .glo "InvalidSystem") rfl),
    He.glo_ok X G (c.fact 74 (f := .glo "InvalidTable") rfl),
    He.glo_ok X G (c.fact 75 (f := .glo "InvalidPoint") rfl),
    He.glo_ok X G (c.fact 76 (f := .glo "InvalidLot") rfl),
    He.glo_ok X G (c.fact 77 (f := .glo "InvalidRow") rfl),
    He.glo_ok X G (c.fact 78 (f := .glo "InvalidReport") rfl),
    He.glo_ok X G (c.fact 79 (f := .glo "InvalidOperation") rfl),
    He.glo_ok X G (c.fact 80 (f := .glo "InvalidNumber") rfl),
    He.glo_ok X G (c.fact 81 (f := .glo "TooMany") rfl),
    He.glo_ok X G (c.fact 82 (f := .glo "Refused") rfl),
    EV.pmkT_of c (x := "InvalidSystem") (List.mem_of_getElem? (i := 83) rfl) (He.glo_ok X G (c.fact 73 (f := .glo "InvalidSystem") rfl)) (by decide),
    EV.pmkV_of (d := U0) (par := "given") (ps := psOf U0.body) X G cy (List.mem_of_getElem? (i := 0) rfl) PySem.F.excBase_IndexError PySem.W.kxs_IndexError PySem.F.store_IndexError rfl ⟨rfl, rfl, rfl, rfl, rfl, rfl, rfl, by decide +kernel, ⟨_, rfl, rfl⟩, fun _ _ _ _ _ _ _ _ _ _ _ => rfl, by decide, fun _ _ _ _ _ => rfl⟩ rfl rfl (by decide) (fun _ => rfl) (fun _ _ _ _ => ⟨_, rfl⟩) (He.glo_ok X G (c.fact 80 (f := .glo "InvalidNumber") rfl)) (by decide),
    rfl,
    EV.pmkV_of (d := U1) (par := "limit") (ps := psOf U1.body) X G cy (List.mem_of_getElem? (i := 1) rfl) PySem.F.excBase_OverflowError PySem.W.kxs_OverflowError PySem.F.store_OverflowError rfl ⟨rfl, rfl, rfl, rfl, rfl, rfl, rfl, by decide +kernel, ⟨_, rfl, rfl⟩, fun _ _ _ _ _ _ _ _ _ _ _ => rfl, by decide, fun _ _ _ _ _ => rfl⟩ rfl rfl (by decide) (fun _ => rfl) (fun _ _ _ _ => ⟨_, rfl⟩) (He.glo_ok X G (c.fact 81 (f := .glo "TooMany") rfl)) (by decide),
    rfl,
    xf_given cy,
    xf_limit cy,
    xf_reason cy,
    EV.sf_ok (fld := fun i => fl.getD i "") (by decide +kernel),
    EV.sf_ok (fld := fun i => fl.getD i "") (by decide +kernel),
    EV.sf_ok (fld := fun i => fl.getD i "") (by decide +kernel)⟩⟩
theorem tbs {K : PySem.W.Frag} {h2 : Heap} {mg : Str → Option Value} {base : Heap} (cy : EXH.SaysY ha hn tf sup file h2 K) (TB : ∀ q ∈ tf.map (He.cT K), LamX.TabB base mg q.1 q.2) : Tbs K mg base (sc K) :=
  ⟨EV.tabL_of (p := ("_law_of_system", none)) rfl cy.nd (List.mem_of_getElem? (i := 0) rfl) TB, EV.tabL_of (p := ("_law_of_three", none)) rfl cy.nd (List.mem_of_getElem? (i := 1) rfl) TB, EV.tabL_of (p := ("_law_right", none)) rfl cy.nd (List.mem_of_getElem? (i := 2) rfl) TB⟩
end K75
end

section
set_option Elab.async false
set_option linter.all false
set_option maxRecDepth 100000
set_option maxHeartbeats 0
theorem K75.run (w : PySem.World) : HandSHeadRun.RunEq K75.R (PySem.W.view K75.R.prog [71]) K75.hk K75.ob 4000 K75.loose w := by
  intro os
  kernel_rfl
open PySem PySem.W PySem.Calls PyProof.Rows EV
theorem K75.top_ (run : ∀ ns : List Int, ns.length ≤ 63 → (∀ i ∈ ns, Builtin.Int.intBits i ≤ 1048576) → ∃ h2, runF K75.pg 40 K75.ix_law [.d (.list (ns.map .int))] [] = .ok (.d (.bool true)) h2) : PySem.Challenge.rw_tiedblocks_k75_errors_of_packed_systems.Holds := by
  w_on; o_law
  refine HandSHeadRun.head_any (r := OpenLaw.row PySem.Challenge.rw_tiedblocks_k75_errors_of_packed_systems) (q := view (OpenLaw.row PySem.Challenge.rw_tiedblocks_k75_errors_of_packed_systems).prog [71]) (H := K75.hk) (ob := K75.ob) (M := 4000) (loose := K75.loose) (d := HandSHeadRun.topDef (OpenLaw.row PySem.Challenge.rw_tiedblocks_k75_errors_of_packed_systems).prog 71) (kwd := []) K75.ob_eq
    (by kernel_rfl) (fun s => by kernel_rfl) K75.run (by kernel_rfl) (by kernel_rfl) (by kernel_rfl) (by rfl) (by first | assumption | decide +kernel) (by decide +kernel) ⟨rfl, rfl, rfl, rfl, rfl, by decide +kernel⟩ ?hw ?hc
  case hw => w_witness2
  case hc =>
    refine EV.walk_evT (l := PySem.Challenge.rw_tiedblocks_k75_errors_of_packed_systems) (m := 63) (k := 40) rfl (by decide) (by kernel_rfl) ⟨rfl, by decide, by decide⟩ ?F
    intro w mg fa h Y G hmg0
    obtain ⟨K, KX, c⟩ := Y
    have hmg : mg ("law" : PySem.Str) = some (.ref fa) := by
      have e : (HandSHeadRun.topDef (OpenLaw.row PySem.Challenge.rw_tiedblocks_k75_errors_of_packed_systems).prog 71).name = ("law" : PySem.Str) := by kernel_rfl
      rw [← e]
      exact hmg0
    obtain ⟨d, M, gl, xs⟩ := K75.facts KX G c
    obtain rfl : fa = He.ga K "law" := by
      have q := hmg.symm.trans M.m45
      cases q
      rfl
    have mp : ∀ {Q : Addr × Addr → Prop}, (∀ p ∈ K75.tf, Q (He.cT K p)) → ∀ q ∈ K75.tf.map (He.cT K), Q q := fun hQ q hq => by
      obtain ⟨p, hp, rfl⟩ := List.mem_map.mp hq
      exact hQ p hp
    exact ⟨K, K75.sc K, K75.pg, K75.ix_law, K75.tf.map (He.cT K), KX, mp c.empty, mp c.out, mp c.hd, fun p hp => by
      obtain ⟨r, hr, rfl⟩ := List.mem_map.mp hp
      exact List.mem_map.mpr ⟨He.cT K r, List.mem_map.mpr ⟨r, hr, rfl⟩, rfl⟩, fun base _ _ TB => (K75.fs M d gl xs (K75.tbs c TB) 40).f45, run⟩
end

section
set_option Elab.async false
set_option linter.all false
set_option maxRecDepth 100000
namespace K75
open EV PySem L2
theorem J : Jars pg 38 39 37 := ⟨fun _ _ _ _ => rfl, fun _ _ _ _ => rfl, fun _ _ _ _ => rfl⟩
abbrev cv (k : Nat) : Cv := cvP pg k
theorem run41 {k : Nat} {a : EV.W} {h : Hs} : runF pg (k + 1) 41 [a] h = finF (g41 (cv k) [some a, none] h) := rfl
theorem run44 {k : Nat} {a : EV.W} {h : Hs} : runF pg (k + 1) 44 [a] h = finF (g44 (cv k) [some a, none, none, none, none, none, none, none] h) := rfl
theorem run45 {k : Nat} {a : EV.W} {h : Hs} : runF pg (k + 1) 45 [a] h = finF (g45 (cv k) [some a, none, none, none, none, none, none, none] h) := rfl
def L1 : List D := [.none, .int (.ofNat 6), .int (.negSucc 0), .bool true, .str ⟨#[50]⟩, .tuple [.int (.ofNat 2)], .int (.ofNat 1000000000000000000000000000000000000000000000000000000000000)]
def NS : List D := [.none, .tuple [], .int (.ofNat 0), .tuple [.int (.ofNat 0), .tuple []], .tuple [.int (.ofNat 14), .tuple []], .tuple [.bool true, .tuple []], .tuple [.str ⟨#[51]⟩, .tuple []], .list [.int (.ofNat 3), .tuple []], .tuple [.int (.ofNat 3), .list [.tuple [.int (.ofNat 0), .int (.ofNat 1)]]], .tuple [.int (.ofNat 3), .tuple [.tuple [.int (.ofNat 1), .int (.ofNat 0)]]], .tuple [.int (.ofNat 3), .tuple [.tuple [.int (.ofNat 0), .int (.ofNat 0)]]], .tuple [.int (.ofNat 3), .tuple [.tuple [.int (.ofNat 0), .int (.ofNat 3)]]], .tuple [.int (.ofNat 3), .tuple [.tuple []]], .tuple [.int (.ofNat 3), .tuple [.tuple [.int (.ofNat 0), .int (.ofNat 1)], .tuple [.int (.ofNat 0), .int (.ofNat 1)]]], .tuple [.int (.ofNat 3), .tuple [.tuple [.int (.ofNat 1), .int (.ofNat 2)], .tuple [.int (.ofNat 0), .int (.ofNat 1)]]], .tuple [.int (.ofNat 3), .tuple [.tuple [.int (.ofNat 0), .bool true]]], .tuple [.int (.ofNat 3), .tuple [.tuple [.int (.ofNat 0), .str ⟨#[49]⟩]]], .tuple [.int (.ofNat 3), .tuple [.list [.int (.ofNat 0), .int (.ofNat 1)]]], .tuple [.int (.ofNat 3), .none], .tuple [.int (.ofNat 3), .tuple [], .int (.ofNat 0)], .dict [], .tuple [.int (.ofNat 1000000000000000000000000000000000000000000000000000000000000), .tuple []], .tuple [.int (.ofNat 3), .tuple [.int (.ofNat 0), .int (.ofNat 1)]], .tuple [.int (.ofNat 3), .tuple [.tuple [.int (.ofNat 0), .int (.negSucc 0)]]]]
def LS : List D := [.none, .int (.ofNat 0), .int (.ofNat 14), .int (.negSucc 0), .bool true, .str ⟨#[51]⟩, .int (.ofNat 1000000000000000000000000000000000000000000000000000000000000)]
def LW : List D := [.none, .int (.ofNat 0), .int (.ofNat 5), .int (.negSucc 0), .bool true, .str ⟨#[51]⟩, .tuple [.int (.ofNat 1)]]
def LF : List D := [.none, .int (.ofNat 0), .int (.ofNat 4), .int (.negSucc 0), .bool true, .str ⟨#[49]⟩]
def LN : List D := [.none, .int (.ofNat 2), .int (.ofNat 0), .int (.ofNat 1000), .int (.negSucc 2), .bool true, .str ⟨#[57]⟩, .int (.ofNat 1000000000000000000000000000000000000000000000000000000000000)]
def L3 : List D := [.int (.ofNat 1), .int (.ofNat 2), .int (.ofNat 3)]
def L2_ : List D := [.int (.ofNat 7), .int (.ofNat 13)]
abbrev path : D := .tuple [.int (.ofNat 3), .tuple [.tuple [.int (.ofNat 0), .int (.ofNat 1)], .tuple [.int (.ofNat 1), .int (.ofNat 2)]]]
abbrev fine : D := .tuple [.str ⟨#[116, 111, 108, 100]⟩, .bool false]
def LV : List D := [.int (.ofNat 0), .int (.ofNat 1), .int (.ofNat 2), .int (.ofNat 3), .int (.ofNat 4), .int (.ofNat 5)]
theorem tA {a0 a1 a2 a3 a4 a5 a6 a7 : Option EV.W} {h : Hs} {s : D} : ∀ x ∈ NS, (cCmp .ne (cCall 42 (argL [(.d x), (.d s)])) (cNew false (lRep (cNew false (lOne (cTup (lOne (cCon (.str ⟨#[115, 121, 115, 116, 101, 109]⟩)) lNil)) lNil)) (cCon (.int (.ofNat 4)))))) (cv 38) [a0, a1, a2, a3, a4, a5, a6, a7] h = .ok (.d (.bool false)) h := by
  simp only [NS, List.forall_mem_cons, List.not_mem_nil, false_implies, implies_true, and_true]
  refine ⟨by kernel_rfl, by kernel_rfl, by kernel_rfl, by kernel_rfl, by kernel_rfl, by kernel_rfl, by kernel_rfl, by kernel_rfl, by kernel_rfl, by kernel_rfl, by kernel_rfl, by kernel_rfl, by kernel_rfl, by kernel_rfl, by kernel_rfl, by kernel_rfl, by kernel_rfl, by kernel_rfl, by kernel_rfl, by kernel_rfl, by kernel_rfl, by kernel_rfl, by kernel_rfl, by kernel_rfl⟩
theorem tB {a0 a2 a3 a5 a6 a7 : Option EV.W} {h : Hs}  : ∀ x ∈ L1, (cCmp .ne (cCall 42 (lOne (cSlot 4) (lOne (cSlot 1) lNil))) (cNew false (lRep (cNew false (lOne (cTup (lOne (cCon (.str ⟨#[110, 117, 109, 98, 101, 114]⟩)) (lOne (cB1 .repr (cSlot 1)) lNil))) lNil)) (cCon (.int (.ofNat 4)))))) (cv 38) [a0, some (.d x), a2, a3, some (.d path), a5, a6, a7] h = .ok (.d (.bool false)) h := by
  simp only [L1, List.forall_mem_cons, List.not_mem_nil, false_implies, implies_true, and_true]
  refine ⟨by kernel_rfl, by kernel_rfl, by kernel_rfl, by kernel_rfl, by kernel_rfl, by kernel_rfl, by kernel_rfl⟩
theorem tC {a0 a1 a2 a3 a4 a6 a7 : Option EV.W} {h : Hs}  : ∀ x ∈ LV, (cCmp .ne (cCall 42 (argL [(.d path), (.d x)])) (cNew false (lRep (cNew false (lOne (cSlot 5) lNil)) (cCon (.int (.ofNat 4)))))) (cv 38) [a0, a1, a2, a3, a4, some (.d fine), a6, a7] h = .ok (.d (.bool false)) h := by
  simp only [LV, List.forall_mem_cons, List.not_mem_nil, false_implies, implies_true, and_true]
  refine ⟨by kernel_rfl, by kernel_rfl, by kernel_rfl, by kernel_rfl, by kernel_rfl, by kernel_rfl⟩
theorem tD {a0 a1 a3 a4 a5 : Option EV.W} {h : Hs} {u : D} {v : D} : ∀ x ∈ LS, (cCmp .ne (cCall 43 (lOne (cSlot 6) (lOne (cSlot 7) (lOne (cSlot 2) lNil)))) (cNew false (lRep (cNew false (lOne (cTup (lOne (cCon (.str ⟨#[110, 117, 109, 98, 101, 114]⟩)) (lOne (cB1 .repr (cSlot 6)) lNil))) lNil)) (cCon (.int (.ofNat 6)))))) (cv 38) [a0, a1, some (.d u), a3, a4, a5, some (.d x), some (.d v)] h = .ok (.d (.bool false)) h := by
  simp only [LS, List.forall_mem_cons, List.not_mem_nil, false_implies, implies_true, and_true]
  refine ⟨by kernel_rfl, by kernel_rfl, by kernel_rfl, by kernel_rfl, by kernel_rfl, by kernel_rfl, by kernel_rfl⟩
theorem tE {a0 a1 a3 a4 a5 a6 : Option EV.W} {h : Hs} {u : D} : ∀ x ∈ LW, (cCmp .ne (cCall 43 (lOne (cCon (.int (.ofNat 4))) (lOne (cSlot 7) (lOne (cSlot 2) lNil)))) (cNew false (lRep (cNew false (lOne (cTup (lOne (cCon (.str ⟨#[110, 117, 109, 98, 101, 114]⟩)) (lOne (cB1 .repr (cSlot 7)) lNil))) lNil)) (cCon (.int (.ofNat 6)))))) (cv 38) [a0, a1, some (.d u), a3, a4, a5, a6, some (.d x)] h = .ok (.d (.bool false)) h := by
  simp only [LW, List.forall_mem_cons, List.not_mem_nil, false_implies, implies_true, and_true]
  refine ⟨by kernel_rfl, by kernel_rfl, by kernel_rfl, by kernel_rfl, by kernel_rfl, by kernel_rfl, by kernel_rfl⟩
theorem tF {a0 a1 a3 a4 a5 a6 a7 : Option EV.W} {h : Hs}  : ∀ x ∈ LF, (cCmp .ne (cCall 43 (lOne (cCon (.int (.ofNat 4))) (lOne (cCon (.int (.ofNat 3))) (lOne (cSlot 2) lNil)))) (cNew false (lRep (cNew false (lOne (cTup (lOne (cCon (.str ⟨#[110, 117, 109, 98, 101, 114]⟩)) (lOne (cB1 .repr (cSlot 2)) lNil))) lNil)) (cCon (.int (.ofNat 6)))))) (cv 38) [a0, a1, some (.d x), a3, a4, a5, a6, a7] h = .ok (.d (.bool false)) h := by
  simp only [LF, List.forall_mem_cons, List.not_mem_nil, false_implies, implies_true, and_true]
  refine ⟨by kernel_rfl, by kernel_rfl, by kernel_rfl, by kernel_rfl, by kernel_rfl, by kernel_rfl⟩
theorem tG {a0 a1 a2 a3 a4 a6 a7 : Option EV.W} {h : Hs}  : ∀ x ∈ L3, (cCmp .ne (cCall 43 (argL [(.d (.int (.ofNat 4))), (.d (.int (.ofNat 3))), (.d x)])) (cNew false (lRep (cNew false (lOne (cSlot 5) lNil)) (cCon (.int (.ofNat 6)))))) (cv 38) [a0, a1, a2, a3, a4, some (.d fine), a6, a7] h = .ok (.d (.bool false)) h := by
  simp only [L3, List.forall_mem_cons, List.not_mem_nil, false_implies, implies_true, and_true]
  refine ⟨by kernel_rfl, by kernel_rfl, by kernel_rfl⟩
theorem tH {a0 a1 a2 a3 a4 a6 a7 : Option EV.W} {h : Hs}  : ∀ x ∈ L2_, (cCmp .ne (cCall 43 (argL [(.d x), (.d (.int (.ofNat 3))), (.d (.int (.ofNat 2)))])) (cNew false (lCat (cNew false (lRep (cNew false (lOne (cSlot 5) lNil)) (cCon (.int (.ofNat 2))))) (cNew false (lRep (cNew false (lOne (cTup (lOne (cCon (.str ⟨#[109, 97, 110, 121]⟩)) (lOne (cCon (.int (.ofNat 6))) lNil))) lNil)) (cCon (.int (.ofNat 4)))))))) (cv 38) [a0, a1, a2, a3, a4, some (.d fine), a6, a7] h = .ok (.d (.bool false)) h := by
  simp only [L2_, List.forall_mem_cons, List.not_mem_nil, false_implies, implies_true, and_true]
  refine ⟨by kernel_rfl, by kernel_rfl⟩
theorem tI {a0 a1 a2 a4 a5 a6 a7 : Option EV.W} {h : Hs}  : ∀ x ∈ LN, (cCmp .eq (cNew false (lOne (cLam 40 (cCall 31 (lOne (cSlot 3) lNil))) (lOne (cLam 40 (cCall 32 (lOne (cSlot 3) lNil))) lNil))) (cNew false (lRep (cNew false (lOne (cTup (lOne (cCon (.str ⟨#[110, 117, 109, 98, 101, 114]⟩)) (lOne (cB1 .repr (cSlot 3)) lNil))) lNil)) (cCon (.int (.ofNat 2)))))) (cv 38) [a0, a1, a2, some (.d x), a4, a5, a6, a7] h = .ok (.d (.bool true)) h := by
  simp only [LN, List.forall_mem_cons, List.not_mem_nil, false_implies, implies_true, and_true]
  refine ⟨by kernel_rfl, by kernel_rfl, by kernel_rfl, by kernel_rfl, by kernel_rfl, by kernel_rfl, by kernel_rfl, by kernel_rfl⟩
end K75
end

section
set_option Elab.async false
set_option linter.all false
set_option maxRecDepth 100000
namespace K75
open EV PySem L2
/-- some bad system -/
theorem noS {k n : Nat} {h : Hs} (j : JarAt n h) : OKs (runF pg (k + 4) 41 [.r n] h) fun w h' => Kept n h h' ∧ ∃ x, w = .d x ∧ x ∈ NS := by
  rw [run41]
  refine OKs.fin ?_
  refine OKs.by_ (seq_asg (h1 := h) (w := .d (.list (NS.take 14))) (by kernel_rfl)) ?_
  refine OKs.by_ (seq_asg (h1 := h) (w := .d (.list NS)) (by kernel_rfl)) ?_
  refine OKs.ret (oneC (k := k + 1) (C := cv (k + 3)) J (by rfl) (xs := NS) (by kernel_rfl) j (by decide) (by decide))
theorem rightS {n : Nat} {h : Hs} (j : JarAt n h) : OKs (runF pg 39 44 [.r n] h) fun w h' => Kept n h h' ∧ w = .d (.bool true) := by
  rw [run44]
  refine OKs.fin ?_
  refine OKs.by_ (seq_nx (h1 := h) (ρ1 := [some (.r n), none, none, none, some (.d path), some (.d fine), none, none]) (by kernel_rfl)) ?_
  refine OKs.asg (P := fun w h' => Kept n h h' ∧ ∃ x, w = .d x ∧ x ∈ L1) (oneC (k := 36) J rfl (xs := L1) (by kernel_rfl) j (by decide) (by decide)) ?_
  rintro _ h1 ⟨k1, s, rfl, hs⟩
  refine OKs.ifF (P := fun h' => Kept n h1 h') (OKs.orF (P := fun h' => Kept n h1 h') ((cmp_draw (b := false) (P := fun ws h' => Kept n h1 h' ∧ ∃ x, ws = [.d x, .d s] ∧ x ∈ NS) ?_ ?_).imp ?_) ?_) ?_
  · obtain ⟨w, h2, e, k2, x, rfl, hx⟩ := (noS (k := 34) k1.jar).eq
    exact OKs.of (x := [.d x, .d s]) (h := h2) (l_one (w := .d x) e (l_one (w := .d s) rfl rfl)) ⟨k2, x, rfl, hx⟩
  · rintro _ h2 ⟨k2, x, rfl, hx⟩
    exact tA x hx
  · rintro _ h2 ⟨rfl, ws, k2, _⟩
    exact ⟨rfl, k2⟩
  · intro h2 k2
    exact OKs.of (tB s hs) ⟨rfl, k2⟩
  intro h2 k2
  refine OKs.ifF (P := fun h' => Kept n h2 h') ((cmp_draw (b := false) (P := fun ws h' => Kept n h2 h' ∧ ∃ x, ws = [.d path, .d x] ∧ x ∈ LV) ?_ ?_).imp ?_) ?_
  · obtain ⟨w, h3, e, k3, v, rfl, v0, v1⟩ := (dipC (k := 37) (C := cv 38) (ρ := [some (.r n), some (.d s), none, none, some (.d path), some (.d fine), none, none]) (es := lOne (cSlot 0) (lOne (cCon (.int (.ofNat 6))) lNil)) (m := 6) J rfl rfl k2.jar (by decide) (by decide)).eq
    refine OKs.of (x := [.d path, .d (.int v)]) (h := h3) (l_one (w := .d path) rfl (l_one e rfl)) ⟨k3, _, rfl, ?_⟩
    obtain ⟨i, rfl⟩ := Int.eq_ofNat_of_zero_le v0
    match i, v1 with
    | 0, _ => simp [LV]
    | 1, _ => simp [LV]
    | 2, _ => simp [LV]
    | 3, _ => simp [LV]
    | 4, _ => simp [LV]
    | 5, _ => simp [LV]
    | i + 6, h => omega
  · rintro _ h3 ⟨k3, x, rfl, hx⟩
    exact tC x hx
  · rintro _ h3 ⟨rfl, ws, k3, _⟩
    exact ⟨rfl, k3⟩
  intro h3 k3
  obtain ⟨_, h4, e4, k4, x, rfl, hx⟩ := (oneC (n := n) (k := 36) (C := cv 38) (ρ := [some (.r n), some (.d s), none, none, some (.d path), some (.d fine), none, none]) J rfl (xs := LS) (es := lOne (cSlot 0) (lOne (cNew false (lOne (cCon .none) (lOne (cCon (.int (.ofNat 0))) (lOne (cCon (.int (.ofNat 14))) (lOne (cNeg (cCon (.int (.ofNat 1)))) (lOne (cCon (.bool true)) (lOne (cCon (.str ⟨#[51]⟩)) (lOne (cBin .pow (cCon (.int (.ofNat 10))) (cCon (.int (.ofNat 60)))) lNil)))))))) lNil)) (by kernel_rfl) k3.jar (by decide) (by decide)).eq
  obtain ⟨_, h5, e5, k5, y, rfl, hy⟩ := (oneC (n := n) (k := 36) (C := cv 38) (ρ := [some (.r n), some (.d s), none, none, some (.d path), some (.d fine), none, none]) J rfl (xs := LW) (es := lOne (cSlot 0) (lOne (cNew false (lOne (cCon .none) (lOne (cCon (.int (.ofNat 0))) (lOne (cCon (.int (.ofNat 5))) (lOne (cNeg (cCon (.int (.ofNat 1)))) (lOne (cCon (.bool true)) (lOne (cCon (.str ⟨#[51]⟩)) (lOne (cTup (lOne (cCon (.int (.ofNat 1))) lNil)) lNil)))))))) lNil)) (by kernel_rfl) k4.jar (by decide) (by decide)).eq
  refine OKs.by_ (seq_par2 e4 e5) ?_
  refine OKs.asg (P := fun w h' => Kept n h5 h' ∧ ∃ x, w = .d x ∧ x ∈ LF) (oneC (k := 36) J rfl (xs := LF) (by kernel_rfl) k5.jar (by decide) (by decide)) ?_
  rintro _ h6 ⟨k6, f, rfl, hf⟩
  refine OKs.ifF (P := fun h' => h6 = h') (OKs.of ((c_or_f (tD x hx)).trans ((c_or_f (tE y hy)).trans (tF f hf))) ⟨rfl, rfl⟩) ?_
  rintro _ rfl
  refine OKs.ifF (P := fun h' => Kept n h6 h') (OKs.orF (P := fun h' => Kept n h6 h') ((cmp_draw (b := false) (P := fun ws h' => Kept n h6 h' ∧ ∃ x, ws = [.d (.int (.ofNat 4)), .d (.int (.ofNat 3)), .d x] ∧ x ∈ L3) ?_ ?_).imp ?_) ?_) ?_
  · obtain ⟨_, h7, e7, k7, z, rfl, hz⟩ := (oneC (n := n) (k := 36) (C := cv 38) (ρ := [some (.r n), some (.d s), some (.d f), none, some (.d path), some (.d fine), some (.d x), some (.d y)]) J rfl (xs := L3) (es := lOne (cSlot 0) (lOne (cNew false (lOne (cCon (.int (.ofNat 1))) (lOne (cCon (.int (.ofNat 2))) (lOne (cCon (.int (.ofNat 3))) lNil)))) lNil)) (by kernel_rfl) k6.jar (by decide) (by decide)).eq
    exact OKs.of (l_one (w := .d (.int (.ofNat 4))) rfl (l_one (w := .d (.int (.ofNat 3))) rfl (l_one e7 rfl))) ⟨k7, z, rfl, hz⟩
  · rintro _ h7 ⟨k7, z, rfl, hz⟩
    exact tG z hz
  · rintro _ h7 ⟨rfl, ws, k7, _⟩
    exact ⟨rfl, k7⟩
  · intro h7 k7
    refine (cmp_draw (b := false) (P := fun ws h' => Kept n h7 h' ∧ ∃ x, ws = [.d x, .d (.int (.ofNat 3)), .d (.int (.ofNat 2))] ∧ x ∈ L2_) ?_ ?_).imp ?_
    · obtain ⟨_, h8, e8, k8, z, rfl, hz⟩ := (oneC (n := n) (k := 36) (C := cv 38) (ρ := [some (.r n), some (.d s), some (.d f), none, some (.d path), some (.d fine), some (.d x), some (.d y)]) J rfl (xs := L2_) (es := lOne (cSlot 0) (lOne (cNew false (lOne (cCon (.int (.ofNat 7))) (lOne (cCon (.int (.ofNat 13))) lNil))) lNil)) (by kernel_rfl) k7.jar (by decide) (by decide)).eq
      exact OKs.of (l_one e8 (l_one (w := .d (.int (.ofNat 3))) rfl (l_one (w := .d (.int (.ofNat 2))) rfl rfl))) ⟨k8, z, rfl, hz⟩
    · rintro _ h8 ⟨k8, z, rfl, hz⟩
      exact tH z hz
    · rintro _ h8 ⟨rfl, ws, k8, _⟩
      exact ⟨rfl, k7.trans k8⟩
  intro h7 k7
  refine OKs.asg (P := fun w h' => Kept n h7 h' ∧ ∃ x, w = .d x ∧ x ∈ LN) (oneC (k := 36) J rfl (xs := LN) (by kernel_rfl) k7.jar (by decide) (by decide)) ?_
  rintro _ h8 ⟨k8, m, rfl, hm⟩
  refine OKs.ret (OKs.of (tI m hm) ⟨?_, rfl⟩)
  exact (((((((k1.trans k2).trans k3).trans k4).trans k5).trans k6).trans k7).trans k8)
def rest45 : SS := EV.sPass
theorem lawS {ns : List Int} {h : Hs} : OKs (runF pg 40 45 [.d (.list (ns.map .int))] h) fun w _ => w = .d (.bool true) := by
  rw [run45]
  refine OKs.fin ?_
  have ht : ∃ t : Nat, t ≤ 2 ∧ cB2 .max (cCon (.int (.ofNat 1))) (cB2 .min (cCon (.int (.ofNat 2))) (cB1 .len (cSlot 0))) (cv 39) [some (.d (.list (ns.map .int))), none, none, none, none, none, none, none] h = .ok (.d (.int (t : Int))) h := by
    match ns with
    | [] => exact ⟨1, by omega, rfl⟩
    | [_] => exact ⟨1, by omega, rfl⟩
    | [_, _] => exact ⟨2, by omega, rfl⟩
    | _ :: _ :: _ :: _ => exact ⟨2, by omega, rfl⟩
  obtain ⟨t, ht2, et⟩ := ht
  have i1 := iRng1_pts et (by omega)
  refine OKs.seq (I := fun ρ _ => ∃ a c d, ρ = [some (.d (.list (ns.map .int))), a, none, none, none, c, d, none]) (OKs.for_ _ i1 ?_ ⟨_, _, _, rfl⟩) ?_
  · rintro i hi _ h ⟨a, c, d, rfl⟩
    rw [onesL_ds] at hi
    obtain ⟨u, hu, rfl⟩ := List.mem_map.mp hi
    have hu := mem_pts.mp hu
    obtain ⟨u, rfl⟩ := Int.eq_ofNat_of_zero_le hu.1
    obtain ⟨g, m, e⟩ := jarS J (k := 38) (u := u) (ns := ns) (h := h) (by omega)
    have j : JarAt h.length (h ++ [jar g m 0]) := ⟨g, m, 0, by rw [nth_eq]; simp⟩
    refine OKs.by_ (seq_asg (h1 := h ++ [jar g m 0]) (w := .r h.length) ?_) ?_
    · show (lOne _ _ _ _ _).then _ = _
      rw [l_one (w := .d (.list (ns.map .int))) rfl (l_one (w := .d (.int (.ofNat u))) rfl rfl)]
      exact e
    refine OKs.seq (I := fun ρ h' => JarAt h.length h' ∧ ∃ a d, ρ = [some (.d (.list (ns.map .int))), a, none, none, none, some (.r h.length), d, none]) (OKs.for_ _ (iRng1_pts (e := cCon (.int (.ofNat 8))) (v := 8) rfl (by decide)) ?_ ⟨j, _, _, rfl⟩) ?_
    · rintro i hi _ h' ⟨j, a, d, rfl⟩
      rw [onesL_ds] at hi
      obtain ⟨x, hx, rfl⟩ := List.mem_map.mp hi
      obtain ⟨w, h2, e2, k2, rfl⟩ := (rightS j).eq
      have e3 : cCallR 44 (lOne (cSlot 5) lNil) (cv 39) [some (.d (.list (ns.map .int))), a, none, none, none, some (.r h.length), some (.d (.int x)), none] h' = .ok (.d (.bool true)) h2 := e2
      exact OKs.of (seq_if_f (c_not e3)) ⟨_, rfl, k2.jar, _, _, rfl⟩
    · rintro _ h' ⟨_, a, d, rfl⟩
      exact ⟨_, rfl, _, _, _, rfl⟩
  · rintro _ h' ⟨a, c, d, rfl⟩
    exact OKs.of (x := .rt (.d (.bool true))) (h := h') (by kernel_rfl) ⟨_, rfl, rfl⟩
end K75
open PySem PySem.W PySem.Calls PyProof.Rows EV
theorem PySem.Challenge.cw_tiedblocks_k75_errors_of_packed_systems_holds : PySem.Challenge.rw_tiedblocks_k75_errors_of_packed_systems.Holds := by
  exact K75.top_ fun ns _ _ => by
    obtain ⟨w, h2, e, rfl⟩ := (K75.lawS (ns := ns) (h := [])).eq
    exact ⟨h2, e⟩
end
