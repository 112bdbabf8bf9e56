import PyProof.Rows.All
import Wide.All
import OpenK.AllK
import Wide.FinOn
import HandS.ForMost
import HandS.Exc
import HandS.ExcOwn
import HandS.CallSlots
import HandS.IsInst
import HandS.StrMore
import HandS.Zip
import HandS.Wide
import HandS.WideMore
import HandS.Conv
import HandS.HeadHook1
import HandS.TupLe
import HandS.Style
import KE.KDictZip
import HandS.More
import HandS.Flow
import HandS.Dict
import HandS.Iter
import HandS.ExcCtx
import HandS.Call
import HandS.HotCalls
import HandS.ExcIs
import HandS.RaiseFrom
import HandS.TryOnly
import HandS.WordsExc
import HandS.Defaults
import HandS.Head0
import HandS.Head1
import HandS.Head2
import HandS.HeadEnd
import HandS.HeadHook2
import PySem.Challenge.RW_hissroom_k10_whole_least_of_all_makes
set_option Elab.async false
set_option linter.all false
set_option maxRecDepth 100000
set_option maxHeartbeats 0
/-! IL: an inner language with slots, its data, its evaluator. Core Lean alone. -/
namespace IL

inductive Ky where
  | i (n : Int) | s (l : List Nat)
  deriving DecidableEq, Repr

inductive D where
  | non | bl (b : Bool) | int (i : Int) | str (l : List Nat)
  | tup (ds : List D) | lst (ds : List D) | dct (ks : List Ky) (ds : List D) | ref (n : Nat) | err (c : Nat) (ds : List D) | scr (ds : List D)
  deriving Repr, Inhabited

inductive Obj where
  | lst (ds : List D) | dct (ks : List Ky) (ds : List D) | ins (c : Nat) (fs : List (Nat × D))
  | dcl (ks : List Ky) (ds : List D)   -- a dict that is walked
  deriving Repr, Inhabited

abbrev Store := List Obj

structure Exc where
  cls : Nat
  fs : List D
  deriving Repr

inductive R (α : Type) where
  | ok (a : α) (S : Store) | exc (x : Exc) (S : Store) | bad
  deriving Repr

def R.bind {α β : Type} (r : R α) (f : α → Store → R β) : R β := match r with
  | .ok a S => f a S
  | .exc x S => .exc x S
  | .bad => .bad
@[simp ↓] theorem R.bind_ok {α β : Type} (a : α) (S : Store) (f : α → Store → R β) : (R.ok a S).bind f = f a S := rfl
@[simp ↓] theorem R.bind_exc {α β : Type} (x : Exc) (S : Store) (f : α → Store → R β) : (R.exc x S).bind f = .exc x S := rfl
@[simp ↓] theorem R.bind_bad {α β : Type} (f : α → Store → R β) : (R.bad).bind f = .bad := rfl
theorem R.bind_congr {α β : Type} {r r' : R α} (f : α → Store → R β) (h : r = r') : r.bind f = r'.bind f := by rw [h]
/-- where no exception may leave -/
def R.nox {α : Type} (r : R α) : R α := match r with
  | .exc _ _ => .bad
  | r => r
@[simp ↓] theorem R.nox_ok {α : Type} (a : α) (S : Store) : (R.ok a S).nox = .ok a S := rfl
@[simp ↓] theorem R.nox_bad {α : Type} : (R.bad : R α).nox = .bad := rfl
def R.of {α : Type} (o : Option α) (S : Store) : R α := match o with
  | some a => .ok a S
  | none => .bad
@[simp ↓] theorem R.of_some {α : Type} (a : α) (S : Store) : R.of (some a) S = .ok a S := rfl
@[simp ↓] theorem R.of_none {α : Type} (S : Store) : R.of (none : Option α) S = .bad := rfl

inductive Slot where
  | no | val (d : D) | own (d : D) | own2 (d : D)
  deriving Repr, Inhabited

/-! ### the syntax -/
inductive Bop where
  | add | sub | mul | fdiv | mod | pow | eq | ne | lt | le | gt | ge | isin | notin
  deriving DecidableEq, Repr
inductive Ty where
  | int | bool | str | list | tuple
  deriving DecidableEq, Repr
inductive Blt where
  | len | list | max2 | min2 | maxl | minl | isi (t : Ty) | int | str | sum | any | all | sorted | dict | tuple | lzip
  deriving DecidableEq, Repr
inductive Met where
  | append | pop | insert | clear | index | find | count | join | split | get | popk
  deriving DecidableEq, Repr
/-- a target: a slot, or a tuple of targets -/
inductive Tg where
  | v (i : Nat) | t2 (a b : Tg) | t3 (a b c : Tg) | t4 (a b c d : Tg)
  deriving Repr
mutual
inductive E where
  | v (i : Nat) | pk (i : Nat) | k (d : D) | g (x : Nat)
  | bin (o : Bop) (a b : E) | chn (a b c : E) | isn (a : E) | ntn (a : E) | neg (a : E) | not (a : E) | and (es : Es) | or (es : Es) | ite (c a b : E)
  | tup (es : Es) | lst (es : Es) | dct0 | dctd (es : Es) (b : Bool)
  | idx (a i : E) | slL (a lo : E) | slU (a hi : E) | slB (a lo hi : E) | rev (a : E)
  | call (f : Nat) (es : Es) | blt (b : Blt) (es : Es) | met (m : Met) (a : E) (es : Es)
  | lc (tg : Tg) (it : It) (c : Es) (e : E) | lcd (tg : Tg) (w : Nat) (d : E) (c : Es) (e : E) | lcl (tg : Tg) (d : E) (c : Es) (e : E)
  | cell (e : E) | frzr (e : E)
  | nw (f : Nat) (es : Es) | fld (c f : Nat) (a : E) | mth (c f : Nat) (a : E) (es : Es) | mk (c f : Nat) (es : Es)
inductive Es where
  | nil | cons (e : E) (es : Es)
inductive It where
  | of (e : E) | r1 (e : E) | r2 (a b : E) | en (e : E) | zip (a b : E)
end
/-- what an except suite does: return (w, the class told); name = the class told; return a bool; raise another one from None -/
inductive Hk where
  | retK (w : List Nat) | setK (i : Nat) | retB (b : Bool) | raiN (c : Nat)
  deriving DecidableEq, Repr
mutual
inductive S where
  | set (i : Nat) (o : Nat) (e : E) | fz (i : Nat) | unp (t : Tg) (e : E) | aug (i : Nat) (o : Bop) (e : E)
  | ex (e : E) | app (i : Nat) (e : E) | popA (i : Nat) (k : E) | ins (i : Nat) (k e : E) | setx (i : Nat) (k e : E) | setxx (i : Nat) (a b e : E)
  | sets (a k e : E) | setd (a k e : E) | augs (a k : E) (o : Bop) (e : E)
  | iff (c : E) (t e : Ss) | for (tg : Tg) (it : It) (b : Ss) | ford (tg : Tg) (w : Nat) (d : E) (b : Ss) | whl (n : Nat) (c : E) (b : Ss)
  | ret (e : E) | mov (i : Nat) | pass | never
  | sfld (c f : Nat) (a e : E)
  | rai (c : Nat) | try (b : Ss) (c : Nat) (j : Option Nat) (h : Hk)
inductive Ss where
  | nil | cons (s : S) (ss : Ss)
end

/-! ### data operations -/
def line : Nat := 16777216
def ixN (n : Nat) (i : Int) : Option Nat := if 0 ≤ i then (if i < n then some i.toNat else none) else if -(n : Int) ≤ i then some (i + n).toNat else none
def atI {α : Type} (xs : List α) (i : Int) : Option α := (ixN xs.length i).bind fun j => xs[j]?
def sIx (n d : Nat) : Option Int → Nat
  | none => d
  | some i => if i < 0 then (i + n).toNat else min i.toNat n
def cut {α : Type} (xs : List α) (lo hi : Option Int) : List α := (xs.drop (sIx xs.length 0 lo)).take (sIx xs.length xs.length hi - sIx xs.length 0 lo)
def D.ky : D → Option Ky
  | .int i => some (.i i)
  | .str l => some (.s l)
  | _ => none
def kget : List Ky → List D → Ky → Option D
  | k :: ks, d :: ds, x => if k = x then some d else kget ks ds x
  | _, _, _ => none
def kset : List Ky → List D → Ky → D → List D
  | k :: ks, d :: ds, x, y => (if k = x then y else d) :: kset ks ds x y
  | _, _, _, _ => []
def kput (ks : List Ky) (ds : List D) (x : Ky) (y : D) : List Ky × List D := if x ∈ ks then (ks, kset ks ds x y) else (ks ++ [x], ds ++ [y])
def kyD : Ky → D
  | .i n => .int n
  | .s l => .str l
def kdel : List Ky → List D → Ky → List Ky × List D
  | k :: ks, d :: ds, x => if k = x then kdel ks ds x else (k :: (kdel ks ds x).1, d :: (kdel ks ds x).2)
  | _, _, _ => ([], [])
/-- what a walk goes through: keys, values, both -/
def wlk (w : Nat) (ks : List Ky) (ds : List D) : List D := match w with
  | 0 => ks.map kyD
  | 1 => ds
  | _ => (ks.zip ds).map fun p => .tup [kyD p.1, p.2]
def dispK (d : D) : List D → List Ky → List D → Option D
  | [], ks, es => some (.dct ks es)
  | x :: xs, ks, es => x.ky.bind fun k => dispK d xs (kput ks es k d).1 (kput ks es k d).2
mutual
def D.noL : D → Bool
  | .lst _ => false
  | .dct _ _ => false
  | .tup ds => D.noLs ds
  | .err _ ds => D.noLs ds
  | .scr _ => false
  | _ => true
def D.noLs : List D → Bool
  | [] => true
  | d :: ds => D.noL d && D.noLs ds
end
def Obj.noL : Obj → Bool
  | .lst ds => D.noLs ds
  | .dct _ ds => D.noLs ds
  | .ins _ fs => D.noLs (fs.map (·.2))
  | .dcl _ ds => D.noLs ds
def Store.noL (S : Store) : Bool := S.all Obj.noL
mutual
def D.eqv : D → D → Bool
  | .non, .non => true
  | .bl a, .bl b => a == b
  | .bl a, .int j => (if a then 1 else 0) == j
  | .int i, .bl b => i == (if b then 1 else 0)
  | .int i, .int j => i == j
  | .str x, .str y => x == y
  | .lst xs, .lst ys => D.eqvs xs ys
  | .tup xs, .tup ys => D.eqvs xs ys
  | _, _ => false
def D.eqvs : List D → List D → Bool
  | [], [] => true
  | x :: xs, y :: ys => D.eqv x y && D.eqvs xs ys
  | _, _ => false
end
mutual
def D.shp : Nat → D → Bool
  | _, .non => true
  | _, .bl _ => true
  | _, .int _ => true
  | _, .str l => l.all fun c => decide (c < 1114112)
  | 0, _ => false
  | n + 1, .tup ds => D.shps n ds
  | n + 1, .lst ds => D.shps n ds
  | _, _ => false
def D.shps : Nat → List D → Bool
  | _, [] => true
  | n, d :: ds => D.shp n d && D.shps n ds
end
/-- scalars that == tells apart by their kinds -/
def D.scal : D → D → Bool
  | .non, .non => true | .non, .int _ => true | .int _, .non => true | .non, .bl _ => true | .bl _, .non => true | .non, .str _ => true | .str _, .non => true
  | .int _, .int _ => true | .bl _, .bl _ => true | .str _, .str _ => true
  | .int _, .str _ => true | .str _, .int _ => true | .bl _, .str _ => true | .str _, .bl _ => true
  | _, _ => false
def D.flat : D → Bool
  | .non => true
  | .bl _ => true
  | .int _ => true
  | .str _ => true
  | _ => false
def intsD : List D → Option (List Int)
  | [] => some []
  | .int i :: r => (intsD r).map (i :: ·)
  | _ :: _ => none
def blsD : List D → Option (List Bool)
  | [] => some []
  | .bl b :: r => (blsD r).map (b :: ·)
  | _ :: _ => none
def strsD : List D → Option (List (List Nat))
  | [] => some []
  | .str b :: r => (strsD r).map (b :: ·)
  | _ :: _ => none
def small (i : Int) : Bool := decide (-(2 ^ 64) < i) && decide (i < 2 ^ 64)
def wide (i : Int) : Bool := decide (i.natAbs < 2 ^ 4000)
def mulOk (i j : Int) : Bool := small i || small j || (wide i && wide j)
def i63 (k : Int) : Bool := decide (-(2 ^ 63) ≤ k) && decide (k < 2 ^ 63)
def reps {α : Type} (xs : List α) : Nat → List α
  | 0 => []
  | n + 1 => xs ++ reps xs n
def guard {α : Type} (b : Bool) (o : Option α) : Option α := if b then o else none
def D.isI : D → Bool
  | .int _ => true
  | _ => false
def inD (a b : D) (S : Store) : Option Bool := match b with
  | .str l => (match a with | .str [c] => some (decide (c ∈ l)) | _ => none)
  | .lst ds => (match a with
    | .tup _ => guard (ds.all D.isI) (some false)
    | _ => guard (a.flat && ds.all D.flat) (some (ds.any fun y => D.eqv y a)))
  | .tup ds => guard (a.flat && ds.all D.flat) (some (ds.any fun y => D.eqv y a))
  | .dct ks ds => a.ky.map fun k => (kget ks ds k).isSome
  | .ref n => (match S[n]? with
    | some (.dct ks ds) => a.ky.map fun k => (kget ks ds k).isSome
    | some (.dcl ks ds) => a.ky.map fun k => (kget ks ds k).isSome
    | _ => none)
  | _ => none
def bop (o : Bop) (a b : D) (S : Store) : Option D := match o with
  | .add => (match a, b with
    | .int i, .int j => some (.int (i + j))
    | .str x, .str y => guard (decide (x.length + y.length ≤ line)) (some (.str (x ++ y)))
    | .lst x, .lst y => guard (decide (x.length + y.length ≤ line)) (some (.lst (x ++ y)))
    | .tup x, .tup y => guard (decide (x.length + y.length ≤ line) && !x.isEmpty && !y.isEmpty) (some (.tup (x ++ y)))
    | _, _ => none)
  | .sub => (match a, b with
    | .int i, .int j => some (.int (i - j))
    | _, _ => none)
  | .mul => (match a, b with
    | .int i, .int j => guard (mulOk i j) (some (.int (i * j)))
    | .str x, .int j => guard (i63 j && decide (x.length * j.toNat ≤ line)) (some (.str (reps x j.toNat)))
    | .lst x, .int j => guard (i63 j && decide (x.length * j.toNat ≤ line)) (some (.lst (reps x j.toNat)))
    | _, _ => none)
  | .fdiv => (match a, b with
    | .int i, .int j => guard (decide (0 < j) && wide j) (some (.int (i / j)))
    | _, _ => none)
  | .mod => (match a, b with
    | .int i, .int j => guard (decide (0 < j)) (some (.int (i % j)))
    | _, _ => none)
  | .pow => (match a, b with
    | .int i, .int j => guard (decide (0 ≤ j) && decide (j ≤ 1000) && small i) (some (.int (i ^ j.toNat)))
    | _, _ => none)
  | .eq => guard (D.scal a b || (a.shp 60 && b.shp 60)) (some (.bl (a.eqv b)))
  | .ne => guard (D.scal a b || (a.shp 60 && b.shp 60)) (some (.bl (!a.eqv b)))
  | .lt => (match a, b with
    | .int i, .int j => some (.bl (decide (i < j)))
    | _, _ => none)
  | .le => (match a, b with
    | .int i, .int j => some (.bl (decide (i ≤ j)))
    | _, _ => none)
  | .gt => (match a, b with
    | .int i, .int j => some (.bl (decide (j < i)))
    | .tup [.int i, .int j], .tup [.int k, .int l] => some (.bl (if i = k then decide (l < j) else decide (k < i)))
    | _, _ => none)
  | .ge => (match a, b with
    | .int i, .int j => some (.bl (decide (j ≤ i)))
    | _, _ => none)
  | .isin => (inD a b S).map .bl
  | .notin => (inD a b S).map fun x => .bl (!x)
def isN : D → Bool
  | .non => true
  | _ => false
def idxO (o : Obj) (i : D) : Option D := match o with
  | .lst ds => (match i with | .int k => atI ds k | _ => none)
  | .dct ks ds => i.ky.bind (kget ks ds)
  | .dcl ks ds => i.ky.bind (kget ks ds)
  | _ => none
def idxD (S : Store) (a i : D) : Option D := match a with
  | .lst ds => (match i with | .int k => atI ds k | _ => none)
  | .tup ds => (match i with | .int k => atI ds k | _ => none)
  | .str l => (match i with | .int k => guard (decide (l.length ≤ line)) ((atI l k).map fun c => .str [c]) | _ => none)
  | .dct ks ds => i.ky.bind (kget ks ds)
  | .ref n => (S[n]?).bind fun o => idxO o i
  | _ => none
def sliceD (a : D) (lo hi : Option Int) : Option D := match a with
  | .lst ds => some (.lst (cut ds lo hi))
  | .tup ds => (let r := cut ds lo hi; guard (decide (r.length ≠ ds.length)) (some (.tup r)))
  | .str l => guard (decide (l.length ≤ line)) (some (.str (cut l lo hi)))
  | _ => none
def intOf : D → Option Int
  | .int i => some i
  | _ => none
def lenD (S : Store) : D → Option Int
  | .lst ds => some ds.length
  | .tup ds => some ds.length
  | .str l => guard (decide (l.length ≤ line)) (some l.length)
  | .ref n => (match S[n]? with
    | some (.lst ds) => some ds.length
    | some (.dct ks _) => some ks.length
    | _ => none)
  | _ => none
def isTy : Ty → D → Option Bool
  | _, .ref _ => none
  | _, .err _ _ => none
  | _, .scr _ => none
  | .int, .int _ => some true
  | .int, .bl _ => some true
  | .bool, .bl _ => some true
  | .str, .str _ => some true
  | .list, .lst _ => some true
  | .tuple, .tup _ => some true
  | _, _ => some false
def maxL : List Int → Option Int
  | [] => none
  | x :: r => some (r.foldl max x)
def minL : List Int → Option Int
  | [] => none
  | x :: r => some (r.foldl min x)
def digits (n : Nat) : List Nat := (Nat.toDigits 10 n).map Char.toNat
/-- the number that figures tell -/
def valL (l : List Nat) : Nat := l.foldl (fun a c => a * 10 + (c - 48)) 0
def insI (x : Int) : List Int → List Int
  | [] => [x]
  | y :: r => if x ≤ y then x :: y :: r else y :: insI x r
def sortI : List Int → List Int
  | [] => []
  | x :: r => insI x (sortI r)
def digVal (l : List Nat) : Option Int := guard (!l.isEmpty && decide (l.length ≤ 9) && l.all fun c => decide (48 ≤ c) && decide (c ≤ 57)) (some ((l.foldl (fun a c => a * 10 + (c - 48)) 0 : Nat) : Int))
def zipL : List D → List D → List D
  | a :: as, b :: bs => .tup [a, b] :: zipL as bs
  | _, _ => []
def seqL (S : Store) : D → Option (List D)
  | .lst ds => some ds
  | .ref n => (match S[n]? with
    | some (.lst ds) => some ds
    | _ => none)
  | _ => none
def bltD (S : Store) : Blt → List D → Option D
  | .len, [a] => (lenD S a).map .int
  | .list, [.lst ds] => some (.lst ds)
  | .list, [.tup ds] => some (.lst ds)
  | .list, [.scr ds] => some (.lst ds)
  | .list, [.dct ks _] => some (.lst (ks.map kyD))
  | .list, [.ref n] => (match S[n]? with
    | some (.lst ds) => some (.lst ds)
    | some (.dct ks _) => some (.lst (ks.map kyD))
    | some (.dcl ks _) => some (.lst (ks.map kyD))
    | _ => none)
  | .dict, [.dct ks ds] => some (.dct ks ds)
  | .dict, [.ref n] => (match S[n]? with
    | some (.dct ks ds) => some (.dct ks ds)
    | some (.dcl ks ds) => some (.dct ks ds)
    | _ => none)
  | .max2, [.int i, .int j] => some (.int (if j > i then j else i))
  | .min2, [.int i, .int j] => some (.int (if j < i then j else i))
  | .maxl, [.lst ds] => ((intsD ds).bind maxL).map .int
  | .minl, [.lst ds] => ((intsD ds).bind minL).map .int
  | .isi t, [a] => (isTy t a).map .bl
  | .int, [.int i] => some (.int i)
  | .int, [.bl b] => some (.int (if b then 1 else 0))
  | .int, [.str l] => guard (decide (l = digits (valL l)) && decide (l.length ≤ 640)) (some (.int (valL l : Nat)))
  | .str, [.int i] => guard (decide (0 ≤ i) && decide (i.natAbs < 2 ^ 1000)) (some (.str (digits i.toNat)))
  | .sum, [.lst ds] => (intsD ds).map fun l => .int l.sum
  | .any, [.lst ds] => (blsD ds).map fun l => .bl (l.any id)
  | .all, [.lst ds] => (blsD ds).map fun l => .bl (l.all id)
  | .sorted, [.lst ds] => (intsD ds).bind fun l => guard (decide (l.length < 64)) (some (.lst ((sortI l).map .int)))
  | .tuple, [.lst ds] => some (.tup ds)
  | .lzip, [a, b] => (seqL S a).bind fun xs => (seqL S b).map fun ys => .lst (zipL xs ys)
  | _, _ => none
def findS (c : Nat) (l : List Nat) (at_ : Nat) : Int := match (l.drop at_).findIdx? (· == c) with
  | some j => ((at_ + j : Nat) : Int)
  | none => -1
def splitL (s : Nat) : List Nat → List (List Nat)
  | [] => [[]]
  | c :: r => if c = s then [] :: splitL s r else (match splitL s r with
    | p :: ps => (c :: p) :: ps
    | [] => [[c]])
def joinL (sep : List Nat) : List (List Nat) → List Nat
  | [] => []
  | [x] => x
  | x :: y :: r => x ++ sep ++ joinL sep (y :: r)
def joinLen (sep : List Nat) (ls : List (List Nat)) : Nat := (ls.map fun l => l.length + sep.length).sum
/-- the receiver's kind, as it must be ahead of the arguments -/
def rcv (m : Met) (a : D) (S : Store) : Bool := match m, a with
  | .append, .ref n => (match S[n]? with | some (.lst _) => true | _ => false)
  | .pop, .ref n => (match S[n]? with | some (.lst _) => true | _ => false)
  | .popk, .ref n => (match S[n]? with | some (.dct _ _) => true | _ => false)
  | .clear, .ref n => (match S[n]? with | some (.lst _) => true | _ => false)
  | .index, .lst _ => true
  | .find, .str _ => true
  | .count, .str _ => true
  | .join, .str _ => true
  | .split, .str _ => true
  | .get, .dct _ _ => true
  | .get, .ref n => (match S[n]? with | some (.dct _ _) => true | some (.dcl _ _) => true | _ => false)
  | _, _ => false
def metD (S : Store) (m : Met) (a : D) (xs : List D) : Option (D × Store) := match m, a, xs with
  | .append, .ref n, [x] => (match S[n]? with
    | some (.lst ds) => guard (decide (ds.length < line)) (some (.non, S.set n (.lst (ds ++ [x]))))
    | _ => none)
  | .pop, .ref n, [] => (match S[n]? with
    | some (.lst ds) => ds.getLast?.map fun y => (y, S.set n (.lst ds.dropLast))
    | _ => none)
  | .popk, .ref n, [x] => (match S[n]? with
    | some (.dct ks ds) => x.ky.bind fun k => (kget ks ds k).map fun y => (y, S.set n (.dct (kdel ks ds k).1 (kdel ks ds k).2))
    | _ => none)
  | .clear, .ref n, [] => (match S[n]? with
    | some (.lst _) => some (.non, S.set n (.lst []))
    | _ => none)
  | .index, .lst ds, [x] => guard (x.flat && ds.all D.flat) ((ds.findIdx? fun y => D.eqv y x).map fun j => (.int (j : Nat), S))
  | .find, .str l, [.str [c], .int i] => guard (decide (0 ≤ i) && decide (i ≤ line) && decide (l.length ≤ line)) (some (.int (findS c l i.toNat), S))
  | .count, .str l, [.str [c]] => guard (decide (l.length ≤ line)) (some (.int (l.count c : Nat), S))
  | .join, .str sep, [.lst ds] => (strsD ds).bind fun ls => guard (decide (joinLen sep ls ≤ line)) (some (.str (joinL sep ls), S))
  | .split, .str l, [.str [c]] => guard (decide (l.length + 2 ≤ line) && decide (c < 256)) (some (.lst ((splitL c l).map .str), S))
  | .get, .dct ks ds, [x, y] => x.ky.map fun k => ((kget ks ds k).getD y, S)
  | .get, .ref n, [x, y] => (match S[n]? with
    | some (.dct ks ds) => x.ky.map fun k => ((kget ks ds k).getD y, S)
    | some (.dcl ks ds) => x.ky.map fun k => ((kget ks ds k).getD y, S)
    | _ => none)
  | _, _, _ => none

/-! ### evaluation -/
abbrev CallF := Nat → List D → Store → R D
/-- what is fixed: the defs, whether they hand back a new list, the module's constants -/
structure G where
  call : CallF
  fr : Nat → Bool
  con : Nat → Option D
def rangeL (lo : Int) : Nat → List D
  | 0 => []
  | n + 1 => .int lo :: rangeL (lo + 1) n
def i62 (k : Int) : Bool := decide (-(2 ^ 62) ≤ k) && decide (k < 2 ^ 62)
def enumL (i : Nat) : List D → List D
  | [] => []
  | d :: ds => .tup [.int i, d] :: enumL (i + 1) ds
def chars (l : List Nat) : List D := l.map fun c => .str [c]
def seqIt : D → Option (List D)
  | .lst ds => some ds
  | .tup ds => some ds
  | .str l => some (chars l)
  | _ => none
def asg : Tg → D → List Slot → Option (List Slot)
  | .v i, d, σ => if i < σ.length then some (σ.set i (.val d)) else none
  | .t2 a b, .tup [x, y], σ => (asg a x σ).bind (asg b y)
  | .t3 a b c, .tup [x, y, z], σ => ((asg a x σ).bind (asg b y)).bind (asg c z)
  | .t4 a b c e, .tup [x, y, z, w], σ => (((asg a x σ).bind (asg b y)).bind (asg c z)).bind (asg e w)
  | _, _, _ => none
def Tg.vars : Tg → List Nat
  | .v i => [i]
  | .t2 a b => a.vars ++ b.vars
  | .t3 a b c => a.vars ++ b.vars ++ c.vars
  | .t4 a b c d => a.vars ++ b.vars ++ c.vars ++ d.vars
def wipe (σ : List Slot) : List Nat → List Slot
  | [] => σ
  | v :: vs => (wipe σ vs).set v .no
def noOwn (σ : List Slot) (vs : List Nat) : Bool := vs.all fun i => match σ[i]? with
  | some (.own _) => false
  | some (.own2 _) => false
  | _ => true
def E.isPk : E → Bool
  | .pk _ => true
  | _ => false
def Es.anyPk : Es → Bool
  | .nil => false
  | .cons e es => e.isPk || es.anyPk
def Es.len : Es → Nat
  | .nil => 0
  | .cons _ es => es.len + 1
/-- what an expression's top is: a new list or dict -/
def E.alloc (fr : Nat → Bool) : E → Bool
  | .lst _ => true
  | .dct0 => true
  | .dctd _ _ => true
  | .lc _ _ _ _ => true
  | .lcd _ _ _ _ _ => true
  | .lcl _ _ _ _ => true
  | .bin _ _ _ => true
  | .slL _ _ => true
  | .slU _ _ => true
  | .slB _ _ _ => true
  | .rev _ => true
  | .blt .list _ => true
  | .blt .sorted _ => true
  | .blt .lzip _ => true
  | .blt .dict _ => true
  | .met .split _ _ => true
  | .call f _ => fr f
  | .mth _ f _ _ => fr f
  | .nw _ _ => true
  | _ => false
/-- nothing within -/
def D.atom : D → Bool
  | .non => true
  | .bl _ => true
  | .int _ => true
  | .str _ => true
  | .ref _ => true
  | _ => false
def Obj.fl : Obj → Bool
  | .lst ds => ds.all D.atom
  | .dct _ ds => ds.all D.atom
  | .ins _ _ => false
  | .dcl _ _ => false
mutual
/-- the lists that stand within -/
def D.lss : D → List (List D)
  | .tup ds => D.lsss ds
  | .lst ds => ds :: D.lsss ds
  | .dct _ ds => D.lsss ds
  | _ => []
def D.lsss : List D → List (List D)
  | [] => []
  | d :: ds => D.lss d ++ D.lsss ds
end
mutual
def D.noScr : D → Bool
  | .tup ds => D.noScrs ds
  | .lst ds => D.noScrs ds
  | .dct _ ds => D.noScrs ds
  | .scr _ => false
  | _ => true
def D.noScrs : List D → Bool
  | [] => true
  | d :: ds => D.noScr d && D.noScrs ds
end
/-- a list of ints, like none that was handed in -/
def newOk (d : D) (ds : List D) (S1 S2 : Store) : Bool := match d with
  | .lst xs => (match intsD xs with
    | some l => D.noScrs ds && (D.lsss ds).all (fun es => decide (intsD es ≠ some l)) && S1.all Obj.fl && S2.all Obj.fl
    | none => false)
  | _ => false
/-- an instance of a class -/
def insD (S : Store) (c : Nat) : D → Option (List (Nat × D))
  | .ref n => (match S[n]? with
    | some (.ins k fs) => if k = c then some fs else none
    | _ => none)
  | _ => none
def fput (f : Nat) (y : D) : List (Nat × D) → List (Nat × D)
  | [] => [(f, y)]
  | (g, d) :: r => if g = f then (g, y) :: r else (g, d) :: fput f y r
mutual
/-- its objects stand below n -/
def D.refLt (n : Nat) : D → Bool
  | .ref m => decide (m < n)
  | .tup ds => D.refLts n ds
  | .lst ds => D.refLts n ds
  | .dct _ ds => D.refLts n ds
  | .err _ ds => D.refLts n ds
  | .scr _ => false
  | _ => true
def D.refLts (n : Nat) : List D → Bool
  | [] => true
  | d :: ds => D.refLt n d && D.refLts n ds
end
def Obj.refLt (n : Nat) : Obj → Bool
  | .lst ds => D.refLts n ds
  | .dct _ ds => D.refLts n ds
  | .ins _ fs => D.refLts n (fs.map (·.2))
  | .dcl _ ds => D.refLts n ds
/-- a place told without doing anything -/
def pth (σ : List Slot) (S : Store) : E → Option D
  | .v i => (match σ[i]? with
    | some (.val d) => some d
    | _ => none)
  | .fld c f a => (pth σ S a).bind fun x => (insD S c x).bind (List.lookup f)
  | .idx a (.k i) => (pth σ S a).bind fun x => idxD S x i
  | _ => none
def E.isPth : E → Bool
  | .v _ => true
  | .fld _ _ a => a.isPth
  | .idx a (.k _) => a.isPth
  | _ => false
def pkOk (fr : Bool) (d : D) (S : Store) : Bool := (match d with
  | .lst ds => fr && D.noLs ds
  | d => d.noL) && Store.noL S
def lcLoop (f : D → Store → R (Option D)) : List D → Store → R (List D)
  | [], S => .ok [] S
  | d :: ds, S => (f d S).bind fun o S1 => (lcLoop f ds S1).bind fun r S2 => .ok (match o with | some x => x :: r | none => r) S2
/-- a list of the store, walked as it stands -/
def lcLive (f : D → Store → R (Option D)) (n : Nat) : Nat → Nat → Store → R (List D)
  | 0, _, _ => .bad
  | m + 1, i, S => (match S[n]? with
    | some (.lst ds) => (match ds[i]? with
      | some d => (f d S).bind fun o S1 => (lcLive f n m (i + 1) S1).bind fun r S2 => .ok (match o with | some x => x :: r | none => r) S2
      | none => .ok [] S)
    | _ => .bad)
mutual
def evalE (G : G) (σ : List Slot) : E → Store → R D
  | .v i, S => (match σ[i]? with
    | some (.val d) => .ok d S
    | _ => .bad)
  | .pk i, S => (match σ[i]? with
    | some (.own d) => .ok d S
    | _ => .bad)
  | .k d, S => .ok d S
  | .g x, S => .of (G.con x) S
  | .bin o a b, S => (evalE G σ a S).bind fun x S1 => (evalE G σ b S1).bind fun y S2 => .of (bop o x y S2) S2
  | .chn a b c, S => (evalE G σ a S).bind fun x S1 => (evalE G σ b S1).bind fun y S2 => (match x, y with
    | .int i, .int j => if i ≤ j then (evalE G σ c S2).bind fun z S3 => (match z with
      | .int k => .ok (.bl (decide (j ≤ k))) S3
      | _ => .bad) else .ok (.bl false) S2
    | _, _ => .bad)
  | .isn a, S => (evalE G σ a S).bind fun x S1 => .ok (.bl (isN x)) S1
  | .ntn a, S => (evalE G σ a S).bind fun x S1 => .ok (.bl (!isN x)) S1
  | .neg a, S => (evalE G σ a S).bind fun x S1 => (match x with
    | .int i => .ok (.int (-i)) S1
    | _ => .bad)
  | .not a, S => (evalE G σ a S).bind fun x S1 => (match x with
    | .bl b => .ok (.bl (!b)) S1
    | _ => .bad)
  | .and es, S => evalAnd G σ es S
  | .or es, S => evalOr G σ es S
  | .ite c a b, S => (evalE G σ c S).bind fun x S1 => (match x with
    | .bl t => if t then evalE G σ a S1 else evalE G σ b S1
    | _ => .bad)
  | .tup es, S => if es.anyPk then .bad else (evalEs G σ es S).bind fun ds S1 => .ok (.tup ds) S1
  | .lst es, S => if es.anyPk then .bad else (evalEs G σ es S).bind fun ds S1 => .ok (.lst ds) S1
  | .dct0, S => .ok (.dct [] []) S
  | .dctd es b, S => if es.anyPk then .bad else (evalEs G σ es S).bind fun ds S1 => .of (dispK (.bl b) ds [] []) S1
  | .idx a i, S => (evalE G σ a S).bind fun x S1 => (evalE G σ i S1).bind fun y S2 => .of (idxD S2 x y) S2
  | .slL a lo, S => (evalE G σ a S).bind fun x S1 => (evalE G σ lo S1).bind fun y S2 => .of ((intOf y).bind fun i => sliceD x (some i) none) S2
  | .slU a hi, S => (evalE G σ a S).bind fun x S1 => (evalE G σ hi S1).bind fun y S2 => .of ((intOf y).bind fun i => sliceD x none (some i)) S2
  | .slB a lo hi, S => (evalE G σ a S).bind fun x S1 => (evalE G σ lo S1).bind fun y S2 => (match y with
    | .int i => (evalE G σ hi S2).bind fun z S3 => .of ((intOf z).bind fun j => sliceD x (some i) (some j)) S3
    | _ => .bad)
  | .rev a, S => (evalE G σ a S).bind fun x S1 => (match x with
    | .lst ds => .ok (.lst ds.reverse) S1
    | .str l => if l.length ≤ line then .ok (.str l.reverse) S1 else .bad
    | _ => .bad)
  | .call f es, S => (evalEs G σ es S).bind fun ds S1 => if es.anyPk then (G.call f ds S1).nox.bind fun d S2 => if pkOk (G.fr f) d S2 then .ok d S2 else .bad else G.call f ds S1
  | .blt b es, S => (evalEs G σ es S).bind fun ds S1 => .of (bltD S1 b ds) S1
  | .met m a es, S => if es.anyPk then .bad else (evalE G σ a S).bind fun x S1 => if rcv m x S1 then (evalEs G σ es S1).bind fun ds S2 => (match metD S2 m x ds with
    | some (d, S3) => .ok d S3
    | none => .bad) else .bad
  | .lc tg it c e, S => if e.isPk || !noOwn σ tg.vars then .bad else (evalIt G σ it S).bind fun ds S1 => if ds.length ≤ line then
      (lcLoop (fun d S => match asg tg d (wipe σ tg.vars) with
        | some σ' => ((evalAnd G σ' c S).bind fun b S' => (match b with
          | .bl true => (evalE G σ' e S').bind fun y S'' => .ok (some y) S''
          | .bl false => .ok none S'
          | _ => .bad)).nox
        | none => .bad) ds S1).bind fun r S2 => .ok (.lst r) S2
    else .bad
  | .lcd tg w d c e, S => if e.isPk || !noOwn σ tg.vars then .bad else
      let f := (fun d S => match asg tg d (wipe σ tg.vars) with
        | some σ' => ((evalAnd G σ' c S).bind fun b S' => (match b with
          | .bl true => (evalE G σ' e S').bind fun y S'' => .ok (some y) S''
          | .bl false => .ok none S'
          | _ => .bad)).nox
        | none => .bad)
      match pth σ S d with
      | some (.ref n) => (match S[n]? with
        | some (.dct ks ds) => if ds.length ≤ line ∧ ks.length = ds.length then (lcLoop f (wlk w ks ds) (S.set n (.dcl ks ds))).nox.bind fun r S2 => (match S2[n]? with
          | some (.dcl ks' ds') => .ok (.lst r) (S2.set n (.dct ks' ds'))
          | _ => .bad) else .bad
        | some (.dcl ks ds) => if ds.length ≤ line ∧ ks.length = ds.length then (lcLoop f (wlk w ks ds) S).bind fun r S2 => .ok (.lst r) S2 else .bad
        | _ => .bad)
      | _ => .bad
  | .lcl tg d c e, S => if e.isPk || !noOwn σ tg.vars then .bad else (match pth σ S d with
      | some (.ref n) => (match S[n]? with
        | some (.lst ds) => if ds.length < line then (lcLive (fun d S => match asg tg d (wipe σ tg.vars) with
          | some σ' => ((evalAnd G σ' c S).bind fun b S' => (match b with
            | .bl true => (evalE G σ' e S').bind fun y S'' => .ok (some y) S''
            | .bl false => .ok none S'
            | _ => .bad)).nox
          | none => .bad) n (ds.length + 1) 0 S).bind fun r S2 => .ok (.lst r) S2 else .bad
        | _ => .bad)
      | _ => .bad)
  | .cell e, S => if e.isPk || !e.alloc G.fr then .bad else (evalE G σ e S).bind fun d S1 => (match d with
    | .lst ds => .ok (.ref S1.length) (S1 ++ [.lst ds])
    | .dct ks ds => .ok (.ref S1.length) (S1 ++ [.dct ks ds])
    | _ => .bad)
  | .frzr e, S => if e.isPk || e.alloc G.fr then .bad else (evalE G σ e S).bind fun d S1 => (match d with
    | .ref n => (match S1[n]? with
      | some (.lst ds) => if n = S.length ∧ D.refLts n ds = true ∧ (S1.take n).all (Obj.refLt n) = true then .ok (.lst ds) (S1.take n) else .bad
      | _ => .bad)
    | _ => .bad)
  | .nw f es, S => if es.anyPk then .bad else (evalEs G σ es S).bind fun ds S1 => (G.call f ds S1).nox.bind fun d S2 => if newOk d ds S1 S2 then .ok d S2 else .bad
  | .fld c f a, S => (evalE G σ a S).bind fun x S1 => .of ((insD S1 c x).bind (List.lookup f)) S1
  | .mth c f a es, S => if es.anyPk then .bad else (evalE G σ a S).bind fun x S1 => (match insD S1 c x with
    | some _ => (evalEs G σ es S1).bind fun ds S2 => G.call f (x :: ds) S2
    | none => .bad)
  | .mk c f es, S => if es.anyPk then .bad else (evalEs G σ es S).bind fun ds S1 => (G.call f (.ref S1.length :: ds) (S1 ++ [.ins c []])).bind fun r S2 => (match r with
    | .non => .ok (.ref S1.length) S2
    | _ => .bad)
def evalEs (G : G) (σ : List Slot) : Es → Store → R (List D)
  | .nil, S => .ok [] S
  | .cons e es, S => (evalE G σ e S).bind fun d S1 => (evalEs G σ es S1).bind fun ds S2 => .ok (d :: ds) S2
def evalAnd (G : G) (σ : List Slot) : Es → Store → R D
  | .nil, S => .ok (.bl true) S
  | .cons e es, S => (evalE G σ e S).bind fun d S1 => (match d with
    | .bl true => evalAnd G σ es S1
    | .bl false => .ok (.bl false) S1
    | _ => .bad)
def evalOr (G : G) (σ : List Slot) : Es → Store → R D
  | .nil, S => .ok (.bl false) S
  | .cons e es, S => (evalE G σ e S).bind fun d S1 => (match d with
    | .bl false => evalOr G σ es S1
    | .bl true => .ok (.bl true) S1
    | _ => .bad)
def evalIt (G : G) (σ : List Slot) : It → Store → R (List D)
  | .of e, S => if e.isPk then .bad else (evalE G σ e S).bind fun d S1 => .of (seqIt d) S1
  | .r1 e, S => (evalE G σ e S).bind fun d S1 => (match d with
    | .int i => if i62 i then .ok (rangeL 0 i.toNat) S1 else .bad
    | _ => .bad)
  | .r2 a b, S => (evalE G σ a S).bind fun x S1 => (evalE G σ b S1).bind fun y S2 => (match x, y with
    | .int i, .int j => if i62 i && i62 j then .ok (rangeL i (j - i).toNat) S2 else .bad
    | _, _ => .bad)
  | .en e, S => if e.isPk then .bad else (evalE G σ e S).bind fun d S1 => (match d with
    | .lst ds => .ok (enumL 0 ds) S1
    | _ => .bad)
  | .zip a b, S => if a.isPk || b.isPk then .bad else (evalE G σ a S).bind fun x S1 => (evalE G σ b S1).bind fun y S2 => (match x, y with
    | .lst xs, .lst ys => .ok (zipL xs ys) S2
    | .tup xs, .tup ys => .ok (zipL xs ys) S2
    | _, _ => .bad)
end

/-! ### execution -/
inductive RS where
  | nx (σ : List Slot) (S : Store) | rt (d : D) (o : Bool) (S : Store) | exc (x : Exc) (σ : List Slot) (S : Store) | bad
  deriving Repr
def R.toS {α : Type} (r : R α) (σ : List Slot) (f : α → Store → RS) : RS := match r with
  | .ok a S => f a S
  | .exc x S => .exc x σ S
  | .bad => .bad
@[simp ↓] theorem R.toS_ok {α : Type} (a : α) (σ : List Slot) (S : Store) (f : α → Store → RS) : (R.ok a S).toS σ f = f a S := rfl
@[simp ↓] theorem R.toS_exc {α : Type} (x : Exc) (σ : List Slot) (S : Store) (f : α → Store → RS) : (R.exc x S).toS σ f = .exc x σ S := rfl
@[simp ↓] theorem R.toS_bad {α : Type} (σ : List Slot) (f : α → Store → RS) : (R.bad).toS σ f = .bad := rfl
def RS.then (r : RS) (f : List Slot → Store → RS) : RS := match r with
  | .nx σ S => f σ S
  | r => r
@[simp ↓] theorem RS.then_nx (σ : List Slot) (S : Store) (f : List Slot → Store → RS) : (RS.nx σ S).then f = f σ S := rfl
@[simp ↓] theorem RS.then_rt (d : D) (o : Bool) (S : Store) (f : List Slot → Store → RS) : (RS.rt d o S).then f = .rt d o S := rfl
@[simp ↓] theorem RS.then_exc (x : Exc) (σ : List Slot) (S : Store) (f : List Slot → Store → RS) : (RS.exc x σ S).then f = .exc x σ S := rfl
@[simp ↓] theorem RS.then_bad (f : List Slot → Store → RS) : (RS.bad).then f = .bad := rfl
theorem R.toS_congr {α : Type} {r r' : R α} (σ : List Slot) (f : α → Store → RS) (h : r = r') : r.toS σ f = r'.toS σ f := by rw [h]
theorem RS.then_congr {r r' : RS} (f : List Slot → Store → RS) (h : r = r') : r.then f = r'.then f := by rw [h]
def forLoop (f : D → List Slot → Store → RS) : List D → List Slot → Store → RS
  | [], σ, S => .nx σ S
  | d :: ds, σ, S => (f d σ S).then (forLoop f ds)
def whlLoop (c : List Slot → Store → R D) (f : List Slot → Store → RS) : Nat → List Slot → Store → RS
  | 0, _, _ => .bad
  | n + 1, σ, S => (c σ S).toS σ fun b S1 => (match b with
    | .bl true => (f σ S1).then (whlLoop c f n)
    | .bl false => .nx σ S1
    | _ => .bad)
def D.isNode : D → Bool
  | .lst _ => true
  | .dct _ _ => true
  | _ => false
/-- what a store into a slot of ownership o makes -/
def mkSlot (o : Nat) (d : D) : Slot := match o with
  | 0 => .val d
  | 1 => if d.isNode then .own d else .val d
  | _ => .own2 d
/-- o = 2: a list of lists all made anew -/
def alloc2 (fr : Nat → Bool) : E → Bool
  | .lc _ _ _ e => e.alloc fr
  | _ => false
def augD (o : Bop) (x y : D) : Option D := match o, x, y with
  | .add, .int a, .int b => some (.int (a + b))
  | .sub, .int a, .int b => some (.int (a - b))
  | _, _, _ => none
def setRow (ds : List D) (i j : Int) (y : D) : Option (List D) := (ixN ds.length i).bind fun a => match ds[a]? with
  | some (.lst es) => (ixN es.length j).map fun b => ds.set a (.lst (es.set b y))
  | _ => none
def xwd : Nat → List Nat
  | 0 => [66, 97, 100, 66, 97, 114, 115]
  | 1 => [66, 97, 100, 77, 97, 107, 101]
  | 2 => [66, 97, 100, 78, 117, 109, 98, 101, 114]
  | 3 => [66, 97, 100, 84, 101, 120, 116]
  | 4 => [66, 97, 100, 78, 97, 109, 101]
  | 5 => [66, 97, 100, 65, 103, 101]
  | 6 => [66, 97, 100, 66, 97, 114]
  | 7 => [66, 97, 100, 80, 108, 97, 99, 101]
  | 8 => [66, 97, 100, 83, 105, 122, 101]
  | 9 => [84, 97, 107, 101, 110]
  | 10 => [70, 117, 108, 108]
  | 11 => [78, 111, 84, 97, 107, 101]
  | 12 => [83, 104, 117, 116]
  | 13 => [74, 111, 105, 110, 101, 100]
  | 14 => [78, 101, 101, 100, 101, 100]
  | 15 => [78, 111, 116, 104, 105, 110, 103, 76, 101, 102, 116]
  | 16 => [78, 111, 87, 97, 121]
  | _ => []
/-- the refusal x is one of class c (100: any) -/
def subX (x c : Nat) : Bool := c == 100 || x == c
def hand (h : Hk) (x : Nat) (j : Option Nat) (σ : List Slot) (S : Store) : RS := match h with
  | .retK w => .rt (.tup [.str w, .lst [.str (xwd x)]]) false S
  | .setK i => if i < σ.length ∧ j ≠ some i then .nx (σ.set i (.val (.lst [.str (xwd x)]))) S else .bad
  | .retB b => .rt (.bl b) false S
  | .raiN c => .exc ⟨c, []⟩ σ S
def clrJ (j : Option Nat) (σ : List Slot) : List Slot := match j with
  | some i => σ.set i .no
  | none => σ
def jOk (j : Option Nat) (σ : List Slot) : Bool := match j with
  | some i => decide (i < σ.length)
  | none => true
def tryR (c : Nat) (j : Option Nat) (h : Hk) (r : RS) : RS := match r with
  | .exc x σ S => if subX x.cls c then (if x.fs.isEmpty && jOk j σ then hand h x.cls j (clrJ j σ) S else .bad) else .exc x σ S
  | r => r
/-- behind a walk the dict may be changed again -/
def unl (n : Nat) : RS → RS
  | .nx σ S => (match S[n]? with
    | some (.dcl ks ds) => .nx σ (S.set n (.dct ks ds))
    | _ => .bad)
  | .rt d o S => (match S[n]? with
    | some (.dcl ks ds) => .rt d o (S.set n (.dct ks ds))
    | _ => .bad)
  | .exc x σ S => (match S[n]? with
    | some (.dcl ks ds) => .exc x σ (S.set n (.dct ks ds))
    | _ => .bad)
  | .bad => .bad
mutual
def exec (G : G) : S → List Slot → Store → RS
  | .set i o e, σ, S => if e.isPk then .bad else (evalE G σ e S).toS σ fun d S1 => if i < σ.length then (if o = 0 || (o = 1 && e.alloc G.fr) then .nx (σ.set i (mkSlot o d)) S1 else .bad) else .bad
  | .fz i, σ, S => (match σ[i]? with
    | some (.own d) => .nx (σ.set i (.val d)) S
    | some (.val d) => .nx σ S
    | _ => .bad)
  | .unp t e, σ, S => if e.isPk then .bad else (evalE G σ e S).toS σ fun d S1 => (match asg t d σ with
    | some σ' => .nx σ' S1
    | none => .bad)
  | .aug i o e, σ, S => (match σ[i]? with
    | some (.val x) => (evalE G σ e S).toS σ fun y S1 => (match augD o x y with
      | some z => .nx (σ.set i (.val z)) S1
      | none => .bad)
    | _ => .bad)
  | .ex e, σ, S => (evalE G σ e S).toS σ fun _ S1 => .nx σ S1
  | .app i e, σ, S => if e.isPk then .bad else (match σ[i]? with
    | some (.own (.lst ds)) => (evalE G σ e S).toS σ fun d S1 => if ds.length < line then .nx (σ.set i (.own (.lst (ds ++ [d])))) S1 else .bad
    | _ => .bad)
  | .popA i k, σ, S => (match σ[i]? with
    | some (.own (.lst ds)) => (evalE G σ k S).toS σ fun d S1 => (match d with
      | .int j => if 0 ≤ j ∧ j < ds.length ∧ ds.length ≤ line then .nx (σ.set i (.own (.lst (ds.eraseIdx j.toNat)))) S1 else .bad
      | _ => .bad)
    | _ => .bad)
  | .ins i k e, σ, S => if e.isPk then .bad else (match σ[i]? with
    | some (.own (.lst ds)) => (evalE G σ k S).toS σ fun d S1 => (evalE G σ e S1).toS σ fun y S2 => (match d with
      | .int j => if 0 ≤ j ∧ j ≤ ds.length ∧ ds.length < line then .nx (σ.set i (.own (.lst (ds.take j.toNat ++ y :: ds.drop j.toNat)))) S2 else .bad
      | _ => .bad)
    | _ => .bad)
  | .setx i k e, σ, S => if e.isPk then .bad else (match σ[i]? with
    | some (.own (.lst ds)) => (evalE G σ e S).toS σ fun y S1 => (evalE G σ k S1).toS σ fun d S2 => (match d with
      | .int j => (match ixN ds.length j with
        | some a => .nx (σ.set i (.own (.lst (ds.set a y)))) S2
        | none => .bad)
      | _ => .bad)
    | some (.own (.dct ks ds)) => (evalE G σ e S).toS σ fun y S1 => (evalE G σ k S1).toS σ fun d S2 => (match d.ky with
      | some x => if ks.length < line then .nx (σ.set i (.own (.dct (kput ks ds x y).1 (kput ks ds x y).2))) S2 else .bad
      | none => .bad)
    | _ => .bad)
  | .setxx i a b e, σ, S => if e.isPk then .bad else (evalE G σ e S).toS σ fun y S1 => (evalE G σ a S1).toS σ fun x S2 => (evalE G σ b S2).toS σ fun z S3 => (match σ[i]?, x, z with
    | some (.own2 (.lst ds)), .int p, .int q => (match setRow ds p q y with
      | some r => .nx (σ.set i (.own2 (.lst r))) S3
      | none => .bad)
    | _, _, _ => .bad)
  | .sets a k e, σ, S => if e.isPk then .bad else (evalE G σ e S).toS σ fun y S1 => (evalE G σ a S1).toS σ fun x S2 => (evalE G σ k S2).toS σ fun z S3 => (match x with
    | .ref n => (match S3[n]? with
      | some (.lst ds) => (match z with
        | .int j => (match ixN ds.length j with
          | some p => .nx σ (S3.set n (.lst (ds.set p y)))
          | none => .bad)
        | _ => .bad)
      | _ => .bad)
    | _ => .bad)
  | .setd a k e, σ, S => if e.isPk then .bad else (evalE G σ e S).toS σ fun y S1 => (evalE G σ a S1).toS σ fun x S2 => (evalE G σ k S2).toS σ fun z S3 => (match x with
    | .ref n => (match S3[n]? with
      | some (.dct ks ds) => (match z.ky with
        | some x => if ks.length < line then .nx σ (S3.set n (.dct (kput ks ds x y).1 (kput ks ds x y).2)) else .bad
        | none => .bad)
      | _ => .bad)
    | _ => .bad)
  | .augs a k o e, σ, S => (evalE G σ a S).toS σ fun x S1 => (evalE G σ k S1).toS σ fun z S2 => (match x, z with
    | .ref n, .int j => (match S2[n]? with
      | some (.lst ds) => (match atI ds j with
        | some d => (evalE G σ e S2).toS σ fun y S3 => (match augD o d y with
          | some w => (match S3[n]? with
            | some (.lst ds) => (match ixN ds.length j with
              | some p => .nx σ (S3.set n (.lst (ds.set p w)))
              | none => .bad)
            | _ => .bad)
          | none => .bad)
        | none => .bad)
      | _ => .bad)
    | _, _ => .bad)
  | .iff c t e, σ, S => (evalE G σ c S).toS σ fun b S1 => (match b with
    | .bl true => execs G t σ S1
    | .bl false => execs G e σ S1
    | _ => .bad)
  | .for tg it b, σ, S => (evalIt G σ it S).toS σ fun ds S1 => forLoop (fun d σ S => match asg tg d σ with
    | some σ' => execs G b σ' S
    | none => .bad) ds σ S1
  | .ford tg w d b, σ, S => (match pth σ S d with
    | some (.ref n) => (match S[n]? with
      | some (.dct ks ds) => unl n (forLoop (fun d σ S => match asg tg d σ with
        | some σ' => execs G b σ' S
        | none => .bad) (wlk w ks ds) σ (S.set n (.dcl ks ds)))
      | some (.dcl ks ds) => forLoop (fun d σ S => match asg tg d σ with
        | some σ' => execs G b σ' S
        | none => .bad) (wlk w ks ds) σ S
      | _ => .bad)
    | _ => .bad)
  | .whl n c b, σ, S => whlLoop (fun σ S => evalE G σ c S) (execs G b) n σ S
  | .ret e, σ, S => if e.isPk then .bad else (evalE G σ e S).toS σ fun d S1 => .rt d (e.alloc G.fr) S1
  | .mov i, σ, S => (match σ[i]? with
    | some (.own d) => .rt d true S
    | some (.val d) => .rt d false S
    | _ => .bad)
  | .pass, σ, S => .nx σ S
  | .never, _, _ => .bad
  | .rai c, σ, S => .exc ⟨c, []⟩ σ S
  | .try b c j h, σ, S => tryR c j h (execs G b σ S)
  | .sfld c f a e, σ, S => if e.isPk then .bad else (evalE G σ e S).toS σ fun y S1 => (evalE G σ a S1).toS σ fun x S2 => (match x with
    | .ref n => (match S2[n]? with
      | some (.ins k fs) => if k = c ∧ fs.length < 500 then .nx σ (S2.set n (.ins k (fput f y fs))) else .bad
      | _ => .bad)
    | _ => .bad)
def execs (G : G) : Ss → List Slot → Store → RS
  | .nil, σ, S => .nx σ S
  | .cons s ss, σ, S => (exec G s σ S).then (execs G ss)
end

/-! ### defs -/
structure Def where
  np : Nat
  nl : Nat
  fr : Bool
  dr : Bool
  body : Ss
def start (nl : Nat) (ds : List D) : List Slot := ds.map .val ++ List.replicate (nl - ds.length) .no
def done (fr : Bool) : RS → R D
  | .nx _ S => .ok .non S
  | .rt d o S => if fr && !o && d.isNode then .bad else .ok d S
  | .exc x _ S => .exc x S
  | .bad => .bad
/-- lists made within that stand in a list told: frozen -/
def unref1 (n : Nat) (S : Store) : D → D
  | .ref m => if n ≤ m then (match S[m]? with
    | some (.lst es) => if D.refLts n es then .lst es else .ref m
    | _ => .ref m) else .ref m
  | d => d
def unref (n : Nat) (S : Store) : D → D
  | .lst ds => .lst (ds.map (unref1 n S))
  | d => d
/-- the objects made within are forgotten -/
def drop (dr : Bool) (n : Nat) (r : R D) : R D := if dr then (match r with
  | .ok d S => if D.refLt n (unref n S d) && (S.take n).all (Obj.refLt n) then .ok (unref n S d) (S.take n) else .bad
  | .exc x S => if D.refLts n x.fs && (S.take n).all (Obj.refLt n) then .exc x (S.take n) else .bad
  | .bad => .bad) else r
structure Tbl where
  defs : Nat → Option Def
  con : Nat → Option D
def frOf (T : Tbl) (f : Nat) : Bool := match T.defs f with
  | some d => d.fr
  | none => false
def call (T : Tbl) : Nat → CallF
  | 0, _, _, _ => .bad
  | n + 1, f, ds, S => (match T.defs f with
    | some d => if ds.length = d.np then drop d.dr S.length (done d.fr (execs ⟨call T n, frOf T, T.con⟩ d.body (start d.nl ds) S)) else .bad
    | none => .bad)
def Tbl.G (T : Tbl) (n : Nat) : G := ⟨call T n, frOf T, T.con⟩
theorem call_succ (T : Tbl) (n f : Nat) (ds : List D) (S : Store) : call T (n + 1) f ds S = (match T.defs f with
    | some d => if ds.length = d.np then drop d.dr S.length (done d.fr (execs (T.G n) d.body (start d.nl ds) S)) else .bad
    | none => .bad) := rfl
end IL
/-! Soundness, part A: what stands for data, the relation of states, the wishes. -/
namespace IL
open PySem L2

def xnm : Nat → Str
  | 0 => "BadBars" | 1 => "BadMake" | 2 => "BadNumber" | 3 => "BadText" | 4 => "BadName" | 5 => "BadAge" | 6 => "BadBar" | 7 => "BadPlace" | 8 => "BadSize"
  | 9 => "Taken" | 10 => "Full" | 11 => "NoTake" | 12 => "Shut" | 13 => "Joined" | 14 => "Needed" | 15 => "NothingLeft" | 16 => "NoWay" | 100 => "HissError"
  | _ => "?"
def xad (K : PySem.W.Frag) (c : Nat) : Addr := He.ga K (xnm c)
abbrev Col := Addr → Option (Nat × Option Nat)
def kyK : Ky → Key
  | .i n => .inl n
  | .s l => .inr ⟨l.toArray⟩
/-- the classes' and the fields' names -/
def cnm : Nat → Str
  | 0 => "Lots" | 1 => "Stand" | 2 => "Room" | 3 => "Course"
  | _ => "?"
def fnm : Nat → Str
  | 0 => "border" | 1 => "fars" | 2 => "few_by" | 3 => "ways_by"
  | 10 => "long" | 11 => "kept" | 12 => "closed"
  | 20 => "stands" | 21 => "done" | 22 => "undone" | 23 => "told"
  | 30 => "place" | 31 => "row"
  | _ => "?"
def cad (K : PySem.W.Frag) (c : Nat) : Addr := He.ga K (cnm c)
/-- class numbers' addresses -/
structure Cl where
  cls : Nat → Option Addr

mutual
def Rep (K : PySem.W.Frag) (F : Hp) (ι : List Addr) : D → V → Prop
  | .non, v => v = .non
  | .bl b, v => v = .bl b
  | .int i, v => v = .int i
  | .str l, v => v = .str ⟨l.toArray⟩
  | .tup ds, v => ∃ a vs, v = .ref a ∧ F a = some (.tup vs) ∧ Reps K F ι ds vs
  | .lst ds, v => ∃ a vs, v = .ref a ∧ F a = some (.lst vs) ∧ Reps K F ι ds vs
  | .dct ks ds, v => ∃ a kvs, v = .ref a ∧ F a = some (.dK kvs) ∧ kvs.map (·.1) = ks.map kyK ∧ Reps K F ι ds (kvs.map (·.2))
  | .ref n, v => ∃ a, v = .ref a ∧ ι[n]? = some a
  | .err _ _, _ => False
  | .scr ds, v => ∃ a vs, v = .ref a ∧ SqL K F a vs ∧ Reps K F ι ds vs
def Reps (K : PySem.W.Frag) (F : Hp) (ι : List Addr) : List D → List V → Prop
  | [], vs => vs = []
  | d :: ds, vs => ∃ v r, vs = v :: r ∧ Rep K F ι d v ∧ Reps K F ι ds r
end
theorem pre_get {ι ι' : List Addr} (h : ι <+: ι') {n : Nat} {a : Addr} (e : ι[n]? = some a) : ι'[n]? = some a := by
  obtain ⟨t, rfl⟩ := h
  rw [List.getElem?_append_left (List.getElem?_eq_some_iff.mp e).1]
  exact e
theorem SqL.keep {K : PySem.W.Frag} {H H' : Hp} {a : Addr} {vs : List V} (k : ∀ o, H a = some o → H' a = some o) (h : SqL K H a vs) : SqL K H' a vs := by
  rcases h with (h | ⟨o, h⟩) | h
  · exact .inl (.inl (k _ h))
  · exact .inl (.inr ⟨o, k _ h⟩)
  · exact .inr h
mutual
theorem Rep.mono {K : PySem.W.Frag} {F F' : Hp} {ι ι' : List Addr} (s : Same F F') (p : ι <+: ι') : ∀ (d : D) (v : V), Rep K F ι d v → Rep K F' ι' d v
  | .non, _, h => h
  | .bl _, _, h => h
  | .int _, _, h => h
  | .str _, _, h => h
  | .tup ds, _, ⟨a, vs, e, f, r⟩ => ⟨a, vs, e, s _ _ f, Reps.mono s p ds vs r⟩
  | .lst ds, _, ⟨a, vs, e, f, r⟩ => ⟨a, vs, e, s _ _ f, Reps.mono s p ds vs r⟩
  | .dct ks ds, _, ⟨a, kvs, e, f, k, r⟩ => ⟨a, kvs, e, s _ _ f, k, Reps.mono s p ds _ r⟩
  | .ref n, _, ⟨a, e, f⟩ => ⟨a, e, pre_get p f⟩
  | .err _ _, _, h => h.elim
  | .scr ds, _, ⟨a, vs, e, f, r⟩ => ⟨a, vs, e, SqL.keep (fun o q => s _ _ q) f, Reps.mono s p ds vs r⟩
theorem Reps.mono {K : PySem.W.Frag} {F F' : Hp} {ι ι' : List Addr} (s : Same F F') (p : ι <+: ι') : ∀ (ds : List D) (vs : List V), Reps K F ι ds vs → Reps K F' ι' ds vs
  | [], _, h => h
  | d :: ds, _, ⟨v, r, e, h, t⟩ => ⟨v, r, e, Rep.mono s p d v h, Reps.mono s p ds r t⟩
end
theorem Reps.length {K : PySem.W.Frag} {F : Hp} {ι : List Addr} : ∀ {ds : List D} {vs : List V}, Reps K F ι ds vs → vs.length = ds.length
  | [], _, h => by rw [show _ = [] from h]; rfl
  | d :: ds, _, ⟨v, r, e, _, t⟩ => by rw [e, List.length_cons, List.length_cons, Reps.length t]
theorem Reps.get {K : PySem.W.Frag} {F : Hp} {ι : List Addr} : ∀ {ds : List D} {vs : List V} {i : Nat} {d : D}, Reps K F ι ds vs → ds[i]? = some d → ∃ v, vs[i]? = some v ∧ Rep K F ι d v
  | [], _, _, _, _, e => by simp at e
  | d :: ds, _, 0, d', ⟨v, r, e, h, t⟩, q => by
    simp at q; subst q; subst e; exact ⟨v, rfl, h⟩
  | d :: ds, _, i + 1, d', ⟨v, r, e, h, t⟩, q => by
    subst e
    obtain ⟨w, e2, h2⟩ := Reps.get (i := i) t (by simpa using q)
    exact ⟨w, by simpa using e2, h2⟩
theorem Reps.nil {K : PySem.W.Frag} {F : Hp} {ι : List Addr} : Reps K F ι [] [] := rfl
theorem Reps.cons {K : PySem.W.Frag} {F : Hp} {ι : List Addr} {d : D} {v : V} {ds : List D} {vs : List V} (h : Rep K F ι d v) (t : Reps K F ι ds vs) : Reps K F ι (d :: ds) (v :: vs) := ⟨v, vs, rfl, h, t⟩
theorem Reps.append {K : PySem.W.Frag} {F : Hp} {ι : List Addr} : ∀ {ds es : List D} {vs ws : List V}, Reps K F ι ds vs → Reps K F ι es ws → Reps K F ι (ds ++ es) (vs ++ ws)
  | [], _, _, _, h, t => by rw [show _ = [] from h]; exact t
  | d :: ds, _, _, _, ⟨v, r, e, h, q⟩, t => by subst e; exact ⟨v, _, rfl, h, Reps.append q t⟩
theorem Reps.take {K : PySem.W.Frag} {F : Hp} {ι : List Addr} : ∀ {ds : List D} {vs : List V} (n : Nat), Reps K F ι ds vs → Reps K F ι (ds.take n) (vs.take n)
  | _, _, 0, _ => rfl
  | [], _, n + 1, h => by rw [show _ = [] from h]; rfl
  | d :: ds, _, n + 1, ⟨v, r, e, h, t⟩ => by subst e; exact ⟨v, _, rfl, h, Reps.take n t⟩
theorem Reps.drop {K : PySem.W.Frag} {F : Hp} {ι : List Addr} : ∀ {ds : List D} {vs : List V} (n : Nat), Reps K F ι ds vs → Reps K F ι (ds.drop n) (vs.drop n)
  | _, _, 0, h => h
  | [], _, n + 1, h => by rw [show _ = [] from h]; rfl
  | d :: ds, _, n + 1, ⟨v, r, e, h, t⟩ => by subst e; exact Reps.drop n t
theorem Reps.set {K : PySem.W.Frag} {F : Hp} {ι : List Addr} {d : D} {v : V} (h : Rep K F ι d v) : ∀ {ds : List D} {vs : List V} (i : Nat), Reps K F ι ds vs → Reps K F ι (ds.set i d) (vs.set i v)
  | [], _, _, t => by rw [show _ = [] from t]; rfl
  | e :: ds, _, 0, ⟨w, r, q, _, t⟩ => by subst q; exact ⟨v, r, rfl, h, t⟩
  | e :: ds, _, i + 1, ⟨w, r, q, k, t⟩ => by subst q; exact ⟨w, _, rfl, k, Reps.set h i t⟩
theorem Reps.reverse {K : PySem.W.Frag} {F : Hp} {ι : List Addr} : ∀ {ds : List D} {vs : List V}, Reps K F ι ds vs → Reps K F ι ds.reverse vs.reverse
  | [], _, h => by rw [show _ = [] from h]; rfl
  | d :: ds, _, ⟨v, r, e, h, t⟩ => by
    subst e
    rw [List.reverse_cons, List.reverse_cons]
    exact (Reps.reverse t).append (.cons h .nil)
theorem Reps.map {K : PySem.W.Frag} {F : Hp} {ι : List Addr} {α : Type} {f : α → D} {g : α → V} (h : ∀ a, Rep K F ι (f a) (g a)) : ∀ l : List α, Reps K F ι (l.map f) (l.map g)
  | [] => rfl
  | a :: l => ⟨g a, _, rfl, h a, Reps.map h l⟩
theorem Reps.reps {K : PySem.W.Frag} {F : Hp} {ι : List Addr} {ds : List D} {vs : List V} (h : Reps K F ι ds vs) : ∀ n, Reps K F ι (reps ds n) (reps vs n)
  | 0 => rfl
  | n + 1 => h.append (Reps.reps h n)

/-! ### states -/
def SlotR (K : PySem.W.Frag) (F H : Hp) (ι : List Addr) (col : Col) (i : Nat) : Slot → Option V → Prop
  | .no, _ => True
  | .val d, o => ∃ v, o = some v ∧ Rep K F ι d v
  | .own (.lst ds), o => ∃ a vs, o = some (.ref a) ∧ H a = some (.lst vs) ∧ col a = some (i, none) ∧ Reps K F ι ds vs
  | .own (.dct ks ds), o => ∃ a kvs, o = some (.ref a) ∧ H a = some (.dK kvs) ∧ col a = some (i, none) ∧ kvs.map (·.1) = ks.map kyK ∧ Reps K F ι ds (kvs.map (·.2))
  | .own _, _ => False
  | .own2 (.lst rs), o => ∃ a vs, o = some (.ref a) ∧ H a = some (.lst vs) ∧ col a = some (i, none) ∧ vs.length = rs.length ∧
      ∀ j d v, rs[j]? = some d → vs[j]? = some v → ∃ b ws es, v = .ref b ∧ d = .lst es ∧ H b = some (.lst ws) ∧ col b = some (i, some j) ∧ Reps K F ι es ws
  | .own2 _, _ => False
def ObjR (K : PySem.W.Frag) (F H : Hp) (ι : List Addr) : Obj → Addr → Prop
  | .lst ds, a => ∃ vs, H a = some (.lst vs) ∧ Reps K F ι ds vs
  | .dct ks ds, a => ∃ kvs, H a = some (.dK kvs) ∧ kvs.map (·.1) = ks.map kyK ∧ Reps K F ι ds (kvs.map (·.2))
  | .ins c fs, a => ∃ dx vs, H a = some (.ins (cad K c) dx vs) ∧ vs.map (·.1) = fs.map (fun p => fnm p.1) ∧ Reps K F ι (fs.map (·.2)) (vs.map (·.2))
  | .dcl ks ds, a => ∃ od kvs, H a = some (.frz od (.dK kvs)) ∧ kvs.map (·.1) = ks.map kyK ∧ Reps K F ι ds (kvs.map (·.2))
/-- of the store's objects the context keeps none, but a dict that is walked -/
def NB (b : Option HO) : Prop := ∀ o, b = some o → ∃ od kvs, o = .frz od (.dK kvs)
theorem NB.none : NB none := fun _ e => nomatch e
structure Rel (K : PySem.W.Frag) (B F H : Hp) (ι : List Addr) (col : Col) (σa : List Slot) (S : Store) (σ : St) : Prop where
  fh : ∀ a o, F a = some o → H a = some o ∨ ((∃ kvs, o = .dK kvs) ∧ ∃ ob, H a = some (.frz ob o))
  bh : ∀ a o, B a = some o → H a = some o
  cf : ∀ a c, col a = some c → F a = none ∧ B a = none ∧ a ∉ ι ∧ ((∃ xs, H a = some (.lst xs)) ∨ ∃ kvs, H a = some (.dK kvs))
  io : ∀ a, a ∈ ι → F a = none ∧ NB (B a)
  nd : ι.Nodup
  ln : ι.length = S.length
  st : ∀ (n : Nat) (o : Obj) (a : Addr), S[n]? = some o → ι[n]? = some a → ObjR K F H ι o a
  sl : σa.length = σ.length
  slots : ∀ (i : Nat) (s : Slot) (o : Option V), σa[i]? = some s → σ[i]? = some o → SlotR K F H ι col i s o
theorem SlotR.mono {K : PySem.W.Frag} {F F' H H' : Hp} {ι ι' : List Addr} {col : Col} {i : Nat} (s : Same F F') (p : ι <+: ι') (k : ∀ a c, col a = some c → ∀ o, H a = some o → H' a = some o) : ∀ {x : Slot} {o : Option V}, SlotR K F H ι col i x o → SlotR K F' H' ι' col i x o := by
  intro x o h
  cases x with
  | no => trivial
  | val d => obtain ⟨v, e, r⟩ := h; exact ⟨v, e, Rep.mono s p d v r⟩
  | own d =>
    cases d with
    | lst ds => obtain ⟨a, vs, e, ha, c, r⟩ := h; exact ⟨a, vs, e, k a _ c _ ha, c, Reps.mono s p _ _ r⟩
    | dct ks ds => obtain ⟨a, kvs, e, ha, c, q, r⟩ := h; exact ⟨a, kvs, e, k a _ c _ ha, c, q, Reps.mono s p _ _ r⟩
    | _ => exact h.elim
  | own2 d =>
    cases d with
    | lst ds =>
      obtain ⟨a, vs, e, ha, c, l, r⟩ := h
      refine ⟨a, vs, e, k a _ c _ ha, c, l, fun j d v h1 h2 => ?_⟩
      obtain ⟨b, ws, es, e1, e2, hb, cb, rr⟩ := r j d v h1 h2
      exact ⟨b, ws, es, e1, e2, k b _ cb _ hb, cb, Reps.mono s p _ _ rr⟩
    | _ => exact h.elim
/-- what is asked of the store: exact at its addresses. A read-only list keeps standing where the heap has nothing there but itself -/
theorem ObjR.mono {K : PySem.W.Frag} {F F' H H' : Hp} {ι ι' : List Addr} (s : Same F F') (p : ι <+: ι') : ∀ {o : Obj} {a : Addr}, (H' a = H a) → ObjR K F H ι o a → ObjR K F' H' ι' o a := by
  intro o a k h
  cases o with
  | lst ds => obtain ⟨vs, e, r⟩ := h; exact ⟨vs, k.trans e, Reps.mono s p _ _ r⟩
  | dct ks ds => obtain ⟨kvs, e, q, r⟩ := h; exact ⟨kvs, k.trans e, q, Reps.mono s p _ _ r⟩
  | ins c fs => obtain ⟨dx, kvs, e, q, r⟩ := h; exact ⟨dx, kvs, k.trans e, q, Reps.mono s p _ _ r⟩
  | dcl ks ds => obtain ⟨od, kvs, e, q, r⟩ := h; exact ⟨od, kvs, k.trans e, q, Reps.mono s p _ _ r⟩

/-! ### wishes -/
/-- what an evaluation carries along -/
structure Q0 where
  K : PySem.W.Frag
  cl : Cl
  W : WX
  B : Hp
  col : Col
  σa : List Slot
  σ : St
abbrev Res := D → Hp → Hp → List Addr → V → Prop
def ExcR (K : PySem.W.Frag) (x : Exc) (cls : Value) (d : Option Addr) (H : Hp) : Prop := x.cls < 17 ∧ cls = .ref (xad K x.cls) ∧ x.fs = [] ∧ d = none
/-- what an evaluation may do to the frozen part and the store's addresses -/
structure Ext (B F F' : Hp) (ι ι' : List Addr) : Prop where
  same : Same F F'
  pre : ι <+: ι'
  nf : ∀ a o, F' a = some o → F a = some o ∨ B a = none
theorem Ext.refl {B F : Hp} {ι : List Addr} : Ext B F F ι ι := ⟨Same.refl F, List.prefix_refl ι, fun _ _ e => .inl e⟩
theorem Ext.trans {B F F1 F2 : Hp} {ι ι1 ι2 : List Addr} (a : Ext B F F1 ι ι1) (b : Ext B F1 F2 ι1 ι2) : Ext B F F2 ι ι2 :=
  ⟨a.same.trans b.same, a.pre.trans b.pre, fun x o e => by
    rcases b.nf x o e with q | q
    · exact a.nf x o q
    · exact .inr q⟩
def EKx (q : Q0) (F : Hp) (ι : List Addr) (x : Exc) (S : Store) : Prop :=
  ∀ F' H' ι' cls d, Ext q.B F F' ι ι' → Rel q.K q.B F' H' ι' q.col q.σa S q.σ → ExcR q.K x cls d H' → q.W cls d q.σ H'
/-- the wish at the end of an evaluation: α what is handed back (data, a list of data), β what stands for it -/
def EK {α β : Type} (q : Q0) (F : Hp) (ι : List Addr) (res : α → Hp → Hp → List Addr → β → Prop) (r : R α) (Q : β → Hp → Prop) : Prop := match r with
  | .ok d S => ∀ F' H' ι' v, Ext q.B F F' ι ι' → Rel q.K q.B F' H' ι' q.col q.σa S q.σ → res d F' H' ι' v → Q v H'
  | .exc x S => EKx q F ι x S
  | .bad => False
theorem EKx.mono {q : Q0} {F F1 : Hp} {ι ι1 : List Addr} {x : Exc} {S : Store} (h : EKx q F ι x S) (s : Ext q.B F F1 ι ι1) : EKx q F1 ι1 x S :=
  fun F' H' ι' cls d s' => h F' H' ι' cls d (s.trans s')
theorem EK.mono {α β : Type} {q : Q0} {F F1 : Hp} {ι ι1 : List Addr} {res : α → Hp → Hp → List Addr → β → Prop} {r : R α} {Q : β → Hp → Prop} (h : EK q F ι res r Q) (s : Ext q.B F F1 ι ι1) : EK q F1 ι1 res r Q := by
  cases r with
  | ok d S => exact fun F' H' ι' v s' => h F' H' ι' v (s.trans s')
  | exc x S => exact EKx.mono h s
  | bad => exact h
/-- THE STEP: from the whole wish to the first part's -/
theorem EK.bind {α β γ δ : Type} {q : Q0} {F : Hp} {ι : List Addr} {ra : α → Hp → Hp → List Addr → β → Prop} {rb : γ → Hp → Hp → List Addr → δ → Prop} {r : R α} {f : α → Store → R γ} {Q : δ → Hp → Prop} {Q' : β → Hp → Prop} (h : EK q F ι rb (r.bind f) Q)
    (k : ∀ d S F1 H1 ι1 v, Ext q.B F F1 ι ι1 → Rel q.K q.B F1 H1 ι1 q.col q.σa S q.σ → ra d F1 H1 ι1 v → EK q F1 ι1 rb (f d S) Q → Q' v H1) : EK q F ι ra r Q' := by
  cases r with
  | ok d S => exact fun F' H' ι' v s rel r => k d S F' H' ι' v s rel r (EK.mono h s)
  | exc x S => exact h
  | bad => exact h
def tQ {α β : Type} (K : PySem.W.Frag) (cl : Cl) (W : WX) (ev : List Slot → Store → R α) (res : Q0 → α → Hp → Hp → List Addr → β → Prop) : St → Hp → (β → Hp → Prop) → Prop := fun σ H Q =>
  ∃ B col σa F ι S, Rel K B F H ι col σa S σ ∧ EK ⟨K, cl, W, B, col, σa, σ⟩ F ι (res ⟨K, cl, W, B, col, σa, σ⟩) (ev σa S) Q
/-- frozen data -/
def rF : Q0 → D → Hp → Hp → List Addr → V → Prop := fun q d F _ ι v => Rep q.K F ι d v
/-- a new list or dict of nobody's -/
def rO : Q0 → D → Hp → Hp → List Addr → V → Prop := fun q d F H ι v => match d with
  | .lst ds => ∃ a vs, v = .ref a ∧ H a = some (.lst vs) ∧ F a = none ∧ q.B a = none ∧ q.col a = none ∧ a ∉ ι ∧ Reps q.K F ι ds vs
  | .dct ks ds => ∃ a kvs, v = .ref a ∧ H a = some (.dK kvs) ∧ F a = none ∧ q.B a = none ∧ q.col a = none ∧ a ∉ ι ∧ kvs.map (·.1) = ks.map kyK ∧ Reps q.K F ι ds (kvs.map (·.2))
  | d => Rep q.K F ι d v
/-- an owned slot looked at -/
def rP (i : Nat) : Q0 → D → Hp → Hp → List Addr → V → Prop := fun q d _ _ _ v => q.σa[i]? = some (.own d) ∧ q.σ[i]? = some (some v)
def rFs : Q0 → List D → Hp → Hp → List Addr → List V → Prop := fun q ds F _ ι vs => Reps q.K F ι ds vs
theorem same_upd {F : Hp} {a : Addr} {o : HO} (h : F a = none) : Same F (upd F a o) := fun b u e => by rw [upd_ne (ne_of_none e h)]; exact e
section
variable {K : PySem.W.Frag} {B F H : Hp} {ι : List Addr} {col : Col} {σa : List Slot} {S : Store} {σ : St}
theorem Rel.free (r : Rel K B F H ι col σa S σ) {a : Addr} (h : H a = none) : F a = none ∧ B a = none := by
  refine ⟨?_, ?_⟩
  · cases e : F a with
    | none => rfl
    | some o => rcases r.fh a o e with q | ⟨_, _, q⟩ <;> (rw [h] at q; cases q)
  · cases e : B a with
    | none => rfl
    | some o => have q := r.bh a o e; rw [h] at q; cases q
theorem Rel.obj (r : Rel K B F H ι col σa S σ) {a : Addr} (h : a ∈ ι) : ∃ (n : Nat) (o : Obj), ι[n]? = some a ∧ S[n]? = some o := by
  obtain ⟨n, hn, e⟩ := List.getElem_of_mem h
  have hs : n < S.length := by rw [← r.ln]; exact hn
  exact ⟨n, S[n], by rw [List.getElem?_eq_getElem hn, e], List.getElem?_eq_getElem hs⟩
theorem ObjR.there {K : PySem.W.Frag} {F H : Hp} {ι : List Addr} {o : Obj} {a : Addr} (h : ObjR K F H ι o a) : H a ≠ none := by
  cases o with
  | lst ds => obtain ⟨vs, e, _⟩ := h; rw [e]; simp
  | dct ks ds => obtain ⟨vs, e, _⟩ := h; rw [e]; simp
  | ins c fs => obtain ⟨dx, vs, e, _⟩ := h; rw [e]; simp
  | dcl ks ds => obtain ⟨od, vs, e, _⟩ := h; rw [e]; simp
theorem Rel.off (r : Rel K B F H ι col σa S σ) {p : Addr} (h : H p = none) : p ∉ ι ∧ col p = none := by
  refine ⟨fun q => ?_, ?_⟩
  · obtain ⟨n, o, e1, e2⟩ := r.obj q
    exact (r.st n o p e2 e1).there h
  · cases e : col p with
    | none => rfl
    | some c => rcases (r.cf p c e).2.2.2 with ⟨_, q⟩ | ⟨_, q⟩ <;> (rw [h] at q; cases q)
/-- the heap only grows off the store: the state is related as before -/
theorem Rel.grow (r : Rel K B F H ι col σa S σ) {F' H' : Hp} (s : Same F F') (hf : ∀ a o, F' a = some o → F a = some o ∨ (F a = none ∧ H' a = some o ∧ a ∉ ι ∧ col a = none)) (hh : ∀ a, (H a).isSome ∨ a ∈ ι → H' a = H a) : Rel K B F' H' ι col σa S σ := by
  have keep : ∀ a o, H a = some o → H' a = some o := fun a o e => (hh a (.inl (by rw [e]; rfl))).trans e
  refine ⟨fun a o e => ?_, fun a o e => keep a o (r.bh a o e), fun a c e => ?_, fun a h => ?_, r.nd, r.ln, fun n o a h1 h2 => ?_, r.sl, fun i x o h1 h2 => ?_⟩
  · rcases hf a o e with q | ⟨_, q, _⟩
    · rcases r.fh a o q with z | ⟨z, ob, w⟩
      · exact .inl (keep _ _ z)
      · exact .inr ⟨z, ob, keep _ _ w⟩
    · exact .inl q
  · obtain ⟨f, b, i, z⟩ := r.cf a c e
    refine ⟨?_, b, i, z.imp (fun ⟨xs, q⟩ => ⟨xs, keep _ _ q⟩) fun ⟨xs, q⟩ => ⟨xs, keep _ _ q⟩⟩
    cases z : F' a with
    | none => rfl
    | some o =>
      rcases hf a o z with q | ⟨_, _, _, q⟩
      · rw [f] at q; cases q
      · rw [e] at q; cases q
  · obtain ⟨f, b⟩ := r.io a h
    refine ⟨?_, b⟩
    cases z : F' a with
    | none => rfl
    | some o =>
      rcases hf a o z with q | ⟨_, _, q, _⟩
      · rw [f] at q; cases q
      · exact absurd h q
  · exact ObjR.mono s (List.prefix_refl ι) (hh a (.inr (List.mem_of_getElem? h2))) (r.st n o a h1 h2)
  · exact SlotR.mono s (List.prefix_refl ι) (fun a c _ o e => keep a o e) (r.slots i x o h1 h2)
/-- a new object, of nobody's -/
theorem Rel.lay (r : Rel K B F H ι col σa S σ) {p : Addr} {o : HO} (h : H p = none) : Rel K B F (upd H p o) ι col σa S σ :=
  have hi := (r.off h).1
  r.grow (Same.refl F) (fun a o e => .inl e) fun a ha => upd_ne fun e => by
    subst e
    rcases ha with z | z
    · rw [h] at z; cases z
    · exact hi z
/-- a new object, frozen -/
theorem Rel.layF (r : Rel K B F H ι col σa S σ) {p : Addr} {o : HO} (h : H p = none) : Rel K B (upd F p o) (upd H p o) ι col σa S σ := by
  obtain ⟨hi, hc⟩ := r.off h
  have fn := (r.free h).1
  refine r.grow (same_upd fn) (fun a u e => ?_) fun a ha => upd_ne fun e => by
    subst e
    rcases ha with z | z
    · rw [h] at z; cases z
    · exact hi z
  by_cases q : a = p
  · subst q; rw [upd_same] at e; cases e; exact .inr ⟨fn, upd_same, hi, hc⟩
  · rw [upd_ne q] at e; exact .inl e
/-- an object of nobody's freezes -/
theorem Rel.freeze (r : Rel K B F H ι col σa S σ) {p : Addr} {o : HO} (h : H p = some o) (hf : F p = none) (hi : p ∉ ι) (hc : col p = none) : Rel K B (upd F p o) H ι col σa S σ :=
  r.grow (same_upd hf) (fun a u e => by
    by_cases q : a = p
    · subst q; rw [upd_same] at e; cases e; exact .inr ⟨hf, h, hi, hc⟩
    · rw [upd_ne q] at e; exact .inl e) fun a _ => rfl
end
/-- a result that stands through further evaluation -/
def Stab {α β : Type} (res : Q0 → α → Hp → Hp → List Addr → β → Prop) : Prop := ∀ (q : Q0) d F H ι v F' H' ι', Ext q.B F F' ι ι' → res q d F H ι v → res q d F' H' ι' v
theorem stab_rF : Stab rF := fun q d F H ι v F' H' ι' s h => Rep.mono s.same s.pre d v h
theorem stab_rFs : Stab rFs := fun q d F H ι v F' H' ι' s h => Reps.mono s.same s.pre d v h
theorem stab_rP {i : Nat} : Stab (rP i) := fun q d F H ι v F' H' ι' s h => h
/-- how a child's result is used: frozen, or an owned slot looked at -/
def rR : E → Q0 → D → Hp → Hp → List Addr → V → Prop
  | .pk i => rP i
  | _ => rF
theorem stab_rR : ∀ e, Stab (rR e)
  | .pk i => stab_rP
  | .v _ | .k _ | .g _ | .bin _ _ _ | .chn _ _ _ | .isn _ | .ntn _ | .neg _ | .not _ | .and _ | .or _ | .ite _ _ _ | .tup _ | .lst _ | .dct0 | .dctd _ _ | .idx _ _ | .slL _ _ | .slU _ _ | .slB _ _ _ | .rev _ | .call _ _ | .blt _ _ | .met _ _ _ | .lc _ _ _ _ | .lcd _ _ _ _ _ | .lcl _ _ _ _ | .cell _ | .frzr _ | .nw _ _ | .fld _ _ _ | .mth _ _ _ _ | .mk _ _ _ => stab_rF
/-- an expression's own result -/
def rE (fr : Nat → Bool) (e : E) : Q0 → D → Hp → Hp → List Addr → V → Prop := match e with
  | .pk i => rP i
  | e => if e.alloc fr then rO else rF
/-- what can be read of it, now -/
def Sh (K : PySem.W.Frag) (F H : Hp) (ι : List Addr) : D → V → Prop
  | .lst ds, v => ∃ a vs, v = .ref a ∧ H a = some (.lst vs) ∧ Reps K F ι ds vs
  | .dct ks ds, v => ∃ a kvs, v = .ref a ∧ Rd H a (.dK kvs) ∧ kvs.map (·.1) = ks.map kyK ∧ Reps K F ι ds (kvs.map (·.2))
  | .tup ds, v => ∃ a vs, v = .ref a ∧ H a = some (.tup vs) ∧ Reps K F ι ds vs
  | d, v => Rep K F ι d v
section
variable {K : PySem.W.Frag} {B F H : Hp} {ι : List Addr} {col : Col} {σa : List Slot} {S : Store} {σ : St}
theorem Rel.sh (r : Rel K B F H ι col σa S σ) {d : D} {v : V} (h : Rep K F ι d v) : Sh K F H ι d v := by
  cases d with
  | lst ds =>
    obtain ⟨a, vs, e, f, q⟩ := h
    rcases r.fh a _ f with z | ⟨⟨_, z⟩, _⟩
    · exact ⟨a, vs, e, z, q⟩
    · cases z
  | tup ds =>
    obtain ⟨a, vs, e, f, q⟩ := h
    rcases r.fh a _ f with z | ⟨⟨_, z⟩, _⟩
    · exact ⟨a, vs, e, z, q⟩
    · cases z
  | dct ks ds =>
    obtain ⟨a, kvs, e, f, k, q⟩ := h
    rcases r.fh a _ f with z | ⟨_, ob, z⟩
    · exact ⟨a, kvs, e, .inl z, k, q⟩
    · exact ⟨a, kvs, e, .inr ⟨ob, z⟩, k, q⟩
  | _ => exact h
theorem Rel.shP (r : Rel K B F H ι col σa S σ) {i : Nat} {d : D} {v : V} (h1 : σa[i]? = some (.own d)) (h2 : σ[i]? = some (some v)) : Sh K F H ι d v := by
  have z := r.slots i _ _ h1 h2
  cases d with
  | lst ds => obtain ⟨a, vs, e, ha, _, q⟩ := z; cases e; exact ⟨a, vs, rfl, ha, q⟩
  | dct ks ds => obtain ⟨a, kvs, e, ha, _, k, q⟩ := z; cases e; exact ⟨a, kvs, rfl, .inl ha, k, q⟩
  | _ => exact z.elim
theorem Rel.shR {cl : Cl} {W : WX} {e : E} (r : Rel K B F H ι col σa S σ) {d : D} {v : V} (h : rR e ⟨K, cl, W, B, col, σa, σ⟩ d F H ι v) : Sh K F H ι d v := by
  cases e with
  | pk i => exact r.shP h.1 h.2
  | _ => exact r.sh h
end
theorem _root_.L2.PE.imp {X : Cx} {e : Expr} {t t' : TE} (h : PE X e t) (k : ∀ σ H Q, t' σ H Q → t σ H Q) : PE X e t' := ⟨fun pins s σ H Q I q => h.run pins s σ H Q I (k σ H Q q)⟩
theorem _root_.L2.PA.imp {X : Cx} {e : List Expr} {t t' : TA} (h : PA X e t) (k : ∀ σ H Q, t' σ H Q → t σ H Q) : PA X e t' := ⟨fun pos pins s σ H Q I q => h.run pos pins s σ H Q I (k σ H Q q)⟩
theorem _root_.L2.PT.imp {X : Cx} {e : Expr} {t t' : TT} (h : PT X e t) (k : ∀ σ H Q, t' σ H Q → t σ H Q) : PT X e t' := ⟨fun pins s σ H Q I q => h.run pins s σ H Q I (k σ H Q q)⟩
theorem _root_.L2.PS.imp {X : Cx} {e : Stmt} {t t' : TS} (h : PS X e t) (k : ∀ D σ H, t' D σ H → t D σ H) : PS X e t' := ⟨fun pins s σ H D I q => h.run pins s σ H D I (k D σ H q)⟩
theorem _root_.L2.PSs.imp {X : Cx} {e : List Stmt} {t t' : TS} (h : PSs X e t) (k : ∀ D σ H, t' D σ H → t D σ H) : PSs X e t' := ⟨fun pins s σ H D I q => h.run pins s σ H D I (k D σ H q)⟩
theorem _root_.L2.PI.imp {X : Cx} {tg e : Expr} {t t' : TI} (h : PI X tg e t) (k : ∀ σ H Q, t' σ H Q → t σ H Q) : PI X tg e t' := ⟨fun pins s σ H Q I q => h.run pins s σ H Q I (k σ H Q q)⟩
/-- a new thing may freeze -/
theorem EK.frz {q : Q0} {F : Hp} {ι : List Addr} {r : R D} {Q : VK} (h : EK q F ι (rF q) r Q) : EK q F ι (rO q) r Q := by
  cases r with
  | ok d S =>
    intro F' H' ι' v x rel o
    cases d with
    | lst ds =>
      obtain ⟨a, vs, e, ha, hf, hb, hc, hi, rr⟩ := o
      have s := same_upd (o := HO.lst vs) hf
      refine h (upd F' a (.lst vs)) H' ι' v ⟨x.same.trans s, x.pre, fun b u z => ?_⟩ (rel.freeze ha hf hi hc) ⟨a, vs, e, upd_same, Reps.mono s (List.prefix_refl _) _ _ rr⟩
      by_cases w : b = a
      · subst w; exact .inr hb
      · rw [upd_ne w] at z; exact x.nf b u z
    | dct ks ds =>
      obtain ⟨a, kvs, e, ha, hf, hb, hc, hi, kk, rr⟩ := o
      have s := same_upd (o := HO.dK kvs) hf
      refine h (upd F' a (.dK kvs)) H' ι' v ⟨x.same.trans s, x.pre, fun b u z => ?_⟩ (rel.freeze ha hf hi hc) ⟨a, kvs, e, upd_same, kk, Reps.mono s (List.prefix_refl _) _ _ rr⟩
      by_cases w : b = a
      · subst w; exact .inr hb
      · rw [upd_ne w] at z; exact x.nf b u z
    | _ => exact h F' H' ι' v x rel o
  | exc x S => exact h
  | bad => exact h
theorem frzE {fr : Nat → Bool} {e : E} {q : Q0} {F : Hp} {ι : List Addr} {r : R D} {Q : VK} (h : EK q F ι (rR e q) r Q) : EK q F ι (rE fr e q) r Q := by
  unfold rE
  cases e with
  | pk i => exact h
  | _ =>
    dsimp only
    split
    · exact EK.frz h
    · exact h
abbrev tE (K : PySem.W.Frag) (cl : Cl) (W : WX) (g : G) (e : E) : TE := tQ K cl W (fun σa S => evalE g σa e S) (rE g.fr e)
abbrev tR (K : PySem.W.Frag) (cl : Cl) (W : WX) (g : G) (e : E) : TE := tQ K cl W (fun σa S => evalE g σa e S) (rR e)
theorem frz {X : Cx} {K : PySem.W.Frag} {cl : Cl} {W : WX} {g : G} {e : E} {x : Expr} (h : PE X x (tE K cl W g e)) : PE X x (tR K cl W g e) :=
  h.imp fun σ H Q ⟨B, col, σa, F, ι, S, rel, k⟩ => ⟨B, col, σa, F, ι, S, rel, frzE k⟩
end IL
/-! Soundness, part B: expressions. -/
namespace IL
open PySem L2

section
variable {X : Cx} {K : PySem.W.Frag} {cl : Cl} {W : WX} {g : G}

/-- one part, then a pure step -/
theorem tq1 {γ : Type} {eva : List Slot → Store → R D} {ra : Q0 → D → Hp → Hp → List Addr → V → Prop} {f : D → Store → R γ} {β : Type} {rc : Q0 → γ → Hp → Hp → List Addr → β → Prop} {u : V → Hp → (β → Hp → Prop) → Prop}
    (hr : ∀ (q : Q0) F H ι S x v (Q : β → Hp → Prop), Rel q.K q.B F H ι q.col q.σa S q.σ → ra q x F H ι v → EK q F ι (rc q) (f x S) Q → u v H Q) :
    ∀ σ H Q, tQ K cl W (fun σa S => (eva σa S).bind f) rc σ H Q → (tQ K cl W eva ra) σ H fun v H1 => u v H1 Q := by
  rintro σ H Q ⟨B, col, σa, F, ι, S, rel, h⟩
  exact ⟨B, col, σa, F, ι, S, rel, EK.bind h fun d S1 F1 H1 ι1 v s1 rel1 r1 h1 => hr _ F1 H1 ι1 S1 d v Q rel1 r1 h1⟩
theorem tq2 {γ : Type} {eva evb : List Slot → Store → R D} {ra rb : Q0 → D → Hp → Hp → List Addr → V → Prop} (sa : Stab ra) {f : D → D → Store → R γ} {β : Type} {rc : Q0 → γ → Hp → Hp → List Addr → β → Prop} {u : V → V → Hp → (β → Hp → Prop) → Prop}
    (hr : ∀ (q : Q0) F H ι S x y v w (Q : β → Hp → Prop), q.K = K → Rel q.K q.B F H ι q.col q.σa S q.σ → ra q x F H ι v → rb q y F H ι w → EK q F ι (rc q) (f x y S) Q → u v w H Q) :
    ∀ σ H Q, tQ K cl W (fun σa S => (eva σa S).bind fun x S1 => (evb σa S1).bind fun y S2 => f x y S2) rc σ H Q → (tQ K cl W eva ra) σ H fun v H1 => (tQ K cl W evb rb) σ H1 fun w H2 => u v w H2 Q := by
  rintro σ H Q ⟨B, col, σa, F, ι, S, rel, h⟩
  refine ⟨B, col, σa, F, ι, S, rel, EK.bind h fun d S1 F1 H1 ι1 v s1 rel1 r1 h1 => ⟨B, col, σa, F1, ι1, S1, rel1, EK.bind h1 fun e S2 F2 H2 ι2 w s2 rel2 r2 h2 => ?_⟩⟩
  exact hr _ F2 H2 ι2 S2 d e v w Q rfl rel2 (sa _ d F1 H1 ι1 v F2 H2 ι2 s2 r1) r2 h2
/-- the end of an evaluation, nothing new -/
theorem EK.at {α β : Type} {q : Q0} {F H : Hp} {ι : List Addr} {res : α → Hp → Hp → List Addr → β → Prop} {d : α} {S : Store} {Q : β → Hp → Prop} {v : β} (h : EK q F ι res (.ok d S) Q) (rel : Rel q.K q.B F H ι q.col q.σa S q.σ) (r : res d F H ι v) : Q v H :=
  h F H ι v .refl rel r
/-- the end, with a new object of nobody's -/
theorem EK.new {α β : Type} {q : Q0} {F H : Hp} {ι : List Addr} {res : α → Hp → Hp → List Addr → β → Prop} {d : α} {S : Store} {Q : β → Hp → Prop} {v : β} {p : Addr} {o : HO} (h : EK q F ι res (.ok d S) Q) (rel : Rel q.K q.B F H ι q.col q.σa S q.σ)
    (hp : H p = none) (r : F p = none → q.B p = none → q.col p = none → p ∉ ι → res d F (upd H p o) ι v) : Q v (upd H p o) :=
  h F _ ι v .refl (rel.lay hp) (r (rel.free hp).1 (rel.free hp).2 (rel.off hp).2 (rel.off hp).1)
/-- the end, with a new object frozen -/
theorem EK.newF {α β : Type} {q : Q0} {F H : Hp} {ι : List Addr} {res : α → Hp → Hp → List Addr → β → Prop} {d : α} {S : Store} {Q : β → Hp → Prop} {v : β} {p : Addr} {o : HO} (h : EK q F ι res (.ok d S) Q) (rel : Rel q.K q.B F H ι q.col q.σa S q.σ)
    (hp : H p = none) (r : Same F (upd F p o) → res d (upd F p o) (upd H p o) ι v) : Q v (upd H p o) := by
  have hf := (rel.free hp).1
  refine h (upd F p o) _ ι v ⟨same_upd hf, List.prefix_refl _, fun a u e => ?_⟩ (rel.layF hp) (r (same_upd hf))
  by_cases w : a = p
  · subst w; exact .inr (rel.free hp).2
  · rw [upd_ne w] at e; exact .inl e
theorem EK.of {α β : Type} {q : Q0} {F : Hp} {ι : List Addr} {res : α → Hp → Hp → List Addr → β → Prop} {o : Option α} {S : Store} {Q : β → Hp → Prop} (h : EK q F ι res (R.of o S) Q) : ∃ d, o = some d ∧ EK q F ι res (.ok d S) Q := by
  cases o with
  | none => exact h.elim
  | some d => exact ⟨d, rfl, h⟩
theorem guard_some {α : Type} {b : Bool} {o : Option α} {x : α} (h : guard b o = some x) : b = true ∧ o = some x := by
  unfold guard at h
  cases b with
  | true => exact ⟨rfl, h⟩
  | false => cases h

/-! ### leaves -/
theorem s_v {i : Nat} {x : Str} {pos : Pos} (hN : X.N[i]? = some x) (hv : Vis X.env.scope x) (hd : (x == ("__debug__" : Str)) = false) (hcd : (x == ("__classdict__" : Str)) = false) : PE X (.Name x pos) (tE K cl W g (.v i)) := by
  refine (pe_var hN hv hd hcd).imp ?_
  rintro σ H Q ⟨B, col, σa, F, ι, S, rel, h⟩
  have h : EK _ F ι (rF _) (match σa[i]? with
    | some (.val d) => .ok d S
    | _ => .bad) Q := h
  cases e : σa[i]? with
  | none => rw [e] at h; exact h.elim
  | some s =>
    rw [e] at h
    cases s with
    | val d =>
      have hi : i < σ.length := by rw [← rel.sl]; exact (List.getElem?_eq_some_iff.mp e).1
      obtain ⟨v, ev, r⟩ := rel.slots i _ _ e (List.getElem?_eq_getElem hi)
      exact ⟨v, by rw [List.getElem?_eq_getElem hi, ev], h.at rel r⟩
    | _ => exact h.elim
theorem s_pk {i : Nat} {x : Str} {pos : Pos} (hN : X.N[i]? = some x) (hv : Vis X.env.scope x) (hd : (x == ("__debug__" : Str)) = false) (hcd : (x == ("__classdict__" : Str)) = false) : PE X (.Name x pos) (tE K cl W g (.pk i)) := by
  refine (pe_var hN hv hd hcd).imp ?_
  rintro σ H Q ⟨B, col, σa, F, ι, S, rel, h⟩
  have h : EK _ F ι (rP i _) (match σa[i]? with
    | some (.own d) => .ok d S
    | _ => .bad) Q := h
  cases e : σa[i]? with
  | none => rw [e] at h; exact h.elim
  | some s =>
    rw [e] at h
    cases s with
    | own d =>
      have hi : i < σ.length := by rw [← rel.sl]; exact (List.getElem?_eq_some_iff.mp e).1
      have z := rel.slots i _ _ e (List.getElem?_eq_getElem hi)
      cases d with
      | lst ds =>
        obtain ⟨a, vs, ev, _⟩ := z
        have q2 : σ[i]? = some (some (.ref a)) := by rw [List.getElem?_eq_getElem hi, ev]
        exact ⟨_, q2, h.at rel ⟨e, q2⟩⟩
      | dct ks ds =>
        obtain ⟨a, vs, ev, _⟩ := z
        have q2 : σ[i]? = some (some (.ref a)) := by rw [List.getElem?_eq_getElem hi, ev]
        exact ⟨_, q2, h.at rel ⟨e, q2⟩⟩
      | _ => exact z.elim
    | _ => exact h.elim
/-- a constant -/
def litOf : D → Option Const
  | .non => some .none
  | .bl b => some (.bool b)
  | .int i => some (.int i)
  | .str l => some (.str ⟨l.toArray⟩)
  | _ => none
theorem s_k {d : D} {c : Const} {j : Nat} {pos : Pos} (h : litOf d = some c) : PE X (.Constant c j pos) (tE K cl W g (.k d)) := by
  cases d with
  | non => cases h; exact pe_non.imp fun σ H Q ⟨B, col, σa, F, ι, S, rel, h⟩ => EK.at (res := rF _) h rel rfl
  | bl b => cases h; exact pe_bl.imp fun σ H Q ⟨B, col, σa, F, ι, S, rel, h⟩ => EK.at (res := rF _) h rel rfl
  | int b => cases h; exact pe_int.imp fun σ H Q ⟨B, col, σa, F, ι, S, rel, h⟩ => EK.at (res := rF _) h rel rfl
  | str b => cases h; exact pe_str.imp fun σ H Q ⟨B, col, σa, F, ι, S, rel, h⟩ => EK.at (res := rF _) h rel rfl
  | _ => cases h
theorem s_g {i : Nat} {x : Str} {pos : Pos} {v : V} {u : Value} {d : D} (hg : Gl X x) (hm : X.mg x = some u) (r : RelV v u) (hd : (x == ("__debug__" : Str)) = false) (hc : g.con i = some d) (hr : ∀ F ι, Rep K F ι d v) : PE X (.Name x pos) (tE K cl W g (.g i)) := by
  refine (pe_glob hg hm r hd).imp ?_
  rintro σ H Q ⟨B, col, σa, F, ι, S, rel, h⟩
  have h : EK _ F ι (rF _) (R.of (g.con i) S) Q := h
  rw [hc] at h
  exact EK.at (res := rF _) h rel (hr F ι)

/-! ### operators -/
theorem int_of_sh {F H : Hp} {ι : List Addr} {i : Int} {v : V} (h : Sh K F H ι (.int i) v) : v = .int i := h
theorem sIx_eq (n d : Nat) (o : Option Int) : sIx n d o = HT.sIx n d o := by cases o <;> rfl
theorem reps_eq {α : Type} (xs : List α) : ∀ n, reps xs n = (List.replicate n xs).flatten
  | 0 => rfl
  | n + 1 => by rw [List.replicate_succ, List.flatten_cons, ← reps_eq xs n]; rfl
end
end IL
/-! Soundness, part C: operators. -/
namespace IL
open PySem L2

theorem line_eq : line = sizeLine := by rw [PySem.sizeLine_eq]; rfl
theorem str_len (l : List Nat) : (⟨l.toArray⟩ : Str).length = l.length := by show l.toArray.size = _; simp
theorem str_app (a b : List Nat) : ((⟨a.toArray⟩ : Str) ++ (⟨b.toArray⟩ : Str)) = (⟨(a ++ b).toArray⟩ : Str) := by
  apply TL.ext_tl
  rw [TL.tl_append]
theorem foldl_arr (z : List Nat) : ∀ (k : Nat) (acc : List Nat), (List.replicate k z.toArray).foldl (· ++ ·) acc.toArray = (acc ++ reps z k).toArray
  | 0, acc => by simp [reps]
  | k + 1, acc => by
    rw [List.replicate_succ, List.foldl_cons, show acc.toArray ++ z.toArray = (acc ++ z).toArray by simp, foldl_arr z k]
    simp [reps]
theorem reps_nil {α : Type} : ∀ n, reps ([] : List α) n = []
  | 0 => rfl
  | n + 1 => by show [] ++ reps [] n = []; rw [reps_nil n]; rfl
def rStrMul : R2 := fun x y H Q => ∃ z k, x = .str ⟨z.toArray⟩ ∧ y = .int k ∧ -(2 ^ 63) ≤ k ∧ k < 2 ^ 63 ∧ z.length * k.toNat ≤ sizeLine ∧ Q (.str ⟨(reps z k.toNat).toArray⟩) H
theorem op_strMul {X : Cx} : OpR X (binaryOp .Mult) rStrMul := by
  intro pins s σ H x y v u Q I rx ry h
  obtain ⟨z, k, rfl, rfl, h1, h2, hz, q⟩ := h
  obtain ⟨t, rfl⟩ := rx
  obtain ⟨t', rfl⟩ := ry
  have hsl : sizeLine = 16777216 := PySem.sizeLine_eq
  refine PySem.P.mul_str (by rw [decide_eq_false (by omega), decide_eq_false (by omega)]; rfl) (fun h3 _ => ?_) (fun _ _ => ?_) ?_
  · rw [str_len]
    intro h4
    have h5 : z.length * k.toNat ≤ 16777216 := by omega
    have h6 : ((z.length * k.toNat : Nat) : Int) = (z.length : Int) * k := by
      rw [Int.natCast_mul, Int.toNat_of_nonneg (by omega)]
    have h7 : (2 ^ 63 - 1 : Int) / k * k ≥ (2 ^ 63 - 1) - (k - 1) := by
      have := Int.emod_add_mul_ediv (2 ^ 63 - 1 : Int) k
      have h8 := Int.emod_lt_of_pos (2 ^ 63 - 1 : Int) (show 0 < k by omega)
      rw [Int.mul_comm] at this
      omega
    have h9 : ((2 ^ 63 - 1 : Int) / k + 1) * k ≤ (z.length : Int) * k := Int.mul_le_mul_of_nonneg_right (by omega) (by omega)
    rw [Int.add_mul, Int.one_mul] at h9
    omega
  · show decide (_ > sizeLine) = false
    rw [str_len]
    exact decide_eq_false (by omega)
  · split
    · rename_i h3
      refine ⟨by decide, .str _, H, I.tok _, ⟨_, rfl⟩, ?_⟩
      have e : k.toNat = 0 := by omega
      rw [e] at q
      exact q
    · rename_i h3
      split
      · rename_i h4
        refine ⟨.str _, H, I, ⟨t, rfl⟩, ?_⟩
        have e : reps z k.toNat = z := by
          rw [Bool.or_eq_true] at h4
          rcases h4 with h4 | h4
          · have e : k = 1 := eq_of_beq h4
            rw [e]; show z ++ [] = z; simp
          · have e : z = [] := by
              rw [str_len] at h4
              exact List.eq_nil_of_length_eq_zero (eq_of_beq h4)
            rw [e, reps_nil]
        rw [e] at q
        exact q
      · have e : (List.replicate k.toNat z.toArray).foldl (· ++ ·) #[] = (reps z k.toNat).toArray := by
          have := foldl_arr z k.toNat []
          simpa using this
        refine ⟨?_, .str _, H, I.tok _, ⟨_, rfl⟩, ?_⟩
        · rw [e, str_len, reps_eq]
          simp only [List.length_flatten, List.map_replicate, List.sum_replicate_nat]
          have : k.toNat * z.length = z.length * k.toNat := Nat.mul_comm _ _
          omega
        · rw [e]; exact q
section
variable {X : Cx} {K : PySem.W.Frag} {cl : Cl} {W : WX} {g : G} {a b : Expr} {ea eb : E} {pos : Pos}
theorem tup_new {o : HO} {F F' : Hp} {ι : List Addr} {a : Addr} {vs : List V} (h : F a = some (.tup vs)) : F a = some (.tup vs) := h
/-- a binary operator, by its rule -/
theorem s_bin {o : Bop} {op : Operator} {r : R2} (ho : OpR X (binaryOp op) r) (ha : PE X a (tR K cl W g ea)) (hb : PE X b (tR K cl W g eb))
    (hr : ∀ (q : Q0) F H ι S x y v w d (Q : VK), Rel q.K q.B F H ι q.col q.σa S q.σ → Sh q.K F H ι x v → Sh q.K F H ι y w → bop o x y S = some d → EK q F ι (rO q) (.ok d S) Q → r v w H Q) :
    PE X (.BinOp a op b pos) (tE K cl W g (.bin o ea eb)) := by
  refine (pe_op ho ha hb).imp (tq2 (stab_rR ea) (rc := rO) fun q F H ι S x y v w Q _ rel r1 r2 h => ?_)
  obtain ⟨d, e, h⟩ := h.of
  exact hr q F H ι S x y v w d Q rel (rel.shR r1) (rel.shR r2) e h
theorem _root_.L2.PC.imp {X : Cx} {op : CmpOp} {a b : Expr} {t t' : TE} (h : PC X op a b t) (k : ∀ σ H Q, t' σ H Q → t σ H Q) : PC X op a b t' := ⟨fun pins s σ H Q I q => h.run pins s σ H Q I (k σ H Q q)⟩
theorem pc_of {op : CmpOp} {r : R2} {ta tb : TE} (ho : OpR X (compareOp op) r) (ha : PE X a ta) (hb : PE X b tb) : PC X op a b (tOp r ta tb) :=
  ⟨fun pins s σ H Q I h => bin ha hb I h fun v u s2 x y H2 I2 rx ry q => ho pins s2 σ H2 x y v u Q I2 rx ry q⟩
theorem s_cmp {o : Bop} {op : CmpOp} {r : R2} (ho : OpR X (compareOp op) r) (ha : PE X a (tR K cl W g ea)) (hb : PE X b (tR K cl W g eb))
    (hr : ∀ (q : Q0) F H ι S x y v w d (Q : VK), q.K = K → Rel q.K q.B F H ι q.col q.σa S q.σ → Sh q.K F H ι x v → Sh q.K F H ι y w → bop o x y S = some d → EK q F ι (rO q) (.ok d S) Q → r v w H Q) :
    PC X op a b (tE K cl W g (.bin o ea eb)) := by
  refine (pc_of ho ha hb).imp (tq2 (stab_rR ea) (rc := rO) fun q F H ι S x y v w Q k rel r1 r2 h => ?_)
  obtain ⟨d, e, h⟩ := h.of
  exact hr q F H ι S x y v w d Q k rel (rel.shR r1) (rel.shR r2) e h
theorem s_add (ha : PE X a (tR K cl W g ea)) (hb : PE X b (tR K cl W g eb)) : PE X (.BinOp a .Add b pos) (tE K cl W g (.bin .add ea eb)) := by
  refine s_bin (op_add.or (op_add_str.or (op_cat.or (op_catT (X := X))))) ha hb fun q F H ι S x y v w d Q rel r1 r2 e h => ?_
  cases x with
  | int i =>
    cases y with
    | int j => cases e; exact .inl ⟨i, j, r1, r2, h.at rel rfl⟩
    | _ => cases e
  | str i =>
    cases y with
    | str j =>
      obtain ⟨hl, e⟩ := guard_some (show guard _ _ = _ from e)
      cases e
      refine .inr (.inl ⟨_, _, r1, r2, ?_, ?_⟩)
      · rw [str_len, str_len, ← line_eq]; exact of_decide_eq_true hl
      · rw [str_app]; exact h.at rel rfl
    | _ => cases e
  | lst xs =>
    cases y with
    | lst ys =>
      obtain ⟨hl, e⟩ := guard_some (show guard _ _ = _ from e)
      cases e
      obtain ⟨p, vs, rfl, hp, q1⟩ := r1
      obtain ⟨p2, ws, rfl, hp2, q2⟩ := r2
      refine .inr (.inr (.inl ⟨p, p2, vs, ws, rfl, rfl, hp, hp2, ?_, fun r hr => ?_⟩))
      · rw [q1.length, q2.length, ← line_eq]; exact of_decide_eq_true hl
      · exact h.new rel hr fun f1 f2 f3 f4 => ⟨r, _, rfl, upd_same, f1, f2, f3, f4, q1.append q2⟩
    | _ => cases e
  | tup xs =>
    cases y with
    | tup ys =>
      obtain ⟨hl, e⟩ := guard_some (show guard _ _ = _ from e)
      cases e
      simp only [Bool.and_eq_true, decide_eq_true_eq, Bool.not_eq_true', List.isEmpty_eq_false_iff] at hl
      obtain ⟨⟨hl, hx⟩, hy⟩ := hl
      obtain ⟨p, vs, rfl, hp, q1⟩ := r1
      obtain ⟨p2, ws, rfl, hp2, q2⟩ := r2
      have l1 := q1.length
      have l2 := q2.length
      have hvs : vs ≠ [] := fun z => hx (List.eq_nil_of_length_eq_zero (by rw [← l1, z]; rfl))
      have hws : ws ≠ [] := fun z => hy (List.eq_nil_of_length_eq_zero (by rw [← l2, z]; rfl))
      refine .inr (.inr (.inr ⟨p, p2, vs, ws, rfl, rfl, SqT.of hp, SqT.of hp2, hvs, by rw [l1, l2, ← line_eq]; exact hl, fun z => absurd z hws, fun _ r hr => ?_⟩))
      exact h.newF rel hr fun s => ⟨r, _, rfl, upd_same, Reps.mono s (List.prefix_refl _) _ _ (q1.append q2)⟩
    | _ => cases e
  | _ => cases e
theorem s_sub (ha : PE X a (tR K cl W g ea)) (hb : PE X b (tR K cl W g eb)) : PE X (.BinOp a .Sub b pos) (tE K cl W g (.bin .sub ea eb)) := by
  refine s_bin op_sub ha hb fun q F H ι S x y v w d Q rel r1 r2 e h => ?_
  cases x with
  | int i =>
    cases y with
    | int j => cases e; exact ⟨i, j, r1, r2, h.at rel rfl⟩
    | _ => cases e
  | _ => cases e
theorem small_ok {i : Int} (h : small i = true) : -(2 ^ 64) < i ∧ i < 2 ^ 64 := by
  unfold small at h
  rw [Bool.and_eq_true, decide_eq_true_eq, decide_eq_true_eq] at h
  exact h
theorem s_mul (ha : PE X a (tR K cl W g ea)) (hb : PE X b (tR K cl W g eb)) : PE X (.BinOp a .Mult b pos) (tE K cl W g (.bin .mul ea eb)) := by
  refine s_bin (op_mul.or (op_mulW.or (op_strMul.or op_rep))) ha hb fun q F H ι S x y v w d Q rel r1 r2 e h => ?_
  cases x with
  | int i =>
    cases y with
    | int j =>
      obtain ⟨hl, e⟩ := guard_some (show guard _ _ = _ from e)
      cases e
      unfold mulOk at hl
      rw [Bool.or_eq_true, Bool.or_eq_true, Bool.and_eq_true] at hl
      rcases hl with (hl | hl) | ⟨h1, h2⟩
      · exact .inl ⟨i, j, r1, r2, .inl (small_ok hl), h.at rel rfl⟩
      · exact .inl ⟨i, j, r1, r2, .inr (small_ok hl), h.at rel rfl⟩
      · exact .inr (.inl ⟨i, j, r1, r2, wide_mul (of_decide_eq_true h1) (of_decide_eq_true h2) (by decide) (by decide) (by decide), h.at rel rfl⟩)
    | _ => cases e
  | str i =>
    cases y with
    | int j =>
      obtain ⟨hl, e⟩ := guard_some (show guard _ _ = _ from e)
      cases e
      rw [Bool.and_eq_true, decide_eq_true_eq] at hl
      obtain ⟨h1, h2⟩ := hl
      unfold i63 at h1
      rw [Bool.and_eq_true, decide_eq_true_eq, decide_eq_true_eq] at h1
      exact .inr (.inr (.inl ⟨i, j, r1, r2, h1.1, h1.2, by rw [← line_eq]; exact h2, h.at rel rfl⟩))
    | _ => cases e
  | lst xs =>
    cases y with
    | int j =>
      obtain ⟨hl, e⟩ := guard_some (show guard _ _ = _ from e)
      cases e
      rw [Bool.and_eq_true, decide_eq_true_eq] at hl
      obtain ⟨h1, h2⟩ := hl
      unfold i63 at h1
      rw [Bool.and_eq_true, decide_eq_true_eq, decide_eq_true_eq] at h1
      obtain ⟨p, vs, rfl, hp, q1⟩ := r1
      refine .inr (.inr (.inr ⟨p, j, vs, rfl, r2, hp, h1.1, h1.2, by rw [q1.length, ← line_eq]; exact h2, fun r hr => ?_⟩))
      rw [← reps_eq]
      exact h.new rel hr fun f1 f2 f3 f4 => ⟨r, _, rfl, upd_same, f1, f2, f3, f4, q1.reps _⟩
    | _ => cases e
  | _ => cases e
theorem s_fdiv (ha : PE X a (tR K cl W g ea)) (hb : PE X b (tR K cl W g eb)) : PE X (.BinOp a .FloorDiv b pos) (tE K cl W g (.bin .fdiv ea eb)) := by
  refine s_bin op_fdivW ha hb fun q F H ι S x y v w d Q rel r1 r2 e h => ?_
  cases x with
  | int i =>
    cases y with
    | int j =>
      obtain ⟨hl, e⟩ := guard_some (show guard _ _ = _ from e)
      cases e
      rw [Bool.and_eq_true, decide_eq_true_eq] at hl
      exact ⟨i, j, r1, r2, wide_div hl.1 (of_decide_eq_true hl.2) (by decide) (by decide), h.at rel rfl⟩
    | _ => cases e
  | _ => cases e
theorem s_mod (ha : PE X a (tR K cl W g ea)) (hb : PE X b (tR K cl W g eb)) : PE X (.BinOp a .Mod b pos) (tE K cl W g (.bin .mod ea eb)) := by
  refine s_bin op_mod ha hb fun q F H ι S x y v w d Q rel r1 r2 e h => ?_
  cases x with
  | int i =>
    cases y with
    | int j =>
      obtain ⟨hl, e⟩ := guard_some (show guard _ _ = _ from e)
      cases e
      exact ⟨i, j, r1, r2, of_decide_eq_true hl, h.at rel rfl⟩
    | _ => cases e
  | _ => cases e
theorem s_pow (ha : PE X a (tR K cl W g ea)) (hb : PE X b (tR K cl W g eb)) : PE X (.BinOp a .Pow b pos) (tE K cl W g (.bin .pow ea eb)) := by
  refine s_bin op_pow ha hb fun q F H ι S x y v w d Q rel r1 r2 e h => ?_
  cases x with
  | int i =>
    cases y with
    | int j =>
      obtain ⟨hl, e⟩ := guard_some (show guard _ _ = _ from e)
      cases e
      rw [Bool.and_eq_true, Bool.and_eq_true, decide_eq_true_eq, decide_eq_true_eq] at hl
      obtain ⟨⟨h1, h2⟩, h3⟩ := hl
      have h4 := small_ok h3
      exact ⟨i, j, r1, r2, ⟨h1, by omega, by omega⟩, h.at rel rfl⟩
    | _ => cases e
  | _ => cases e
theorem s_ord {o : Bop} {op : CmpOp} {p : Int → Int → Bool} (ho : OpR X (compareOp op) (rI0 fun i j => .bl (p i j))) (ha : PE X a (tR K cl W g ea)) (hb : PE X b (tR K cl W g eb))
    (hp : ∀ i j S, bop o (.int i) (.int j) S = some (.bl (p i j))) (hn : ∀ x y S d, bop o x y S = some d → ∃ i j, x = .int i ∧ y = .int j) : PC X op a b (tE K cl W g (.bin o ea eb)) := by
  refine s_cmp ho ha hb fun q F H ι S x y v w d Q _ rel r1 r2 e h => ?_
  obtain ⟨i, j, rfl, rfl⟩ := hn x y S d e
  rw [hp] at e
  cases e
  exact ⟨i, j, r1, r2, h.at rel rfl⟩
theorem hn_of {f : D → D → Option D} (h : ∀ x y d, f x y = some d → ∃ i j, x = D.int i ∧ y = D.int j) : ∀ x y d, f x y = some d → ∃ i j, x = D.int i ∧ y = D.int j := h
theorem s_lt (ha : PE X a (tR K cl W g ea)) (hb : PE X b (tR K cl W g eb)) : PC X .Lt a b (tE K cl W g (.bin .lt ea eb)) :=
  s_ord (p := fun i j => decide (i < j)) op_lt ha hb (fun _ _ _ => rfl) fun x y S d e => by
    cases x <;> cases y <;> first | exact ⟨_, _, rfl, rfl⟩ | cases e
theorem s_le (ha : PE X a (tR K cl W g ea)) (hb : PE X b (tR K cl W g eb)) : PC X .LtE a b (tE K cl W g (.bin .le ea eb)) :=
  s_ord (p := fun i j => decide (i ≤ j)) op_le ha hb (fun _ _ _ => rfl) fun x y S d e => by
    cases x <;> cases y <;> first | exact ⟨_, _, rfl, rfl⟩ | cases e
def rGt2 (K : PySem.W.Frag) : R2 := fun x y H Q => ∃ (p q : Addr) (i j k l : Int), x = .ref p ∧ y = .ref q ∧ SqT K H p [.int i, .int j] ∧ SqT K H q [.int k, .int l] ∧
  Q (.bl (if i = k then decide (l < j) else decide (k < i))) H
theorem two_at {us : List Value} {i j : Int} (h : Vals [V.int i, V.int j] us) : ∃ t1 t2, us = [.int i t1, .int j t2] := by
  cases h with
  | cons r1 h =>
    cases h with
    | cons r2 h =>
      cases h
      obtain ⟨t1, rfl⟩ := r1
      obtain ⟨t2, rfl⟩ := r2
      exact ⟨t1, t2, rfl⟩
theorem op_gt2 {X : Cx} (hu : X.A.units + 64 < cLine) : OpR X (compareOp .Gt) (rGt2 X.K) := by
  intro pins sh sg Hh x y v u Q Iv rx ry h
  obtain ⟨p, q, i, j, k, l, rfl, rfl, hp, hq, fin⟩ := h
  cases rx
  cases ry
  obtain ⟨us, ru, pu, _⟩ := Iv.tuple hp
  obtain ⟨ws, rw', pw, _⟩ := Iv.tuple hq
  obtain ⟨t1, t2, rfl⟩ := two_at ru
  obtain ⟨t3, t4, rfl⟩ := two_at rw'
  have main := Ob.RcOp.tuples_gt (A := X.A) (e := fun n => if n = 0 then (i == k) else (j == l)) (r := fun n => if n = 0 then decide (k < i) else decide (l < j)) pu pw (by omega)
    (fun n h1 h2 => by
      match n, h1, h2 with
      | 0, _, _ => exact SeqAt.EqAt.int_int i t1 k t3
      | 1, _, _ => exact SeqAt.EqAt.int_int j t2 l t4)
    (fun n h1 h2 _ => by
      match n, h1, h2 with
      | 0, _, _ => exact Ob.RcOp.gt_int i k t1 t3
      | 1, _, _ => exact Ob.RcOp.gt_int j l t2 t4)
  have ev : Ob.lexAt (fun n => if n = 0 then (i == k) else (j == l)) (fun n => if n = 0 then decide (k < i) else decide (l < j)) (decide ((2:Nat) > 2)) 0 2 = (if i = k then decide (l < j) else decide (k < i)) := by
    rw [Ob.lexAt_succ, Ob.lexAt_succ, Ob.lexAt_zero]
    by_cases e : i = k
    · subst e
      by_cases e2 : j = l
      · subst e2; simp
      · simp [e2]
    · simp [e]
  have goal : wpAny (model X.prog X.w) X.A (compareOp .Gt (.ref p) (.ref q)) (EP X pins sg Q) X.xe sh :=
    main X.prog X.w X.xe (EP X pins sg Q) ⟨.bl _, Hh, Iv, by rw [show _ = Ob.lexAt _ _ _ _ _ from rfl, ← ev]; rfl, fin⟩
  exact goal
theorem gt_cases {x y d : D} {S : Store} (e : bop .gt x y S = some d) : (∃ i j, x = .int i ∧ y = .int j ∧ d = .bl (decide (j < i))) ∨ ∃ i j k l, x = .tup [.int i, .int j] ∧ y = .tup [.int k, .int l] ∧ d = .bl (if i = k then decide (l < j) else decide (k < i)) := by
  unfold bop at e
  dsimp only at e
  split at e
  · cases e; exact .inl ⟨_, _, rfl, rfl, rfl⟩
  · cases e; exact .inr ⟨_, _, _, _, rfl, rfl, rfl⟩
  · cases e
theorem s_gt (hu : X.A.units + 64 < cLine) (hK : X.K = K) (ha : PE X a (tR K cl W g ea)) (hb : PE X b (tR K cl W g eb)) : PC X .Gt a b (tE K cl W g (.bin .gt ea eb)) := by
  refine s_cmp (op_gt.or (op_gt2 hu)) ha hb fun q F H ι S x y v w d Q k rel r1 r2 e h => ?_
  rcases gt_cases e with ⟨i, j, rfl, rfl, rfl⟩ | ⟨i, j, k1, l, rfl, rfl, rfl⟩
  · exact .inl ⟨i, j, r1, r2, h.at rel rfl⟩
  · obtain ⟨p, vs, rfl, hp, v1, w1, rfl, rfl, v2, w2, rfl, rfl, rfl⟩ := r1
    obtain ⟨p2, vs2, rfl, hp2, v3, w3, rfl, rfl, v4, w4, rfl, rfl, rfl⟩ := r2
    exact .inr ⟨p, p2, i, j, k1, l, rfl, rfl, SqT.of hp, SqT.of hp2, h.at rel rfl⟩
theorem s_ge (ha : PE X a (tR K cl W g ea)) (hb : PE X b (tR K cl W g eb)) : PC X .GtE a b (tE K cl W g (.bin .ge ea eb)) :=
  s_ord (p := fun i j => decide (j ≤ i)) op_ge ha hb (fun _ _ _ => rfl) fun x y S d e => by
    cases x <;> cases y <;> first | exact ⟨_, _, rfl, rfl⟩ | cases e

/-! ### == -/
mutual
def toPy : D → PyData
  | .non => .none
  | .bl b => .bool b
  | .int i => .int i
  | .str l => .str ⟨l.toArray⟩
  | .lst ds => .list (toPys ds)
  | .tup ds => .tuple (toPys ds)
  | _ => .none
def toPys : List D → List PyData
  | [] => []
  | d :: ds => toPy d :: toPys ds
end
theorem str_beq (x y : List Nat) : ((⟨x.toArray⟩ : Str) == (⟨y.toArray⟩ : Str)) = (x == y) := by
  rw [Bool.eq_iff_iff, beq_iff_eq, beq_iff_eq]
  refine ⟨fun h => ?_, fun h => by rw [h]⟩
  have := congrArg TL.tl h
  simpa [TL.tl] using this
mutual
theorem eqv_py : ∀ (n m : Nat) (x y : D), x.shp n = true → y.shp m = true → PyData.eqv (toPy x) (toPy y) = x.eqv y
  | n, m, .non, y, h1, h2 => by cases y <;> first | rfl | (cases m <;> cases h2)
  | n, m, .bl a, y, h1, h2 => by cases y <;> first | rfl | (cases m <;> cases h2)
  | n, m, .int a, y, h1, h2 => by cases y <;> first | rfl | (cases m <;> cases h2)
  | n, m, .str a, y, h1, h2 => by
    cases y with
    | str b => exact str_beq a b
    | _ => first | rfl | (cases m <;> cases h2)
  | n + 1, m, .tup xs, y, h1, h2 => by
    cases y with
    | tup ys =>
      cases m with
      | zero => cases h2
      | succ m => exact eqvs_py n m xs ys h1 h2
    | _ => first | rfl | (cases m <;> cases h2)
  | n + 1, m, .lst xs, y, h1, h2 => by
    cases y with
    | lst ys =>
      cases m with
      | zero => cases h2
      | succ m => exact eqvs_py n m xs ys h1 h2
    | _ => first | rfl | (cases m <;> cases h2)
  | 0, _, .tup _, _, h1, _ => by cases h1
  | 0, _, .lst _, _, h1, _ => by cases h1
  | n, _, .dct _ _, _, h1, _ => by cases n <;> cases h1
  | n, _, .ref _, _, h1, _ => by cases n <;> cases h1
  | n, _, .err _ _, _, h1, _ => by cases n <;> cases h1
  | n, _, .scr _, _, h1, _ => by cases n <;> cases h1
theorem eqvs_py : ∀ (n m : Nat) (x y : List D), D.shps n x = true → D.shps m y = true → PyData.eqvAll (toPys x) (toPys y) = D.eqvs x y
  | n, m, [], [], _, _ => rfl
  | n, m, [], _ :: _, _, _ => rfl
  | n, m, _ :: _, [], _, _ => rfl
  | n, m, x :: xs, y :: ys, h1, h2 => by
    have h1 : (x.shp n && D.shps n xs) = true := h1
    have h2 : (y.shp m && D.shps m ys) = true := h2
    rw [Bool.and_eq_true] at h1 h2
    show (PyData.eqv (toPy x) (toPy y) && PyData.eqvAll (toPys xs) (toPys ys)) = (x.eqv y && D.eqvs xs ys)
    rw [eqv_py n m x y h1.1 h2.1, eqvs_py n m xs ys h1.2 h2.2]
end

mutual
theorem dp_of {K : PySem.W.Frag} {F H : Hp} {ι : List Addr} (fh : ∀ a o, F a = some o → H a = some o ∨ ((∃ kvs, o = HO.dK kvs) ∧ ∃ ob, H a = some (.frz ob o))) : ∀ (n : Nat) (d : D) (v : V), d.shp n = true → Rep K F ι d v → Dp K H v (toPy d)
  | _, .non, _, _, r => by rw [show _ = V.non from r]; exact .non
  | _, .bl b, _, _, r => by rw [show _ = V.bl b from r]; exact .bl b
  | _, .int b, _, _, r => by rw [show _ = V.int b from r]; exact .int b
  | _, .str b, _, _, r => by rw [show _ = V.str _ from r]; exact .str _
  | n + 1, .tup ds, _, s, ⟨a, vs, e, f, q⟩ => by
    rw [e]
    rcases fh a _ f with z | ⟨⟨_, z⟩, _⟩
    · exact .tup (SqT.of z) (dps_of fh n ds vs s q)
    · cases z
  | n + 1, .lst ds, _, s, ⟨a, vs, e, f, q⟩ => by
    rw [e]
    rcases fh a _ f with z | ⟨⟨_, z⟩, _⟩
    · exact .lst (SqL.of z) (dps_of fh n ds vs s q)
    · cases z
  | 0, .tup _, _, s, _ => by cases s
  | 0, .lst _, _, s, _ => by cases s
  | n, .dct _ _, _, s, _ => by cases n <;> cases s
  | n, .ref _, _, s, _ => by cases n <;> cases s
  | n, .err _ _, _, s, _ => by cases n <;> cases s
  | n, .scr _, _, s, _ => by cases n <;> cases s
theorem dps_of {K : PySem.W.Frag} {F H : Hp} {ι : List Addr} (fh : ∀ a o, F a = some o → H a = some o ∨ ((∃ kvs, o = HO.dK kvs) ∧ ∃ ob, H a = some (.frz ob o))) : ∀ (n : Nat) (ds : List D) (vs : List V), D.shps n ds = true → Reps K F ι ds vs → DpAll K H vs (toPys ds)
  | _, [], _, _, r => by rw [show _ = [] from r]; exact .nil
  | n, d :: ds, _, s, ⟨v, r, e, h, t⟩ => by
    have s : (d.shp n && D.shps n ds) = true := s
    rw [Bool.and_eq_true] at s
    rw [e]
    exact .cons (dp_of fh n d v s.1 h) (dps_of fh n ds r s.2 t)
end
theorem dp_sh {K : PySem.W.Frag} {B F H : Hp} {ι : List Addr} {col : Col} {σa : List Slot} {S : Store} {σ : St} (rel : Rel K B F H ι col σa S σ) {n : Nat} {d : D} {v : V} (s : d.shp n = true) (h : Sh K F H ι d v) : Dp K H v (toPy d) := by
  cases d with
  | tup ds =>
    cases n with
    | zero => cases s
    | succ n =>
      obtain ⟨a, vs, e, z, q⟩ := h
      rw [e]
      exact .tup (SqT.of z) (dps_of rel.fh n ds vs s q)
  | lst ds =>
    cases n with
    | zero => cases s
    | succ n =>
      obtain ⟨a, vs, e, z, q⟩ := h
      rw [e]
      exact .lst (SqL.of z) (dps_of rel.fh n ds vs s q)
  | dct _ _ => cases n <;> cases s
  | _ => exact dp_of (ι := ι) rel.fh n _ v s h
mutual
theorem lay_of : ∀ (n : Nat) (d : D), d.shp n = true → (toPy d).canLay0 = true ∧ (toPy d).depth ≤ n
  | _, .non, _ => ⟨rfl, Nat.zero_le _⟩
  | _, .bl b, _ => ⟨rfl, Nat.zero_le _⟩
  | _, .int b, _ => ⟨rfl, Nat.zero_le _⟩
  | n, .str b, h => ⟨by
      have h : (b.all fun c => decide (c < 1114112)) = true := by cases n <;> exact h
      show (b.toArray.all fun c => decide (c < 0x110000)) = true
      simpa using h, Nat.zero_le _⟩
  | n + 1, .tup ds, s => ⟨(lays_of n ds s).1, Nat.succ_le_succ (lays_of n ds s).2⟩
  | n + 1, .lst ds, s => ⟨(lays_of n ds s).1, Nat.succ_le_succ (lays_of n ds s).2⟩
  | 0, .tup _, s => by cases s
  | 0, .lst _, s => by cases s
  | n, .dct _ _, s => by cases n <;> cases s
  | n, .ref _, s => by cases n <;> cases s
  | n, .err _ _, s => by cases n <;> cases s
  | n, .scr _, s => by cases n <;> cases s
theorem lays_of : ∀ (n : Nat) (ds : List D), D.shps n ds = true → PyData.canLayAll0 (toPys ds) = true ∧ PyData.depthAll (toPys ds) ≤ n
  | _, [], _ => ⟨rfl, Nat.zero_le _⟩
  | n, d :: ds, s => by
    have s : (d.shp n && D.shps n ds) = true := s
    rw [Bool.and_eq_true] at s
    obtain ⟨a, b⟩ := lay_of n d s.1
    obtain ⟨a', b'⟩ := lays_of n ds s.2
    exact ⟨by show ((toPy d).canLay0 && PyData.canLayAll0 (toPys ds)) = true; rw [a, a']; rfl, Nat.max_le.mpr ⟨b, b'⟩⟩
end
theorem shaped_of {d : D} (s : d.shp 60 = true) : SeqAt.shaped (toPy d) = true := by
  obtain ⟨a, b⟩ := lay_of 60 d s
  show ((toPy d).canLay0 && decide ((toPy d).depth ≤ 64)) = true
  rw [a, decide_eq_true (by omega)]; rfl
theorem scal_eq {F H : Hp} {ι : List Addr} {x y : D} {v w : V} (s : D.scal x y = true) (r1 : Sh K F H ι x v) (r2 : Sh K F H ι y w) : L2.scal v w = true ∧ decide (v = w) = x.eqv y := by
  cases x with
  | non =>
    rw [show v = V.non from r1]
    cases y with
    | non => rw [show w = V.non from r2]; exact ⟨rfl, by simp [D.eqv]⟩
    | bl b => rw [show w = V.bl b from r2]; exact ⟨rfl, by simp [D.eqv]⟩
    | int b => rw [show w = V.int b from r2]; exact ⟨rfl, by simp [D.eqv]⟩
    | str b => rw [show w = V.str _ from r2]; exact ⟨rfl, by simp [D.eqv]⟩
    | _ => cases s
  | bl a =>
    rw [show v = V.bl a from r1]
    cases y with
    | non => rw [show w = V.non from r2]; exact ⟨rfl, by simp [D.eqv]⟩
    | bl b => rw [show w = V.bl b from r2]; exact ⟨rfl, by rw [dec_bl]; rfl⟩
    | str b => rw [show w = V.str _ from r2]; exact ⟨rfl, by simp [D.eqv]⟩
    | _ => cases s
  | int a =>
    rw [show v = V.int a from r1]
    cases y with
    | non => rw [show w = V.non from r2]; exact ⟨rfl, by simp [D.eqv]⟩
    | int b => rw [show w = V.int b from r2]; exact ⟨rfl, by rw [dec_int]; rfl⟩
    | str b => rw [show w = V.str _ from r2]; exact ⟨rfl, by simp [D.eqv]⟩
    | _ => cases s
  | str a =>
    rw [show v = V.str _ from r1]
    cases y with
    | non => rw [show w = V.non from r2]; exact ⟨rfl, by simp [D.eqv]⟩
    | bl b => rw [show w = V.bl b from r2]; exact ⟨rfl, by simp [D.eqv]⟩
    | int b => rw [show w = V.int b from r2]; exact ⟨rfl, by simp [D.eqv]⟩
    | str b => rw [show w = V.str _ from r2]; exact ⟨rfl, by rw [dec_str, str_beq]; rfl⟩
    | _ => cases s
  | _ => cases s
theorem s_eq (hu : X.A.units + 64 < cLine) (hK : X.K = K) (ha : PE X a (tR K cl W g ea)) (hb : PE X b (tR K cl W g eb)) : PC X .Eq a b (tE K cl W g (.bin .eq ea eb)) := by
  refine s_cmp (op_eq.or (op_eqD hu)) ha hb fun q F H ι S x y v w d Q k rel r1 r2 e h => ?_
  obtain ⟨hl, e⟩ := guard_some (show guard _ _ = _ from e)
  cases e
  rw [Bool.or_eq_true, Bool.and_eq_true] at hl
  rcases hl with hl | ⟨h1, h2⟩
  · obtain ⟨z1, z2⟩ := scal_eq hl r1 r2
    refine .inl ⟨z1, ?_⟩
    rw [z2]
    exact h.at rel rfl
  · refine .inr ⟨_, _, by rw [hK, ← k]; exact dp_sh rel h1 r1, by rw [hK, ← k]; exact dp_sh rel h2 r2, shaped_of h1, shaped_of h2, ?_⟩
    rw [eqv_py 60 60 x y h1 h2]
    exact h.at rel rfl
theorem s_ne (hu : X.A.units + 64 < cLine) (hK : X.K = K) (ha : PE X a (tR K cl W g ea)) (hb : PE X b (tR K cl W g eb)) : PC X .NotEq a b (tE K cl W g (.bin .ne ea eb)) := by
  refine s_cmp (op_ne.or (op_neD hu)) ha hb fun q F H ι S x y v w d Q k rel r1 r2 e h => ?_
  obtain ⟨hl, e⟩ := guard_some (show guard _ _ = _ from e)
  cases e
  rw [Bool.or_eq_true, Bool.and_eq_true] at hl
  rcases hl with hl | ⟨h1, h2⟩
  · obtain ⟨z1, z2⟩ := scal_eq hl r1 r2
    refine .inl ⟨z1, ?_⟩
    rw [z2]
    exact h.at rel rfl
  · refine .inr ⟨_, _, by rw [hK, ← k]; exact dp_sh rel h1 r1, by rw [hK, ← k]; exact dp_sh rel h2 r2, shaped_of h1, shaped_of h2, ?_⟩
    rw [eqv_py 60 60 x y h1 h2]
    exact h.at rel rfl
end
end IL
/-! Soundness, part D: in, is, tests, displays, subscripts, slices, arguments. -/
namespace IL
open PySem L2

/-! ### dicts -/
theorem kyK_inj {a b : Ky} (h : kyK a = kyK b) : a = b := by
  cases a <;> cases b
  · exact congrArg Ky.i (Sum.inl.inj h)
  · cases h
  · cases h
  · have := congrArg TL.tl (Sum.inr.inj h)
    simp [TL.tl] at this
    rw [this]
theorem ky_rep {K : PySem.W.Frag} {F H : Hp} {ι : List Addr} {d : D} {k : Ky} {v : V} (h : d.ky = some k) (r : Sh K F H ι d v) : v = kV (kyK k) := by
  cases d with
  | int i => cases h; exact r
  | str l => cases h; exact r
  | _ => cases h
theorem kget_val {K : PySem.W.Frag} {F : Hp} {ι : List Addr} : ∀ {ks : List Ky} {ds : List D} {kvs : List (Key × V)} (k : Ky), kvs.map (·.1) = ks.map kyK → Reps K F ι ds (kvs.map (·.2)) →
    match kget ks ds k with
    | some d => ∃ v, valV kvs (kyK k) = some v ∧ Rep K F ι d v
    | none => valV kvs (kyK k) = none
  | [], ds, [], k, _, _ => by cases ds <;> rfl
  | _ :: _, _, [], _, e, _ => by cases e
  | [], _, _ :: _, _, e, _ => by cases e
  | x :: ks, [], p :: kvs, k, e, r => by cases (show _ = [] from r)
  | x :: ks, d :: ds, p :: kvs, k, e, ⟨v, t, e2, h, r⟩ => by
    injection e with e1 e3
    injection e2 with e4 e5
    subst e5
    have e1 : p.1 = kyK x := e1
    have e4 : p.2 = v := e4
    unfold kget
    by_cases q : x = k
    · rw [if_pos q]
      exact ⟨p.2, valV_pos (by rw [e1, q]), by rw [e4]; exact h⟩
    · rw [if_neg q]
      have q2 : ¬ p.1 = kyK k := fun z => q (kyK_inj (by rw [← e1]; exact z))
      rw [valV_neg q2]
      exact kget_val k e3 r
def rDIn (neg : Bool) : R2 := fun y x H Q => ∃ a o, x = .ref a ∧ DGet H a y o ∧ Q (.bl (if neg then !o.isSome else o.isSome)) H
theorem op_dIn {X : Cx} (hu : X.A.units + 1 < cLine) : OpR X (compareOp .In) (rDIn false) := by
  intro pins s σ H x y v u Q I rx ry ⟨a, o, e, g, q⟩
  subst e
  obtain rfl : u = Value.ref a := ry
  exact d_in hu I g rx fun s' I' => ⟨.bl _, H, I', rfl, q⟩
theorem op_dNotIn {X : Cx} (hu : X.A.units + 1 < cLine) : OpR X (compareOp .NotIn) (rDIn true) := by
  intro pins s σ H x y v u Q I rx ry ⟨a, o, e, g, q⟩
  subst e
  obtain rfl : u = Value.ref a := ry
  exact d_notIn hu I g rx fun s' I' => ⟨.bl _, H, I', rfl, q⟩
def rIxD : R2 := fun x y H Q => ∃ a v, x = .ref a ∧ DGet H a y (some v) ∧ Q v H
open PySem.Spec PyProof.Rows in
theorem ix_dict {X : Cx} (hu : X.A.units + 1 < cLine) : IxR X rIxD := by
  intro value slice pins s σ H x y v u Q I rx ry ⟨a, w, e, g, q⟩ hs
  subst e
  obtain rfl : v = Value.ref a := rx
  have h₂ : wpAny (model X.prog X.w) X.A (getItem (.ref a) u) (EP X pins σ Q) X.xe s := d_getItem hu I g ry fun w' s' I' r' => ⟨w, H, I', r', q⟩
  have hT := dict_typeIs I g
  unfold subscriptTail
  refine wpAny_bind ?_
  rw [getitemInPython_of_ne hT.not_modules]
  refine wpAny_bind (wpAny_specialOf hT PySem.F.slot_dict_getitem.lookup ?_)
  have fin : wpAny (model X.prog X.w) X.A (subscripted slice false (.ref a) u) (fun r s₃ => wpAny (model X.prog X.w) X.A (letTemporaryGo value (.ref a) r >>= fun _ => pure r) (EP X pins σ Q) X.xe s₃) X.xe s := by
    rw [hs]
    exact wpAny_operating (wpAny_mono h₂ (fun r s₃ h₃ => wpAny_bind (wpAny_letTemporaryGo (wpAny_pure h₃))) fun _ _ x => x)
  first
    | exact wpAny_pure (wpAny_bind fin)
    | exact wpAny_bind (wpAny_pure (wpAny_bind fin))
    | exact wpAny_bind fin

section
variable {X : Cx} {K : PySem.W.Frag} {cl : Cl} {W : WX} {g : G} {a b : Expr} {ea eb : E} {pos : Pos}
theorem flat_V {F H : Hp} {ι : List Addr} {d : D} {v : V} (f : d.flat = true) (r : Sh K F H ι d v) : flatV v = true := by
  cases d with
  | non => rw [show v = V.non from r]; rfl
  | bl b => rw [show v = V.bl b from r]; rfl
  | int b => rw [show v = V.int b from r]; rfl
  | str b => rw [show v = V.str _ from r]; rfl
  | _ => cases f
theorem eqV_D {F H : Hp} {ι : List Addr} {x y : D} {v w : V} (f : x.flat = true) (f2 : y.flat = true) (r : Sh K F H ι x v) (r2 : Sh K F H ι y w) : eqV v w = x.eqv y := by
  cases x with
  | non => rw [show v = V.non from r]; cases y with
    | non => rw [show w = V.non from r2]; rfl
    | bl b => rw [show w = V.bl b from r2]; rfl
    | int b => rw [show w = V.int b from r2]; rfl
    | str b => rw [show w = V.str _ from r2]; rfl
    | _ => cases f2
  | bl a => rw [show v = V.bl a from r]; cases y with
    | non => rw [show w = V.non from r2]; rfl
    | bl b => rw [show w = V.bl b from r2]; rfl
    | int b => rw [show w = V.int b from r2]; rfl
    | str b => rw [show w = V.str _ from r2]; rfl
    | _ => cases f2
  | int a => rw [show v = V.int a from r]; cases y with
    | non => rw [show w = V.non from r2]; rfl
    | bl b => rw [show w = V.bl b from r2]; rfl
    | int b => rw [show w = V.int b from r2]; rfl
    | str b => rw [show w = V.str _ from r2]; rfl
    | _ => cases f2
  | str a => rw [show v = V.str _ from r]; cases y with
    | non => rw [show w = V.non from r2]; rfl
    | bl b => rw [show w = V.bl b from r2]; rfl
    | int b => rw [show w = V.int b from r2]; rfl
    | str b => rw [show w = V.str _ from r2]; exact str_beq a b
    | _ => cases f2
  | _ => cases f
theorem flats_V {F H : Hp} {ι : List Addr} : ∀ {ds : List D} {vs : List V}, ds.all D.flat = true → Reps K F ι ds vs → vs.all flatV = true
  | [], _, _, r => by rw [show _ = [] from r]; rfl
  | d :: ds, _, f, ⟨v, t, e, h, r⟩ => by
    rw [List.all_cons, Bool.and_eq_true] at f
    subst e
    have h2 : Sh K F H ι d v := by cases d <;> first | exact h | cases f.1
    rw [List.all_cons, flat_V f.1 h2, flats_V (H := H) f.2 r]; rfl
theorem inV_D {F H : Hp} {ι : List Addr} {x : D} {v : V} (f : x.flat = true) (rx : Sh K F H ι x v) : ∀ {ds : List D} {vs : List V}, ds.all D.flat = true → Reps K F ι ds vs → inV v vs = ds.any fun y => D.eqv y x
  | [], _, _, r => by rw [show _ = [] from r]; rfl
  | d :: ds, _, fs, ⟨w, t, e, h, r⟩ => by
    rw [List.all_cons, Bool.and_eq_true] at fs
    subst e
    have h2 : Sh K F H ι d w := by cases d <;> first | exact h | cases fs.1
    unfold inV
    rw [List.any_cons, List.any_cons, eqV_D fs.1 f h2 rx]
    exact congrArg _ (inV_D f rx fs.2 r)
/-- a tuple in a list of ints -/
def intV : V → Bool
  | .int _ => true
  | _ => false
def rInT (K : PySem.W.Frag) (b : Bool) : R2 := fun x y H Q => ∃ t ts p xs, x = .ref t ∧ SqT K H t ts ∧ y = .ref p ∧ SqL K H p xs ∧ xs.all intV = true ∧ Q (.bl b) H
theorem vals_int : ∀ {xs : List V} {us : List Value}, Vals xs us → xs.all intV = true → ∀ u ∈ us, ∃ b t, u = .int b t
  | _, _, .nil, _ => fun u hu => by cases hu
  | y :: xs, u :: us, .cons r t, f => fun u' hu => by
    rw [List.all_cons, Bool.and_eq_true] at f
    rcases List.mem_cons.mp hu with rfl | hu
    · cases y with
      | int b => obtain ⟨t, rfl⟩ := r; exact ⟨b, t, rfl⟩
      | _ => cases f.1
    · exact vals_int t f.2 u' hu
theorem op_in_tup (hu : X.A.units + 1 < cLine) : OpR X (compareOp .In) (rInT X.K false) := by
  intro pins s σ H x y v u Q I rx ry h
  obtain ⟨t, ts, p, xs, rfl, ht, rfl, hq, fs, q⟩ := h
  cases rx
  cases ry
  obtain ⟨its, r, pl, hz⟩ := I.list hq
  obtain ⟨its2, r2, pl2, hz2⟩ := I.tuple ht
  refine SeqAt.in_listAt (fun _ => false) pl.isList (fun w hw => ?_) ⟨.bl _, H, I, rfl, ?_⟩
  · obtain ⟨b, t, rfl⟩ := vals_int r fs w (by simpa using hw)
    exact SeqAt.EqAt.int_tuple b t pl2 hu
  · rw [show its.toArray.any (fun _ => false) = false by simp]
    exact q
theorem op_notIn_tup (hu : X.A.units + 1 < cLine) : OpR X (compareOp .NotIn) (rInT X.K true) := by
  intro pins s σ H x y v u Q I rx ry h
  obtain ⟨t, ts, p, xs, rfl, ht, rfl, hq, fs, q⟩ := h
  cases rx
  cases ry
  obtain ⟨its, r, pl, hz⟩ := I.list hq
  obtain ⟨its2, r2, pl2, hz2⟩ := I.tuple ht
  refine SeqAt.notIn_listAt (fun _ => false) pl.isList (fun w hw => ?_) ⟨.bl _, H, I, rfl, ?_⟩
  · obtain ⟨b, t, rfl⟩ := vals_int r fs w (by simpa using hw)
    exact SeqAt.EqAt.int_tuple b t pl2 hu
  · rw [show its.toArray.any (fun _ => false) = false by simp]
    exact q
theorem intsI_V {F H : Hp} {ι : List Addr} : ∀ {ds : List D} {vs : List V}, ds.all D.isI = true → Reps K F ι ds vs → vs.all intV = true
  | [], _, _, r => by rw [show _ = [] from r]; rfl
  | d :: ds, _, f, ⟨v, t, e, h, r⟩ => by
    rw [List.all_cons, Bool.and_eq_true] at f
    subst e
    cases d with
    | int b => rw [List.all_cons, show v = V.int b from h, intsI_V (H := H) f.2 r]; rfl
    | _ => cases f.1
theorem in_ok {F H B : Hp} {ι : List Addr} {col : Col} {σa : List Slot} {S : Store} {σ : St} {x y : D} {v w : V} {r : Bool} {Q : Bool → Prop} (rel : Rel K B F H ι col σa S σ) (r1 : Sh K F H ι x v) (r2 : Sh K F H ι y w) (e : inD x y S = some r) (q : Q r) :
    (∃ (c : Nat) (z : Str), v = .str ⟨#[c]⟩ ∧ w = .str z ∧ Q (decide (c ∈ z.cps.toList))) ∨ (∃ p xs, w = .ref p ∧ (SqL K H p xs ∨ SqT K H p xs) ∧ flatV v = true ∧ xs.all flatV = true ∧ Q (inV v xs)) ∨ (∃ a o, w = .ref a ∧ DGet H a v o ∧ Q o.isSome) ∨ ∃ t ts p xs, v = .ref t ∧ SqT K H t ts ∧ w = .ref p ∧ SqL K H p xs ∧ xs.all intV = true ∧ Q false := by
  cases y with
  | str l =>
    cases x with
    | str z =>
      match z, e with
      | [c], e =>
        cases e
        exact .inl ⟨c, _, r1, r2, by simpa using q⟩
    | _ => cases e
  | lst ds =>
    by_cases ht : ∃ ts, x = .tup ts
    · obtain ⟨ts, rfl⟩ := ht
      obtain ⟨hg, e⟩ := guard_some (show guard (ds.all D.isI) (some false) = _ from e)
      cases e
      obtain ⟨p, vs, rfl, hp, q1⟩ := r2
      obtain ⟨p2, vs2, rfl, hp2, q2⟩ := r1
      exact .inr (.inr (.inr ⟨p2, vs2, p, vs, rfl, SqT.of hp2, rfl, SqL.of hp, intsI_V (H := H) hg q1, q⟩))
    · have e : guard (x.flat && ds.all D.flat) (some (ds.any fun y => D.eqv y x)) = some r := by
        cases x with
        | tup ts => exact absurd ⟨ts, rfl⟩ ht
        | _ => exact e
      obtain ⟨hg, e⟩ := guard_some e
      rw [Bool.and_eq_true] at hg
      cases e
      obtain ⟨p, vs, rfl, hp, q1⟩ := r2
      exact .inr (.inl ⟨p, vs, rfl, .inl (SqL.of hp), flat_V hg.1 r1, flats_V (H := H) hg.2 q1, by rw [inV_D hg.1 r1 hg.2 q1]; exact q⟩)
  | tup ds =>
    obtain ⟨hg, e⟩ := guard_some (show guard _ _ = _ from e)
    rw [Bool.and_eq_true] at hg
    cases e
    obtain ⟨p, vs, rfl, hp, q1⟩ := r2
    exact .inr (.inl ⟨p, vs, rfl, .inr (SqT.of hp), flat_V hg.1 r1, flats_V (H := H) hg.2 q1, by rw [inV_D hg.1 r1 hg.2 q1]; exact q⟩)
  | dct ks ds =>
    obtain ⟨k, hk, e⟩ := Option.map_eq_some_iff.mp (show (x.ky.map _) = _ from e)
    obtain ⟨p, kvs, rfl, hp, kk, q1⟩ := r2
    have z := kget_val (K := K) k kk q1
    refine .inr (.inr (.inl ⟨p, valV kvs (kyK k), rfl, .inl ⟨kvs, kyK k, hp, ky_rep hk r1, rfl⟩, ?_⟩))
    cases hz : kget ks ds k with
    | none => rw [hz] at z e; rw [z]; rw [← e] at q; exact q
    | some d => rw [hz] at z e; obtain ⟨v', z, _⟩ := z; rw [z]; rw [← e] at q; exact q
  | ref n =>
    have e : (match S[n]? with
      | some (.dct ks ds) => x.ky.map fun k => (kget ks ds k).isSome
      | some (.dcl ks ds) => x.ky.map fun k => (kget ks ds k).isSome
      | _ => none) = some r := e
    cases hs : S[n]? with
    | none => rw [hs] at e; cases e
    | some o =>
      rw [hs] at e
      cases o with
      | dct ks ds =>
        obtain ⟨k, hk, e⟩ := Option.map_eq_some_iff.mp e
        obtain ⟨a, ew, hi⟩ := r2
        obtain ⟨kvs, hp, kk, q1⟩ := rel.st n _ a hs hi
        have z := kget_val (K := K) k kk q1
        refine .inr (.inr (.inl ⟨a, valV kvs (kyK k), ew, .inl ⟨kvs, kyK k, .inl hp, ky_rep hk r1, rfl⟩, ?_⟩))
        cases hz : kget ks ds k with
        | none => rw [hz] at z e; rw [z]; rw [← e] at q; exact q
        | some d => rw [hz] at z e; obtain ⟨v', z, _⟩ := z; rw [z]; rw [← e] at q; exact q
      | dcl ks ds =>
        obtain ⟨k, hk, e⟩ := Option.map_eq_some_iff.mp e
        obtain ⟨a, ew, hi⟩ := r2
        obtain ⟨od, kvs, hp, kk, q1⟩ := rel.st n _ a hs hi
        have z := kget_val (K := K) k kk q1
        refine .inr (.inr (.inl ⟨a, valV kvs (kyK k), ew, .inl ⟨kvs, kyK k, .inr ⟨od, hp⟩, ky_rep hk r1, rfl⟩, ?_⟩))
        cases hz : kget ks ds k with
        | none => rw [hz] at z e; rw [z]; rw [← e] at q; exact q
        | some d => rw [hz] at z e; obtain ⟨v', z, _⟩ := z; rw [z]; rw [← e] at q; exact q
      | _ => cases e
  | _ => cases e
theorem s_in (hu : X.A.units + 64 < cLine) (hK : X.K = K) (ha : PE X a (tR K cl W g ea)) (hb : PE X b (tR K cl W g eb)) : PC X .In a b (tE K cl W g (.bin .isin ea eb)) := by
  refine s_cmp (op_in_sign.or (op_in_seq.or ((op_dIn (by omega)).or (op_in_tup (by omega))))) ha hb fun q F H ι S x y v w d Q k rel r1 r2 e h => ?_
  obtain ⟨r, e', rfl⟩ := Option.map_eq_some_iff.mp (show (inD x y S).map D.bl = _ from e)
  subst k
  rw [← hK] at rel r1 r2
  rcases in_ok (Q := fun r => Q (.bl r) H) rel r1 r2 e' (h.at (by rw [hK] at rel; exact rel) rfl) with ⟨c, z, h1, h2, h3⟩ | ⟨p, xs, h1, h2, h3, h4, h5⟩ | ⟨a, o, h1, h2, h3⟩ | ⟨t, ts, p, xs, h1, h2, h3, h4, h5, h6⟩
  · exact .inl ⟨c, z, h1, h2, h3⟩
  · exact .inr (.inl ⟨p, xs, h1, h2, h3, h4, h5⟩)
  · exact .inr (.inr (.inl ⟨a, o, h1, h2, h3⟩))
  · exact .inr (.inr (.inr ⟨t, ts, p, xs, h1, h2, h3, h4, h5, h6⟩))
theorem s_notin (hu : X.A.units + 64 < cLine) (hK : X.K = K) (ha : PE X a (tR K cl W g ea)) (hb : PE X b (tR K cl W g eb)) : PC X .NotIn a b (tE K cl W g (.bin .notin ea eb)) := by
  refine s_cmp (op_notIn_sign.or (op_notIn_seq.or ((op_dNotIn (by omega)).or (op_notIn_tup (by omega))))) ha hb fun q F H ι S x y v w d Q k rel r1 r2 e h => ?_
  obtain ⟨r, e', rfl⟩ := Option.map_eq_some_iff.mp (show (inD x y S).map (fun x => D.bl (!x)) = _ from e)
  subst k
  rw [← hK] at rel r1 r2
  rcases in_ok (Q := fun r => Q (.bl (!r)) H) rel r1 r2 e' (h.at (by rw [hK] at rel; exact rel) rfl) with ⟨c, z, h1, h2, h3⟩ | ⟨p, xs, h1, h2, h3, h4, h5⟩ | ⟨a, o, h1, h2, h3⟩ | ⟨t, ts, p, xs, h1, h2, h3, h4, h5, h6⟩
  · exact .inl ⟨c, z, h1, h2, h3⟩
  · exact .inr (.inl ⟨p, xs, h1, h2, h3, h4, h5⟩)
  · exact .inr (.inr (.inl ⟨a, o, h1, h2, h3⟩))
  · exact .inr (.inr (.inr ⟨t, ts, p, xs, h1, h2, h3, h4, h5, h6⟩))

/-! ### is None -/
theorem isN_ok {F H : Hp} {ι : List Addr} {d : D} {v : V} (r : Sh K F H ι d v) : decide (v = .non) = isN d := by
  cases d with
  | non => rw [show v = V.non from r]; rfl
  | bl b => rw [show v = V.bl b from r]; exact decide_eq_false (fun z => nomatch z)
  | int b => rw [show v = V.int b from r]; exact decide_eq_false (fun z => nomatch z)
  | str b => rw [show v = V.str _ from r]; exact decide_eq_false (fun z => nomatch z)
  | tup ds => obtain ⟨a, _, rfl, _⟩ := r; exact decide_eq_false (fun z => nomatch z)
  | lst ds => obtain ⟨a, _, rfl, _⟩ := r; exact decide_eq_false (fun z => nomatch z)
  | dct _ ds => obtain ⟨a, _, rfl, _⟩ := r; exact decide_eq_false (fun z => nomatch z)
  | ref n => obtain ⟨a, rfl, _⟩ := r; exact decide_eq_false (fun z => nomatch z)
  | err _ ds => exact r.elim
  | scr ds => obtain ⟨a, _, rfl, _⟩ := r; exact decide_eq_false (fun z => nomatch z)
theorem s_isn {j : Nat} {pos' : Pos} (ha : PE X a (tR K cl W g ea)) : PC X .Is a (.Constant .none j pos') (tE K cl W g (.isn ea)) :=
  (pc_isN ha).imp (tq1 (ra := rR ea) (rc := rF) (u := fun x H1 Q => Q (.bl (decide (x = .non))) H1) fun q F H ι S x v Q rel r h => by
    rw [isN_ok (rel.shR r)]; exact h.at rel rfl)
theorem s_ntn {j : Nat} {pos' : Pos} (ha : PE X a (tR K cl W g ea)) : PC X .IsNot a (.Constant .none j pos') (tE K cl W g (.ntn ea)) :=
  (pc_notN ha).imp (tq1 (ra := rR ea) (rc := rF) (u := fun x H1 Q => Q (.bl (!decide (x = .non))) H1) fun q F H ι S x v Q rel r h => by
    rw [isN_ok (rel.shR r)]; exact h.at rel rfl)

/-! ### tests -/
def toB (r : R D) : R Bool := r.bind fun d S => match d with
  | .bl b => .ok b S
  | _ => .bad
def rB : Q0 → Bool → Hp → Hp → List Addr → Bool → Prop := fun _ d _ _ _ b => b = d
abbrev tB' (K : PySem.W.Frag) (cl : Cl) (W : WX) (ev : List Slot → Store → R D) : TT := tQ K cl W (fun σa S => toB (ev σa S)) rB
theorem tB_of {ev : List Slot → Store → R D} {ra : Q0 → D → Hp → Hp → List Addr → V → Prop} (hra : ∀ q F H ι S b v, Rel q.K q.B F H ι q.col q.σa S q.σ → ra q (.bl b) F H ι v → v = .bl b) :
    ∀ σ H Q, tB' K cl W ev σ H Q → (tQ K cl W ev ra) σ H fun v H1 => ∃ c, v = .bl c ∧ Q c H1 :=
  tq1 (rc := rB) (u := fun v H1 Q => ∃ c, v = .bl c ∧ Q c H1) fun q F H ι S x v Q rel r h => by
    cases x with
    | bl b => exact ⟨b, hra q F H ι S b v rel r, EK.at (res := rB q) h rel rfl⟩
    | _ => exact h.elim
theorem rR_bl {e : E} (q : Q0) (F H : Hp) (ι : List Addr) (S : Store) (b : Bool) (v : V) (rel : Rel q.K q.B F H ι q.col q.σa S q.σ) (r : rR e q (.bl b) F H ι v) : v = .bl b := rel.shR r
theorem pt_plain {e : Expr} {ee : E} (h : PE X e (tE K cl W g ee)) (he : ∀ whole, isTrue e X.env whole = (do let v ← whole; standAt e.pos; holding [v] (truthy v))) : PT X e (tB' K cl W fun σa S => evalE g σa ee S) :=
  (pt_val (frz h) he).imp (tB_of (ra := rR ee) (rR_bl (e := ee)))
theorem frzC {op : CmpOp} {e : E} (h : PC X op a b (tE K cl W g e)) : PC X op a b (tR K cl W g e) :=
  h.imp fun σ H Q ⟨B, col, σa, F, ι, S, rel, k⟩ => ⟨B, col, σa, F, ι, S, rel, frzE k⟩
theorem pt_comp {op : CmpOp} {ee : E} (h : PC X op a b (tE K cl W g ee)) (hm : behindInMarks op b = false) : PT X (.Compare a [op] [b] pos) (tB' K cl W fun σa S => evalE g σa ee S) :=
  (pt_cmp (frzC h) hm).imp (tB_of (ra := rR ee) (rR_bl (e := ee)))
theorem s_not (ha : PE X a (tR K cl W g ea)) : PE X (.UnaryOp .Not a pos) (tE K cl W g (.not ea)) :=
  (pe_not ha).imp (tq1 (ra := rR ea) (rc := rF) (u := fun x H1 Q => ∃ c, x = .bl c ∧ Q (.bl (!c)) H1) fun q F H ι S x v Q rel r h => by
    cases x with
    | bl c => exact ⟨c, rR_bl q F H ι S c v rel r, h.at rel rfl⟩
    | _ => exact h.elim)
theorem t_not (ha : PT X a (tB' K cl W fun σa S => evalE g σa ea S)) : PT X (.UnaryOp .Not a pos) (tB' K cl W fun σa S => evalE g σa (.not ea) S) :=
  (pt_not ha).imp fun σ H Q ⟨B, col, σa, F, ι, S, rel, h⟩ => ⟨B, col, σa, F, ι, S, rel, by
    have h : EK _ F ι (rB _) (toB ((evalE g σa ea S).bind fun x S1 => (match x with
      | .bl b => .ok (.bl (!b)) S1
      | _ => .bad))) Q := h
    show EK _ F ι (rB _) (toB (evalE g σa ea S)) _
    cases e : evalE g σa ea S with
    | ok d S1 =>
      rw [e] at h
      cases d with
      | bl b => exact fun F' H' ι' v x rel r => h F' H' ι' (!v) x rel (by rw [show v = b from r]; rfl)
      | _ => exact h.elim
    | exc x S1 => rw [e] at h; exact h
    | bad => rw [e] at h; exact h⟩
theorem s_neg (ha : PE X a (tR K cl W g ea)) : PE X (.UnaryOp .USub a pos) (tE K cl W g (.neg ea)) :=
  (pe_un un_neg ha).imp (tq1 (ra := rR ea) (rc := rF) (u := fun x H1 Q => ∃ i, x = .int i ∧ Q (.int (-i)) H1) fun q F H ι S x v Q rel r h => by
    cases x with
    | int c => exact ⟨c, rel.shR r, h.at rel rfl⟩
    | _ => exact h.elim)
theorem s_ite {c : Expr} {ec : E} (hc : PT X c (tB' K cl W fun σa S => evalE g σa ec S)) (ha : PE X a (tR K cl W g ea)) (hb : PE X b (tR K cl W g eb)) (na : ea.isPk = false) (nb : eb.isPk = false) : PE X (.IfExp c a b pos) (tE K cl W g (.ite ec ea eb)) := by
  refine (pe_ifExp hc ha hb).imp ?_
  rintro σ H Q ⟨B, col, σa, F, ι, S, rel, h⟩
  refine ⟨B, col, σa, F, ι, S, rel, ?_⟩
  have h : EK _ F ι (rF _) ((evalE g σa ec S).bind fun x S1 => (match x with
    | .bl t => if t then evalE g σa ea S1 else evalE g σa eb S1
    | _ => .bad)) Q := h
  show EK _ F ι (rB _) (toB (evalE g σa ec S)) _
  cases e : evalE g σa ec S with
  | ok d S1 =>
    rw [e] at h
    cases d with
    | bl t =>
      intro F' H' ι' v x rel r
      obtain rfl : v = t := r
      have h : EK _ F ι (rF _) (if v = true then evalE g σa ea S1 else evalE g σa eb S1) Q := h
      cases v with
      | true =>
        rw [if_pos rfl] at h ⊢
        refine ⟨B, col, σa, F', ι', S1, rel, ?_⟩
        have : rR ea = rF := by cases ea <;> first | rfl | cases na
        rw [this]; exact h.mono x
      | false =>
        rw [if_neg Bool.false_ne_true] at h ⊢
        refine ⟨B, col, σa, F', ι', S1, rel, ?_⟩
        have : rR eb = rF := by cases eb <;> first | rfl | cases nb
        rw [this]; exact h.mono x
    | _ => exact h.elim
  | exc x S1 => rw [e] at h; exact h
  | bad => rw [e] at h; exact h
end
end IL
/-! Soundness, part E: arguments, displays, subscripts, slices, built-ins, methods. -/
namespace IL
open PySem L2

/-! ### plain expressions: no star, no set -/
def plainB : Expr → Bool
  | .Starred _ _ => false
  | .Set _ _ _ => false
  | _ => true
theorem star_cons {e : Expr} {es : List Expr} {env : Env} (h : plainB e = true) : starEach (e :: es) env = (false, eval e env) :: starEach es env := by
  cases e <;> first | rfl | cases h
theorem star_nil {env : Env} : starEach [] env = [] := rfl
theorem star_all {env : Env} {pos : Pos} : ∀ {es : List Expr}, es.all plainB = true → (backTo pos (starEach es env)).any (·.1) = false
  | [], _ => rfl
  | e :: es, h => by
    rw [List.all_cons, Bool.and_eq_true] at h
    rw [star_cons h.1]
    show (false || (backTo pos (starEach es env)).any (·.1)) = false
    rw [star_all h.2]; rfl
theorem star_all2 {env : Env} {pos : Pos} : ∀ {es : List Expr}, es.all plainB = true → (backTo pos (starEach es env)).all (fun x => !x.1) = true
  | [], _ => rfl
  | e :: es, h => by
    rw [List.all_cons, Bool.and_eq_true] at h
    rw [star_cons h.1]
    show (true && (backTo pos (starEach es env)).all (fun x => !x.1)) = true
    rw [star_all2 h.2]; rfl
theorem noset {e : Expr} {env : Env} (h : plainB e = true) : ∀ x, foldedSetIterable e env x = pure x := by
  intro x; cases e <;> first | rfl | cases h
theorem nomarkP {e : Expr} (h : plainB e = true) (op : CmpOp) : behindInMarks op e = false := by
  cases e <;> first | rfl | cases h
/-- no slice: a plain subscript -/
def noSlB : Expr → Bool
  | .Slice _ _ _ _ => false
  | .Tuple _ _ _ => false
  | _ => true
theorem plainIx {e : Expr} (h : noSlB e = true) : PlainIx e := by
  intro o i; cases e <;> first | rfl | cases h

section
variable {X : Cx} {K : PySem.W.Frag} {cl : Cl} {W : WX} {g : G} {a b : Expr} {ea eb : E} {es : Es} {xs : List Expr} {pos : Pos}
/-- an argument: frozen, or an owned slot looked at -/
def rA : Es → Q0 → List D → Hp → Hp → List Addr → List V → Prop
  | .nil, _, ds, _, _, _, vs => ds = [] ∧ vs = []
  | .cons e es, q, ds, F, H, ι, vs => ∃ d r v t, ds = d :: r ∧ vs = v :: t ∧ rR e q d F H ι v ∧ rA es q r F H ι t
theorem stab_rA : ∀ es, Stab (rA es)
  | .nil, _, _, _, _, _, _, _, _, _, _, h => h
  | .cons e es, q, ds, F, H, ι, vs, F', H', ι', x, ⟨d, r, v, t, h1, h2, h3, h4⟩ => ⟨d, r, v, t, h1, h2, stab_rR e q d F H ι v F' H' ι' x h3, stab_rA es q r F H ι t F' H' ι' x h4⟩
theorem rA_reps : ∀ {es : Es} {q : Q0} {ds : List D} {F H : Hp} {ι : List Addr} {vs : List V}, es.anyPk = false → rA es q ds F H ι vs → Reps q.K F ι ds vs
  | .nil, _, _, _, _, _, _, _, ⟨h1, h2⟩ => by rw [h1, h2]; rfl
  | .cons e es, q, ds, F, H, ι, vs, hp, ⟨d, r, v, t, h1, h2, h3, h4⟩ => by
    have hp : (e.isPk || es.anyPk) = false := hp
    rw [Bool.or_eq_false_iff] at hp
    rw [h1, h2]
    refine .cons ?_ (rA_reps hp.2 h4)
    cases e <;> first | exact h3 | cases hp.1
theorem rA_sh {B F H : Hp} {ι : List Addr} {col : Col} {σa : List Slot} {S : Store} {σ : St} (rel : Rel K B F H ι col σa S σ) : ∀ {es : Es} {ds : List D} {vs : List V}, rA es ⟨K, cl, W, B, col, σa, σ⟩ ds F H ι vs → Paired (Sh K F H ι) ds vs
  | .nil, _, _, ⟨h1, h2⟩ => by rw [h1, h2]; exact .nil
  | .cons e es, ds, vs, ⟨d, r, v, t, h1, h2, h3, h4⟩ => by rw [h1, h2]; exact .cons (rel.shR h3) (rA_sh rel h4)
theorem rA_len : ∀ {es : Es} {q : Q0} {ds : List D} {F H : Hp} {ι : List Addr} {vs : List V}, rA es q ds F H ι vs → vs.length = es.len ∧ ds.length = es.len
  | .nil, _, _, _, _, _, _, ⟨h1, h2⟩ => by rw [h1, h2]; exact ⟨rfl, rfl⟩
  | .cons e es, q, ds, F, H, ι, vs, ⟨d, r, v, t, h1, h2, h3, h4⟩ => by
    obtain ⟨a, b⟩ := rA_len h4
    rw [h1, h2, List.length_cons, List.length_cons, a, b]; exact ⟨rfl, rfl⟩
abbrev tAs (K : PySem.W.Frag) (cl : Cl) (W : WX) (g : G) (es : Es) : TA := tQ K cl W (fun σa S => evalEs g σa es S) (rA es)
theorem s_anil : PA X [] (tAs K cl W g .nil) := pa_nil.imp fun σ H Q ⟨B, col, σa, F, ι, S, rel, h⟩ => EK.at (res := rA .nil _) h rel ⟨rfl, rfl⟩
theorem s_acons (hp : plainB a = true) (ha : PE X a (tR K cl W g ea)) (hs : PA X xs (tAs K cl W g es)) : PA X (a :: xs) (tAs K cl W g (.cons ea es)) := by
  refine (pa_cons ha hs (star_cons hp)).imp ?_
  rintro σ H Q ⟨B, col, σa, F, ι, S, rel, h⟩
  have h : EK _ F ι (rA (.cons ea es) _) ((evalE g σa ea S).bind fun d S1 => (evalEs g σa es S1).bind fun ds S2 => .ok (d :: ds) S2) Q := h
  refine ⟨B, col, σa, F, ι, S, rel, EK.bind h fun d S1 F1 H1 ι1 v x1 rel1 r1 h1 => ⟨B, col, σa, F1, ι1, S1, rel1, EK.bind h1 fun ds S2 F2 H2 ι2 vs x2 rel2 r2 h2 => ?_⟩⟩
  exact h2.at rel2 ⟨d, ds, v, vs, rfl, rfl, stab_rR ea _ d F1 H1 ι1 v F2 H2 ι2 x2 r1, r2⟩
/-- the lengths of what stands in H are the model's own line: a display's items are asked -/
theorem s_tup {x1 : Nat} (hl : es.len ≤ line) (hs : PA X xs (tAs K cl W g es)) : PE X (.Tuple xs x1 pos) (tE K cl W g (.tup es)) := by
  refine (pe_tup hs).imp ?_
  rintro σ H Q ⟨B, col, σa, F, ι, S, rel, h⟩
  have h : EK _ F ι (rF _) (if es.anyPk then .bad else (evalEs g σa es S).bind fun ds S1 => .ok (.tup ds) S1) Q := h
  cases hp : es.anyPk with
  | true => rw [hp] at h; exact h.elim
  | false =>
    rw [hp, if_neg Bool.false_ne_true] at h
    refine ⟨B, col, σa, F, ι, S, rel, EK.bind h fun ds S1 F1 H1 ι1 vs x1 rel1 r1 h1 => ⟨?_, fun p hpn => ?_⟩⟩
    · rw [(rA_len r1).1, ← line_eq]; exact hl
    · exact h1.newF rel1 hpn fun s => ⟨p, vs, rfl, upd_same, Reps.mono s (List.prefix_refl _) _ _ (rA_reps hp r1)⟩
theorem s_lst (hl : es.len ≤ line) (hs : PA X xs (tAs K cl W g es)) : PE X (.List xs pos) (tE K cl W g (.lst es)) := by
  refine (pe_lst hs).imp ?_
  rintro σ H Q ⟨B, col, σa, F, ι, S, rel, h⟩
  have h : EK _ F ι (rO _) (if es.anyPk then .bad else (evalEs g σa es S).bind fun ds S1 => .ok (.lst ds) S1) Q := h
  cases hp : es.anyPk with
  | true => rw [hp] at h; exact h.elim
  | false =>
    rw [hp, if_neg Bool.false_ne_true] at h
    refine ⟨B, col, σa, F, ι, S, rel, EK.bind h fun ds S1 F1 H1 ι1 vs x1 rel1 r1 h1 => ⟨?_, fun p hpn => ?_⟩⟩
    · rw [(rA_len r1).1, ← line_eq]; exact hl
    · exact h1.new rel1 hpn fun f1 f2 f3 f4 => ⟨p, vs, rfl, upd_same, f1, f2, f3, f4, rA_reps hp r1⟩

/-! ### subscripts -/
theorem at_rep {F : Hp} {ι : List Addr} {ds : List D} {vs : List V} {k : Int} {d : D} (r : Reps K F ι ds vs) (h : atI ds k = some d) : ∃ v, L2.atI vs k = some v ∧ Rep K F ι d v := by
  have h : (ixN ds.length k).bind (fun j => ds[j]?) = some d := h
  show ∃ v, (L2.ixN vs.length k).bind (fun j => vs[j]?) = some v ∧ _
  rw [r.length]
  have e : L2.ixN ds.length k = ixN ds.length k := rfl
  rw [e]
  cases z : ixN ds.length k with
  | none => rw [z] at h; cases h
  | some j =>
    rw [z] at h
    exact r.get h
theorem s_idx (hu : X.A.units + 64 < cLine) (hK : X.K = K) (hn : noSlB b = true) (ha : PE X a (tR K cl W g ea)) (hb : PE X b (tR K cl W g eb)) : PE X (.Subscript a b pos) (tE K cl W g (.idx ea eb)) := by
  refine (pe_ix ((ix_seq (X := X)).or (ix_dict (by omega))) ha hb (plainIx hn)).imp (tq2 (stab_rR ea) (rc := rF) fun q F H ι S x y v w Q k rel r1 r2 h => ?_)
  obtain ⟨d, e, h⟩ := h.of
  subst k
  have s1 := rel.shR r1
  have s2 := rel.shR r2
  have fin : ∀ {v : V}, Rep q.K F ι d v → Q v H := fun r => h.at rel r
  cases x with
  | lst ds =>
    cases y with
    | int k =>
      obtain ⟨p, vs, rfl, hp, q1⟩ := s1
      obtain ⟨v, e2, r⟩ := at_rep q1 (show atI ds k = some d from e)
      exact .inl (.inl ⟨p, vs, k, v, rfl, s2, SqL.of hp, e2, fin r⟩)
    | _ => cases e
  | tup ds =>
    cases y with
    | int k =>
      obtain ⟨p, vs, rfl, hp, q1⟩ := s1
      obtain ⟨v, e2, r⟩ := at_rep q1 (show atI ds k = some d from e)
      exact .inl (.inr (.inl ⟨p, vs, k, v, rfl, s2, SqT.of hp, e2, fin r⟩))
    | _ => cases e
  | str l =>
    cases y with
    | int k =>
      obtain ⟨hl, e⟩ := guard_some (show guard _ _ = _ from e)
      obtain ⟨c, e', rfl⟩ := Option.map_eq_some_iff.mp e
      exact .inl (.inr (.inr ⟨_, k, c, s1, s2, by rw [str_len, ← line_eq]; exact of_decide_eq_true hl, e', fin rfl⟩))
    | _ => cases e
  | dct ks ds =>
    obtain ⟨k, hk, e⟩ := Option.bind_eq_some_iff.mp (show y.ky.bind _ = _ from e)
    obtain ⟨p, kvs, rfl, hp, kk, q1⟩ := s1
    have z := kget_val k kk q1
    rw [e] at z
    obtain ⟨v, z, r⟩ := z
    exact .inr ⟨p, v, rfl, .inl ⟨kvs, kyK k, hp, ky_rep hk s2, z.symm⟩, fin r⟩
  | ref n =>
    obtain ⟨a, rfl, hi⟩ := s1
    obtain ⟨o, hs, e⟩ := Option.bind_eq_some_iff.mp (show (S[n]?).bind _ = _ from e)
    cases o with
    | lst ds =>
      obtain ⟨vs, hp, q1⟩ := rel.st n _ a hs hi
      cases y with
      | int k =>
        obtain ⟨v, e2, r⟩ := at_rep q1 (show atI ds k = some d from e)
        exact .inl (.inl ⟨a, vs, k, v, rfl, s2, SqL.of hp, e2, fin r⟩)
      | _ => cases e
    | dct ks ds =>
      obtain ⟨kvs, hp, kk, q1⟩ := rel.st n _ a hs hi
      obtain ⟨k, hk, e⟩ := Option.bind_eq_some_iff.mp (show y.ky.bind _ = _ from e)
      have z := kget_val k kk q1
      rw [e] at z
      obtain ⟨v, z, r⟩ := z
      exact .inr ⟨a, v, rfl, .inl ⟨kvs, kyK k, .inl hp, ky_rep hk s2, z.symm⟩, fin r⟩
    | dcl ks ds =>
      obtain ⟨od, kvs, hp, kk, q1⟩ := rel.st n _ a hs hi
      obtain ⟨k, hk, e⟩ := Option.bind_eq_some_iff.mp (show y.ky.bind _ = _ from e)
      have z := kget_val k kk q1
      rw [e] at z
      obtain ⟨v, z, r⟩ := z
      exact .inr ⟨a, v, rfl, .inl ⟨kvs, kyK k, .inr ⟨od, hp⟩, ky_rep hk s2, z.symm⟩, fin r⟩
    | _ => cases e
  | _ => cases e

/-! ### slices -/
theorem cut_rep {F : Hp} {ι : List Addr} {ds : List D} {vs : List V} {lo hi : Option Int} (r : Reps K F ι ds vs) : Reps K F ι (cut ds lo hi) (cutV vs lo hi) := by
  unfold cut cutV
  rw [r.length, ← sIx_eq, ← sIx_eq]
  exact (r.drop _).take _
theorem cut_str {l : List Nat} {lo hi : Option Int} : cutS ⟨l.toArray⟩ lo hi = ⟨(cut l lo hi).toArray⟩ := by
  unfold cutS cut
  rw [str_len, ← sIx_eq, ← sIx_eq]
theorem slice_ok {q : Q0} {F H : Hp} {ι : List Addr} {S : Store} {x d : D} {v : V} {lo hi : Option Int} {Q : VK} (rel : Rel q.K q.B F H ι q.col q.σa S q.σ) (s1 : Sh q.K F H ι x v) (e : sliceD x lo hi = some d) (h : EK q F ι (rO q) (.ok d S) Q) :
    rSlL q.K v lo hi H Q ∨ rSlT q.K v lo hi H Q ∨ rSlS v lo hi H Q := by
  cases x with
  | lst ds =>
    cases e
    obtain ⟨p, vs, rfl, hp, q1⟩ := s1
    exact .inl ⟨p, vs, rfl, SqL.of hp, fun r hr => h.new rel hr fun f1 f2 f3 f4 => ⟨r, _, rfl, upd_same, f1, f2, f3, f4, cut_rep q1⟩⟩
  | tup ds =>
    obtain ⟨hl, e⟩ := guard_some (show guard _ _ = _ from e)
    cases e
    obtain ⟨p, vs, rfl, hp, q1⟩ := s1
    have c := cut_rep (lo := lo) (hi := hi) q1
    refine .inr (.inl ⟨p, vs, rfl, SqT.of hp, fun z => ?_, fun r hr => h.newF rel hr fun s => ⟨r, _, rfl, upd_same, Reps.mono s (List.prefix_refl _) _ _ c⟩⟩)
    refine (of_decide_eq_true hl) ?_
    rw [q1.length] at z
    unfold cut
    rw [sIx_eq, sIx_eq, z.1, z.2]
    simp
  | str l =>
    obtain ⟨hl, e⟩ := guard_some (show guard _ _ = _ from e)
    cases e
    refine .inr (.inr ⟨_, s1, by rw [str_len, ← line_eq]; exact of_decide_eq_true hl, ?_⟩)
    rw [cut_str]
    exact h.at rel rfl
  | _ => cases e
end
end IL
/-! Soundness, part F: slices, built-ins. -/
namespace IL
open PySem L2

section
open PySem.Spec PyProof.Rows
variable {X : Cx}
theorem rev_pick (z : Str) : ((Builtin.Str.strSliceIndices none none (-1) z.length).filterMap (z.cps[·]?)).toArray = z.cps.toList.reverse.toArray := by
  have h1 := PyProof.Rows.picked_rev z.length
  have h2 : (List.range z.length).filterMap (z.cps[·]?) = z.cps.toList := PySem.W.krv_all z.cps
  rw [h1, PySem.W.krv_range, List.filterMap_reverse, h2]
def tRev2 (K : PySem.W.Frag) (te : TE) : TE := fun σ H Q => te σ H fun x H1 => (∃ a xs, x = .ref a ∧ SqL K H1 a xs ∧ ∀ p, H1 p = none → Q (.ref p) (upd H1 p (.lst xs.reverse))) ∨ (∃ z, x = .str z ∧ z.length ≤ sizeLine ∧ Q (.str ⟨z.cps.toList.reverse.toArray⟩) H1)
theorem pe_rev2 {e : Expr} {te : TE} {k : Nat} {p1 p2 p3 pos : Pos} (he : PE X e te) : PE X (.Subscript e (.Slice none none (some (.UnaryOp .USub (.Constant (.int 1) k p1) p2)) p3) pos) (tRev2 X.K te) := by
  refine ⟨fun pins s σ H Q I h => ?_⟩
  refine Subscript_ (thn (he.run pins s σ H _ I h) fun v s1 ⟨x, H1, I1, r1, q1⟩ => ?_)
  have hst : PO X (some (.UnaryOp .USub (.Constant (.int 1) k p1) p2)) (tPart (tUn (rU fun i => .int (-i)) (tC (.int 1)))) := po_some (pe_un un_neg pe_int)
  refine wpAny_Slice (thn (po_none.run pins s1 σ H1 (fun o H2 => o = none ∧ H2 = H1) I1 ⟨rfl, rfl⟩) fun vl s2 ⟨l, H2, I2, pl, el, e2⟩ => ?_)
  subst el e2
  refine thn (po_none.run pins s2 σ H2 (fun o H3 => o = none ∧ H3 = H2) I2 ⟨rfl, rfl⟩) fun vu s3 ⟨u, H3, I3, pu, eu, e3⟩ => ?_
  subst eu e3
  refine thn (hst.run pins s3 σ H3 (fun o H4 => o = some (-1) ∧ H4 = H3) I3 ⟨1, rfl, -1, rfl, rfl, rfl⟩) fun vs s4 ⟨o, H4, I4, ps, eo, e4⟩ => ?_
  subst eo e4
  have I5 : Inv X pins σ H4 { s4 with heap := s4.heap.push { cls := .type "slice", data := .fields #[vl, vu, vs] } } := I4.kept (t' := s4.toks) fun b ob q => Heap.get?_push_of_some _ q
  rcases q1 with ⟨a, xs, ex, hx, q⟩ | ⟨z, ex, hz, q⟩
  · subst ex
    cases r1
    obtain ⟨its, r, ht, hz⟩ := I5.list hx
    have hlen := r.length
    show wpAny (model X.prog X.w) X.A (subscriptTail e (.Slice none none (some (.UnaryOp .USub (.Constant (.int 1) k p1) p2)) p3) (.ref a) (.ref s4.heap.objs.size)) (EP X pins σ Q) X.xe { s4 with heap := s4.heap.push { cls := .type "slice", data := .fields #[vl, vu, vs] } }
    refine tail_any (ops := [.ref a, .ref s4.heap.objs.size]) ht.isList.typeIs (PySem.slot_list_getitem.lookup) ?_ (by with_unfolding_all rfl)
    refine wpAny_getItem_list_slice ht.isList (Heap.IsSliceOf.new _ vl vu vs) pl pu ps (by decide) ?_ (by rw [List.size_toArray]; omega)
    rw [PySem.W.krv_pick]
    refine ⟨.ref _, _, I5.laid (t' := s4.toks) (o := .lst xs.reverse) (fun b ob q => Heap.get?_push_of_some _ q) (Nat.le_refl _) ?_, rfl, q _ (I5.hok.fresh (Nat.le_refl _))⟩
    exact ⟨by rw [List.length_reverse]; exact hz, _, 0, r.reverse, Heap.get?_push_size _ rfl⟩
  · subst ex
    obtain ⟨t, rfl⟩ := r1
    obtain ⟨l, rfl, hl⟩ := IsPart.raw pl
    obtain ⟨u, rfl, hu⟩ := IsPart.raw pu
    obtain ⟨w, rfl, hw⟩ := IsPart.raw ps
    show wpAny (model X.prog X.w) X.A (subscriptTail e (.Slice none none (some (.UnaryOp .USub (.Constant (.int 1) k p1) p2)) p3) (.str z t) (.ref s4.heap.objs.size)) (EP X pins σ Q) X.xe { s4 with heap := s4.heap.push { cls := .type "slice", data := .fields #[partValue l, partValue u, partValue w] } }
    refine tail_any (ops := [.str z t, .ref s4.heap.objs.size]) (typeIs_str _ _ _) F.slot_str_getitem.lookup ?_ (by with_unfolding_all rfl)
    refine wpAny_getItem_str_slice (l := l) (u := u) (st := w) ⟨_, Heap.get?_push_size _ rfl, rfl, rfl⟩ (by rw [hw]; rfl) ?_
    show Made.post (if ((w.map (·.1)).getD 1 == 1 && (Builtin.Str.strSliceIndices (l.map (·.1)) (u.map (·.1)) ((w.map (·.1)).getD 1) z.length).length == z.length) = true then Made.val (.str z t)
      else Made.str ⟨((Builtin.Str.strSliceIndices (l.map (·.1)) (u.map (·.1)) ((w.map (·.1)).getD 1) z.length).filterMap (z.cps[·]?)).toArray⟩) (EP X pins σ Q) _
    rw [hl, hu, hw]
    have c : ((some (-1) : Option Int).getD 1 == 1) = false := rfl
    rw [c, Bool.false_and, if_neg Bool.false_ne_true]
    show Made.post (Made.str ⟨((Builtin.Str.strSliceIndices none none (-1) z.length).filterMap (z.cps[·]?)).toArray⟩) (EP X pins σ Q) _
    rw [rev_pick]
    refine ⟨?_, .str _, H4, I5.tok _, ⟨_, rfl⟩, q⟩
    show z.cps.toList.reverse.toArray.size ≤ _
    rw [List.size_toArray, List.length_reverse]
    exact hz
end
section
variable {X : Cx} {K : PySem.W.Frag} {cl : Cl} {W : WX} {g : G} {a b c : Expr} {ea eb ec : E} {es : Es} {xs : List Expr} {pos : Pos}
theorem intOf_some {d : D} {i : Int} (h : intOf d = some i) : d = .int i := by
  cases d with
  | int j => cases h; rfl
  | _ => cases h
theorem sl_ok : SlR X (fun x lo hi H Q => rSlL X.K x lo hi H Q ∨ rSlT X.K x lo hi H Q ∨ rSlS x lo hi H Q) := sl_list.or (sl_tup.or sl_str)
theorem s_slL {p2 : Pos} (hK : X.K = K) (ha : PE X a (tR K cl W g ea)) (hb : PE X b (tR K cl W g eb)) : PE X (.Subscript a (.Slice (some b) none none p2) pos) (tE K cl W g (.slL ea eb)) := by
  refine (pe_slice sl_ok ha (po_some hb) po_none).imp (tq2 (stab_rR ea) (rc := rO) (u := fun v w H Q => ∃ i, w = .int i ∧ (rSlL X.K v (some i) none H Q ∨ rSlT X.K v (some i) none H Q ∨ rSlS v (some i) none H Q)) fun q F H ι S x y v w Q k rel r1 r2 h => ?_)
  obtain ⟨d, e, h⟩ := h.of
  obtain ⟨i, e1, e⟩ := Option.bind_eq_some_iff.mp e
  have s2 := rel.shR r2
  rw [intOf_some e1] at s2
  exact ⟨i, s2, by rw [hK, ← k]; exact slice_ok rel (rel.shR r1) e h⟩
theorem s_slU {p2 : Pos} (hK : X.K = K) (ha : PE X a (tR K cl W g ea)) (hb : PE X b (tR K cl W g eb)) : PE X (.Subscript a (.Slice none (some b) none p2) pos) (tE K cl W g (.slU ea eb)) := by
  refine (pe_slice sl_ok ha po_none (po_some hb)).imp (tq2 (stab_rR ea) (rc := rO) (u := fun v w H Q => ∃ i, w = .int i ∧ (rSlL X.K v none (some i) H Q ∨ rSlT X.K v none (some i) H Q ∨ rSlS v none (some i) H Q)) fun q F H ι S x y v w Q k rel r1 r2 h => ?_)
  obtain ⟨d, e, h⟩ := h.of
  obtain ⟨i, e1, e⟩ := Option.bind_eq_some_iff.mp e
  have s2 := rel.shR r2
  rw [intOf_some e1] at s2
  exact ⟨i, s2, by rw [hK, ← k]; exact slice_ok rel (rel.shR r1) e h⟩
theorem s_slB {p2 : Pos} (hK : X.K = K) (ha : PE X a (tR K cl W g ea)) (hb : PE X b (tR K cl W g eb)) (hc : PE X c (tR K cl W g ec)) : PE X (.Subscript a (.Slice (some b) (some c) none p2) pos) (tE K cl W g (.slB ea eb ec)) := by
  refine (pe_slice sl_ok ha (po_some hb) (po_some hc)).imp ?_
  rintro σ H Q ⟨B, col, σa, F, ι, S, rel, h⟩
  have h : EK _ F ι (rO _) ((evalE g σa ea S).bind fun x S1 => (evalE g σa eb S1).bind fun y S2 => (match y with
    | .int i => (evalE g σa ec S2).bind fun z S3 => .of ((intOf z).bind fun j => sliceD x (some i) (some j)) S3
    | _ => .bad)) Q := h
  refine ⟨B, col, σa, F, ι, S, rel, EK.bind h fun x S1 F1 H1 ι1 v x1 rel1 r1 h1 => ⟨B, col, σa, F1, ι1, S1, rel1, EK.bind h1 fun y S2 F2 H2 ι2 w x2 rel2 r2 h2 => ?_⟩⟩
  cases y with
  | int i =>
    refine ⟨i, rel2.shR r2, B, col, σa, F2, ι2, S2, rel2, EK.bind h2 fun z S3 F3 H3 ι3 o x3 rel3 r3 h3 => ?_⟩
    obtain ⟨d, e, h3⟩ := h3.of
    obtain ⟨j, e2, e⟩ := Option.bind_eq_some_iff.mp e
    have s3 := rel3.shR r3
    rw [intOf_some e2] at s3
    refine ⟨j, s3, ?_⟩
    rw [hK]
    exact slice_ok rel3 (rel3.shR (stab_rR ea _ x F2 H2 ι2 v F3 H3 ι3 x3 (stab_rR ea _ x F1 H1 ι1 v F2 H2 ι2 x2 r1))) e h3
  | _ => exact h2.elim
theorem s_rev {k : Nat} {p1 p2 p3 : Pos} (hK : X.K = K) (ha : PE X a (tR K cl W g ea)) : PE X (.Subscript a (.Slice none none (some (.UnaryOp .USub (.Constant (.int 1) k p1) p2)) p3) pos) (tE K cl W g (.rev ea)) := by
  refine (pe_rev2 ha).imp (tq1 (ra := rR ea) (rc := rO) (u := fun x H1 Q => (∃ a xs, x = .ref a ∧ SqL X.K H1 a xs ∧ ∀ p, H1 p = none → Q (.ref p) (upd H1 p (.lst xs.reverse))) ∨ (∃ z, x = .str z ∧ z.length ≤ sizeLine ∧ Q (.str ⟨z.cps.toList.reverse.toArray⟩) H1)) fun q F H ι S x v Q rel r h => ?_)
  cases x with
  | lst ds =>
    obtain ⟨p, vs, rfl, hp, q1⟩ := rel.shR r
    exact .inl ⟨p, vs, rfl, SqL.of hp, fun r hr => h.new rel hr fun f1 f2 f3 f4 => ⟨r, _, rfl, upd_same, f1, f2, f3, f4, q1.reverse⟩⟩
  | str l =>
    have s1 := rel.shR r
    dsimp only at h
    by_cases c : l.length ≤ line
    · rw [if_pos c] at h
      refine .inr ⟨_, s1, by rw [str_len, ← line_eq]; exact c, ?_⟩
      exact h.at rel rfl
    · rw [if_neg c] at h; exact h.elim
  | _ => exact h.elim

/-! ### built-ins -/
/-- a call of a built-in, by values -/
theorem s_cb {b : Blt} {r : List V → Hp → VK → Prop} {e : Expr} (he : PE X e (tCB r (tAs K cl W g es)))
    (hr : ∀ (q : Q0) F H ι S ds vs d (Q : VK), q.K = K → Rel q.K q.B F H ι q.col q.σa S q.σ → Paired (Sh K F H ι) ds vs → bltD S b ds = some d → EK q F ι (rE g.fr (.blt b es) q) (.ok d S) Q → r vs H Q) : PE X e (tE K cl W g (.blt b es)) := by
  refine he.imp ?_
  rintro σ H Q ⟨B, col, σa, F, ι, S, rel, h⟩
  have h : EK _ F ι (rE g.fr (.blt b es) _) ((evalEs g σa es S).bind fun ds S1 => .of (bltD S1 b ds) S1) Q := h
  refine ⟨B, col, σa, F, ι, S, rel, EK.bind h fun ds S1 F1 H1 ι1 vs x1 rel1 r1 h1 => ?_⟩
  obtain ⟨d, e, h1⟩ := h1.of
  exact hr _ F1 H1 ι1 S1 ds vs d Q rfl rel1 (rA_sh rel1 r1) e h1
theorem pair1 {α β : Type} {R : α → β → Prop} {d : α} {vs : List β} (h : Paired R [d] vs) : ∃ v, vs = [v] ∧ R d v := by
  cases h with
  | cons a b => cases b; exact ⟨_, rfl, a⟩
theorem pair2 {α β : Type} {R : α → β → Prop} {d e : α} {vs : List β} (h : Paired R [d, e] vs) : ∃ v w, vs = [v, w] ∧ R d v ∧ R e w := by
  cases h with
  | cons a b =>
    obtain ⟨w, rfl, c⟩ := pair1 b
    exact ⟨_, w, rfl, a, c⟩
theorem s_len (hK : X.K = K) {e : Expr} (he : ∀ {r : List V → Hp → VK → Prop}, CallR X (.builtin "len") r → PE X e (tCB r (tAs K cl W g es))) : PE X e (tE K cl W g (.blt .len es)) := by
  refine s_cb (he (call_len_seq.or (call_len_str.or call_lenD))) fun q F H ι S ds vs d Q k rel pp ee h => ?_
  match ds, ee with
  | [a], ee =>
    obtain ⟨v, rfl, s⟩ := pair1 pp
    obtain ⟨n, e, rfl⟩ := Option.map_eq_some_iff.mp (show (lenD S a).map .int = some d from ee)
    clear ee
    have h : EK q F ι (rF q) (.ok (.int n) S) Q := h
    have fin : Q (.int n) H := h.at rel rfl
    cases a with
    | lst ds => cases e; obtain ⟨p, vs, rfl, hp, q1⟩ := s; exact .inl ⟨p, vs, rfl, .inl (SqL.of hp), by rw [q1.length]; exact fin⟩
    | tup ds => cases e; obtain ⟨p, vs, rfl, hp, q1⟩ := s; exact .inl ⟨p, vs, rfl, .inr (SqT.of hp), by rw [q1.length]; exact fin⟩
    | str l =>
      obtain ⟨hl, e⟩ := guard_some (show guard _ _ = _ from e)
      cases e
      refine .inr (.inl ⟨_, congrArg (fun z => [z]) s, by rw [str_len, ← line_eq]; exact of_decide_eq_true hl, ?_⟩)
      rw [str_len]; exact fin
    | ref n =>
      obtain ⟨a, rfl, hi⟩ := s
      have e : (match S[n]? with
        | some (.lst ds) => some ((ds.length : Nat) : Int)
        | some (.dct ks _) => some (ks.length : Int)
        | _ => none) = some _ := e
      cases hs : S[n]? with
      | none => rw [hs] at e; cases e
      | some o =>
        rw [hs] at e
        have z := rel.st n o a hs hi
        cases o with
        | lst ds => cases e; obtain ⟨vs, hp, q1⟩ := z; exact .inl ⟨a, vs, rfl, .inl (SqL.of hp), by rw [q1.length]; exact fin⟩
        | dct ks ds =>
          cases e
          obtain ⟨kvs, hp, kk, q1⟩ := z
          refine .inr (.inr ⟨a, kvs, rfl, hp, ?_⟩)
          have : kvs.length = ks.length := by have := congrArg List.length kk; simpa using this
          rw [this]; exact fin
        | _ => cases e
    | dct ks ds => cases e
    | _ => cases e
theorem ints_rep {F : Hp} {ι : List Addr} : ∀ {ds : List D} {ns : List Int} {vs : List V}, intsD ds = some ns → Reps K F ι ds vs → vs = ns.map V.int
  | [], ns, vs, h, r => by cases h; exact r
  | d :: ds, ns, vs, h, ⟨v, t, e, h1, h2⟩ => by
    cases d with
    | int i =>
      obtain ⟨m, h3, rfl⟩ := Option.map_eq_some_iff.mp (show (intsD ds).map (i :: ·) = some ns from h)
      rw [e, ints_rep h3 h2, show v = V.int i from h1]; rfl
    | _ => cases h
theorem bls_rep {F : Hp} {ι : List Addr} : ∀ {ds : List D} {ns : List Bool} {vs : List V}, blsD ds = some ns → Reps K F ι ds vs → vs = ns.map V.bl
  | [], ns, vs, h, r => by cases h; exact r
  | d :: ds, ns, vs, h, ⟨v, t, e, h1, h2⟩ => by
    cases d with
    | bl i =>
      obtain ⟨m, h3, rfl⟩ := Option.map_eq_some_iff.mp (show (blsD ds).map (i :: ·) = some ns from h)
      rw [e, bls_rep h3 h2, show v = V.bl i from h1]; rfl
    | _ => cases h
theorem strs_rep {F : Hp} {ι : List Addr} : ∀ {ds : List D} {ns : List (List Nat)} {vs : List V}, strsD ds = some ns → Reps K F ι ds vs → vs = (ns.map fun l => (⟨l.toArray⟩ : Str)).map V.str
  | [], ns, vs, h, r => by cases h; exact r
  | d :: ds, ns, vs, h, ⟨v, t, e, h1, h2⟩ => by
    cases d with
    | str i =>
      obtain ⟨m, h3, rfl⟩ := Option.map_eq_some_iff.mp (show (strsD ds).map (i :: ·) = some ns from h)
      rw [e, strs_rep h3 h2, show v = V.str _ from h1]; rfl
    | _ => cases h
theorem kyD_rep {F : Hp} {ι : List Addr} : ∀ {ks : List Ky} {kvs : List (Key × V)}, kvs.map (·.1) = ks.map kyK → Reps K F ι (ks.map kyD) (kvs.map fun kv => kV kv.1)
  | [], [], _ => rfl
  | [], _ :: _, h => by cases h
  | _ :: _, [], h => by cases h
  | k :: ks, p :: kvs, h => by
    injection h with h1 h2
    refine .cons ?_ (kyD_rep h2)
    show Rep K F ι (kyD k) (kV p.1)
    have h1 : p.1 = kyK k := h1
    rw [h1]
    cases k <;> rfl
def rListDR : List V → Hp → VK → Prop := fun xs H Q => ∃ p kvs, xs = [.ref p] ∧ Rd H p (.dK kvs) ∧ ∀ q, H q = none → Q (.ref q) (upd H q (.lst (kvs.map fun kv => kV kv.1)))
open PyProof.Rows in
theorem call_list_dR (hc : X.calm = true) : CallR X (.type "list") rListDR := by
  intro pins s σ H xs us Q I r h
  obtain ⟨p, kvs, e, hk, q⟩ := h
  subst e
  obtain ⟨u, eu, rx⟩ := vals1 r
  subst eu
  obtain rfl : u = Value.ref p := rx
  obtain ⟨z, lo, vs, rk, hd⟩ := dk_rd I.hok hk
  obtain ⟨ep, hat⟩ := hd.dictAt
  have hl : kvs.length = vs.length := Paired.length rk
  refine PySem.W.kdl_call (PySem.W.kdl_dict (knd := mixKind X.prog X.w) (kvs := vs) (ep := ep) lo) (I.ok.hd hc) hat (by rw [← hl]; exact z) fun h' tk acc' c' hkeep hS hacc => ?_
  refine ⟨.ref s.heap.objs.size, upd H s.heap.objs.size (.lst (kvs.map fun kv => kV kv.1)), I.laid hkeep (Nat.le_refl _) (show ObjOk X.prog X.w _ _ _ (.lst (kvs.map fun kv => kV kv.1)) from ⟨?_, acc'.toList, c', ?_, ?_⟩), rfl, q _ (I.hok.fresh (Nat.le_refl _))⟩
  · rw [List.length_map]; exact z
  · have el : acc'.toList.length = acc'.size := by simp
    refine vals_of_at (by rw [List.length_map, el, hacc.1, hl]) fun j x w h1 h2 => ?_
    obtain ⟨k, y, hky, hi⟩ := hacc.2 j w (by rw [← Array.getElem?_toList]; exact h2)
    have e1 : (kvs.map (·.1))[j]? = some k := by
      rw [KV.keys rk, List.getElem?_map, hky] <;> rfl
    have e2 : (kvs.map fun kv => kV kv.1)[j]? = some (kV k) := by
      have e3 : (kvs.map fun kv => kV kv.1) = (kvs.map (·.1)).map kV := by rw [List.map_map] <;> rfl
      rw [e3, List.getElem?_map, e1] <;> rfl
    rw [e2] at h1
    cases h1
    exact keyIs_rel hi
  · rw [Array.toArray_toList]; exact hS
theorem s_list (hc : X.calm = true) (hK : X.K = K) {e : Expr} (he : ∀ {r : List V → Hp → VK → Prop}, CallR X (.type "list") r → PE X e (tCB r (tAs K cl W g es))) : PE X e (tE K cl W g (.blt .list es)) := by
  refine s_cb (he (call_list_of.or (call_list_dR hc))) fun q F H ι S ds vs d Q k rel pp ee h => ?_
  have h : EK q F ι (rO q) (.ok d S) Q := h
  subst k
  match ds, ee with
  | [a], ee =>
    obtain ⟨v, rfl, s⟩ := pair1 pp
    cases a with
    | lst ds =>
      cases ee; obtain ⟨p, vs, rfl, hp, q1⟩ := s
      exact .inl ⟨p, vs, rfl, .inl (SqL.of hp), fun r hr => h.new rel hr fun f1 f2 f3 f4 => ⟨r, _, rfl, upd_same, f1, f2, f3, f4, q1⟩⟩
    | tup ds =>
      cases ee; obtain ⟨p, vs, rfl, hp, q1⟩ := s
      exact .inl ⟨p, vs, rfl, .inr (SqT.of hp), fun r hr => h.new rel hr fun f1 f2 f3 f4 => ⟨r, _, rfl, upd_same, f1, f2, f3, f4, q1⟩⟩
    | scr ds =>
      cases ee; obtain ⟨p, vs, rfl, hp, q1⟩ := s
      have hp2 : SqL X.K H p vs := by
        rw [hK]
        rcases hp with (hp | ⟨o, hp⟩) | hp
        · rcases rel.fh p _ hp with z | ⟨⟨_, z⟩, _⟩
          · exact .inl (.inl z)
          · cases z
        · rcases rel.fh p _ hp with z | ⟨⟨_, z⟩, _⟩
          · exact .inl (.inr ⟨o, z⟩)
          · cases z
        · exact .inr hp
      exact .inl ⟨p, vs, rfl, .inl hp2, fun r hr => h.new rel hr fun f1 f2 f3 f4 => ⟨r, _, rfl, upd_same, f1, f2, f3, f4, q1⟩⟩
    | dct ks es =>
      cases ee; obtain ⟨p, kvs, rfl, hp, kk, q1⟩ := s
      exact .inr ⟨p, kvs, rfl, hp, fun r hr => h.new rel hr fun f1 f2 f3 f4 => ⟨r, _, rfl, upd_same, f1, f2, f3, f4, kyD_rep kk⟩⟩
    | ref n =>
      obtain ⟨a, rfl, hi⟩ := s
      have e : (match S[n]? with
        | some (.lst ds) => some (D.lst ds)
        | some (.dct ks _) => some (D.lst (ks.map kyD))
        | some (.dcl ks _) => some (D.lst (ks.map kyD))
        | _ => none) = some _ := ee
      cases hs : S[n]? with
      | none => rw [hs] at e; cases e
      | some o =>
        rw [hs] at e
        have z := rel.st n o a hs hi
        cases o with
        | lst ds =>
          cases e; obtain ⟨vs, hp, q1⟩ := z
          exact .inl ⟨a, vs, rfl, .inl (SqL.of hp), fun r hr => h.new rel hr fun f1 f2 f3 f4 => ⟨r, _, rfl, upd_same, f1, f2, f3, f4, q1⟩⟩
        | dct ks es =>
          cases e; obtain ⟨kvs, hp, kk, q1⟩ := z
          exact .inr ⟨a, kvs, rfl, .inl hp, fun r hr => h.new rel hr fun f1 f2 f3 f4 => ⟨r, _, rfl, upd_same, f1, f2, f3, f4, kyD_rep kk⟩⟩
        | dcl ks es =>
          cases e; obtain ⟨od, kvs, hp, kk, q1⟩ := z
          exact .inr ⟨a, kvs, rfl, .inr ⟨od, hp⟩, fun r hr => h.new rel hr fun f1 f2 f3 f4 => ⟨r, _, rfl, upd_same, f1, f2, f3, f4, kyD_rep kk⟩⟩
        | _ => cases e
    | _ => cases ee
  | x :: y :: z, ee => cases x <;> simp [bltD] at ee
def rDictR : List V → Hp → VK → Prop := fun xs H Q => ∃ p kvs, xs = [.ref p] ∧ Rd H p (.dK kvs) ∧ ∀ q, H q = none → Q (.ref q) (upd H q (.dK kvs))
theorem call_dict_R : CallR X (.type "dict") rDictR := by
  intro pins s σ H xs us Q I r h
  obtain ⟨p, kvs, e, hk, q⟩ := h
  subst e
  obtain ⟨u, eu, rx⟩ := vals1 r
  subst eu
  obtain rfl : u = Value.ref p := rx
  exact d_copyOf I hk fun z s' hz I' => ⟨.ref z, _, I', rfl, q z hz⟩
theorem s_dict (hK : X.K = K) {e : Expr} (he : ∀ {r : List V → Hp → VK → Prop}, CallR X (.type "dict") r → PE X e (tCB r (tAs K cl W g es))) : PE X e (tE K cl W g (.blt .dict es)) := by
  refine s_cb (he call_dict_R) fun q F H ι S ds vs d Q k rel pp ee h => ?_
  have h : EK q F ι (rO q) (.ok d S) Q := h
  subst k
  match ds, ee with
  | [a], ee =>
    obtain ⟨v, rfl, s⟩ := pair1 pp
    cases a with
    | dct ks es =>
      cases ee; obtain ⟨p, kvs, rfl, hp, kk, q1⟩ := s
      exact ⟨p, kvs, rfl, hp, fun r hr => h.new rel hr fun f1 f2 f3 f4 => ⟨r, _, rfl, upd_same, f1, f2, f3, f4, kk, q1⟩⟩
    | ref n =>
      obtain ⟨a, rfl, hi⟩ := s
      have e : (match S[n]? with
        | some (.dct ks ds) => some (D.dct ks ds)
        | some (.dcl ks ds) => some (D.dct ks ds)
        | _ => none) = some _ := ee
      cases hs : S[n]? with
      | none => rw [hs] at e; cases e
      | some o =>
        rw [hs] at e
        have z := rel.st n o a hs hi
        cases o with
        | dct ks es =>
          cases e; obtain ⟨kvs, hp, kk, q1⟩ := z
          exact ⟨a, kvs, rfl, .inl hp, fun r hr => h.new rel hr fun f1 f2 f3 f4 => ⟨r, _, rfl, upd_same, f1, f2, f3, f4, kk, q1⟩⟩
        | dcl ks es =>
          cases e; obtain ⟨od, kvs, hp, kk, q1⟩ := z
          exact ⟨a, kvs, rfl, .inr ⟨od, hp⟩, fun r hr => h.new rel hr fun f1 f2 f3 f4 => ⟨r, _, rfl, upd_same, f1, f2, f3, f4, kk, q1⟩⟩
        | _ => cases e
    | _ => cases ee
  | x :: y :: z, ee => cases x <;> simp [bltD] at ee
theorem s_max2 (hc : X.calm = true) {e : Expr} (he : ∀ {r : List V → Hp → VK → Prop}, CallR X (.builtin "max") r → PE X e (tCB r (tAs K cl W g es))) : PE X e (tE K cl W g (.blt .max2 es)) := by
  refine s_cb (he (call_max2 hc)) fun q F H ι S ds vs d Q k rel pp ee h => ?_
  match ds, ee with
  | [.int i, .int j], ee =>
    cases ee
    obtain ⟨v, w, rfl, s, t⟩ := pair2 pp
    exact ⟨i, j, by rw [show v = V.int i from s, show w = V.int j from t], EK.at (res := rF q) h rel rfl⟩
theorem s_min2 (hc : X.calm = true) {e : Expr} (he : ∀ {r : List V → Hp → VK → Prop}, CallR X (.builtin "min") r → PE X e (tCB r (tAs K cl W g es))) : PE X e (tE K cl W g (.blt .min2 es)) := by
  refine s_cb (he (call_min2 hc)) fun q F H ι S ds vs d Q k rel pp ee h => ?_
  match ds, ee with
  | [.int i, .int j], ee =>
    cases ee
    obtain ⟨v, w, rfl, s, t⟩ := pair2 pp
    exact ⟨i, j, by rw [show v = V.int i from s, show w = V.int j from t], EK.at (res := rF q) h rel rfl⟩
theorem foldl_max (r : List Int) : ∀ x : Int, (r.foldl max x = x ∨ r.foldl max x ∈ r) ∧ x ≤ r.foldl max x ∧ ∀ y ∈ r, y ≤ r.foldl max x := by
  induction r with
  | nil => intro x; exact ⟨.inl rfl, Int.le_refl _, fun y h => nomatch h⟩
  | cons a r ih =>
    intro x
    obtain ⟨h1, h2, h3⟩ := ih (max x a)
    refine ⟨?_, by show x ≤ r.foldl max (max x a); omega, fun y hy => ?_⟩
    · rcases h1 with h1 | h1
      · rw [List.foldl_cons, h1]
        by_cases q : a ≤ x
        · exact .inl (by omega)
        · exact .inr (by rw [show max x a = a by omega]; exact List.mem_cons_self)
      · exact .inr (List.mem_cons_of_mem _ h1)
    · rcases List.mem_cons.mp hy with rfl | hy
      · show y ≤ r.foldl max (max x y); omega
      · exact h3 y hy
theorem foldl_min (r : List Int) : ∀ x : Int, (r.foldl min x = x ∨ r.foldl min x ∈ r) ∧ r.foldl min x ≤ x ∧ ∀ y ∈ r, r.foldl min x ≤ y := by
  induction r with
  | nil => intro x; exact ⟨.inl rfl, Int.le_refl _, fun y h => nomatch h⟩
  | cons a r ih =>
    intro x
    obtain ⟨h1, h2, h3⟩ := ih (min x a)
    refine ⟨?_, by show r.foldl min (min x a) ≤ x; omega, fun y hy => ?_⟩
    · rcases h1 with h1 | h1
      · rw [List.foldl_cons, h1]
        by_cases q : x ≤ a
        · exact .inl (by omega)
        · exact .inr (by rw [show min x a = a by omega]; exact List.mem_cons_self)
      · exact .inr (List.mem_cons_of_mem _ h1)
    · rcases List.mem_cons.mp hy with rfl | hy
      · show r.foldl min (min x y) ≤ y; omega
      · exact h3 y hy
theorem maxL_ok {ns : List Int} {m : Int} (h : maxL ns = some m) : 0 < ns.length ∧ ∀ k, k ∈ ns → (∀ y, y ∈ ns → y ≤ k) → k = m := by
  cases ns with
  | nil => cases h
  | cons x r =>
    cases h
    obtain ⟨h1, h2, h3⟩ := foldl_max r x
    refine ⟨Nat.succ_pos _, fun k hk hy => Int.le_antisymm ?_ ?_⟩
    · rcases List.mem_cons.mp hk with rfl | hk
      · exact h2
      · exact h3 k hk
    · rcases h1 with h1 | h1
      · rw [h1]; exact hy x List.mem_cons_self
      · exact hy _ (List.mem_cons_of_mem _ h1)
theorem minL_ok {ns : List Int} {m : Int} (h : minL ns = some m) : 0 < ns.length ∧ ∀ k, k ∈ ns → (∀ y, y ∈ ns → k ≤ y) → k = m := by
  cases ns with
  | nil => cases h
  | cons x r =>
    cases h
    obtain ⟨h1, h2, h3⟩ := foldl_min r x
    refine ⟨Nat.succ_pos _, fun k hk hy => Int.le_antisymm ?_ ?_⟩
    · rcases h1 with h1 | h1
      · rw [h1]; exact hy x List.mem_cons_self
      · exact hy _ (List.mem_cons_of_mem _ h1)
    · rcases List.mem_cons.mp hk with rfl | hk
      · exact h2
      · exact h3 k hk
theorem s_maxl (hK : X.K = K) (hc : X.calm = true) {e : Expr} (he : ∀ {r : List V → Hp → VK → Prop}, CallR X (.builtin "max") r → PE X e (tCB r (tAs K cl W g es))) : PE X e (tE K cl W g (.blt .maxl es)) := by
  refine s_cb (he (cr_max hc)) fun q F H ι S ds vs d Q k rel pp ee h => ?_
  match ds, ee with
  | [.lst ds], ee =>
    obtain ⟨v, rfl, p, vs, rfl, hp, q1⟩ := pair1 pp
    obtain ⟨m, e, rfl⟩ := Option.map_eq_some_iff.mp (show ((intsD ds).bind maxL).map D.int = some d from ee)
    obtain ⟨ns, e1, e2⟩ := Option.bind_eq_some_iff.mp e
    obtain ⟨h1, h2⟩ := maxL_ok e2
    rw [ints_rep e1 q1] at hp
    exact ⟨p, ns, rfl, SqL.of hp, h1, fun k hk hy => by rw [h2 k hk hy]; exact EK.at (res := rF q) h rel rfl⟩
theorem s_minl (hK : X.K = K) (hc : X.calm = true) {e : Expr} (he : ∀ {r : List V → Hp → VK → Prop}, CallR X (.builtin "min") r → PE X e (tCB r (tAs K cl W g es))) : PE X e (tE K cl W g (.blt .minl es)) := by
  refine s_cb (he (cr_min hc)) fun q F H ι S ds vs d Q k rel pp ee h => ?_
  match ds, ee with
  | [.lst ds], ee =>
    obtain ⟨v, rfl, p, vs, rfl, hp, q1⟩ := pair1 pp
    obtain ⟨m, e, rfl⟩ := Option.map_eq_some_iff.mp (show ((intsD ds).bind minL).map D.int = some d from ee)
    obtain ⟨ns, e1, e2⟩ := Option.bind_eq_some_iff.mp e
    obtain ⟨h1, h2⟩ := minL_ok e2
    rw [ints_rep e1 q1] at hp
    exact ⟨p, ns, rfl, SqL.of hp, h1, fun k hk hy => by rw [h2 k hk hy]; exact EK.at (res := rF q) h rel rfl⟩
theorem s_sum (hK : X.K = K) (hc : X.calm = true) {e : Expr} (he : ∀ {r : List V → Hp → VK → Prop}, CallR X (.builtin "sum") r → PE X e (tCB r (tAs K cl W g es))) : PE X e (tE K cl W g (.blt .sum es)) := by
  refine s_cb (he (cr_sum hc)) fun q F H ι S ds vs d Q k rel pp ee h => ?_
  match ds, ee with
  | [.lst ds], ee =>
    obtain ⟨v, rfl, p, vs, rfl, hp, q1⟩ := pair1 pp
    obtain ⟨ns, e1, rfl⟩ := Option.map_eq_some_iff.mp (show (intsD ds).map (fun l => D.int l.sum) = some d from ee)
    rw [ints_rep e1 q1] at hp
    exact ⟨p, ns, rfl, SqL.of hp, EK.at (res := rF q) h rel rfl⟩
theorem s_any (hK : X.K = K) (hc : X.calm = true) {e : Expr} (he : ∀ {r : List V → Hp → VK → Prop}, CallR X (.builtin "any") r → PE X e (tCB r (tAs K cl W g es))) : PE X e (tE K cl W g (.blt .any es)) := by
  refine s_cb (he (cr_any hc)) fun q F H ι S ds vs d Q k rel pp ee h => ?_
  match ds, ee with
  | [.lst ds], ee =>
    obtain ⟨v, rfl, p, vs, rfl, hp, q1⟩ := pair1 pp
    obtain ⟨ns, e1, rfl⟩ := Option.map_eq_some_iff.mp (show (blsD ds).map (fun l => D.bl (l.any id)) = some d from ee)
    rw [bls_rep e1 q1] at hp
    exact ⟨p, ns, rfl, SqL.of hp, EK.at (res := rF q) h rel rfl⟩
theorem s_all (hK : X.K = K) (hc : X.calm = true) {e : Expr} (he : ∀ {r : List V → Hp → VK → Prop}, CallR X (.builtin "all") r → PE X e (tCB r (tAs K cl W g es))) : PE X e (tE K cl W g (.blt .all es)) := by
  refine s_cb (he (cr_all hc)) fun q F H ι S ds vs d Q k rel pp ee h => ?_
  match ds, ee with
  | [.lst ds], ee =>
    obtain ⟨v, rfl, p, vs, rfl, hp, q1⟩ := pair1 pp
    obtain ⟨ns, e1, rfl⟩ := Option.map_eq_some_iff.mp (show (blsD ds).map (fun l => D.bl (l.all id)) = some d from ee)
    rw [bls_rep e1 q1] at hp
    exact ⟨p, ns, rfl, SqL.of hp, EK.at (res := rF q) h rel rfl⟩
theorem int_txt {l : List Nat} (h : l = digits (valL l)) (hl : l.length ≤ 640) : PySem.intText? ⟨l.toArray⟩ = some ((valL l : Nat) : Int) := by
  have e : (Str.ofString (toString ((valL l : Nat) : Int))) = ⟨l.toArray⟩ := by
    apply TL.ext_tl
    rw [TL.tl_num (valL l)]
    exact h.symm
  have := TL.int_num (n := valL l) (by rw [show TL.numL (valL l) = l from h.symm]; omega)
  rw [e] at this
  exact this
theorem s_int {e : Expr} (he : ∀ {r : List V → Hp → VK → Prop}, CallR X (.type "int") r → PE X e (tCB r (tAs K cl W g es))) : PE X e (tE K cl W g (.blt .int es)) := by
  refine s_cb (he (call_int1.or call_int_str)) fun q F H ι S ds vs d Q k rel pp ee h => ?_
  match ds, ee with
  | [.int i], ee =>
    obtain ⟨v, rfl, s⟩ := pair1 pp
    cases ee
    exact .inl (.inl ⟨i, by rw [show v = V.int i from s], EK.at (res := rF q) h rel rfl⟩)
  | [.bl i], ee =>
    obtain ⟨v, rfl, s⟩ := pair1 pp
    cases ee
    exact .inl (.inr ⟨i, by rw [show v = V.bl i from s], EK.at (res := rF q) h rel rfl⟩)
  | [.str l], ee =>
    obtain ⟨v, rfl, s⟩ := pair1 pp
    obtain ⟨hg, e⟩ := guard_some (show guard _ _ = _ from ee)
    cases e
    rw [Bool.and_eq_true, decide_eq_true_eq, decide_eq_true_eq] at hg
    exact .inr ⟨⟨l.toArray⟩, _, by rw [show v = V.str _ from s], int_txt hg.1 hg.2, by rw [str_len]; exact hg.2, EK.at (res := rF q) h rel rfl⟩
theorem s_str {e : Expr} (he : ∀ {r : List V → Hp → VK → Prop}, CallR X (.type "str") r → PE X e (tCB r (tAs K cl W g es))) : PE X e (tE K cl W g (.blt .str es)) := by
  refine s_cb (he call_str_int) fun q F H ι S ds vs d Q k rel pp ee h => ?_
  match ds, ee with
  | [.int i], ee =>
    obtain ⟨v, rfl, s⟩ := pair1 pp
    obtain ⟨hg, e⟩ := guard_some (show guard _ _ = _ from ee)
    cases e
    rw [Bool.and_eq_true, decide_eq_true_eq, decide_eq_true_eq] at hg
    refine ⟨i, by rw [show v = V.int i from s], ?_, ?_⟩
    · by_cases z : i.natAbs = 0
      · rw [z]; decide
      · exact Nat.lt_of_lt_of_le ((Nat.log2_lt z).mpr hg.2) (by decide)
    · have e : (Str.ofString (toString i)) = ⟨(digits i.toNat).toArray⟩ := by
        apply TL.ext_tl
        have := TL.tl_num i.toNat
        rw [Int.toNat_of_nonneg hg.1] at this
        rw [this]; rfl
      rw [show (Str.ofString (toString i)) = _ from e]
      exact EK.at (res := rF q) h rel rfl
theorem perm_eq : ∀ {a b : List Int}, a.Perm b → a.Pairwise (· ≤ ·) → b.Pairwise (· ≤ ·) → a = b
  | [], b, p, _, _ => by rw [List.nil_perm.mp p]
  | x :: a, [], p, _, _ => by cases List.perm_nil.mp p
  | x :: a, y :: b, p, h1, h2 => by
    rw [List.pairwise_cons] at h1 h2
    have e : x = y := by
      have hx : x ∈ y :: b := p.mem_iff.mp List.mem_cons_self
      have hy : y ∈ x :: a := p.mem_iff.mpr List.mem_cons_self
      rcases List.mem_cons.mp hx with e | hx
      · exact e
      · rcases List.mem_cons.mp hy with e | hy
        · exact e.symm
        · exact Int.le_antisymm (h1.1 y hy) (h2.1 x hx)
    subst e
    rw [perm_eq (List.Perm.cons_inv p) h1.2 h2.2]
theorem insI_perm (x : Int) : ∀ l, (insI x l).Perm (x :: l)
  | [] => .refl _
  | y :: r => by
    unfold insI
    split
    · exact .refl _
    · exact ((insI_perm x r).cons y).trans (.swap x y r)
theorem sortI_perm : ∀ l, (sortI l).Perm l
  | [] => .refl _
  | x :: r => (insI_perm x _).trans ((sortI_perm r).cons x)
theorem insI_sorted (x : Int) : ∀ l : List Int, l.Pairwise (· ≤ ·) → (insI x l).Pairwise (· ≤ ·)
  | [], _ => by show List.Pairwise _ [x]; simp
  | y :: r, h => by
    rw [List.pairwise_cons] at h
    unfold insI
    split
    · rename_i q
      refine List.pairwise_cons.mpr ⟨fun z hz => ?_, List.pairwise_cons.mpr h⟩
      rcases List.mem_cons.mp hz with e | hz
      · rw [e]; exact q
      · exact Int.le_trans q (h.1 z hz)
    · rename_i q
      refine List.pairwise_cons.mpr ⟨fun z hz => ?_, insI_sorted x r h.2⟩
      rcases List.mem_cons.mp ((insI_perm x r).mem_iff.mp hz) with e | hz
      · rw [e]; omega
      · exact h.1 z hz
theorem sortI_sorted : ∀ l, (sortI l).Pairwise (· ≤ ·)
  | [] => .nil
  | x :: r => insI_sorted x _ (sortI_sorted r)
theorem s_sorted (hK : X.K = K) {e : Expr} (he : ∀ {r : List V → Hp → VK → Prop}, CallR X (.builtin "sorted") r → PE X e (tCB r (tAs K cl W g es))) : PE X e (tE K cl W g (.blt .sorted es)) := by
  refine s_cb (he cr_sorted) fun q F H ι S ds vs d Q k rel pp ee h => ?_
  have h : EK q F ι (rO q) (.ok d S) Q := h
  match ds, ee with
  | [.lst ds], ee =>
    obtain ⟨v, rfl, p, vs, rfl, hp, q1⟩ := pair1 pp
    obtain ⟨ns, e1, e2⟩ := Option.bind_eq_some_iff.mp (show (intsD ds).bind _ = some d from ee)
    obtain ⟨hg, e2⟩ := guard_some e2
    cases e2
    rw [ints_rep e1 q1] at hp
    refine ⟨p, ns, rfl, SqL.of hp, of_decide_eq_true hg, fun ns' r h1 h2 hr => ?_⟩
    have e : ns' = sortI ns := perm_eq (h1.trans (sortI_perm ns).symm) h2 (sortI_sorted ns)
    rw [e]
    exact h.new rel hr fun f1 f2 f3 f4 => ⟨r, _, rfl, upd_same, f1, f2, f3, f4, Reps.map (f := D.int) (g := V.int) (fun _ => rfl) _⟩
theorem s_tuple (hK : X.K = K) {e : Expr} (he : ∀ {r : List V → Hp → VK → Prop}, CallR X (.type "tuple") r → PE X e (tCB r (tAs K cl W g es))) : PE X e (tE K cl W g (.blt .tuple es)) := by
  refine s_cb (he call_tuple_of) fun q F H ι S ds vs d Q k rel pp ee h => ?_
  have h : EK q F ι (rF q) (.ok d S) Q := h
  subst k
  match ds, ee with
  | [.lst ds], ee =>
    obtain ⟨v, rfl, p, vs, rfl, hp, q1⟩ := pair1 pp
    cases ee
    exact ⟨p, vs, rfl, .inl ⟨SqL.of hp, fun r hr => h.newF rel hr fun s => ⟨r, _, rfl, upd_same, Reps.mono s (List.prefix_refl _) _ _ q1⟩⟩⟩
end
end IL
/-! Soundness, part G: isinstance, methods, calls, cells. -/
namespace IL
open PySem L2

def tyN : Ty → String
  | .int => "int" | .bool => "bool" | .str => "str" | .list => "list" | .tuple => "tuple"
theorem kits : (["NoneType", "bool", "int", "str", "list", "tuple", "dict"].all fun a => [Ty.int, .bool, .str, .list, .tuple].all fun t =>
    decide (kitB a (tyN t) = some (a == tyN t || (a == "bool" && t == Ty.int)))) = true := by decide +kernel
theorem kit_all {K : PySem.W.Frag} {a : String} {t : Ty} (ha : a ∈ ["NoneType", "bool", "int", "str", "list", "tuple", "dict"]) : PySem.W.kitOne K (.type a) (.type (tyN t)) = some (a == tyN t || (a == "bool" && t == Ty.int)) := by
  have h := List.all_eq_true.mp (List.all_eq_true.mp kits a ha) t (by cases t <;> simp)
  exact kit_ty (of_decide_eq_true h)
theorem boot_ty (t : Ty) : bootBuiltins (Str.ofString (tyN t)) = some (.type (tyN t)) := by cases t <;> decide +kernel
section
variable {X : Cx} {K : PySem.W.Frag} {cl : Cl} {W : WX} {g : G} {a b c : Expr} {ea eb ec : E} {es : Es} {xs : List Expr} {pos : Pos}
theorem s_isi {t : Ty} {p1 p2 : Pos} (hK : X.K = K) (hp : plainB a = true) (ha : PE X a (tR K cl W g ea)) (hg : Gl X "isinstance") (hm : X.mg "isinstance" = none) (hg2 : Gl X (Str.ofString (tyN t))) (hm2 : X.mg (Str.ofString (tyN t)) = none) (hd : (Str.ofString (tyN t) == ("__debug__" : Str)) = false) (hn : Str.ofString (tyN t) ≠ "__name__") :
    PE X (.Call (.Name "isinstance" p1) [a, .Name (Str.ofString (tyN t)) p2] [] pos) (tE K cl W g (.blt (.isi t) (.cons ea .nil))) := by
  have h2 : PA X [.Name (Str.ofString (tyN t)) p2] (tCons (tC (.ty (tyN t))) tNil) := pa_cons (pe_bltn hg2 hm2 (boot_ty t) rfl hn hd) pa_nil (star_cons rfl)
  refine (pe_callB call_isi hg hm PyProof.Rows.boot_isinstance (pa_cons ha h2 (star_cons hp)) (by decide) (by decide) (star_cons hp) (star_all rfl)).imp ?_
  rintro σ H Q ⟨B, col, σa, F, ι, S, rel, h⟩
  have h : EK _ F ι (rF _) (((evalE g σa ea S).bind fun d S1 => ((R.ok [] S1).bind fun ds S2 => .ok (d :: ds) S2)).bind fun ds S1 => .of (bltD S1 (.isi t) ds) S1) Q := h
  have h : EK ⟨K, cl, W, B, col, σa, σ⟩ F ι (rF ⟨K, cl, W, B, col, σa, σ⟩) ((evalE g σa ea S).bind fun d S1 => .of (bltD S1 (.isi t) [d]) S1) Q := by
    cases e : evalE g σa ea S with
    | ok d S1 => rw [e] at h; exact h
    | exc x S1 => rw [e] at h; exact h
    | bad => rw [e] at h; exact h
  refine ⟨B, col, σa, F, ι, S, rel, EK.bind h fun x S1 F1 H1 ι1 v x1 rel1 r1 h1 => ?_⟩
  obtain ⟨d, e, h1⟩ := h1.of
  obtain ⟨r, e, rfl⟩ := Option.map_eq_some_iff.mp (show (isTy t x).map D.bl = some d from e)
  have s := rel1.shR r1
  have fin : Q (.bl r) H1 := h1.at rel1 rfl
  have go : ∀ (n : String), n ∈ ["NoneType", "bool", "int", "str", "list", "tuple", "dict"] → TyX X.K H1 v (.type n) → r = (n == tyN t || (n == "bool" && t == Ty.int)) → ∃ x c t' u b, [v, V.ty (tyN t)] = [x, c] ∧ ClsV c u ∧ TyX X.K H1 x t' ∧ PySem.W.kitOne X.K t' u = some b ∧ Q (.bl b) H1 := fun n hn ty er =>
    ⟨v, _, _, _, _, rfl, .ty _, ty, kit_all hn, by rw [← er]; exact fin⟩
  cases x with
  | non => rw [show v = V.non from s] at go ⊢; exact go "NoneType" (by decide) (.base .non) (by cases t <;> cases e <;> rfl)
  | bl i => rw [show v = V.bl i from s] at go ⊢; exact go "bool" (by decide) (.base (.bl _)) (by cases t <;> cases e <;> rfl)
  | int i => rw [show v = V.int i from s] at go ⊢; exact go "int" (by decide) (.base (.int _)) (by cases t <;> cases e <;> rfl)
  | str i => rw [show v = V.str _ from s] at go ⊢; exact go "str" (by decide) (.base (.str _)) (by cases t <;> cases e <;> rfl)
  | lst ds => obtain ⟨p, vs, rfl, hp, _⟩ := s; exact go "list" (by decide) (.base (.lst hp)) (by cases t <;> cases e <;> rfl)
  | tup ds => obtain ⟨p, vs, rfl, hp, _⟩ := s; exact go "tuple" (by decide) (.base (.tup hp)) (by cases t <;> cases e <;> rfl)
  | dct ks ds =>
    obtain ⟨p, vs, rfl, hp, _⟩ := s
    rcases hp with hp | ⟨o, hp⟩
    · exact go "dict" (by decide) (.base (.dK hp)) (by cases t <;> cases e <;> rfl)
    · exact go "dict" (by decide) (.fDict hp) (by cases t <;> cases e <;> rfl)
  | ref n => cases t <;> cases e
  | err _ _ => cases t <;> cases e
  | scr _ => cases t <;> cases e

/-! ### methods -/
theorem at_one (l : List Nat) (c i : Nat) : PySem.StrLaws.At ⟨l.toArray⟩ ⟨#[c]⟩ l.length i ↔ l[i]? = some c := by
  have h := PySem.StrLaws.subAt_one ⟨l.toArray⟩ c i
  rw [str_len] at h
  simpa [PySem.StrLaws.At, str_len] using h
theorem range'_in {lo n a : Nat} {pre post : List Nat} (h : List.range' lo n = pre ++ a :: post) : lo ≤ a ∧ ∀ k, lo ≤ k → k < a → k ∈ pre := by
  have hL : n = pre.length + (post.length + 1) := by
    have := congrArg List.length h
    simpa using this
  have hlen : lo + pre.length = a := by
    have h1 : (List.range' lo n)[pre.length]? = some a := by rw [h]; simp
    rw [List.getElem?_range' (by omega)] at h1
    simpa using h1
  refine ⟨by omega, fun k h0 hk => ?_⟩
  have h2 : (List.range' lo n)[k - lo]? = pre[k - lo]? := by rw [h, List.getElem?_append_left (by omega)]
  rw [List.getElem?_range' (by omega)] at h2
  have h3 : pre[k - lo]? = some k := by rw [← h2]; simp; omega
  exact List.mem_of_getElem? h3
theorem findS_none {c : Nat} {l : List Nat} {i : Nat} (h : ∀ k, i ≤ k → l[k]? ≠ some c) : findS c l i = -1 := by
  unfold findS
  have : (l.drop i).findIdx? (· == c) = none := by
    rw [List.findIdx?_eq_none_iff]
    intro x hx
    obtain ⟨j, hj⟩ := List.getElem?_of_mem hx
    rw [List.getElem?_drop] at hj
    cases q : x == c with
    | false => rfl
    | true => rw [eq_of_beq q] at hj; exact absurd hj (h _ (by omega))
  rw [this]
theorem findS_some {c : Nat} {l : List Nat} {i a : Nat} (h0 : i ≤ a) (ha : l[a]? = some c) (h : ∀ k, i ≤ k → k < a → l[k]? ≠ some c) : findS c l i = (a : Int) := by
  unfold findS
  have hl := (List.getElem?_eq_some_iff.mp ha).1
  have : (l.drop i).findIdx? (· == c) = some (a - i) := by
    rw [List.findIdx?_eq_some_iff_getElem]
    refine ⟨by rw [List.length_drop]; omega, ?_, fun j hj => ?_⟩
    · have : (l.drop i)[a - i]? = some c := by rw [List.getElem?_drop]; rw [show i + (a - i) = a by omega]; exact ha
      rw [(List.getElem?_eq_some_iff.mp this).2]; exact beq_self_eq_true c
    · intro q
      have hlt : j < (l.drop i).length := by rw [List.length_drop]; omega
      have e : (l.drop i)[j]? = some c := by
        rw [List.getElem?_eq_getElem hlt]; exact congrArg some (eq_of_beq q)
      rw [List.getElem?_drop] at e
      exact h (i + j) (by omega) (by omega) e
  rw [this]
  show ((i + (a - i) : Nat) : Int) = _
  congr 1; omega
theorem find_ok (l : List Nat) (c : Nat) (i : Int) (hi : 0 ≤ i) : PySem.Txt.find3 ⟨l.toArray⟩ ⟨#[c]⟩ i = findS c l i.toNat := by
  have hf : PySem.fromIndex (⟨l.toArray⟩ : Str).length i = i.toNat := by
    unfold PySem.fromIndex
    rw [if_neg (by omega)]; congr 1; omega
  unfold PySem.Txt.find3
  rw [hf, str_len, PySem.StrLaws.occ_eq]
  rcases PySem.StrLaws.occ_first ⟨l.toArray⟩ ⟨#[c]⟩ l.length 1 (Nat.le_refl 1) (List.range' i.toNat (l.length + 1 - i.toNat)) i.toNat (fun k hk => by have := List.mem_range'.mp hk; obtain ⟨a, _, e⟩ := this; omega) with ⟨h0, hn⟩ | ⟨pre, a, post, e, h0, ha, hn⟩
  · rw [h0]
    refine (findS_none fun k hk q => ?_).symm
    have hl := (List.getElem?_eq_some_iff.mp q).1
    exact hn k (List.mem_range'.mpr ⟨k - i.toNat, by omega, by omega⟩) ((at_one l c k).mpr q)
  · obtain ⟨h1, h2⟩ := range'_in e
    rw [findS_some h1 ((at_one l c a).mp ha) fun k hk hka q => hn k (h2 k hk hka) ((at_one l c k).mpr q)]
    generalize (forIn (List.range' i.toNat (l.length + 1 - i.toNat)) ((#[] : Array Nat), i.toNat) (PySem.StrLaws.occBody ⟨l.toArray⟩ ⟨#[c]⟩ l.length 1)).run.fst = arr at h0
    have h1 : arr.toList[0]? = some a := by simpa using h0
    cases hL : arr.toList with
    | nil => rw [hL] at h1; cases h1
    | cons x r => rw [hL] at h1; cases h1; rfl
end
end IL
/-! Soundness, part H: calls, methods, cells. -/
namespace IL
open PySem L2

/-! ### calls -/
/-- a dict that is walked -/
def LK (H : Hp) (a : Addr) : Prop := ∃ od kvs, H a = some (.frz od (.dK kvs))
open Classical in
noncomputable def Bof (H : Hp) (ι : List Addr) : Hp := fun a => if a ∈ ι ∧ ¬ LK H a then none else H a
def col0 : Col := fun _ => none
noncomputable def qC (K : PySem.W.Frag) (cl : Cl) (E : XK) (H : Hp) (ι : List Addr) : Q0 := ⟨K, cl, fun c d _ H => E c d H, Bof H ι, col0, [], []⟩
def rC (fr : Bool) : Q0 → D → Hp → Hp → List Addr → V → Prop := if fr then rO else rF
noncomputable def spI (K : PySem.W.Frag) (cl : Cl) (np : Nat) (fr : Bool) (c : List D → Store → R D) : Sp := fun vs H Q E => vs.length = np ∧ ∃ F ι S ds, Rel K (Bof H ι) F H ι col0 [] S [] ∧ Reps K F ι ds vs ∧ EK (qC K cl E H ι) F ι (rC fr (qC K cl E H ι)) (c ds S) Q
theorem Bof_keep {H : Hp} {ι : List Addr} {a : Addr} (h : a ∉ ι ∨ LK H a) : Bof H ι a = H a := by
  unfold Bof
  rw [if_neg fun q => by rcases h with h | h; exact h q.1; exact q.2 h]
theorem Bof_out {H : Hp} {ι : List Addr} {a : Addr} (h : a ∉ ι) : Bof H ι a = H a := Bof_keep (.inl h)
theorem Bof_some {H : Hp} {ι : List Addr} {a : Addr} {o : HO} (h : Bof H ι a = some o) : H a = some o ∧ (a ∉ ι ∨ LK H a) := by
  by_cases q : a ∈ ι ∧ ¬ LK H a
  · unfold Bof at h; rw [if_pos q] at h; cases h
  · have z : a ∉ ι ∨ LK H a := by
      by_cases q1 : a ∈ ι
      · exact .inr (Classical.byContradiction fun q2 => q ⟨q1, q2⟩)
      · exact .inl q1
    rw [Bof_keep z] at h
    exact ⟨h, z⟩
theorem Bof_in {H : Hp} {ι : List Addr} {a : Addr} (h : a ∈ ι) : NB (Bof H ι a) := fun o e => by
  obtain ⟨e1, q | ⟨od, kvs, q⟩⟩ := Bof_some e
  · exact absurd h q
  · rw [q] at e1; cases e1; exact ⟨od, kvs, rfl⟩
theorem Bof_none {H : Hp} {ι : List Addr} {a : Addr} (h : Bof H ι a = none) : (a ∈ ι ∧ ¬ LK H a) ∨ H a = none := by
  by_cases q : a ∈ ι ∧ ¬ LK H a
  · exact .inl q
  · unfold Bof at h; rw [if_neg q] at h; exact .inr h
section
variable {K : PySem.W.Frag} {B F H F' H' : Hp} {ι ι' : List Addr} {col : Col} {σa : List Slot} {S S' : Store} {σ : St}
theorem Rel.enter (r : Rel K B F H ι col σa S σ) : Rel K (Bof H ι) F H ι col0 [] S [] := by
  refine ⟨r.fh, fun a o e => ?_, fun a c e => (nomatch e), fun a h => ⟨(r.io a h).1, Bof_in h⟩, r.nd, r.ln, r.st, rfl, fun i s o e => (nomatch (show none = some s by simpa using e))⟩
  exact (Bof_some e).1
/-- what the context keeps of the store is walked -/
theorem Rel.lkB (r : Rel K B F H ι col σa S σ) {a : Addr} {o : HO} (h : a ∈ ι) (e : B a = some o) : LK H a := by
  obtain ⟨od, kvs, rfl⟩ := (r.io a h).2 o e
  exact ⟨od, kvs, r.bh a _ e⟩
theorem Rel.keepB (r : Rel K B F H ι col σa S σ) {a : Addr} {o : HO} (e : B a = some o) : a ∉ ι ∨ LK H a := by
  by_cases q : a ∈ ι
  · exact .inr (r.lkB q e)
  · exact .inl q
theorem Rel.bofN (r : Rel K B F H ι col σa S σ) {a : Addr} (h : Bof H ι a = none) : B a = none ∧ col a = none := by
  rcases Bof_none h with q | q
  · refine ⟨?_, ?_⟩
    · cases e : B a with
      | none => rfl
      | some o => exact absurd (r.lkB q.1 e) q.2
    · cases e : col a with
      | none => rfl
      | some c => exact absurd q.1 (r.cf a c e).2.2.1
  · exact ⟨(r.free q).2, (r.off q).2⟩
theorem Ext.leave (r : Rel K B F H ι col σa S σ) (x : Ext (Bof H ι) F F' ι ι') : Ext B F F' ι ι' := ⟨x.same, x.pre, fun a o e => (x.nf a o e).imp id fun q => (r.bofN q).1⟩
theorem Rel.bofC (r : Rel K B F H ι col σa S σ) {a : Addr} {c : Nat × Option Nat} (h : col a = some c) : ¬ NB (Bof H ι a) := fun n => by
  obtain ⟨_, _, i, z⟩ := r.cf a c h
  rw [Bof_out i] at n
  rcases z with ⟨xs, z⟩ | ⟨xs, z⟩ <;> (obtain ⟨_, _, e⟩ := n _ z; cases e)
theorem Rel.ioL (r : Rel K B F H ι col σa S σ) {a : Addr} (n : NB (Bof H ι a)) : NB (B a) := fun o e => by
  exact n o (by rw [Bof_keep (r.keepB e)]; exact r.bh a o e)
theorem Rel.leave (r : Rel K B F H ι col σa S σ) (x : Ext (Bof H ι) F F' ι ι') (r' : Rel K (Bof H ι) F' H' ι' col0 [] S' []) : Rel K B F' H' ι' col σa S' σ := by
  have keep : ∀ a o, (a ∉ ι ∨ LK H a) → H a = some o → H' a = some o := fun a o q e => r'.bh a o (by rw [Bof_keep q]; exact e)
  refine ⟨r'.fh, fun a o e => keep a o (r.keepB e) (r.bh a o e), fun a c e => ?_, fun a h => ⟨(r'.io a h).1, r.ioL (r'.io a h).2⟩, r'.nd, r'.ln, r'.st, r.sl, fun i s o h1 h2 => ?_⟩
  · obtain ⟨f, b, i, z⟩ := r.cf a c e
    have hn : Bof H ι a ≠ none := fun q => by have := (r.bofN q).2; rw [e] at this; cases this
    refine ⟨?_, b, fun q => r.bofC e (r'.io a q).2, z.imp (fun ⟨xs, q⟩ => ⟨xs, keep a _ (.inl i) q⟩) fun ⟨xs, q⟩ => ⟨xs, keep a _ (.inl i) q⟩⟩
    cases w : F' a with
    | none => rfl
    | some o =>
      rcases x.nf a o w with q | q
      · rw [f] at q; cases q
      · exact absurd q hn
  · exact SlotR.mono x.same x.pre (fun a c e o q => keep a o (.inl (r.cf a c e).2.2.1) q) (r.slots i s o h1 h2)
/-- .. where owned slots were looked at: they freeze for the call, and thaw -/
def Fc (col : Col) (F H : Hp) : Hp := fun a => match F a with
  | some o => some o
  | none => if (col a).isSome then H a else none
theorem Fc_some {a : Addr} {o : HO} (h : F a = some o) : Fc col F H a = some o := by unfold Fc; rw [h]
theorem Fc_col (r : Rel K B F H ι col σa S σ) {a : Addr} {c : Nat × Option Nat} (h : col a = some c) : Fc col F H a = H a := by
  unfold Fc; rw [(r.cf a c h).1]; dsimp only; rw [h]; rfl
theorem Fc_cases {a : Addr} {o : HO} (h : Fc col F H a = some o) : F a = some o ∨ (F a = none ∧ (∃ c, col a = some c) ∧ H a = some o) := by
  unfold Fc at h
  cases e : F a with
  | some u => rw [e] at h; exact .inl h
  | none =>
    rw [e] at h
    dsimp only at h
    cases q : col a with
    | none => rw [q] at h; cases h
    | some c => rw [q] at h; exact .inr ⟨rfl, ⟨c, rfl⟩, h⟩
theorem Rel.enterP (r : Rel K B F H ι col σa S σ) : Rel K (Bof H ι) (Fc col F H) H ι col0 [] S [] := by
  have same : Same F (Fc col F H) := fun a o e => Fc_some e
  refine ⟨fun a o e => ?_, r.enter.bh, fun a c e => (nomatch e), fun a h => ⟨?_, Bof_in h⟩, r.nd, r.ln, fun n o a h1 h2 => ObjR.mono same (List.prefix_refl _) rfl (r.st n o a h1 h2), rfl, fun i s o e => (nomatch (show none = some s by simpa using e))⟩
  · rcases Fc_cases e with q | ⟨_, _, q⟩
    · exact r.fh a o q
    · exact .inl q
  · cases e : Fc col F H a with
    | none => rfl
    | some o =>
      rcases Fc_cases e with q | ⟨_, ⟨c, q⟩, _⟩
      · rw [(r.io a h).1] at q; cases q
      · exact absurd h (r.cf a c q).2.2.1
/-- the frozen part without the colours -/
def Fo (col : Col) (F : Hp) : Hp := fun a => if (col a).isSome then none else F a
theorem Fo_some {F : Hp} {a : Addr} {o : HO} (h : Fo col F a = some o) : F a = some o ∧ col a = none := by
  unfold Fo at h
  cases q : col a with
  | none => rw [q] at h; exact ⟨h, rfl⟩
  | some c => rw [q] at h; cases h
theorem Fo_of {F : Hp} {a : Addr} (h : col a = none) : Fo col F a = F a := by unfold Fo; rw [h]; rfl
mutual
theorem Rep.thaw {F : Hp} (ht : ∀ a vs, F a = some (.tup vs) → col a = none) : ∀ (d : D) (v : V), d.noL = true → Rep K F ι d v → Rep K (Fo col F) ι d v
  | .non, _, _, h => h
  | .bl _, _, _, h => h
  | .int _, _, _, h => h
  | .str _, _, _, h => h
  | .tup ds, _, n, ⟨a, vs, e, f, r⟩ => ⟨a, vs, e, by rw [Fo_of (ht a vs f)]; exact f, Reps.thaw ht ds vs n r⟩
  | .lst ds, _, n, _ => by cases n
  | .dct ks ds, _, n, _ => by cases n
  | .ref n, _, _, h => h
  | .err _ _, _, _, h => h.elim
  | .scr ds, _, n, _ => by cases n
theorem Reps.thaw {F : Hp} (ht : ∀ a vs, F a = some (.tup vs) → col a = none) : ∀ (ds : List D) (vs : List V), D.noLs ds = true → Reps K F ι ds vs → Reps K (Fo col F) ι ds vs
  | [], _, _, h => h
  | d :: ds, _, n, ⟨v, r, e, h, t⟩ => by
    have n : (d.noL && D.noLs ds) = true := n
    rw [Bool.and_eq_true] at n
    exact ⟨v, r, e, Rep.thaw ht d v n.1 h, Reps.thaw ht ds r n.2 t⟩
end
theorem Rel.tupF (r : Rel K B F H ι col σa S σ) (x : Ext (Bof H ι) (Fc col F H) F' ι ι') (r' : Rel K (Bof H ι) F' H' ι' col0 [] S' []) : ∀ a vs, F' a = some (.tup vs) → col a = none := fun a vs e => by
  cases q : col a with
  | none => rfl
  | some c =>
    have z := x.same a
    rw [Fc_col r q] at z
    rcases (r.cf a c q).2.2.2 with ⟨xs, w⟩ | ⟨xs, w⟩ <;> (have := z _ w; rw [e] at this; cases this)
theorem Ext.leaveP (r : Rel K B F H ι col σa S σ) (x : Ext (Bof H ι) (Fc col F H) F' ι ι') : Ext B F (Fo col F') ι ι' := by
  have cn : ∀ a o, F a = some o → col a = none := fun a o e => by
    cases q : col a with
    | none => rfl
    | some c => rw [(r.cf a c q).1] at e; cases e
  refine ⟨fun a o e => ?_, x.pre, fun a o e => ?_⟩
  · rw [Fo_of (cn a o e)]; exact x.same a o (Fc_some e)
  · obtain ⟨e, c⟩ := Fo_some e
    rcases x.nf a o e with q | q
    · rcases Fc_cases q with q | ⟨_, ⟨c', q⟩, _⟩
      · exact .inl q
      · rw [c] at q; cases q
    · exact .inr (r.bofN q).1
theorem Rel.leaveP (r : Rel K B F H ι col σa S σ) (x : Ext (Bof H ι) (Fc col F H) F' ι ι') (r' : Rel K (Bof H ι) F' H' ι' col0 [] S' []) (hS : Store.noL S' = true) : Rel K B (Fo col F') H' ι' col σa S' σ := by
  have keep : ∀ a o, (a ∉ ι ∨ LK H a) → H a = some o → H' a = some o := fun a o q e => r'.bh a o (by rw [Bof_keep q]; exact e)
  have ht := r.tupF x r'
  refine ⟨fun a o e => r'.fh a o (Fo_some e).1, fun a o e => keep a o (r.keepB e) (r.bh a o e), fun a c e => ?_, fun a h => ⟨?_, r.ioL (r'.io a h).2⟩, r'.nd, r'.ln, fun n o a h1 h2 => ?_, r.sl, fun i s o h1 h2 => ?_⟩
  · obtain ⟨f, b, i, z⟩ := r.cf a c e
    have hn : Bof H ι a ≠ none := fun q => by have := (r.bofN q).2; rw [e] at this; cases this
    refine ⟨?_, b, fun q => r.bofC e (r'.io a q).2, z.imp (fun ⟨xs, q⟩ => ⟨xs, keep a _ (.inl i) q⟩) fun ⟨xs, q⟩ => ⟨xs, keep a _ (.inl i) q⟩⟩
    unfold Fo; rw [e]; rfl
  · cases q : Fo col F' a with
    | none => rfl
    | some o => have := (Fo_some q).1; rw [(r'.io a h).1] at this; cases this
  · have hn : o.noL = true := List.all_eq_true.mp hS o (List.mem_of_getElem? h1)
    have z := r'.st n o a h1 h2
    cases o with
    | lst ds => obtain ⟨vs, e, q⟩ := z; exact ⟨vs, e, Reps.thaw ht _ _ hn q⟩
    | dct ks ds => obtain ⟨vs, e, k, q⟩ := z; exact ⟨vs, e, k, Reps.thaw ht _ _ hn q⟩
    | ins _ _ => obtain ⟨dx, vs, e, k, q⟩ := z; exact ⟨dx, vs, e, k, Reps.thaw ht _ _ hn q⟩
    | dcl _ _ => obtain ⟨dx, vs, e, k, q⟩ := z; exact ⟨dx, vs, e, k, Reps.thaw ht _ _ hn q⟩
  · have x' := Ext.leaveP r x
    exact SlotR.mono x'.same x'.pre (fun a c e o q => keep a o (.inl (r.cf a c e).2.2.1) q) (r.slots i s o h1 h2)
end

section
variable {X : Cx} {K : PySem.W.Frag} {cl : Cl} {W : WX} {g : G} {a b c : Expr} {ea eb ec : E} {es : Es} {xs : List Expr} {pos : Pos}
theorem rA_frozen {B F H : Hp} {ι : List Addr} {col : Col} {σa : List Slot} {S : Store} {σ : St} (rel : Rel K B F H ι col σa S σ) : ∀ {es : Es} {ds : List D} {vs : List V}, rA es ⟨K, cl, W, B, col, σa, σ⟩ ds F H ι vs → Reps K (Fc col F H) ι ds vs
  | .nil, _, _, ⟨h1, h2⟩ => by rw [h1, h2]; rfl
  | .cons e es, ds, vs, ⟨d, r, v, t, h1, h2, h3, h4⟩ => by
    rw [h1, h2]
    refine .cons ?_ (rA_frozen rel h4)
    have same : Same F (Fc col F H) := fun a o e => Fc_some e
    cases e with
    | pk i =>
      obtain ⟨e1, e2⟩ := h3
      have z := rel.slots i _ _ e1 e2
      cases d with
      | lst ds => obtain ⟨a, vs, e, ha, c, q⟩ := z; cases e; exact ⟨a, vs, rfl, by rw [Fc_col rel c]; exact ha, Reps.mono same (List.prefix_refl _) _ _ q⟩
      | dct ks ds => obtain ⟨a, vs, e, ha, c, k, q⟩ := z; cases e; exact ⟨a, vs, rfl, by rw [Fc_col rel c]; exact ha, k, Reps.mono same (List.prefix_refl _) _ _ q⟩
      | _ => exact z.elim
    | _ => exact Rep.mono same (List.prefix_refl _) d v h3
theorem s_call {f : Nat} {x : Str} {p : Pos} {fa : Addr} {fd : FuncData} {ps : List Str} {k np : Nat} {CX : CXT} (hp : plainB a = true) (hps : xs.all plainB = true)
    (Fo' : FnOk X.prog X.w X.K X.mg X.base CX k fa fd ps (spI K cl np (g.fr f) (g.call f))) (hlen : es.len = np) (hr : Room k X.A) (hg : Gl X x) (hm : X.mg x = some (.ref fa)) (hk : PySem.W.keepIn X.K (.ref fa) = true) (hb : Binds X.K fd ps []) (hx : ∀ σ, PassesAt CX X σ (WE W σ)) (hd : (x == ("__debug__" : Str)) = false)
    (hs : PA X (a :: xs) (tAs K cl W g es)) : PE X (.Call (.Name x p) (a :: xs) [] pos) (tE K cl W g (.call f es)) := by
  refine (pe_callSD Fo' hr hg hm hk hb .nil hx hs hd (star_cons hp) (star_all hps)).imp ?_
  rintro σ H Q ⟨B, col, σa, F, ι, S, rel, h⟩
  have h : EK ⟨K, cl, W, B, col, σa, σ⟩ F ι (rE g.fr (.call f es) ⟨K, cl, W, B, col, σa, σ⟩) ((evalEs g σa es S).bind fun ds S1 => if es.anyPk then (g.call f ds S1).nox.bind fun d S2 => if pkOk (g.fr f) d S2 then .ok d S2 else .bad else g.call f ds S1) Q := h
  refine ⟨B, col, σa, F, ι, S, rel, EK.bind h fun ds S1 F1 H1 ι1 vs x1 rel1 r1 h1 => ?_⟩
  rw [List.append_nil]
  have hl := rA_len r1
  have resE : rE g.fr (.call f es) = rC (g.fr f) := by
    rfl
  rw [resE] at h1
  refine ⟨by rw [hl.1]; exact hlen, ?_⟩
  cases hpk : es.anyPk with
  | false =>
    refine ⟨F1, ι1, S1, ds, rel1.enter, rA_reps hpk r1, ?_⟩
    rw [hpk] at h1
    cases hc : g.call f ds S1 with
    | bad => rw [hc] at h1; exact h1
    | exc x S2 =>
      rw [hc] at h1
      exact fun F' H' ι' cls d x' rel' r => h1 F' H' ι' cls d (x'.leave rel1) (rel1.leave x' rel') r
    | ok d S2 =>
      rw [hc] at h1
      intro F' H' ι' v x' rel' r
      refine h1 F' H' ι' v (x'.leave rel1) (rel1.leave x' rel') ?_
      unfold rC at r ⊢
      cases hfr : g.fr f with
      | false => rw [hfr] at r; exact r
      | true =>
        rw [hfr] at r
        cases d with
        | lst ds => obtain ⟨a, vs, e, ha, f1, f2, f3, f4, q⟩ := r; exact ⟨a, vs, e, ha, f1, (rel1.bofN f2).1, (rel1.bofN f2).2, f4, q⟩
        | dct ks ds => obtain ⟨a, vs, e, ha, f1, f2, f3, f4, q⟩ := r; exact ⟨a, vs, e, ha, f1, (rel1.bofN f2).1, (rel1.bofN f2).2, f4, q⟩
        | _ => exact r
  | true =>
    refine ⟨Fc col F1 H1, ι1, S1, ds, rel1.enterP, rA_frozen rel1 r1, ?_⟩
    rw [hpk] at h1
    cases hc : g.call f ds S1 with
    | bad => rw [hc] at h1; exact h1
    | exc x S2 => rw [hc] at h1; exact h1.elim
    | ok d S2 =>
      rw [hc] at h1
      have h1 : EK _ F1 ι1 (rC (g.fr f) _) (if pkOk (g.fr f) d S2 then .ok d S2 else .bad) Q := h1
      intro F' H' ι' v x' rel' r
      cases hok : pkOk (g.fr f) d S2 with
      | false => rw [hok] at h1; exact h1.elim
      | true =>
        rw [hok] at h1
        have h1 : EK _ F1 ι1 (rC (g.fr f) _) (.ok d S2) Q := h1
        unfold pkOk at hok
        rw [Bool.and_eq_true] at hok
        obtain ⟨hd1, hS⟩ := hok
        have ht := rel1.tupF x' rel'
        refine h1 (IL.Fo col F') H' ι' v (x'.leaveP rel1) (rel1.leaveP x' rel' hS) ?_
        unfold rC at r ⊢
        cases hfr : g.fr f with
        | false =>
          rw [hfr] at r hd1
          have hn : d.noL = true := by cases d <;> first | exact hd1 | cases hd1
          exact Rep.thaw ht d v hn r
        | true =>
          rw [hfr] at r hd1
          cases d with
          | lst ds =>
            obtain ⟨a, vs, e, ha, f1, f2, f3, f4, q⟩ := r
            refine ⟨a, vs, e, ha, ?_, (rel1.bofN f2).1, (rel1.bofN f2).2, f4, Reps.thaw ht _ _ hd1 q⟩
            rw [Fo_of (rel1.bofN f2).2]; exact f1
          | dct ks ds => cases hd1
          | _ => exact Rep.thaw ht _ v hd1 r
end
end IL
/-! Soundness, part I: methods, cells. -/
namespace IL
open PySem L2

section
variable {K : PySem.W.Frag} {B F H F' H' : Hp} {ι ι' : List Addr} {col : Col} {σa : List Slot} {S S' : Store} {σ : St}
theorem nodup_get {α : Type} {l : List α} (h : l.Nodup) {i j : Nat} {a : α} (e1 : l[i]? = some a) (e2 : l[j]? = some a) : i = j := by
  obtain ⟨h1, q1⟩ := List.getElem?_eq_some_iff.mp e1
  obtain ⟨h2, q2⟩ := List.getElem?_eq_some_iff.mp e2
  exact (List.getElem_inj h).mp (q1.trans q2.symm)
theorem Rel.unB (r : Rel K B F H ι col σa S σ) {a : Addr} {u : HO} (h : a ∈ ι) (e : H a = some u) (n : ∀ od kvs, u ≠ .frz od (.dK kvs)) : B a = none := by
  cases q : B a with
  | none => rfl
  | some o =>
    obtain ⟨od, kvs, z⟩ := r.lkB h q
    rw [e] at z
    cases z
    exact absurd rfl (n od kvs)
/-- an object of the store changes -/
theorem Rel.setObj (r : Rel K B F H ι col σa S σ) {n : Nat} {a : Addr} {u u0 : HO} {o' : IL.Obj} (hi : ι[n]? = some a) (e0 : H a = some u0) (n0 : ∀ od kvs, u0 ≠ .frz od (.dK kvs)) (new : ObjR K F (upd H a u) ι o' a) : Rel K B F (upd H a u) ι col σa (S.set n o') σ := by
  have ha : a ∈ ι := List.mem_of_getElem? hi
  have fa := (r.io a ha).1
  have ba := r.unB ha e0 n0
  have ne : ∀ b o, F b = some o → b ≠ a := fun b o e z => by subst z; rw [fa] at e; cases e
  refine ⟨fun b o e => by rw [upd_ne (ne b o e)]; exact r.fh b o e, fun b o e => ?_, fun b c e => ?_, r.io, r.nd, by rw [List.length_set]; exact r.ln, fun m o b h1 h2 => ?_, r.sl, fun i s o h1 h2 => ?_⟩
  · rw [upd_ne fun z => by subst z; rw [ba] at e; cases e]; exact r.bh b o e
  · obtain ⟨h1, h2, h3, h4⟩ := r.cf b c e
    rw [upd_ne fun z => h3 (by rw [z]; exact ha)]
    exact ⟨h1, h2, h3, h4⟩
  · by_cases q : m = n
    · subst q
      rw [hi] at h2; cases h2
      have hl : m < S.length := by rw [← r.ln]; exact (List.getElem?_eq_some_iff.mp hi).1
      rw [List.getElem?_set_self hl] at h1; cases h1
      exact new
    · rw [List.getElem?_set_ne (Ne.symm q)] at h1
      have hb : b ≠ a := fun z => by subst z; exact q (nodup_get r.nd h2 hi)
      exact ObjR.mono (Same.refl F) (List.prefix_refl _) (upd_ne hb) (r.st m o b h1 h2)
  · exact SlotR.mono (Same.refl F) (List.prefix_refl _) (fun b c e o q => by rw [upd_ne fun z => (r.cf b c e).2.2.1 (by rw [z]; exact ha)]; exact q) (r.slots i s o h1 h2)
/-- a thing of nobody's becomes an object of the store -/
theorem Rel.newObj (r : Rel K B F H ι col σa S σ) {a : Addr} {o' : IL.Obj} (hf : F a = none) (hb : B a = none) (hc : col a = none) (hi : a ∉ ι) (new : ObjR K F H ι o' a) : Rel K B F H (ι ++ [a]) col σa (S ++ [o']) σ := by
  have p : ι <+: ι ++ [a] := List.prefix_append _ _
  refine ⟨r.fh, r.bh, fun b c e => ?_, fun b h => ?_, ?_, by rw [List.length_append, List.length_append, r.ln]; rfl, fun m o b h1 h2 => ?_, r.sl, fun i s o h1 h2 => SlotR.mono (Same.refl F) p (fun b c e o q => q) (r.slots i s o h1 h2)⟩
  · obtain ⟨h1, h2, h3, h4⟩ := r.cf b c e
    refine ⟨h1, h2, fun q => ?_, h4⟩
    rcases List.mem_append.mp q with q | q
    · exact h3 q
    · have := List.mem_singleton.mp q
      rw [this, hc] at e; cases e
  · rcases List.mem_append.mp h with q | q
    · exact r.io b q
    · have := List.mem_singleton.mp q
      rw [this]; exact ⟨hf, by rw [hb]; exact NB.none⟩
  · refine List.nodup_append.mpr ⟨r.nd, by simp, fun x hx y hy z => ?_⟩
    have := List.mem_singleton.mp hy
    rw [← this, ← z] at hi
    exact hi hx
  · by_cases q : m < S.length
    · rw [List.getElem?_append_left q] at h1
      rw [List.getElem?_append_left (by rw [r.ln]; exact q)] at h2
      exact ObjR.mono (Same.refl F) p rfl (r.st m o b h1 h2)
    · rw [List.getElem?_append_right (by omega)] at h1
      rw [List.getElem?_append_right (by rw [r.ln]; omega)] at h2
      have hm : m - S.length = 0 := by
        have := (List.getElem?_eq_some_iff.mp h1).1
        simp at this; omega
      rw [hm] at h1
      rw [r.ln, hm] at h2
      cases h1; cases h2
      exact ObjR.mono (Same.refl F) p rfl new
end

/-! ### objects forgotten -/
mutual
theorem Rep.cut {K : PySem.W.Frag} {F : Hp} {ι : List Addr} {n : Nat} : ∀ (d : D) (v : V), D.refLt n d = true → Rep K F ι d v → Rep K F (ι.take n) d v
  | .non, _, _, h => h
  | .bl _, _, _, h => h
  | .int _, _, _, h => h
  | .str _, _, _, h => h
  | .tup ds, _, l, ⟨a, vs, e, f, r⟩ => ⟨a, vs, e, f, Reps.cut ds vs l r⟩
  | .lst ds, _, l, ⟨a, vs, e, f, r⟩ => ⟨a, vs, e, f, Reps.cut ds vs l r⟩
  | .dct ks ds, _, l, ⟨a, kvs, e, f, k, r⟩ => ⟨a, kvs, e, f, k, Reps.cut ds _ l r⟩
  | .ref m, _, l, ⟨a, e, f⟩ => ⟨a, e, by rw [List.getElem?_take, if_pos (of_decide_eq_true l)]; exact f⟩
  | .err _ _, _, _, h => h.elim
  | .scr ds, _, l, _ => by cases l
theorem Reps.cut {K : PySem.W.Frag} {F : Hp} {ι : List Addr} {n : Nat} : ∀ (ds : List D) (vs : List V), D.refLts n ds = true → Reps K F ι ds vs → Reps K F (ι.take n) ds vs
  | [], _, _, h => h
  | d :: ds, _, l, ⟨v, r, e, h, t⟩ => by
    have l : (D.refLt n d && D.refLts n ds) = true := l
    rw [Bool.and_eq_true] at l
    exact ⟨v, r, e, Rep.cut d v l.1 h, Reps.cut ds r l.2 t⟩
end
mutual
/-- what stood ahead of further objects stands with as few -/
theorem Rep.back {K : PySem.W.Frag} {F F1 : Hp} {ι ι1 : List Addr} (p : ι <+: ι1) : ∀ (d : D) (v v1 : V), Rep K F ι d v → Rep K F1 ι1 d v1 → Rep K F1 ι d v1
  | .non, _, _, _, h => h
  | .bl _, _, _, _, h => h
  | .int _, _, _, _, h => h
  | .str _, _, _, _, h => h
  | .tup ds, _, _, ⟨_, _, _, _, r0⟩, ⟨a, vs, e, f, r⟩ => ⟨a, vs, e, f, Reps.back p ds _ vs r0 r⟩
  | .lst ds, _, _, ⟨_, _, _, _, r0⟩, ⟨a, vs, e, f, r⟩ => ⟨a, vs, e, f, Reps.back p ds _ vs r0 r⟩
  | .dct ks ds, _, _, ⟨_, _, _, _, _, r0⟩, ⟨a, kvs, e, f, k, r⟩ => ⟨a, kvs, e, f, k, Reps.back p ds _ _ r0 r⟩
  | .ref m, _, _, ⟨a0, _, f0⟩, ⟨a, e, f⟩ => by
    have q := pre_get p f0
    rw [f] at q
    cases q
    exact ⟨_, e, f0⟩
  | .err _ _, _, _, h, _ => h.elim
  | .scr ds, _, _, ⟨_, _, _, _, r0⟩, ⟨a, vs, e, f, r⟩ => ⟨a, vs, e, f, Reps.back p ds _ vs r0 r⟩
theorem Reps.back {K : PySem.W.Frag} {F F1 : Hp} {ι ι1 : List Addr} (p : ι <+: ι1) : ∀ (ds : List D) (vs ws : List V), Reps K F ι ds vs → Reps K F1 ι1 ds ws → Reps K F1 ι ds ws
  | [], _, _, _, h => h
  | d :: ds, _, _, ⟨v, r, e, h, t⟩, ⟨v1, r1, e1, h1, t1⟩ => ⟨v1, r1, e1, Rep.back p d v v1 h h1, Reps.back p ds r r1 t t1⟩
end
theorem SlotR.back {K : PySem.W.Frag} {F F1 F2 H H1 : Hp} {ι ι1 : List Addr} {col : Col} {i : Nat} (p : ι <+: ι1) (s1 : Same F F1) (s : Same F1 F2) : ∀ {x : Slot} {o : Option V}, SlotR K F H ι col i x o → SlotR K F1 H1 ι1 col i x o → SlotR K F2 H1 ι col i x o := by
  intro x o h0 h
  have pr := List.prefix_refl ι
  cases x with
  | no => trivial
  | val d => obtain ⟨v, e, r⟩ := h0; exact ⟨v, e, Rep.mono (s1.trans s) pr d v r⟩
  | own d =>
    cases d with
    | lst ds =>
      obtain ⟨_, vs0, _, _, _, r0⟩ := h0
      obtain ⟨a, vs, e, ha, c, r⟩ := h
      exact ⟨a, vs, e, ha, c, Reps.mono s pr _ _ (Reps.back p _ _ _ r0 r)⟩
    | dct ks ds =>
      obtain ⟨_, vs0, _, _, _, _, r0⟩ := h0
      obtain ⟨a, vs, e, ha, c, q, r⟩ := h
      exact ⟨a, vs, e, ha, c, q, Reps.mono s pr _ _ (Reps.back p _ _ _ r0 r)⟩
    | _ => exact h.elim
  | own2 d =>
    cases d with
    | lst ds =>
      obtain ⟨_, vs0, _, _, _, l0, r0⟩ := h0
      obtain ⟨a, vs, e, ha, c, l, r⟩ := h
      refine ⟨a, vs, e, ha, c, l, fun j d v h1 h2 => ?_⟩
      obtain ⟨b, ws, es, e1, e2, hb, cb, rr⟩ := r j d v h1 h2
      have hj : j < vs0.length := by rw [l0]; exact (List.getElem?_eq_some_iff.mp h1).1
      obtain ⟨b0, ws0, es0, _, e20, _, _, rr0⟩ := r0 j d vs0[j] h1 (List.getElem?_eq_getElem hj)
      rw [e2] at e20
      cases e20
      exact ⟨b, ws, es, e1, e2, hb, cb, Reps.mono s pr _ _ (Reps.back p _ _ _ rr0 rr)⟩
    | _ => exact h.elim
theorem ObjR.cut {K : PySem.W.Frag} {F H : Hp} {ι : List Addr} {n : Nat} : ∀ {o : Obj} {a : Addr}, o.refLt n = true → ObjR K F H ι o a → ObjR K F H (ι.take n) o a := by
  intro o a hl z
  cases o with
  | lst ds => obtain ⟨vs, e, q⟩ := z; exact ⟨vs, e, Reps.cut _ _ hl q⟩
  | dct ks ds => obtain ⟨vs, e, k, q⟩ := z; exact ⟨vs, e, k, Reps.cut _ _ hl q⟩
  | ins _ _ => obtain ⟨dx, vs, e, k, q⟩ := z; exact ⟨dx, vs, e, k, Reps.cut _ _ hl q⟩
  | dcl _ _ => obtain ⟨dx, vs, e, k, q⟩ := z; exact ⟨dx, vs, e, k, Reps.cut _ _ hl q⟩
section
variable {X : Cx} {K : PySem.W.Frag} {cl : Cl} {W : WX} {g : G} {a b c : Expr} {ea eb ec : E} {es : Es} {xs : List Expr} {pos : Pos}
theorem s_cell {e : Expr} (np : ea.isPk = false) (h : PE X e (tE K cl W g ea)) : PE X e (tE K cl W g (.cell ea)) := by
  refine h.imp ?_
  rintro σ H Q ⟨B, col, σa, F, ι, S, rel, h⟩
  refine ⟨B, col, σa, F, ι, S, rel, ?_⟩
  have h : EK ⟨K, cl, W, B, col, σa, σ⟩ F ι (rF ⟨K, cl, W, B, col, σa, σ⟩) (if ea.isPk || !ea.alloc g.fr then .bad else (evalE g σa ea S).bind fun d S1 => (match d with
    | .lst ds => .ok (.ref S1.length) (S1 ++ [.lst ds])
    | .dct ks ds => .ok (.ref S1.length) (S1 ++ [.dct ks ds])
    | _ => .bad)) Q := h
  cases ha : ea.alloc g.fr with
  | false => rw [np, ha] at h; exact h.elim
  | true =>
    rw [np, ha, if_neg (by decide)] at h
    have re : rE g.fr ea = rO := by
      unfold rE
      cases ea with
      | pk i => cases np
      | _ => dsimp only; rw [if_pos ha]
    rw [re]
    refine EK.bind h fun d S1 F1 H1 ι1 v x1 rel1 r1 h1 => ?_
    cases d with
    | lst ds =>
      obtain ⟨p, vs, rfl, hp, hf, hb, hc, hi, q⟩ := r1
      exact h1 F1 H1 (ι1 ++ [p]) _ ⟨Same.refl _, List.prefix_append _ _, fun _ _ e => .inl e⟩ (rel1.newObj hf hb hc hi ⟨vs, hp, q⟩) ⟨p, rfl, by rw [← rel1.ln]; simp⟩
    | dct ks ds =>
      obtain ⟨p, vs, rfl, hp, hf, hb, hc, hi, k, q⟩ := r1
      exact h1 F1 H1 (ι1 ++ [p]) _ ⟨Same.refl _, List.prefix_append _ _, fun _ _ e => .inl e⟩ (rel1.newObj hf hb hc hi ⟨vs, hp, k, q⟩) ⟨p, rfl, by rw [← rel1.ln]; simp⟩
    | _ => exact h1.elim

theorem s_frzr {e : Expr} (h : PE X e (tE K cl W g ea)) : PE X e (tE K cl W g (.frzr ea)) := by
  refine h.imp ?_
  rintro σ H Q ⟨B, col, σa, F, ι, S, rel, h⟩
  refine ⟨B, col, σa, F, ι, S, rel, ?_⟩
  have h : EK ⟨K, cl, W, B, col, σa, σ⟩ F ι (rF ⟨K, cl, W, B, col, σa, σ⟩) (if ea.isPk || ea.alloc g.fr then .bad else (evalE g σa ea S).bind fun d S1 => (match d with
    | .ref n => (match S1[n]? with
      | some (.lst ds) => if n = S.length ∧ D.refLts n ds = true ∧ (S1.take n).all (Obj.refLt n) = true then .ok (D.lst ds) (S1.take n) else .bad
      | _ => .bad)
    | _ => .bad)) Q := h
  cases np : ea.isPk with
  | true => rw [np] at h; exact h.elim
  | false =>
    cases na : ea.alloc g.fr with
    | true => rw [np, na] at h; exact h.elim
    | false =>
      rw [np, na, if_neg (by decide)] at h
      have re : rE g.fr ea = rF := by
        unfold rE
        cases ea with
        | pk i => cases np
        | _ => dsimp only; rw [if_neg (by rw [na]; decide)]
      rw [re]
      show EK _ F ι _ (evalE g σa ea S) Q
      cases ev : evalE g σa ea S with
      | bad => rw [ev] at h; exact h
      | exc x S1 => rw [ev] at h; exact h
      | ok d S1 =>
        rw [ev] at h
        cases d with
        | ref n =>
          have h : EK ⟨K, cl, W, B, col, σa, σ⟩ F ι (rF ⟨K, cl, W, B, col, σa, σ⟩) (match S1[n]? with
            | some (.lst ds) => if n = S.length ∧ D.refLts n ds = true ∧ (S1.take n).all (Obj.refLt n) = true then .ok (D.lst ds) (S1.take n) else .bad
            | _ => .bad) Q := h
          cases es : S1[n]? with
          | none => rw [es] at h; exact h.elim
          | some ob =>
            rw [es] at h
            cases ob with
            | lst ds =>
              dsimp only at h
              by_cases cc : n = S.length ∧ D.refLts n ds = true ∧ (S1.take n).all (Obj.refLt n) = true
              · rw [if_pos cc] at h
                obtain ⟨c1, c2, c3⟩ := cc
                intro F1 H1 ι1 v x1 rel1 r1
                obtain ⟨a, rfl, ia⟩ := r1
                obtain ⟨vs, ha, q⟩ := rel1.st n _ a es ia
                have ain : a ∈ ι1 := List.mem_of_getElem? ia
                have hn : n < ι1.length := (List.getElem?_eq_some_iff.mp ia).1
                have it : ι1.take n = ι := by
                  rw [c1, ← rel.ln]
                  exact (List.prefix_iff_eq_take.mp x1.pre).symm
                have hl1 := rel1.ln
                have fa := (rel1.io a ain).1
                have s2 : Same F1 (upd F1 a (.lst vs)) := same_upd fa
                refine h (upd F1 a (.lst vs)) H1 ι (.ref a) ⟨x1.same.trans s2, List.prefix_refl ι, fun p o e => ?_⟩ ⟨fun p o e => ?_, rel1.bh, fun p c e => ?_, fun p hp => ?_, rel.nd, by rw [← it, List.length_take, List.length_take, hl1], fun m o p h1 h2 => ?_, rel1.sl, fun i s o h1 h2 => SlotR.back x1.pre x1.same s2 (rel.slots i s o h1 h2) (rel1.slots i s o h1 h2)⟩ ⟨a, vs, rfl, upd_same, ?_⟩
                · by_cases z : p = a
                  · subst z; exact .inr (rel1.unB ain ha fun _ _ z => by cases z)
                  · rw [upd_ne z] at e; exact x1.nf p o e
                · by_cases z : p = a
                  · subst z; rw [upd_same] at e; cases e; exact .inl ha
                  · rw [upd_ne z] at e; exact rel1.fh p o e
                · obtain ⟨f, b, i, w⟩ := rel1.cf p c e
                  refine ⟨?_, b, fun hp => i (x1.pre.subset hp), w⟩
                  rw [upd_ne (fun z => i (by rw [z]; exact ain))]; exact f
                · refine ⟨?_, (rel1.io p (x1.pre.subset hp)).2⟩
                  have ne : p ≠ a := by
                    intro z
                    subst z
                    rw [← it] at hp
                    obtain ⟨j, hj, ej⟩ := List.getElem_of_mem hp
                    rw [List.length_take] at hj
                    rw [List.getElem_take] at ej
                    have e1 := (List.getElem?_eq_some_iff.mp ia).2
                    exact List.pairwise_iff_getElem.mp rel1.nd j n (by omega) hn (by omega) (ej.trans e1.symm)
                  rw [upd_ne ne]; exact (rel1.io p (x1.pre.subset hp)).1
                · have hl : o.refLt n = true := List.all_eq_true.mp c3 o (List.mem_of_getElem? h1)
                  have e1 : S1[m]? = some o := by
                    rw [List.getElem?_take] at h1
                    split at h1
                    · exact h1
                    · cases h1
                  have z := ObjR.cut hl (rel1.st m o p e1 (pre_get x1.pre h2))
                  rw [it] at z
                  exact ObjR.mono s2 (List.prefix_refl ι) rfl z
                · have z := Reps.cut _ _ c2 q
                  rw [it] at z
                  exact Reps.mono s2 (List.prefix_refl ι) _ _ z
              · rw [if_neg cc] at h; exact h.elim
            | _ => exact h.elim
        | _ => exact h.elim
/-! ### a call whose answer is a list made anew -/
open Classical in
noncomputable def restr (F : Hp) (P : Addr → Prop) : Hp := fun a => if P a then F a else none
theorem restr_in {F : Hp} {P : Addr → Prop} {a : Addr} (h : P a) : restr F P a = F a := by unfold restr; rw [if_pos h]
theorem restr_some {F : Hp} {P : Addr → Prop} {a : Addr} {o : HO} (h : restr F P a = some o) : P a ∧ F a = some o := by
  unfold restr at h
  split at h
  · exact ⟨by assumption, h⟩
  · cases h
theorem restr_mono {F : Hp} {P Q : Addr → Prop} (h : ∀ a, P a → Q a) : Same (restr F P) (restr F Q) := fun a o e => by
  obtain ⟨p, f⟩ := restr_some e
  rw [restr_in (h a p)]; exact f
theorem restr_same {F : Hp} {P : Addr → Prop} : Same (restr F P) F := fun a o e => (restr_some e).2
mutual
theorem Rep.min {K : PySem.W.Frag} {F : Hp} {ι : List Addr} : ∀ (d : D) (v : V), d.noScr = true → Rep K F ι d v → ∃ P : Addr → Prop, Rep K (restr F P) ι d v ∧ ∀ a ws, P a → F a = some (.lst ws) → ∃ es ∈ d.lss, Reps K F ι es ws
  | .non, _, _, h => ⟨fun _ => False, h, fun _ _ p => p.elim⟩
  | .bl _, _, _, h => ⟨fun _ => False, h, fun _ _ p => p.elim⟩
  | .int _, _, _, h => ⟨fun _ => False, h, fun _ _ p => p.elim⟩
  | .str _, _, _, h => ⟨fun _ => False, h, fun _ _ p => p.elim⟩
  | .tup ds, _, n, ⟨a, vs, e, f, r⟩ => by
    obtain ⟨P, h, k⟩ := Reps.min ds vs n r
    refine ⟨fun b => b = a ∨ P b, ⟨a, vs, e, by rw [restr_in (.inl rfl)]; exact f, Reps.mono (restr_mono fun b q => .inr q) (List.prefix_refl _) _ _ h⟩, fun b ws p g => ?_⟩
    rcases p with p | p
    · subst p; rw [f] at g; cases g
    · exact k b ws p g
  | .lst ds, _, n, ⟨a, vs, e, f, r⟩ => by
    obtain ⟨P, h, k⟩ := Reps.min ds vs n r
    refine ⟨fun b => b = a ∨ P b, ⟨a, vs, e, by rw [restr_in (.inl rfl)]; exact f, Reps.mono (restr_mono fun b q => .inr q) (List.prefix_refl _) _ _ h⟩, fun b ws p g => ?_⟩
    rcases p with p | p
    · subst p; rw [f] at g; cases g; exact ⟨ds, List.mem_cons_self, r⟩
    · obtain ⟨es, m, q⟩ := k b ws p g
      exact ⟨es, List.mem_cons_of_mem _ m, q⟩
  | .dct ks ds, _, n, ⟨a, kvs, e, f, kk, r⟩ => by
    obtain ⟨P, h, k⟩ := Reps.min ds _ n r
    refine ⟨fun b => b = a ∨ P b, ⟨a, kvs, e, by rw [restr_in (.inl rfl)]; exact f, kk, Reps.mono (restr_mono fun b q => .inr q) (List.prefix_refl _) _ _ h⟩, fun b ws p g => ?_⟩
    rcases p with p | p
    · subst p; rw [f] at g; cases g
    · exact k b ws p g
  | .ref m, _, _, h => ⟨fun _ => False, h, fun _ _ p => p.elim⟩
  | .err _ _, _, _, h => h.elim
  | .scr ds, _, n, _ => by cases n
theorem Reps.min {K : PySem.W.Frag} {F : Hp} {ι : List Addr} : ∀ (ds : List D) (vs : List V), D.noScrs ds = true → Reps K F ι ds vs → ∃ P : Addr → Prop, Reps K (restr F P) ι ds vs ∧ ∀ a ws, P a → F a = some (.lst ws) → ∃ es ∈ D.lsss ds, Reps K F ι es ws
  | [], _, _, h => ⟨fun _ => False, h, fun _ _ p => p.elim⟩
  | d :: ds, _, n, ⟨v, r, e, h, t⟩ => by
    have n : (d.noScr && D.noScrs ds) = true := n
    rw [Bool.and_eq_true] at n
    obtain ⟨P, h1, k1⟩ := Rep.min d v n.1 h
    obtain ⟨Q, h2, k2⟩ := Reps.min ds r n.2 t
    refine ⟨fun b => P b ∨ Q b, ⟨v, r, e, Rep.mono (restr_mono fun b q => .inl q) (List.prefix_refl _) _ _ h1, Reps.mono (restr_mono fun b q => .inr q) (List.prefix_refl _) _ _ h2⟩, fun b ws p g => ?_⟩
    rcases p with p | p
    · obtain ⟨es, m, q⟩ := k1 b ws p g
      exact ⟨es, List.mem_append_left _ m, q⟩
    · obtain ⟨es, m, q⟩ := k2 b ws p g
      exact ⟨es, List.mem_append_right _ m, q⟩
end
theorem Rep.any {K : PySem.W.Frag} {F F' : Hp} {ι : List Addr} : ∀ {d : D} {v : V}, d.atom = true → Rep K F ι d v → Rep K F' ι d v
  | .non, _, _, h => h
  | .bl _, _, _, h => h
  | .int _, _, _, h => h
  | .str _, _, _, h => h
  | .ref _, _, _, h => h
  | .tup _, _, n, _ => by cases n
  | .lst _, _, n, _ => by cases n
  | .dct _ _, _, n, _ => by cases n
  | .err _ _, _, n, _ => by cases n
  | .scr _, _, n, _ => by cases n
theorem Reps.any {K : PySem.W.Frag} {F F' : Hp} {ι : List Addr} : ∀ {ds : List D} {vs : List V}, ds.all D.atom = true → Reps K F ι ds vs → Reps K F' ι ds vs
  | [], _, _, h => h
  | d :: ds, _, n, ⟨v, r, e, h, t⟩ => by
    rw [List.all_cons, Bool.and_eq_true] at n
    exact ⟨v, r, e, Rep.any n.1 h, Reps.any n.2 t⟩
theorem ObjR.any {K : PySem.W.Frag} {F F' H : Hp} {ι : List Addr} : ∀ {o : Obj} {a : Addr}, o.fl = true → ObjR K F H ι o a → ObjR K F' H ι o a := by
  intro o a n z
  cases o with
  | lst ds => obtain ⟨vs, e, q⟩ := z; exact ⟨vs, e, Reps.any n q⟩
  | dct ks ds => obtain ⟨vs, e, k, q⟩ := z; exact ⟨vs, e, k, Reps.any n q⟩
  | ins _ _ => cases n
  | dcl _ _ => cases n
theorem ints_V {K : PySem.W.Frag} {F : Hp} {ι : List Addr} : ∀ {ds : List D} {l : List Int} {vs : List V}, intsD ds = some l → Reps K F ι ds vs → vs = l.map V.int
  | [], l, vs, h, r => by cases (show some [] = some l from h); exact r
  | d :: ds, l, vs, h, ⟨v, r, e, h1, t⟩ => by
    cases d with
    | int i =>
      have h : (intsD ds).map (i :: ·) = some l := h
      cases q : intsD ds with
      | none => rw [q] at h; cases h
      | some l' =>
        rw [q] at h
        cases h
        rw [e, show v = V.int i from h1, ints_V q t]; rfl
    | _ => cases h
theorem ints_reps {K : PySem.W.Frag} {F : Hp} {ι : List Addr} : ∀ {ds : List D} {l : List Int}, intsD ds = some l → Reps K F ι ds (l.map V.int)
  | [], l, h => by cases (show some [] = some l from h); rfl
  | d :: ds, l, h => by
    cases d with
    | int i =>
      have h : (intsD ds).map (i :: ·) = some l := h
      cases q : intsD ds with
      | none => rw [q] at h; cases h
      | some l' =>
        rw [q] at h
        cases h
        exact ⟨V.int i, _, rfl, rfl, ints_reps q⟩
    | _ => cases h
theorem V_ints {K : PySem.W.Frag} {F : Hp} {ι : List Addr} : ∀ {ds : List D} {l : List Int}, Reps K F ι ds (l.map V.int) → intsD ds = some l
  | [], l, r => by
    cases l with
    | nil => rfl
    | cons _ _ => cases (show _ :: _ = [] from r)
  | d :: ds, l, ⟨v, r, e, h1, t⟩ => by
    cases l with
    | nil => cases e
    | cons i l =>
      cases e
      have q := V_ints t
      cases d with
      | int j =>
        cases (show V.int i = V.int j from h1)
        show (intsD ds).map (i :: ·) = _
        rw [q]; rfl
      | non => cases (show V.int i = V.non from h1)
      | bl b => cases (show V.int i = V.bl b from h1)
      | str b => cases (show V.int i = V.str _ from h1)
      | tup _ => obtain ⟨_, _, z, _⟩ := h1; cases z
      | lst _ => obtain ⟨_, _, z, _⟩ := h1; cases z
      | dct _ _ => obtain ⟨_, _, z, _⟩ := h1; cases z
      | ref _ => obtain ⟨_, z, _⟩ := h1; cases z
      | err _ _ => exact (show False from h1).elim
      | scr _ => obtain ⟨_, _, z, _⟩ := h1; cases z
theorem Rel.enterM {B F H : Hp} {ι : List Addr} {col : Col} {σa : List Slot} {S : Store} {σ : St} (r : Rel K B F H ι col σa S σ) (P : Addr → Prop) (hS : S.all Obj.fl = true) : Rel K (Bof H ι) (restr F P) H ι col0 [] S [] := by
  have e := r.enter
  refine ⟨fun a o h => r.fh a o (restr_some h).2, e.bh, fun a c q => (nomatch q), fun a h => ⟨?_, (e.io a h).2⟩, e.nd, e.ln, fun n o a h1 h2 => ObjR.any (List.all_eq_true.mp hS o (List.mem_of_getElem? h1)) (e.st n o a h1 h2), e.sl, fun i s o h => (nomatch (show none = some s by simpa using h))⟩
  cases q : restr F P a with
  | none => rfl
  | some o => have := (restr_some q).2; rw [(r.io a h).1] at this; cases this
theorem Rel.leaveM {B F F' H H' : Hp} {ι ι' : List Addr} {col : Col} {σa : List Slot} {S S' : Store} {σ : St} (r : Rel K B F H ι col σa S σ) (pre : ι <+: ι') (r' : Rel K (Bof H ι) F' H' ι' col0 [] S' []) (hS : S'.all Obj.fl = true) : Rel K B F H' ι' col σa S' σ := by
  have keep : ∀ a o, (a ∉ ι ∨ LK H a) → H a = some o → H' a = some o := fun a o q e => r'.bh a o (by rw [Bof_keep q]; exact e)
  refine ⟨fun a o e => ?_, fun a o e => keep a o (r.keepB e) (r.bh a o e), fun a c e => ?_, fun a h => ?_, r'.nd, r'.ln, fun n o a h1 h2 => ObjR.any (List.all_eq_true.mp hS o (List.mem_of_getElem? h1)) (r'.st n o a h1 h2), r.sl, fun i s o h1 h2 => ?_⟩
  · have ni : a ∉ ι := fun q => by rw [(r.io a q).1] at e; cases e
    rcases r.fh a o e with z | ⟨z, ob, w⟩
    · exact .inl (keep a o (.inl ni) z)
    · exact .inr ⟨z, ob, keep a _ (.inl ni) w⟩
  · obtain ⟨f, b, i, z⟩ := r.cf a c e
    exact ⟨f, b, fun q => r.bofC e (r'.io a q).2, z.imp (fun ⟨xs, q⟩ => ⟨xs, keep a _ (.inl i) q⟩) fun ⟨xs, q⟩ => ⟨xs, keep a _ (.inl i) q⟩⟩
  · have q := (r'.io a h).2
    refine ⟨?_, r.ioL q⟩
    by_cases ai : a ∈ ι
    · exact (r.io a ai).1
    · -- a new object of the store: nothing of ours stood there
      cases fa : F a with
      | none => rfl
      | some o =>
        exfalso
        have ⟨u, hu⟩ : ∃ u, H a = some u := by
          rcases r.fh a o fa with z | ⟨_, ob, z⟩
          · exact ⟨_, z⟩
          · exact ⟨_, z⟩
        obtain ⟨od, kvs, rfl⟩ := q u (by rw [Bof_out ai]; exact hu)
        have hu' := keep a _ (.inl ai) hu
        obtain ⟨n, o', e1, e2⟩ := r'.obj h
        have fl := List.all_eq_true.mp hS o' (List.mem_of_getElem? e2)
        have z := r'.st n o' a e2 e1
        cases o' with
        | lst ds => obtain ⟨_, z, _⟩ := z; rw [hu'] at z; cases z
        | dct ks ds => obtain ⟨_, z, _⟩ := z; rw [hu'] at z; cases z
        | ins _ _ => cases fl
        | dcl _ _ => cases fl
  · exact SlotR.mono (Same.refl F) pre (fun a c e o q => keep a o (.inl (r.cf a c e).2.2.1) q) (r.slots i s o h1 h2)
theorem s_nw {f : Nat} {x : Str} {p : Pos} {fa : Addr} {fd : FuncData} {ps : List Str} {k np : Nat} {CX : CXT} (hp : plainB a = true) (hps : xs.all plainB = true)
    (Fo' : FnOk X.prog X.w X.K X.mg X.base CX k fa fd ps (spI K cl np (g.fr f) (g.call f))) (hlen : es.len = np) (hr : Room k X.A) (hg : Gl X x) (hm : X.mg x = some (.ref fa)) (hk : PySem.W.keepIn X.K (.ref fa) = true) (hb : Binds X.K fd ps []) (hx : ∀ σ, PassesAt CX X σ (WE W σ)) (hd : (x == ("__debug__" : Str)) = false)
    (hs : PA X (a :: xs) (tAs K cl W g es)) : PE X (.Call (.Name x p) (a :: xs) [] pos) (tE K cl W g (.nw f es)) := by
  refine (pe_callSD Fo' hr hg hm hk hb .nil hx hs hd (star_cons hp) (star_all hps)).imp ?_
  rintro σ H Q ⟨B, col, σa, F, ι, S, rel, h⟩
  have h : EK ⟨K, cl, W, B, col, σa, σ⟩ F ι (rO ⟨K, cl, W, B, col, σa, σ⟩) (if es.anyPk then .bad else (evalEs g σa es S).bind fun ds S1 => (g.call f ds S1).nox.bind fun d S2 => if newOk d ds S1 S2 then .ok d S2 else .bad) Q := h
  cases hpk : es.anyPk with
  | true => rw [hpk] at h; exact h.elim
  | false =>
    rw [hpk, if_neg Bool.false_ne_true] at h
    refine ⟨B, col, σa, F, ι, S, rel, EK.bind h fun ds S1 F1 H1 ι1 vs x1 rel1 r1 h1 => ?_⟩
    rw [List.append_nil]
    have hl := rA_len r1
    refine ⟨by rw [hl.1]; exact hlen, ?_⟩
    have r1' := rA_reps hpk r1
    cases hc : g.call f ds S1 with
    | bad => rw [hc] at h1; exact h1.elim
    | exc x S2 => rw [hc] at h1; exact h1.elim
    | ok d S2 =>
      rw [hc] at h1
      have h1 : EK ⟨K, cl, W, B, col, σa, σ⟩ F1 ι1 (rO ⟨K, cl, W, B, col, σa, σ⟩) (if newOk d ds S1 S2 then .ok d S2 else .bad) Q := h1
      cases hok : newOk d ds S1 S2 with
      | false => rw [hok] at h1; exact h1.elim
      | true =>
        rw [hok, if_pos rfl] at h1
        cases d with
        | lst es' =>
          unfold newOk at hok
          dsimp only at hok
          cases hi : intsD es' with
          | none => rw [hi] at hok; cases hok
          | some l =>
            rw [hi] at hok
            dsimp only at hok
            simp only [Bool.and_eq_true, List.all_eq_true, decide_eq_true_eq] at hok
            obtain ⟨⟨⟨k1, k2⟩, k3⟩, k4⟩ := hok
            obtain ⟨P, rm, pm⟩ := Reps.min ds vs k1 r1'
            have s1 : S1.all Obj.fl = true := List.all_eq_true.mpr k3
            have s2 : S2.all Obj.fl = true := List.all_eq_true.mpr k4
            refine ⟨restr F1 P, ι1, S1, ds, rel1.enterM P s1, rm, ?_⟩
            rw [hc]
            intro F' H' ι' v x' rel' r
            have relF := rel1.leaveM x'.pre rel' s2
            have nw : ∀ a ws, F' a = some (.lst ws) → Reps K F' ι' es' ws → H1 a = none ∧ a ∉ ι' := by
              intro a ws fa q
              have ni : a ∉ ι' := fun z => by have := (rel'.io a z).1; rw [fa] at this; cases this
              refine ⟨?_, ni⟩
              rcases x'.nf a _ fa with z | z
              · obtain ⟨pa, fa1⟩ := restr_some z
                obtain ⟨es2, m, q2⟩ := pm a ws pa fa1
                have w := ints_V hi q
                rw [w] at q2
                exact absurd (V_ints q2) (k2 es2 m)
              · rcases Bof_none z with z | z
                · exact absurd (x'.pre.subset z.1) ni
                · exact z
            have fin : ∀ a ws, v = .ref a → H' a = some (.lst ws) → H1 a = none → a ∉ ι' → Reps K F' ι' es' ws → Q v H' := by
              intro a ws e ha hn hi' q
              refine h1 F1 H' ι' v ⟨Same.refl _, x'.pre, fun _ _ e => .inl e⟩ relF ⟨a, ws, e, ha, (rel1.free hn).1, (rel1.free hn).2, (rel1.off hn).2, hi', ?_⟩
              have w := ints_V hi q
              subst w
              exact ints_reps hi
            unfold rC at r
            cases hfr : g.fr f with
            | false =>
              rw [hfr] at r
              obtain ⟨a, ws, e, fa, q⟩ := (show Rep K F' ι' (.lst es') v from r)
              obtain ⟨n1, n2⟩ := nw a ws fa q
              have ha : H' a = some (.lst ws) := by
                rcases rel'.fh a _ fa with z | ⟨⟨_, z⟩, _⟩
                · exact z
                · cases z
              exact fin a ws e ha n1 n2 q
            | true =>
              rw [hfr] at r
              obtain ⟨a, ws, e, ha, f1, f2, f3, f4, q⟩ := r
              rcases Bof_none f2 with z | z
              · exact absurd (x'.pre.subset z.1) f4
              · exact fin a ws e ha z f4 q
        | _ => unfold newOk at hok; cases hok
/-! ### methods -/
theorem s_met {m : Met} {T : String} {name : Str} {r : V → List V → Hp → VK → Prop} {e : Expr} (he : PE X e (tBM X.K T r (tR K cl W g ea) (tAs K cl W g es)))
    (ht : ∀ (q : Q0) F H ι S x v, q.K = K → Rel q.K q.B F H ι q.col q.σa S q.σ → Sh q.K F H ι x v → rcv m x S = true → tyV X.K T v H)
    (hr : ∀ (q : Q0) F H ι S x v ds vs d S' (Q : VK), q.K = K → Rel q.K q.B F H ι q.col q.σa S q.σ → Sh q.K F H ι x v → Reps q.K F ι ds vs → metD S m x ds = some (d, S') → EK q F ι (rE g.fr (.met m ea es) q) (.ok d S') Q → r v vs H Q) : PE X e (tE K cl W g (.met m ea es)) := by
  refine he.imp ?_
  rintro σ H Q ⟨B, col, σa, F, ι, S, rel, h⟩
  have h : EK ⟨K, cl, W, B, col, σa, σ⟩ F ι (rE g.fr (.met m ea es) ⟨K, cl, W, B, col, σa, σ⟩) (if es.anyPk then .bad else (evalE g σa ea S).bind fun x S1 => if rcv m x S1 then (evalEs g σa es S1).bind fun ds S2 => (match metD S2 m x ds with
    | some (d, S3) => .ok d S3
    | none => .bad) else .bad) Q := h
  cases hp : es.anyPk with
  | true => rw [hp] at h; exact h.elim
  | false =>
    rw [hp, if_neg Bool.false_ne_true] at h
    refine ⟨B, col, σa, F, ι, S, rel, EK.bind h fun x S1 F1 H1 ι1 v x1 rel1 r1 h1 => ?_⟩
    cases hc : rcv m x S1 with
    | false => rw [hc] at h1; exact h1.elim
    | true =>
      rw [hc, if_pos rfl] at h1
      refine ⟨ht _ F1 H1 ι1 S1 x v rfl rel1 (rel1.shR r1) hc, B, col, σa, F1, ι1, S1, rel1, EK.bind h1 fun ds S2 F2 H2 ι2 vs x2 rel2 r2 h2 => ?_⟩
      cases hm : metD S2 m x ds with
      | none => rw [hm] at h2; exact h2.elim
      | some p =>
        obtain ⟨d, S3⟩ := p
        rw [hm] at h2
        exact hr _ F2 H2 ι2 S2 x v ds vs d S3 Q rfl rel2 (rel2.shR (stab_rR ea _ x F1 H1 ι1 v F2 H2 ι2 x2 r1)) (rA_reps hp r2) hm h2
theorem reps1 {F : Hp} {ι : List Addr} {d : D} {vs : List V} (h : Reps K F ι [d] vs) : ∃ v, vs = [v] ∧ Rep K F ι d v := by
  obtain ⟨v, r, e, h1, h2⟩ := h
  rw [show r = [] from h2] at e
  exact ⟨v, e, h1⟩
theorem reps2 {F : Hp} {ι : List Addr} {d e : D} {vs : List V} (h : Reps K F ι [d, e] vs) : ∃ v w, vs = [v, w] ∧ Rep K F ι d v ∧ Rep K F ι e w := by
  obtain ⟨v, r, e, h1, h2⟩ := h
  obtain ⟨w, rfl, h3⟩ := reps1 h2
  exact ⟨v, w, e, h1, h3⟩
theorem rcv_lst {m : Met} {q : Q0} {F H : Hp} {ι : List Addr} {S : Store} {n : Nat} {v : V} (hK : X.K = K) (k : q.K = K) (rel : Rel q.K q.B F H ι q.col q.σa S q.σ) (s : Sh q.K F H ι (.ref n) v) (h : (match S[n]? with | some (.lst _) => true | _ => false) = true) : tyV X.K "list" v H := by
  obtain ⟨a, rfl, hi⟩ := s
  cases hs : S[n]? with
  | none => rw [hs] at h; cases h
  | some o =>
    rw [hs] at h
    have z := rel.st n o a hs hi
    cases o with
    | lst ds => obtain ⟨vs, hp, _⟩ := z; exact .inl ⟨rfl, vs, SqL.of hp⟩
    | _ => cases h
theorem s_append (hK : X.K = K) {e : Expr} (he : ∀ {r : V → List V → Hp → VK → Prop}, MtR X "list.append" r → PE X e (tBM X.K "list" r (tR K cl W g ea) (tAs K cl W g es))) : PE X e (tE K cl W g (.met .append ea es)) := by
  refine s_met (name := "append") (he mt_append) (fun q F H ι S x v k rel s hc => ?_) fun q F H ι S x v ds vs d S' Q k rel s r e h => ?_
  · cases x with
    | ref n => exact rcv_lst (m := .append) hK k rel s hc
    | _ => cases hc
  · have h : EK q F ι (rF q) (.ok d S') Q := h
    cases x with
    | ref n =>
      match ds, e with
      | [y], e =>
        obtain ⟨a, rfl, hi⟩ := s
        obtain ⟨w, rfl, rw'⟩ := reps1 r
        have e : (match S[n]? with
          | some (.lst ds) => guard (decide (ds.length < line)) (some (D.non, S.set n (.lst (ds ++ [y]))))
          | _ => none) = some (d, S') := e
        cases hs : S[n]? with
        | none => rw [hs] at e; cases e
        | some o =>
          rw [hs] at e
          have z := rel.st n o a hs hi
          cases o with
          | lst ds =>
            obtain ⟨vs, hp, q1⟩ := z
            obtain ⟨hl, e⟩ := guard_some (show guard _ _ = _ from e)
            cases e
            refine ⟨a, vs, w, rfl, rfl, hp, by rw [q1.length, ← line_eq]; exact of_decide_eq_true hl, ?_⟩
            exact h F _ ι _ .refl (rel.setObj hi hp (fun _ _ z => by cases z) ⟨_, upd_same, q1.append (.cons rw' .nil)⟩) rfl
          | _ => cases e
      | [], e => cases e
      | _ :: _ :: _, e => cases e
    | _ => cases e
theorem s_pop0 (hK : X.K = K) {e : Expr} (he : PE X e (tBM0 X.K "list" rPop (tR K cl W g ea))) : PE X e (tE K cl W g (.met .pop ea .nil)) := by
  refine he.imp ?_
  rintro σ H Q ⟨B, col, σa, F, ι, S, rel, h⟩
  have h : EK ⟨K, cl, W, B, col, σa, σ⟩ F ι (rF ⟨K, cl, W, B, col, σa, σ⟩) ((evalE g σa ea S).bind fun x S1 => if rcv .pop x S1 then (match metD S1 .pop x [] with
    | some (d, S3) => .ok d S3
    | none => .bad) else .bad) Q := h
  refine ⟨B, col, σa, F, ι, S, rel, EK.bind h fun x S1 F1 H1 ι1 v x1 rel1 r1 h1 => ?_⟩
  have s := rel1.shR r1
  cases hc : rcv .pop x S1 with
  | false => rw [hc] at h1; exact h1.elim
  | true =>
    rw [hc, if_pos rfl] at h1
    cases x with
    | ref n =>
      refine ⟨rcv_lst (m := .pop) hK rfl rel1 s hc, ?_⟩
      obtain ⟨a, rfl, hi⟩ := s
      have e : metD S1 .pop (.ref n) [] = (match S1[n]? with
        | some (.lst ds) => ds.getLast?.map fun y => (y, S1.set n (.lst ds.dropLast))
        | _ => none) := rfl
      rw [e] at h1
      cases hs : S1[n]? with
      | none => rw [hs] at h1; exact h1.elim
      | some o =>
        rw [hs] at h1
        have z := rel1.st n o a hs hi
        cases o with
        | lst ds =>
          obtain ⟨vs, hp, q1⟩ := z
          dsimp only at h1
          cases hl : ds.getLast? with
          | none => rw [hl] at h1; exact h1.elim
          | some y =>
            rw [hl] at h1
            have h1 : EK _ F1 ι1 (rF _) (.ok y (S1.set n (.lst ds.dropLast))) Q := h1
            have hy : ds[ds.length - 1]? = some y := by rw [← List.getLast?_eq_getElem?]; exact hl
            obtain ⟨w, hw, rw'⟩ := q1.get hy
            refine ⟨a, vs, w, rfl, rfl, hp, by rw [q1.length]; exact hw, ?_⟩
            have hd : Reps K F1 ι1 ds.dropLast vs.dropLast := by
              rw [List.dropLast_eq_take, List.dropLast_eq_take, q1.length]; exact q1.take _
            exact h1 F1 _ ι1 _ .refl (rel1.setObj hi hp (fun _ _ z => by cases z) ⟨_, upd_same, hd⟩) rw'
        | _ => exact h1.elim
    | _ => cases hc
theorem s_clear (hK : X.K = K) {e : Expr} (he : PE X e (tBM0 X.K "list" rClear (tR K cl W g ea))) : PE X e (tE K cl W g (.met .clear ea .nil)) := by
  refine he.imp ?_
  rintro σ H Q ⟨B, col, σa, F, ι, S, rel, h⟩
  have h : EK ⟨K, cl, W, B, col, σa, σ⟩ F ι (rF ⟨K, cl, W, B, col, σa, σ⟩) ((evalE g σa ea S).bind fun x S1 => if rcv .clear x S1 then (match metD S1 .clear x [] with
    | some (d, S3) => .ok d S3
    | none => .bad) else .bad) Q := h
  refine ⟨B, col, σa, F, ι, S, rel, EK.bind h fun x S1 F1 H1 ι1 v x1 rel1 r1 h1 => ?_⟩
  have s := rel1.shR r1
  cases hc : rcv .clear x S1 with
  | false => rw [hc] at h1; exact h1.elim
  | true =>
    rw [hc, if_pos rfl] at h1
    cases x with
    | ref n =>
      refine ⟨rcv_lst (m := .clear) hK rfl rel1 s hc, ?_⟩
      obtain ⟨a, rfl, hi⟩ := s
      have e : metD S1 .clear (.ref n) [] = (match S1[n]? with
        | some (.lst _) => some (D.non, S1.set n (.lst []))
        | _ => none) := rfl
      rw [e] at h1
      cases hs : S1[n]? with
      | none => rw [hs] at h1; exact h1.elim
      | some o =>
        rw [hs] at h1
        have z := rel1.st n o a hs hi
        cases o with
        | lst ds =>
          obtain ⟨vs, hp, q1⟩ := z
          have h1 : EK _ F1 ι1 (rF _) (.ok .non (S1.set n (.lst []))) Q := h1
          exact ⟨a, vs, rfl, rfl, hp, h1 F1 _ ι1 _ .refl (rel1.setObj hi hp (fun _ _ z => by cases z) ⟨_, upd_same, rfl⟩) rfl⟩
        | _ => exact h1.elim
    | _ => cases hc
theorem s_index (hK : X.K = K) {e : Expr} (he : ∀ {r : V → List V → Hp → VK → Prop}, MtR X "list.index" r → PE X e (tBM X.K "list" r (tR K cl W g ea) (tAs K cl W g es))) : PE X e (tE K cl W g (.met .index ea es)) := by
  refine s_met (name := "index") (he mt_index) (fun q F H ι S x v k rel s hc => ?_) fun q F H ι S x v ds vs d S' Q k rel s r e h => ?_
  · cases x with
    | lst ds => obtain ⟨p, vs, rfl, hp, _⟩ := s; exact .inl ⟨rfl, vs, SqL.of hp⟩
    | _ => cases hc
  · have h : EK q F ι (rF q) (.ok d S') Q := h
    cases x with
    | lst es =>
      match ds, e with
      | [y], e =>
        obtain ⟨p, ws, rfl, hp, q1⟩ := s
        obtain ⟨w, rfl, rw'⟩ := reps1 r
        obtain ⟨hg, e⟩ := guard_some (show guard _ _ = _ from e)
        obtain ⟨j, hj, e⟩ := Option.map_eq_some_iff.mp e
        cases e
        rw [Bool.and_eq_true] at hg
        have sy := rel.sh rw'
        rw [List.findIdx?_eq_some_iff_getElem] at hj
        obtain ⟨hlt, hj1, hj2⟩ := hj
        have item : ∀ (i : Nat) (z : V), ws[i]? = some z → ∃ d, es[i]? = some d ∧ eqV z w = D.eqv d y := fun i z hz => by
          have hi : i < es.length := by rw [← q1.length]; exact (List.getElem?_eq_some_iff.mp hz).1
          obtain ⟨z', hz', rz⟩ := q1.get (List.getElem?_eq_getElem hi)
          rw [hz] at hz'; cases hz'
          exact ⟨es[i], List.getElem?_eq_getElem hi, eqV_D (List.all_eq_true.mp hg.2 _ (List.getElem_mem hi)) hg.1 (rel.sh rz) sy⟩
        obtain ⟨z, hz, rz⟩ := q1.get (List.getElem?_eq_getElem hlt)
        refine ⟨p, ws, w, j, z, rfl, rfl, SqL.of hp, flat_V hg.1 sy, flats_V (H := H) hg.2 q1, hz, ?_, fun m z' hm hz' => ?_, h.at rel rfl⟩
        · obtain ⟨d', h1, h2⟩ := item j z hz
          rw [List.getElem?_eq_getElem hlt] at h1; cases h1
          rw [h2]; exact hj1
        · obtain ⟨d', h1, h2⟩ := item m z' hz'
          have hm2 : m < es.length := by omega
          rw [List.getElem?_eq_getElem hm2] at h1; cases h1
          rw [h2]
          have := hj2 m hm
          simpa using this
      | [], e => cases e
      | _ :: _ :: _, e => cases e
    | _ => cases e
theorem s_find {e : Expr} (he : ∀ {r : V → List V → Hp → VK → Prop}, MtR X "str.find" r → PE X e (tBM X.K "str" r (tR K cl W g ea) (tAs K cl W g es))) : PE X e (tE K cl W g (.met .find ea es)) := by
  refine s_met (name := "find") (he mt_find3) (fun q F H ι S x v k rel s hc => ?_) fun q F H ι S x v ds vs d S' Q k rel s r e h => ?_
  · cases x with
    | str l => rw [show v = V.str _ from s]; rfl
    | _ => cases hc
  · have h : EK q F ι (rF q) (.ok d S') Q := h
    cases x with
    | str l =>
      match ds, e with
      | [.str [c], .int i], e =>
        obtain ⟨w, o, rfl, r1, r2⟩ := reps2 r
        obtain ⟨hg, e⟩ := guard_some (show guard _ _ = _ from e)
        cases e
        rw [Bool.and_eq_true, Bool.and_eq_true, decide_eq_true_eq] at hg
        refine ⟨_, _, i, s, by rw [show w = V.str _ from r1, show o = V.int i from r2], ?_⟩
        rw [show (⟨[c].toArray⟩ : Str) = ⟨#[c]⟩ from rfl, find_ok l c i hg.1.1]
        exact h.at rel rfl
    | _ => cases e
theorem cnt_ok (c : Nat) : ∀ l : List Nat, PySem.Txt.count ⟨l.toArray⟩ ⟨#[c]⟩ = (l.count c : Nat) := by
  intro l
  rw [PyProof.Rows.count_cnt]
  show PyProof.Rows.cnt c l = _
  induction l with
  | nil => rfl
  | cons n r ih =>
    rw [PyProof.Rows.cnt_cons, ih, List.count_cons]
    by_cases e : n = c
    · subst e; simp; omega
    · simp [e]
theorem s_count {e : Expr} (he : ∀ {r : V → List V → Hp → VK → Prop}, MtR X "str.count" r → PE X e (tBM X.K "str" r (tR K cl W g ea) (tAs K cl W g es))) : PE X e (tE K cl W g (.met .count ea es)) := by
  refine s_met (name := "count") (he mt_count) (fun q F H ι S x v k rel s hc => ?_) fun q F H ι S x v ds vs d S' Q k rel s r e h => ?_
  · cases x with
    | str l => rw [show v = V.str _ from s]; rfl
    | _ => cases hc
  · have h : EK q F ι (rF q) (.ok d S') Q := h
    cases x with
    | str l =>
      match ds, e with
      | [.str [c]], e =>
        obtain ⟨w, rfl, r1⟩ := reps1 r
        obtain ⟨hg, e⟩ := guard_some (show guard _ _ = _ from e)
        cases e
        refine ⟨_, _, s, by rw [show w = V.str _ from r1], ?_⟩
        rw [show (⟨[c].toArray⟩ : Str) = ⟨#[c]⟩ from rfl, cnt_ok]
        exact h.at rel rfl
    | _ => cases e
theorem join_ok (sep : List Nat) : ∀ ls : List (List Nat), Str.join ⟨sep.toArray⟩ (ls.map fun l => ⟨l.toArray⟩) = ⟨(joinL sep ls).toArray⟩
  | [] => rfl
  | [x] => rfl
  | x :: y :: r => by
    show (⟨x.toArray⟩ : Str) ++ (⟨sep.toArray⟩ : Str) ++ Str.join ⟨sep.toArray⟩ ((y :: r).map fun l => ⟨l.toArray⟩) = _
    rw [join_ok sep (y :: r), str_app, str_app]; rfl
theorem joinLen_ok (sep : List Nat) : ∀ ls : List (List Nat), ((ls.map fun l => (⟨l.toArray⟩ : Str)).map (·.length)).sum + (ls.map fun l => (⟨l.toArray⟩ : Str)).length * (⟨sep.toArray⟩ : Str).length = joinLen sep ls
  | [] => by simp [joinLen]
  | x :: r => by
    have ih := joinLen_ok sep r
    unfold joinLen at ih ⊢
    simp only [List.map_cons, List.sum_cons, List.length_cons, str_len] at ih ⊢
    rw [Nat.add_mul, Nat.one_mul]
    omega
theorem spl_one (c : Nat) : ∀ (l acc : List Nat), TL.spl [c] 0 acc l = (match splitL c l with | p :: ps => (acc ++ p) :: ps | [] => [])
  | [], acc => by
    show [acc] = [acc ++ []]
    rw [List.append_nil]
  | x :: l, acc => by
    have ih := spl_one c l
    have hne : ∀ l : List Nat, splitL c l ≠ [] := fun l => by
      cases l with
      | nil => exact List.cons_ne_nil _ _
      | cons y r =>
        unfold splitL
        by_cases e : y = c
        · rw [if_pos e]; exact List.cons_ne_nil _ _
        · rw [if_neg e]; cases splitL c r <;> exact List.cons_ne_nil _ _
    unfold TL.spl splitL
    by_cases e : x = c
    · subst e
      have p : TL.pre [x] (x :: l) = true := by unfold TL.pre; simp
      rw [if_pos p, if_pos rfl]
      show acc :: TL.spl [x] 0 [] l = _
      rw [ih []]
      cases h : splitL x l with
      | nil => exact absurd h (hne l)
      | cons p ps => simp
    · have p : ¬ TL.pre [c] (x :: l) = true := by unfold TL.pre; simp [e]
      rw [if_neg p, if_neg e, ih (acc ++ [x])]
      cases h : splitL c l with
      | nil => exact absurd h (hne l)
      | cons p ps => simp
theorem split_ok (c : Nat) (hc : c < 256) (l : List Nat) : Txt.split ⟨l.toArray⟩ ⟨#[c]⟩ = (splitL c l).map fun l => ⟨l.toArray⟩ := by
  have k : (⟨#[c]⟩ : Str).cps.all (· < 256) = true := by simp [hc]
  have e := TL.split_spl ⟨l.toArray⟩ ⟨#[c]⟩ (by show ([c] : List Nat) ≠ []; exact List.cons_ne_nil _ _) (TL.kind_ok k)
  refine TL.map_tl_inj ?_
  rw [e]
  show TL.spl [c] 0 [] l = _
  rw [spl_one]
  have hm : ∀ L : List (List Nat), (L.map fun l => (⟨l.toArray⟩ : Str)).map TL.tl = L := fun L => by
    rw [List.map_map]
    exact List.map_id' L
  rw [hm]
  cases splitL c l <;> rfl
theorem s_split {e : Expr} (he : ∀ {r : V → List V → Hp → VK → Prop}, MtR X "str.split" r → PE X e (tBM X.K "str" r (tR K cl W g ea) (tAs K cl W g es))) : PE X e (tE K cl W g (.met .split ea es)) := by
  refine s_met (name := "split") (he mt_split) (fun q F H ι S x v k rel s hc => ?_) fun q F H ι S x v ds vs d S' Q k rel s r e h => ?_
  · cases x with
    | str l => rw [show v = V.str _ from s]; rfl
    | _ => cases hc
  · have h : EK q F ι (rO q) (.ok d S') Q := h
    cases x with
    | str l =>
      match ds, e with
      | [.str [c]], e =>
        obtain ⟨w, rfl, r1⟩ := reps1 r
        obtain ⟨hg, e⟩ := guard_some (show guard _ _ = _ from e)
        cases e
        rw [Bool.and_eq_true, decide_eq_true_eq, decide_eq_true_eq] at hg
        refine ⟨_, _, s, by rw [show w = V.str _ from r1], rfl, hg.1, fun p hp => ?_⟩
        rw [show (⟨[c].toArray⟩ : Str) = ⟨#[c]⟩ from rfl, split_ok c hg.2]
        refine h.new rel hp fun f1 f2 f3 f4 => ⟨p, _, rfl, upd_same, f1, f2, f3, f4, ?_⟩
        rw [List.map_map]
        exact Reps.map (f := D.str) (g := fun l => V.str ⟨l.toArray⟩) (fun _ => rfl) _
    | _ => cases e
theorem s_join (hK : X.K = K) {e : Expr} (he : ∀ {r : V → List V → Hp → VK → Prop}, MtR X "str.join" r → PE X e (tBM X.K "str" r (tR K cl W g ea) (tAs K cl W g es))) : PE X e (tE K cl W g (.met .join ea es)) := by
  refine s_met (name := "join") (he mt_join) (fun q F H ι S x v k rel s hc => ?_) fun q F H ι S x v ds vs d S' Q k rel s r e h => ?_
  · cases x with
    | str l => rw [show v = V.str _ from s]; rfl
    | _ => cases hc
  · have h : EK q F ι (rF q) (.ok d S') Q := h
    cases x with
    | str l =>
      match ds, e with
      | [.lst ds], e =>
        obtain ⟨w, rfl, r1⟩ := reps1 r
        obtain ⟨p, ws, rfl, hp, q1⟩ := rel.sh r1
        obtain ⟨ls, e1, e⟩ := Option.bind_eq_some_iff.mp (show (strsD ds).bind _ = _ from e)
        obtain ⟨hg, e⟩ := guard_some e
        cases e
        rw [strs_rep e1 q1] at hp
        refine ⟨_, p, _, s, rfl, .inl (SqL.of hp), ?_, ?_⟩
        · rw [joinLen_ok]; exact of_decide_eq_true hg
        · rw [TL.join_eq, join_ok]; exact h.at rel rfl
    | _ => cases e
end
end IL
/-! Soundness, part J: targets, what is walked, comprehensions. -/
namespace IL
open PySem L2

section
variable {K : PySem.W.Frag} {B F H F' H' : Hp} {ι ι' : List Addr} {col : Col} {σa : List IL.Slot} {S S' : Store} {σ : St}
theorem Rel.setVal (r : Rel K B F H ι col σa S σ) {i : Nat} {d : D} {v : V} (h : Rep K F ι d v) : Rel K B F H ι col (σa.set i (.val d)) S (σ.set i (some v)) := by
  refine ⟨r.fh, r.bh, r.cf, r.io, r.nd, r.ln, r.st, by rw [List.length_set, List.length_set]; exact r.sl, fun j s o h1 h2 => ?_⟩
  by_cases q : j = i
  · subst q
    have hl : j < σa.length := by have := (List.getElem?_eq_some_iff.mp h1).1; rwa [List.length_set] at this
    rw [List.getElem?_set_self hl] at h1
    rw [List.getElem?_set_self (by rw [← r.sl]; exact hl)] at h2
    cases h1; cases h2
    exact ⟨v, rfl, h⟩
  · rw [List.getElem?_set_ne (Ne.symm q)] at h1 h2
    exact r.slots j s o h1 h2
theorem Rel.wipe (r : Rel K B F H ι col σa S σ) : ∀ vs : List Nat, Rel K B F H ι col (IL.wipe σa vs) S (L2.wipe σ vs)
  | [] => r
  | v :: vs => by
    have ih := Rel.wipe r vs
    refine ⟨ih.fh, ih.bh, ih.cf, ih.io, ih.nd, ih.ln, ih.st, ?_, fun j s o h1 h2 => ?_⟩
    · unfold IL.wipe L2.wipe; rw [List.length_set, List.length_set]; exact ih.sl
    · unfold IL.wipe at h1; unfold L2.wipe at h2
      by_cases q : j = v
      · subst q
        have hl : j < (IL.wipe σa vs).length := by have := (List.getElem?_eq_some_iff.mp h1).1; rwa [List.length_set] at this
        rw [List.getElem?_set_self hl] at h1
        cases h1
        trivial
      · rw [List.getElem?_set_ne (Ne.symm q)] at h1 h2
        exact ih.slots j s o h1 h2
/-- a target -/
def gT (K : PySem.W.Frag) (tg : Tg) : TG := fun v σ H Q => ∃ B F ι col σa S d, Rel K B F H ι col σa S σ ∧ Rep K F ι d v ∧ ∃ σa', asg tg d σa = some σa' ∧ ∀ σ', Rel K B F H ι col σa' S σ' → (∀ vs : List Nat, (∀ i ∈ tg.vars, i ∈ vs) → L2.wipe σ' vs = L2.wipe σ vs) → Q σ' H
end

section
variable {X : Cx} {K : PySem.W.Frag} {cl : Cl} {W : WX} {g : G} {a b c : Expr} {ea eb ec : E} {es : Es} {xs : List Expr} {pos : Pos}
theorem wipe_set {σ : St} {i : Nat} {o : Option V} : ∀ {vs : List Nat}, i ∈ vs → L2.wipe (σ.set i o) vs = L2.wipe σ vs
  | [], h => nomatch h
  | v :: vs, h => by
    unfold L2.wipe
    by_cases q : i ∈ vs
    · rw [wipe_set q]
    · have e : i = v := by rcases List.mem_cons.mp h with e | e; exact e; exact absurd e q
      subst e
      have : ∀ {ws : List Nat}, i ∉ ws → L2.wipe (σ.set i o) ws = (L2.wipe σ ws).set i o := by
        intro ws
        induction ws with
        | nil => intro _; rfl
        | cons w ws ih =>
          intro h
          unfold L2.wipe
          have hw : i ≠ w := fun e => h (by rw [e]; exact List.mem_cons_self)
          rw [ih fun z => h (List.mem_cons_of_mem _ z), List.set_comm _ _ hw]
      rw [this q, List.set_set]
theorem g_v {i : Nat} {x : Str} (hN : X.N.Nodup) (hi : X.N[i]? = some x) (hx : Loc X.env.scope x) (hf : X.fn x = true ∨ X.env.scope.names.lookup x = some .local) : PG X (.Name x pos) (gT K (.v i)) := by
  have h := pg_name (pos := pos) hN hi hx hf
  refine ⟨fun pins s σ H v u Q I r q => h.run pins s σ H v u Q I r ?_⟩
  obtain ⟨B, F, ι, col, σa, S, d, rel, rr, σa', e, k⟩ := q
  have e : (if i < σa.length then some (σa.set i (.val d)) else none) = some σa' := e
  split at e
  · cases e
    exact k _ (rel.setVal rr) fun vs hv => wipe_set (hv i (List.mem_singleton.mpr rfl))
  · cases e
/-- targets in a row -/
def gTs (K : PySem.W.Frag) : List Tg → List V → St → Hp → (St → Hp → Prop) → Prop
  | [], vs, σ, H, Q => vs = [] ∧ Q σ H
  | t :: ts, vs, σ, H, Q => ∃ v r, vs = v :: r ∧ gT K t v σ H fun σ' H' => gTs K ts r σ' H' Q
theorem g_nil : PGs X [] (gTs K []) := pgs_nil
theorem g_cons {t : Tg} {ts : List Tg} (h1 : PG X a (gT K t)) (h2 : PGs X xs (gTs K ts)) (hp : plainB a = true) : PGs X (a :: xs) (gTs K (t :: ts)) :=
  pgs_cons h1 h2 (by cases a <;> first | rfl | cases hp)
/-- data in a row -/
def asgs : List Tg → List D → List IL.Slot → Option (List IL.Slot)
  | [], [], σ => some σ
  | t :: ts, d :: ds, σ => (asg t d σ).bind (asgs ts ds)
  | _, _, _ => none
theorem gTs_of {B F H : Hp} {ι : List Addr} {col : Col} {S : Store} : ∀ {ts : List Tg} {ds : List D} {vs : List V} {σa σa' : List IL.Slot} {σ : St} {Q : St → Hp → Prop}, Rel K B F H ι col σa S σ → Reps K F ι ds vs → asgs ts ds σa = some σa' →
    (∀ σ', Rel K B F H ι col σa' S σ' → (∀ ws : List Nat, (∀ t ∈ ts, ∀ i ∈ t.vars, i ∈ ws) → L2.wipe σ' ws = L2.wipe σ ws) → Q σ' H) → gTs K ts vs σ H Q
  | [], [], vs, σa, σa', σ, Q, rel, r, e, k => by
    cases e
    exact ⟨r, k σ rel fun _ _ => rfl⟩
  | t :: ts, d :: ds, vs, σa, σa', σ, Q, rel, ⟨v, w, e1, h, r⟩, e, k => by
    obtain ⟨σ1, e2, e3⟩ := Option.bind_eq_some_iff.mp (show (asg t d σa).bind (asgs ts ds) = some σa' from e)
    refine ⟨v, w, e1, B, F, ι, col, σa, S, d, rel, h, σ1, e2, fun σ' rel' hw => ?_⟩
    exact gTs_of rel' r e3 fun σ'' rel'' hw' => k σ'' rel'' fun ws hws => (hw' ws fun t' ht' => hws t' (List.mem_cons_of_mem _ ht')).trans (hw ws (hws t List.mem_cons_self))
  | [], _ :: _, _, _, _, _, _, _, _, e, _ => by cases e
  | _ :: _, [], _, _, _, _, _, _, _, e, _ => by cases e
theorem g_tup {t : Tg} {ts : List Tg} {k n : Nat} (hc : X.calm = true) (h : PGs X xs (gTs K ts)) (hK : X.K = K) (hps : xs.all plainB = true) (hn : xs.length = n) (hl : ts.length = n)
    (ht : ∀ d σa σa', asg t d σa = some σa' → ∃ ds, d = .tup ds ∧ ds.length = n ∧ asgs ts ds σa = some σa') (hv : ∀ ws : List Nat, (∀ i ∈ t.vars, i ∈ ws) → ∀ t' ∈ ts, ∀ i ∈ t'.vars, i ∈ ws) : PG X (.Tuple xs k pos) (gT K t) := by
  have al : ∀ {ys : List Expr}, ys.all plainB = true → (assignEach ys X.env).length = ys.length ∧ (assignEach ys X.env).findIdx? (·.1) = none := by
    intro ys
    induction ys with
    | nil => intro _; exact ⟨rfl, rfl⟩
    | cons y ys ih =>
      intro hp
      rw [List.all_cons, Bool.and_eq_true] at hp
      obtain ⟨h1, h2⟩ := ih hp.2
      have e : assignEach (y :: ys) X.env = (false, assign y X.env) :: assignEach ys X.env := by cases y <;> first | rfl | cases hp.1
      rw [e]
      refine ⟨by rw [List.length_cons, List.length_cons, h1], ?_⟩
      rw [List.findIdx?_cons]
      simp [h2]
  have h := pg_tup (k := k) (pos := pos) (n := n) hc h (by rw [(al hps).1]; exact hn) (al hps).2
  refine ⟨fun pins s σ H v u Q I r q => h.run pins s σ H v u Q I r ?_⟩
  obtain ⟨B, F, ι, col, σa, S, d, rel, rr, σa', e, k⟩ := q
  obtain ⟨ds, rfl, hdl, e2⟩ := ht d σa σa' e
  obtain ⟨p, vs, rfl, hp, q1⟩ := rel.sh rr
  refine ⟨p, vs, rfl, SqT.of hp, by rw [q1.length]; exact hdl, ?_⟩
  exact gTs_of rel q1 e2 fun σ' rel' hw => k σ' rel' fun ws hws => hw ws (hv ws hws)
theorem asg2 {t1 t2 : Tg} (d : D) (σa σa' : List IL.Slot) (e : asg (.t2 t1 t2) d σa = some σa') : ∃ ds, d = .tup ds ∧ ds.length = 2 ∧ asgs [t1, t2] ds σa = some σa' := by
  cases d with
  | tup ds =>
    match ds, e with
    | [x, y], e =>
      refine ⟨_, rfl, rfl, ?_⟩
      have e : (asg t1 x σa).bind (asg t2 y) = some σa' := e
      show (asg t1 x σa).bind (fun σ => (asg t2 y σ).bind (fun σ => some σ)) = some σa'
      simpa using e
    | [], e => cases e
    | [_], e => cases e
    | _ :: _ :: _ :: _, e => cases e
  | _ => cases e
theorem asg3 {t1 t2 t3 : Tg} (d : D) (σa σa' : List IL.Slot) (e : asg (.t3 t1 t2 t3) d σa = some σa') : ∃ ds, d = .tup ds ∧ ds.length = 3 ∧ asgs [t1, t2, t3] ds σa = some σa' := by
  cases d with
  | tup ds =>
    match ds, e with
    | [x, y, z], e =>
      refine ⟨_, rfl, rfl, ?_⟩
      have e : ((asg t1 x σa).bind (asg t2 y)).bind (asg t3 z) = some σa' := e
      show (asg t1 x σa).bind (fun σ => (asg t2 y σ).bind (fun σ => (asg t3 z σ).bind (fun σ => some σ))) = some σa'
      rw [Option.bind_assoc] at e
      simpa using e
    | [], e => cases e
    | [_], e => cases e
    | [_, _], e => cases e
    | _ :: _ :: _ :: _ :: _, e => cases e
  | _ => cases e
theorem asg4 {t1 t2 t3 t4 : Tg} (d : D) (σa σa' : List IL.Slot) (e : asg (.t4 t1 t2 t3 t4) d σa = some σa') : ∃ ds, d = .tup ds ∧ ds.length = 4 ∧ asgs [t1, t2, t3, t4] ds σa = some σa' := by
  cases d with
  | tup ds =>
    match ds, e with
    | [x, y, z, w], e =>
      refine ⟨_, rfl, rfl, ?_⟩
      have e : (((asg t1 x σa).bind (asg t2 y)).bind (asg t3 z)).bind (asg t4 w) = some σa' := e
      show (asg t1 x σa).bind (fun σ => (asg t2 y σ).bind (fun σ => (asg t3 z σ).bind (fun σ => (asg t4 w σ).bind (fun σ => some σ)))) = some σa'
      rw [Option.bind_assoc, Option.bind_assoc] at e
      simpa using e
    | [], e => cases e
    | [_], e => cases e
    | [_, _], e => cases e
    | [_, _, _], e => cases e
    | _ :: _ :: _ :: _ :: _ :: _, e => cases e
  | _ => cases e

/-! ### what is walked -/
def Wk (K : PySem.W.Frag) (B0 : Hp) (J : L2.It) (F0 : Hp) (ι0 : List Addr) (ds : List D) : Prop := ∀ (i : Nat) B F H ι col σa S σ, Same B0 B → Same F0 F → ι0 <+: ι → Rel K B F H ι col σa S σ → (ds.length ≤ i → J.stop i H) ∧
  ∀ d, ds[i]? = some d → J.go i H ∧ ∀ x H', J.yld i H x H' → ∃ F', Ext B F F' ι ι ∧ Rel K B F' H' ι col σa S σ ∧ Rep K F' ι d x
def rW : Q0 → List D → Hp → Hp → List Addr → L2.It → Prop := fun q ds F _ ι J => Wk q.K q.B J F ι ds
abbrev tI (K : PySem.W.Frag) (cl : Cl) (W : WX) (g : G) (it : IL.It) : TI := tQ K cl W (fun σa S => evalIt g σa it S) rW
theorem wk_list {B0 : Hp} {F0 : Hp} {ι0 : List Addr} {ds : List D} {vs : List V} {p : Addr} (hp : F0 p = some (.lst vs)) (q1 : Reps K F0 ι0 ds vs) : Wk K B0 (Itl K p) F0 ι0 ds := by
  intro i B F H ι col σa S σ _ s px rel
  have hF := s p _ hp
  have hH : H p = some (.lst vs) := by
    rcases rel.fh p _ hF with z | ⟨⟨_, z⟩, _⟩
    · exact z
    · cases z
  have q2 := Reps.mono s px _ _ q1
  refine ⟨fun hl => ⟨vs, SqL.of hH, by rw [q1.length]; exact hl⟩, fun d hd => ?_⟩
  obtain ⟨v, hv, rv⟩ := q2.get hd
  refine ⟨⟨vs, v, SqL.of hH, hv⟩, fun x H' ⟨e, k⟩ => ?_⟩
  subst e
  have := k vs (SqL.of hH)
  rw [hv] at this; cases this
  exact ⟨F, .refl, rel, rv⟩
theorem wk_tup {B0 : Hp} {F0 : Hp} {ι0 : List Addr} {ds : List D} {vs : List V} {p : Addr} (hp : F0 p = some (.tup vs)) (q1 : Reps K F0 ι0 ds vs) : Wk K B0 (Itt K p) F0 ι0 ds := by
  intro i B F H ι col σa S σ _ s px rel
  have hF := s p _ hp
  have hH : H p = some (.tup vs) := by
    rcases rel.fh p _ hF with z | ⟨⟨_, z⟩, _⟩
    · exact z
    · cases z
  have q2 := Reps.mono s px _ _ q1
  refine ⟨fun hl => ⟨vs, SqT.of hH, by rw [q1.length]; exact hl⟩, fun d hd => ?_⟩
  obtain ⟨v, hv, rv⟩ := q2.get hd
  refine ⟨⟨vs, v, SqT.of hH, hv⟩, fun x H' ⟨e, k⟩ => ?_⟩
  subst e
  have := k vs (SqT.of hH)
  rw [hv] at this; cases this
  exact ⟨F, .refl, rel, rv⟩
theorem wk_str {B0 : Hp} {F0 : Hp} {ι0 : List Addr} {l : List Nat} : Wk K B0 (Its ⟨l.toArray⟩) F0 ι0 (chars l) := by
  intro i B F H ι col σa S σ _ s px rel
  refine ⟨fun hl => by show l.toArray.size ≤ i; simpa [chars] using hl, fun d hd => ?_⟩
  unfold chars at hd
  rw [List.getElem?_map] at hd
  obtain ⟨c, hc, rfl⟩ := Option.map_eq_some_iff.mp hd
  have hl := (List.getElem?_eq_some_iff.mp hc).1
  refine ⟨by show i < l.toArray.size; simpa using hl, fun x H' ⟨e, c', hc', ex⟩ => ?_⟩
  subst e ex
  have : l[i]? = some c' := by simpa using hc'
  rw [hc] at this; cases this
  exact ⟨F, .refl, rel, rfl⟩
theorem rangeL_len : ∀ (n : Nat) (lo : Int), (rangeL lo n).length = n
  | 0, _ => rfl
  | n + 1, lo => by show (rangeL (lo + 1) n).length + 1 = n + 1; rw [rangeL_len n]
theorem rangeL_get : ∀ (n : Nat) (lo : Int) (i : Nat) (d : D), (rangeL lo n)[i]? = some d → d = .int (lo + i) ∧ i < n
  | 0, _, _, _, h => by simp [rangeL] at h
  | n + 1, lo, 0, d, h => by
    have h : some (D.int lo) = some d := h
    cases h; exact ⟨by simp, by omega⟩
  | n + 1, lo, i + 1, d, h => by
    obtain ⟨e, hl⟩ := rangeL_get n (lo + 1) i d h
    refine ⟨?_, by omega⟩
    rw [e]; congr 1; omega
theorem wk_range {B0 : Hp} {F0 : Hp} {ι0 : List Addr} {lo : Int} {n : Nat} : Wk K B0 (Itr lo n) F0 ι0 (rangeL lo n) := by
  intro i B F H ι col σa S σ _ s px rel
  refine ⟨fun hl => by rw [rangeL_len] at hl; exact hl, fun d hd => ?_⟩
  obtain ⟨e, hl⟩ := rangeL_get n lo i d hd
  refine ⟨hl, fun x H' ⟨e1, e2⟩ => ?_⟩
  subst e1
  rw [e]
  exact ⟨F, .refl, rel, e2⟩
theorem enumL_get : ∀ (ds : List D) (k i : Nat) (d : D), (enumL k ds)[i]? = some d → ∃ x, ds[i]? = some x ∧ d = .tup [.int ((k + i : Nat) : Int), x]
  | [], _, _, _, h => by simp [enumL] at h
  | x :: ds, k, 0, d, h => by
    have h : some (D.tup [.int k, x]) = some d := h
    cases h; exact ⟨x, rfl, rfl⟩
  | x :: ds, k, i + 1, d, h => by
    obtain ⟨y, h1, h2⟩ := enumL_get ds (k + 1) i d h
    exact ⟨y, h1, by rw [h2]; congr 3; omega⟩
theorem enumL_len : ∀ (ds : List D) (k : Nat), (enumL k ds).length = ds.length
  | [], _ => rfl
  | d :: ds, k => by show (enumL (k + 1) ds).length + 1 = ds.length + 1; rw [enumL_len ds]
theorem pairT {F H B : Hp} {ι : List Addr} {col : Col} {σa : List IL.Slot} {S : Store} {σ : St} {T : Addr} {x y : V} {d e : D} (rel : Rel K B F H ι col σa S σ) (hT : H T = none) (rx : Rep K F ι d x) (ry : Rep K F ι e y) :
    ∃ F', Ext B F F' ι ι ∧ Rel K B F' (upd H T (.tup [x, y])) ι col σa S σ ∧ Rep K F' ι (.tup [d, e]) (.ref T) := by
  have hf := (rel.free hT).1
  have s := same_upd (o := HO.tup [x, y]) hf
  refine ⟨upd F T (.tup [x, y]), ⟨s, List.prefix_refl _, fun a u z => ?_⟩, rel.layF hT, T, [x, y], rfl, upd_same, Reps.mono s (List.prefix_refl _) _ _ (.cons rx (.cons ry .nil))⟩
  by_cases w : a = T
  · subst w; exact .inr (rel.free hT).2
  · rw [upd_ne w] at z; exact .inl z
theorem wk_enum {B0 : Hp} {F0 : Hp} {ι0 : List Addr} {ds : List D} {vs : List V} {p : Addr} (hp : F0 p = some (.lst vs)) (q1 : Reps K F0 ι0 ds vs) : Wk K B0 (Ite K p) F0 ι0 (enumL 0 ds) := by
  intro i B F H ι col σa S σ _ s px rel
  have hF := s p _ hp
  have hH : H p = some (.lst vs) := by
    rcases rel.fh p _ hF with z | ⟨⟨_, z⟩, _⟩
    · exact z
    · cases z
  have q2 := Reps.mono s px _ _ q1
  refine ⟨fun hl => ⟨vs, SqL.of hH, by rw [enumL_len] at hl; rw [q1.length]; exact hl⟩, fun d hd => ?_⟩
  obtain ⟨x, hx, rfl⟩ := enumL_get ds 0 i d hd
  obtain ⟨v, hv, rv⟩ := q2.get hx
  refine ⟨⟨vs, v, SqL.of hH, hv⟩, fun y H' ⟨T, z, e1, hT, e2, k⟩ => ?_⟩
  subst e1 e2
  have := k vs (SqL.of hH)
  rw [hv] at this; cases this
  rw [Nat.zero_add]
  exact pairT rel hT rfl rv
theorem zipL_get : ∀ (xs ys : List D) (i : Nat) (d : D), (zipL xs ys)[i]? = some d → ∃ x y, xs[i]? = some x ∧ ys[i]? = some y ∧ d = .tup [x, y]
  | [], _, _, _, h => by simp [zipL] at h
  | _ :: _, [], _, _, h => by simp [zipL] at h
  | x :: xs, y :: ys, 0, d, h => by
    have h : some (D.tup [x, y]) = some d := h
    cases h; exact ⟨x, y, rfl, rfl, rfl⟩
  | x :: xs, y :: ys, i + 1, d, h => zipL_get xs ys i d h
theorem zipL_len : ∀ (xs ys : List D), (zipL xs ys).length = min xs.length ys.length
  | [], _ => by simp [zipL]
  | _ :: _, [] => by simp [zipL]
  | x :: xs, y :: ys => by
    show (zipL xs ys).length + 1 = min (xs.length + 1) (ys.length + 1)
    rw [zipL_len xs ys]; omega
theorem wk_zip {B0 : Hp} {F0 : Hp} {ι0 : List Addr} {ds es : List D} {vs ws : List V} {p r : Addr} (hp : F0 p = some (.lst vs)) (hr : F0 r = some (.lst ws)) (q1 : Reps K F0 ι0 ds vs) (q2 : Reps K F0 ι0 es ws) : Wk K B0 (Itz K p r) F0 ι0 (zipL ds es) := by
  intro i B F H ι col σa S σ _ s px rel
  have at_ : ∀ {p : Addr} {vs : List V}, F0 p = some (.lst vs) → H p = some (.lst vs) := fun hp => by
    rcases rel.fh _ _ (s _ _ hp) with z | ⟨⟨_, z⟩, _⟩
    · exact z
    · cases z
  have h1 := at_ hp
  have h2 := at_ hr
  have q1' := Reps.mono s px _ _ q1
  have q2' := Reps.mono s px _ _ q2
  refine ⟨fun hl => ⟨vs, ws, SqL.of h1, SqL.of h2, by rw [zipL_len] at hl; rw [q1.length, q2.length]; omega⟩, fun d hd => ?_⟩
  obtain ⟨x, y, hx, hy, rfl⟩ := zipL_get ds es i d hd
  obtain ⟨v, hv, rv⟩ := q1'.get hx
  obtain ⟨w, hw, rw'⟩ := q2'.get hy
  refine ⟨⟨vs, ws, v, w, SqL.of h1, SqL.of h2, hv, hw⟩, fun z H' ⟨T, a, b, e1, hT, e2, k1, k2⟩ => ?_⟩
  subst e1 e2
  have e1 := k1 vs (SqL.of h1)
  rw [hv] at e1; cases e1
  have e2 := k2 ws (SqL.of h2)
  rw [hw] at e2; cases e2
  exact pairT rel hT rv rw'
theorem wk_zipT {B0 : Hp} {F0 : Hp} {ι0 : List Addr} {ds es : List D} {vs ws : List V} {p r : Addr} (hp : F0 p = some (.tup vs)) (hr : F0 r = some (.tup ws)) (q1 : Reps K F0 ι0 ds vs) (q2 : Reps K F0 ι0 es ws) : Wk K B0 (RZ.ItzT K p r) F0 ι0 (zipL ds es) := by
  intro i B F H ι col σa S σ _ s px rel
  have at_ : ∀ {p : Addr} {vs : List V}, F0 p = some (.tup vs) → H p = some (.tup vs) := fun hp => by
    rcases rel.fh _ _ (s _ _ hp) with z | ⟨⟨_, z⟩, _⟩
    · exact z
    · cases z
  have h1 := at_ hp
  have h2 := at_ hr
  have q1' := Reps.mono s px _ _ q1
  have q2' := Reps.mono s px _ _ q2
  refine ⟨fun hl => ⟨vs, ws, SqT.of h1, SqT.of h2, by rw [zipL_len] at hl; rw [q1.length, q2.length]; omega⟩, fun d hd => ?_⟩
  obtain ⟨x, y, hx, hy, rfl⟩ := zipL_get ds es i d hd
  obtain ⟨v, hv, rv⟩ := q1'.get hx
  obtain ⟨w, hw, rw'⟩ := q2'.get hy
  refine ⟨⟨vs, ws, v, w, SqT.of h1, SqT.of h2, hv, hw⟩, fun z H' ⟨T, a, b, e1, hT, e2, k1, k2⟩ => ?_⟩
  subst e1 e2
  have e1 := k1 vs (SqT.of h1)
  rw [hv] at e1; cases e1
  have e2 := k2 ws (SqT.of h2)
  rw [hw] at e2; cases e2
  exact pairT rel hT rv rw'

theorem notPk {e : E} (h : e.isPk = false) : rR e = rF := by cases e <;> first | rfl | cases h
theorem i_of {tg : Expr} (hK : X.K = K) (ha : PE X a (tR K cl W g ea)) : PI X tg a (tI K cl W g (.of ea)) := by
  refine ⟨fun pins s σ H R I q => ?_⟩
  obtain ⟨B, col, σa, F, ι, S, rel, h⟩ := q
  have h : EK ⟨K, cl, W, B, col, σa, σ⟩ F ι (rW ⟨K, cl, W, B, col, σa, σ⟩) (if ea.isPk then .bad else (evalE g σa ea S).bind fun d S1 => .of (seqIt d) S1) R := h
  cases hp : ea.isPk with
  | true => rw [hp] at h; exact h.elim
  | false =>
    rw [hp, if_neg Bool.false_ne_true] at h
    have np := notPk hp
    -- the kind is settled ahead
    have pick : ∀ (d : D), (∀ d' S1, evalE g σa ea S = .ok d' S1 → d' = d) → wpAny (model X.prog X.w) X.A (eval a X.env) (fun v s1 => wpAny (model X.prog X.w) X.A (pyIter v) (PIE X pins σ tg R) X.xe s1) X.xe s := by
      intro d hd
      have key : ∀ {u : V → Hp → Prop}, (∀ S1 F1 H1 ι1 v, Rel K B F1 H1 ι1 col σa S1 σ → rR ea ⟨K, cl, W, B, col, σa, σ⟩ d F1 H1 ι1 v → EK ⟨K, cl, W, B, col, σa, σ⟩ F1 ι1 (rW ⟨K, cl, W, B, col, σa, σ⟩) (.of (seqIt d) S1) R → u v H1) → (tR K cl W g ea) σ H u := fun {u} k => by
        refine ⟨B, col, σa, F, ι, S, rel, ?_⟩
        show EK _ F ι _ (evalE g σa ea S) u
        cases e : evalE g σa ea S with
        | ok d' S1 =>
          have := hd d' S1 e
          subst this
          rw [e] at h
          exact fun F' H' ι' v x rel' r => k S1 F' H' ι' v rel' r (EK.mono h x)
        | exc x S1 => rw [e] at h; exact h
        | bad => rw [e] at h; exact h
      cases d with
      | lst ds =>
        exact (pi_list ha).run pins s σ H R I (key fun S1 F1 H1 ι1 v rel1 r h1 => by
          rw [np] at r
          obtain ⟨p, vs, rfl, hF, q1⟩ := r
          obtain ⟨p', vs', e', hH, q2⟩ := rel1.sh (show Rep K F1 ι1 (.lst ds) (.ref p) from ⟨p, vs, rfl, hF, q1⟩)
          cases e'
          rw [hK]
          exact ⟨p, rfl, ⟨vs', SqL.of hH⟩, EK.at (res := rW _) h1 rel1 (wk_list hF q1)⟩)
      | tup ds =>
        exact (pi_tup ha).run pins s σ H R I (key fun S1 F1 H1 ι1 v rel1 r h1 => by
          rw [np] at r
          obtain ⟨p, vs, rfl, hF, q1⟩ := r
          obtain ⟨p', vs', e', hH, q2⟩ := rel1.sh (show Rep K F1 ι1 (.tup ds) (.ref p) from ⟨p, vs, rfl, hF, q1⟩)
          cases e'
          rw [hK]
          exact ⟨p, rfl, ⟨vs', SqT.of hH⟩, EK.at (res := rW _) h1 rel1 (wk_tup hF q1)⟩)
      | str l =>
        exact (pi_str ha).run pins s σ H R I (key fun S1 F1 H1 ι1 v rel1 r h1 => by
          rw [np] at r
          exact ⟨_, r, EK.at (res := rW _) h1 rel1 wk_str⟩)
      | _ => exact (pi_list ha).run pins s σ H R I (key fun S1 F1 H1 ι1 v rel1 r h1 => h1.elim)
    cases e : evalE g σa ea S with
    | ok d S1 => exact pick d fun d' S1' z => by rw [e] at z; cases z; rfl
    | exc x S1 => exact pick .non fun d' S1' z => by rw [e] at z; cases z
    | bad => exact pick .non fun d' S1' z => by rw [e] at z; cases z
theorem i_r1 {tg : Expr} {p : Pos} (hg : Gl X "range") (hm : X.mg "range" = none) (hp : plainB a = true) (ha : PE X a (tR K cl W g ea)) : PI X tg (.Call (.Name "range" p) [a] [] pos) (tI K cl W g (.r1 ea)) := by
  refine (pi_range1 hg hm (pa_cons ha pa_nil (star_cons hp)) (star_cons hp)).imp (tq1 (ra := rR ea) (rc := rW) (u := fun v H1 R => ∃ j : Int, [v] = [V.int j] ∧ -(2 ^ 62) ≤ j ∧ j < 2 ^ 62 ∧ R (Itr 0 j.toNat) H1) fun q F H ι S x v R rel r h => ?_)
  cases x with
  | int i =>
    dsimp only at h
    cases hi : i62 i with
    | false => rw [hi] at h; exact h.elim
    | true =>
      rw [hi, if_pos rfl] at h
      unfold i62 at hi
      rw [Bool.and_eq_true, decide_eq_true_eq, decide_eq_true_eq] at hi
      exact ⟨i, congrArg (fun z => [z]) (rel.shR r), hi.1, hi.2, EK.at (res := rW q) h rel wk_range⟩
  | _ => exact h.elim
theorem i_r2 {tg : Expr} {p : Pos} (hg : Gl X "range") (hm : X.mg "range" = none) (hp : plainB a = true) (hp2 : plainB b = true) (ha : PE X a (tR K cl W g ea)) (hb : PE X b (tR K cl W g eb)) : PI X tg (.Call (.Name "range" p) [a, b] [] pos) (tI K cl W g (.r2 ea eb)) := by
  refine (pi_range2 hg hm (pa_cons ha (pa_cons hb pa_nil (star_cons hp2)) (star_cons hp)) (by rw [star_cons hp, star_cons hp2]; rfl) (star_cons hp2)).imp (tq2 (stab_rR ea) (rb := rR eb) (rc := rW) (u := fun v w H1 R => ∃ i j : Int, [v, w] = [V.int i, .int j] ∧ (-(2 ^ 62) ≤ i ∧ i < 2 ^ 62 ∧ -(2 ^ 62) ≤ j ∧ j < 2 ^ 62) ∧ R (Itr i (j - i).toNat) H1) fun q F H ι S x y v w R k rel r1 r2 h => ?_)
  cases x with
  | int i =>
    cases y with
    | int j =>
      dsimp only at h
      cases hi : (i62 i && i62 j) with
      | false => rw [hi] at h; exact h.elim
      | true =>
        rw [hi, if_pos rfl] at h
        rw [Bool.and_eq_true] at hi
        unfold i62 at hi
        rw [Bool.and_eq_true, decide_eq_true_eq, decide_eq_true_eq, Bool.and_eq_true, decide_eq_true_eq, decide_eq_true_eq] at hi
        exact ⟨i, j, by rw [show v = V.int i from rel.shR r1, show w = V.int j from rel.shR r2], ⟨hi.1.1, hi.1.2, hi.2.1, hi.2.2⟩, EK.at (res := rW q) h rel wk_range⟩
    | _ => exact h.elim
  | _ => exact h.elim
theorem i_en {elts : List Expr} {kk : Nat} {tpos pz : Pos} (hK : X.K = K) (hg : Gl X "enumerate") (hm : X.mg "enumerate" = none) (hp : plainB a = true) (ha : PE X a (tR K cl W g ea)) : PI X (.Tuple elts kk tpos) (.Call (.Name "enumerate" pz) [a] [] pos) (tI K cl W g (.en ea)) := by
  refine (pi_enum hg hm (pa_cons ha pa_nil (star_cons hp)) (star_cons hp)).imp ?_
  rintro σ H R ⟨B, col, σa, F, ι, S, rel, h⟩
  have h : EK ⟨K, cl, W, B, col, σa, σ⟩ F ι (rW ⟨K, cl, W, B, col, σa, σ⟩) (if ea.isPk then .bad else (evalE g σa ea S).bind fun d S1 => (match d with
    | .lst ds => .ok (enumL 0 ds) S1
    | _ => .bad)) R := h
  cases hpk : ea.isPk with
  | true => rw [hpk] at h; exact h.elim
  | false =>
    rw [hpk, if_neg Bool.false_ne_true] at h
    refine ⟨B, col, σa, F, ι, S, rel, EK.bind h fun x S1 F1 H1 ι1 v x1 rel1 r1 h1 => ?_⟩
    rw [notPk hpk] at r1
    cases x with
    | lst ds =>
      obtain ⟨p', vs', e', hH, q2⟩ := rel1.sh r1
      obtain ⟨p, vs, rfl, hF, q1⟩ := r1
      cases e'
      rw [hK]
      exact ⟨_, vs', rfl, SqL.of hH, EK.at (res := rW _) h1 rel1 (wk_enum hF q1)⟩
    | _ => exact h1.elim
theorem i_zip {elts : List Expr} {kk : Nat} {tpos pz : Pos} (hK : X.K = K) (hg : Gl X "zip") (hm : X.mg "zip" = none) (hp : plainB a = true) (hp2 : plainB b = true) (ha : PE X a (tR K cl W g ea)) (hb : PE X b (tR K cl W g eb)) : PI X (.Tuple elts kk tpos) (.Call (.Name "zip" pz) [a, b] [] pos) (tI K cl W g (.zip ea eb)) := by
  refine (RZ.pi_zipA hg hm (pa_cons ha (pa_cons hb pa_nil (star_cons hp2)) (star_cons hp)) (star_cons hp) (star_all (by simp [hp2]))).imp ?_
  rintro σ H R ⟨B, col, σa, F, ι, S, rel, h⟩
  have h : EK ⟨K, cl, W, B, col, σa, σ⟩ F ι (rW ⟨K, cl, W, B, col, σa, σ⟩) (if ea.isPk || eb.isPk then .bad else (evalE g σa ea S).bind fun x S1 => (evalE g σa eb S1).bind fun y S2 => (match x, y with
    | .lst xs, .lst ys => .ok (zipL xs ys) S2
    | .tup xs, .tup ys => .ok (zipL xs ys) S2
    | _, _ => .bad)) R := h
  cases hpk : (ea.isPk || eb.isPk) with
  | true => rw [hpk] at h; exact h.elim
  | false =>
    rw [hpk, if_neg Bool.false_ne_true] at h
    rw [Bool.or_eq_false_iff] at hpk
    refine ⟨B, col, σa, F, ι, S, rel, EK.bind h fun x S1 F1 H1 ι1 v x1 rel1 r1 h1 => ⟨B, col, σa, F1, ι1, S1, rel1, EK.bind h1 fun y S2 F2 H2 ι2 w x2 rel2 r2 h2 => ?_⟩⟩
    rw [notPk hpk.1] at r1
    rw [notPk hpk.2] at r2
    have r1 := stab_rF _ x F1 H1 ι1 v F2 H2 ι2 x2 r1
    cases x with
    | lst ds =>
      cases y with
      | lst es =>
        obtain ⟨p1, vs1, e1, hH1, _⟩ := rel2.sh r1
        obtain ⟨p2, vs2, e2, hH2, _⟩ := rel2.sh r2
        obtain ⟨p, vs, rfl, hF, q1⟩ := r1
        obtain ⟨p', vs', rfl, hF', q1'⟩ := r2
        cases e1; cases e2
        rw [hK]
        exact ⟨_, _, vs1, vs2, rfl, .inl ⟨SqL.of hH1, SqL.of hH2, EK.at (res := rW _) h2 rel2 (wk_zip hF hF' q1 q1')⟩⟩
      | _ => exact h2.elim
    | tup ds =>
      cases y with
      | tup es =>
        obtain ⟨p1, vs1, e1, hH1, _⟩ := rel2.sh r1
        obtain ⟨p2, vs2, e2, hH2, _⟩ := rel2.sh r2
        obtain ⟨p, vs, rfl, hF, q1⟩ := r1
        obtain ⟨p', vs', rfl, hF', q1'⟩ := r2
        cases e1; cases e2
        rw [hK]
        exact ⟨_, _, vs1, vs2, rfl, .inr ⟨SqT.of hH1, SqT.of hH2, EK.at (res := rW _) h2 rel2 (wk_zipT hF hF' q1 q1')⟩⟩
      | _ => exact h2.elim
    | _ => exact h2.elim
end
end IL
/-! Soundness, part U: list(zip(a, b)). -/
namespace IL
open PySem L2 PyProof.Rows

theorem zip_no_len : typeLookup (.type "zip") "__len__" = pure none := am_miss_of_fast (by decide +kernel)
theorem zip_no_hint : typeLookup (.type "zip") "__length_hint__" = pure none := am_miss_of_fast (by decide +kernel)
/-- a list over there -/
abbrev LsAt (h : Heap) (S : Addr) (acc : Array Value) (c : Nat) : Prop := h.get? S = some { cls := .type "list", dict := none, data := .seq acc c, slots := #[] }
/-- a zip's own records, at turn i -/
structure ZSt (S z TI TO i1 i2 l1 l2 : Addr) (i : Nat) (h : Heap) : Prop where
  zp : (IsZip h z TI TO .none ∧ ∃ a b, IsPair h TO a b) ∨ ∃ T f oT, IsZipHeld h z TI TO T f ∧ h.get? T = some oT ∧ T ≠ S
  ti : IsPair h TI (.ref i1) (.ref i2)
  h1 : h.IsListIter i1 l1 i
  h2 : h.IsListIter i2 l2 i
theorem ZSt.at {S z TI TO i1 i2 l1 l2 : Addr} {i : Nat} {h h' : Heap} (a : ZSt S z TI TO i1 i2 l1 l2 i h) (hS : S ∉ [z, TI, TO, i1, i2]) (k : ∀ b o, b ≠ S → h.get? b = some o → h'.get? b = some o) : ZSt S z TI TO i1 i2 l1 l2 i h' := by
  simp only [List.mem_cons, List.not_mem_nil, or_false, not_or] at hS
  obtain ⟨s1, s2, s3, s4, s5⟩ := hS
  refine ⟨?_, k _ _ (Ne.symm s2) a.ti, a.h1.at fun o e => k _ _ (Ne.symm s4) e, a.h2.at fun o e => k _ _ (Ne.symm s5) e⟩
  rcases a.zp with ⟨p, x, y, q⟩ | ⟨T, f, oT, p, q, n⟩
  · exact .inl ⟨k _ _ (Ne.symm s1) p, x, y, k _ _ (Ne.symm s3) q⟩
  · exact .inr ⟨T, f, oT, k _ _ (Ne.symm s1) p, k _ _ n q, n⟩
section
variable {prog : Program} {w : World} {A : Around} {E : Value → Shared → Prop} {s : Shared} {S z TI TO i1 i2 l1 l2 : Addr} {i : Nat} {xs ys : Array Value} {Q : Option Value → Shared → Prop}
theorem ZSt.item {x y : Value} (D : ZipApart z TI TO i1 i2 l1 l2) (a : ZSt S z TI TO i1 i2 l1 l2 i s.heap) (hS : S < s.heap.objs.size) (hl1 : s.heap.IsList l1 xs) (hl2 : s.heap.IsList l2 ys) (hx : xs[i]? = some x) (hy : ys[i]? = some y)
    (hQ : ∀ h', ZSt S z TI TO i1 i2 l1 l2 (i + 1) h' → IsPair h' s.heap.objs.size x y → (∀ c o, c ∉ [z, TI, TO, i1, i2] → s.heap.get? c = some o → h'.get? c = some o) → Q (some (.ref s.heap.objs.size)) { s with heap := h' }) :
    wpAny (model prog w) A (pyNext (.ref z)) Q E s := by
  have nS : s.heap.objs.size ≠ S := Nat.ne_of_gt hS
  rcases a.zp with ⟨p, u, v, q⟩ | ⟨T, f, oT, p, q, n⟩
  · refine wpAny_pyNext_zip_item D p a.ti q a.h1 a.h2 hl1 hl2 hx hy fun h' z' TO' h1' h2' hT hsz hk => hQ h' ⟨.inr ⟨_, _, _, z', hT, nS⟩, ?_, h1', h2'⟩ hT fun c o hc e => ?_
    · exact hk _ _ D.TIz D.TITO D.TIi1 D.TIi2 a.ti
    · simp only [List.mem_cons, List.not_mem_nil, or_false, not_or] at hc
      exact hk c o hc.1 hc.2.2.1 hc.2.2.2.1 hc.2.2.2.2 e
  · refine wpAny_pyNext_zip_item_held D p q a.ti a.h1 a.h2 hl1 hl2 hx hy fun h' z' h1' h2' hT hsz hk => ?_
    have tz : T ≠ z ∧ T ≠ i1 ∧ T ≠ i2 ∨ True := .inr trivial
    refine hQ h' ⟨?_, hk _ _ D.TIz D.TIi1 D.TIi2 a.ti, h1', h2'⟩ hT fun c o hc e => ?_
    · have : ∃ oT', h'.get? T = some oT' := by
        by_cases c1 : T = z
        · rw [c1]; exact ⟨_, z'⟩
        by_cases c2 : T = i1
        · obtain ⟨o, e, _⟩ := h1'; rw [c2]; exact ⟨o, e⟩
        by_cases c3 : T = i2
        · obtain ⟨o, e, _⟩ := h2'; rw [c3]; exact ⟨o, e⟩
        exact ⟨_, hk _ _ c1 c2 c3 q⟩
      obtain ⟨oT', e⟩ := this
      exact .inr ⟨T, true, oT', z', e, n⟩
    · simp only [List.mem_cons, List.not_mem_nil, or_false, not_or] at hc
      exact hk c o hc.1 hc.2.2.2.1 hc.2.2.2.2 e
theorem ZSt.stop (hh : A.handled = none) (D : ZipApart z TI TO i1 i2 l1 l2) (a : ZSt S z TI TO i1 i2 l1 l2 i s.heap) (hl1 : s.heap.IsList l1 xs) (hl2 : s.heap.IsList l2 ys) (he : xs[i]? = none ∨ ys[i]? = none)
    (hQ : ∀ h', (∀ c o, c ∉ [z, TI, TO, i1, i2] → s.heap.get? c = some o → h'.get? c = some o) → Q none { s with heap := h' }) :
    wpAny (model prog w) A (pyNext (.ref z)) Q E s := by
  rcases a.zp with ⟨p, u, v, q⟩ | ⟨T, f, oT, p, q, n⟩
  · refine wpAny_pyNext_zip_end hh D p a.ti q a.h1 a.h2 hl1 hl2 he fun h' hk => hQ h' fun c o hc e => ?_
    simp only [List.mem_cons, List.not_mem_nil, or_false, not_or] at hc
    exact hk c o hc.1 hc.2.2.1 hc.2.2.2.1 hc.2.2.2.2 e
  · refine wpAny_pyNext_zip_end_held hh D p q a.ti a.h1 a.h2 hl1 hl2 he fun h' hk => hQ h' fun c o hc e => ?_
    simp only [List.mem_cons, List.not_mem_nil, or_false, not_or] at hc
    exact hk c o hc.1 hc.2.2.2.1 hc.2.2.2.2 e
end
/-- new pairs, one by one -/
inductive Tups : Hp → List (V × V) → List Addr → Hp → Prop
  | nil {H : Hp} : Tups H [] [] H
  | cons {H H' : Hp} {T : Addr} {x y : V} {ps : List (V × V)} {Ts : List Addr} (h : H T = none) (t : Tups (upd H T (.tup [x, y])) ps Ts H') : Tups H ((x, y) :: ps) (T :: Ts) H'
theorem Tups.keep {H H' : Hp} {ps : List (V × V)} {Ts : List Addr} (t : Tups H ps Ts H') : ∀ a o, H a = some o → H' a = some o := by
  induction t with
  | nil => exact fun _ _ e => e
  | cons h t ih => exact fun a o e => ih a o (by rw [upd_ne (ne_of_none e h)]; exact e)
/-- a record of ours becomes a tracked object -/
theorem inv_adopt {X : Cx} {pins : List (Addr × PySem.Obj)} {σ : L2.St} {H : Hp} {s : Shared} {T : Addr} {ob : HO} (I : L2.Inv X pins σ H s) (hf : FpOk X pins H T) (new : ObjOk X.prog X.w (upd H T ob) s.heap T ob) : L2.Inv X pins σ (upd H T ob) s := by
  have hn : H T = none := hf.1
  refine I.step (g' := s.gens) (d' := s.drawn) (h' := s.heap) (t' := s.toks) (ch := [T]) (fun b hb => ?_) (fun b o _ _ hc e _ => e) (fun b o _ _ hc e _ => ⟨o.slots, e⟩)
    (fun b o hc e n => ?_) (fun b o hc e => ⟨o, e⟩) (fun b xs e => ?_) (fun b o u e => ?_) (fun b ps e => ⟨#[], ?_⟩) (fun m hm => ?_) (fun b u e => ?_) I.bare
  · have e : b = T := by simpa using hb
    subst e
    exact ⟨hf.2.2.2.1, hf.2.1, hf.2.2.2.2.1, hf.2.2.2.2.2⟩
  · rw [upd_ne (fun z => hc (by simp [z]))]; exact n
  · rw [upd_ne (ne_of_none e hn)]; exact e
  · rw [upd_ne (ne_of_none e hn)]; exact e
  · rw [upd_ne (ne_of_none e hn), e]; simp
  · exact hm
  · by_cases hb : b = T
    · subst hb
      rw [upd_same] at e
      cases e
      exact new
    · rw [upd_ne hb] at e
      exact (I.hok b u e).stay (fun c v hc q => q) (fun c q => by rw [upd_ne (ne_of_none q hn)]; exact q) fun c xs q => by rw [upd_ne (ne_of_none q hn)]; exact q

section
variable {X : Cx} {pins : List (Addr × PySem.Obj)} {σ : L2.St} {A : Around} {S z TI TO i1 i2 l1 l2 : Addr} {xs ys : List V}
theorem fpOk_upd {H : Hp} {b T : Addr} {o : HO} (h : FpOk X pins H b) (n : b ≠ T) : FpOk X pins (upd H T o) b := ⟨(upd_ne n).trans h.1, h.2⟩
theorem ZSt.mem {i : Nat} {h : Heap} (a : ZSt S z TI TO i1 i2 l1 l2 i h) (hTO : ∃ o, h.get? TO = some o) : ∀ b ∈ [z, TI, TO, i1, i2], b < h.objs.size := by
  intro b hb
  have e' : b = z ∨ b = TI ∨ b = TO ∨ b = i1 ∨ b = i2 := by simpa using hb
  rcases e' with q | q | q | q | q
  · rw [q]; rcases a.zp with ⟨p, _⟩ | ⟨T, f, oT, p, _⟩ <;> exact Heap.lt_size p
  · rw [q]; exact Heap.lt_size a.ti
  · obtain ⟨o, e⟩ := hTO; rw [q]; exact Heap.lt_size e
  · rw [q]; obtain ⟨_, e, _⟩ := a.h1; exact Heap.lt_size e
  · rw [q]; obtain ⟨_, e, _⟩ := a.h2; exact Heap.lt_size e
theorem zip_loop (hh : A.handled = none) (D : ZipApart z TI TO i1 i2 l1 l2) (hS : S ∉ [z, TI, TO, i1, i2]) (res : Value) : ∀ (k i : Nat) (s : Shared) (H : Hp) (acc : Array Value) (c : Nat) {R : Result → Shared → Prop},
    min xs.length ys.length - i = k → i ≤ min xs.length ys.length → acc.size = i → L2.Inv X pins σ H s → (∀ b ∈ S :: [z, TI, TO, i1, i2], FpOk X pins H b) → TO < s.heap.objs.size →
    LsAt s.heap S acc c → ZSt S z TI TO i1 i2 l1 l2 i s.heap → SqL X.K H l1 xs → SqL X.K H l2 ys →
    (∀ Ts H' s' c', Tups H ((xs.drop i).zip (ys.drop i)) Ts H' → L2.Inv X pins σ H' s' → FpOk X pins H' S → LsAt s'.heap S (acc ++ (Ts.map Value.ref).toArray) c' → R (.ok (.ret res)) s') →
    codeAny (model X.prog X.w) A (.builtin "list.extend.loop" ⟨[.ref S, .ref z, res], []⟩) R s := by
  intro k
  induction k with
  | zero =>
    intro i s H acc c R hk hi hac I hf hto hL a q1 q2 hR
    obtain ⟨its, rv, p, z1⟩ := I.list q1
    obtain ⟨its2, rv2, p2, z2⟩ := I.list q2
    have n1 := rv.length
    have n2 := rv2.length
    refine codeAny_builtin F.entry_extend_loop ?_
    rw [Around.under_plainId F.plain_extend_loop _]
    show wpAny _ A.in1 (pyNext (.ref z) >>= _) _ _ s
    have he : its.toArray[i]? = none ∨ its2.toArray[i]? = none := by
      have : xs.length ≤ i ∨ ys.length ≤ i := by omega
      rcases this with q | q
      · exact .inl (by simp; omega)
      · exact .inr (by simp; omega)
    refine wpAny_bind (ZSt.stop (A := A.in1) hh D a p.isList p2.isList he fun h' hk' => ?_)
    have I1 : L2.Inv X pins σ H { s with heap := h' } := I.turnedL (t' := s.toks) (ch := [z, TI, TO, i1, i2]) (fun b o hb e => hk' b o hb e) fun b hb => hf b (List.mem_cons_of_mem _ hb)
    refine wpAny_pure (hR [] H _ c ?_ I1 (hf S List.mem_cons_self) ?_)
    · have : (xs.drop i).zip (ys.drop i) = [] := by
        rw [List.zip_eq_nil_iff]
        have : xs.length ≤ i ∨ ys.length ≤ i := by omega
        rcases this with q | q
        · exact .inl (List.drop_of_length_le q)
        · exact .inr (List.drop_of_length_le q)
      rw [this]; exact .nil
    · rw [List.map_nil]
      have : acc ++ ([] : List Value).toArray = acc := by simp
      rw [this]
      exact hk' S _ hS hL
  | succ k ih =>
    intro i s H acc c R hk hi hac I hf hto hL a q1 q2 hR
    have hx : xs[i]? = some xs[i] := List.getElem?_eq_getElem (by omega)
    have hy : ys[i]? = some ys[i] := List.getElem?_eq_getElem (by omega)
    have e1 : xs.drop i = xs[i] :: xs.drop (i + 1) := List.drop_eq_getElem_cons (by omega)
    have e2 : ys.drop i = ys[i] :: ys.drop (i + 1) := List.drop_eq_getElem_cons (by omega)
    generalize xs[i] = x at hx e1
    generalize ys[i] = y at hy e2
    obtain ⟨its, rv, p, z1⟩ := I.list q1
    obtain ⟨its2, rv2, p2, z2⟩ := I.list q2
    obtain ⟨u, hu, ru⟩ := rv.get hx
    obtain ⟨u2, hu2, ru2⟩ := rv2.get hy
    have hSl : S < s.heap.objs.size := Heap.lt_size hL
    refine codeAny_builtin F.entry_extend_loop ?_
    rw [Around.under_plainId F.plain_extend_loop _]
    show wpAny _ A.in1 (pyNext (.ref z) >>= _) _ _ s
    refine wpAny_bind (a.item (A := A.in1) D hSl p.isList p2.isList (x := u) (y := u2) (by simpa using hu) (by simpa using hu2) fun h' a' hT hk' => ?_)
    have hn : H s.heap.objs.size = none := I.hok.fresh (Nat.le_refl _)
    have new : ObjOk X.prog X.w (upd H s.heap.objs.size (.tup [x, y])) h' s.heap.objs.size (.tup [x, y]) :=
      ⟨by show 2 ≤ sizeLine; decide, [u, u2], .cons ru (.cons ru2 .nil), ⟨_, hT, rfl, _, rfl⟩⟩
    have I1 : L2.Inv X pins σ (upd H s.heap.objs.size (.tup [x, y])) { s with heap := h' } :=
      I.turnedNew (t' := s.toks) (ch := [z, TI, TO, i1, i2]) (fun b o hb e => hk' b o hb e) (fun b hb => hf b (List.mem_cons_of_mem _ hb)) (Nat.le_refl _) new
    have bm : ∀ b ∈ S :: [z, TI, TO, i1, i2], b ≠ s.heap.objs.size := fun b hb => by
      rcases List.mem_cons.mp hb with e | e
      · rw [e]; exact Nat.ne_of_lt hSl
      · have e' : b = z ∨ b = TI ∨ b = TO ∨ b = i1 ∨ b = i2 := by simpa using e
        rcases e' with q | q | q | q | q
        · rw [q]; rcases a.zp with ⟨p, _⟩ | ⟨T, f, oT, p, _⟩ <;> exact Nat.ne_of_lt (Heap.lt_size p)
        · rw [q]; exact Nat.ne_of_lt (Heap.lt_size a.ti)
        · rw [q]; exact Nat.ne_of_lt hto
        · rw [q]; obtain ⟨_, e, _⟩ := a.h1; exact Nat.ne_of_lt (Heap.lt_size e)
        · rw [q]; obtain ⟨_, e, _⟩ := a.h2; exact Nat.ne_of_lt (Heap.lt_size e)
    have hf1 : ∀ b ∈ S :: [z, TI, TO, i1, i2], FpOk X pins (upd H s.heap.objs.size (.tup [x, y])) b := fun b hb => fpOk_upd (hf b hb) (bm b hb)
    have hL1 : LsAt h' S acc c := hk' S _ hS hL
    have hto1 : TO < h'.objs.size := Nat.lt_trans hto (Heap.lt_size hT)
    show wpAny _ A.in1 (updateSeq S (·.push (.ref s.heap.objs.size)) >>= _) _ _ _
    refine wpAny_bind ?_
    refine wpAny_updateSeq hL1 rfl (wpAny_pure ⟨plainId_quiet F.plain_extend_loop _, ?_⟩) (by omega) (by show (acc.push _).size ≤ sizeLine + 1; rw [Array.size_push]; omega)
    have hL2 := Heap.get?_update_self (Obj.mapSeq (·.push (Value.ref s.heap.objs.size))) hL1 rfl
    have oth : ∀ b o, b ≠ S → h'.get? b = some o → (h'.update S (Obj.mapSeq (·.push (Value.ref s.heap.objs.size)))).get? b = some o := fun b o hb e => (Heap.get?_update_other _ _ (Ne.symm hb)).trans e
    have I2 : L2.Inv X pins σ (upd H s.heap.objs.size (.tup [x, y])) { s with heap := h'.update S (Obj.mapSeq (·.push (Value.ref s.heap.objs.size))) } :=
      L2.Inv.turnedL (s := { s with heap := h' }) (t' := s.toks) (ch := [S]) I1 (fun b o hb e => oth b o (fun z => hb (by simp [z])) e) fun b hb => by
        have e : b = S := by simpa using hb
        rw [e]; exact hf1 S List.mem_cons_self
    have kp : ∀ l vs, SqL X.K H l vs → SqL X.K (upd H s.heap.objs.size (.tup [x, y])) l vs := fun l vs h => SqL.keep (fun o e => by rw [upd_ne (ne_of_none e hn)]; exact e) h
    refine ih (i + 1) _ _ (acc.push (.ref s.heap.objs.size)) _ (by omega) (by omega) (by rw [Array.size_push]; omega) I2 hf1 ?_ hL2 (a'.at hS oth) (kp _ _ q1) (kp _ _ q2) fun Ts H' s' c' t I' hf' hL' => ?_
    · show TO < (h'.update S _).objs.size
      rw [Heap.size_update]; exact hto1
    · refine hR (s.heap.objs.size :: Ts) H' s' c' ?_ I' hf' ?_
      · rw [e1, e2, List.zip_cons_cons]
        exact .cons hn t
      · have : acc ++ ((s.heap.objs.size :: Ts).map Value.ref).toArray = acc.push (.ref s.heap.objs.size) ++ (Ts.map Value.ref).toArray := by simp
        rw [this]; exact hL'

theorem vals_refs' : ∀ bs : List Addr, Vals (bs.map V.ref) (bs.map Value.ref)
  | [] => .nil
  | _ :: r => .cons rfl (vals_refs' r)
theorem Tups.len {H H' : Hp} {ps : List (V × V)} {Ts : List Addr} (t : Tups H ps Ts H') : Ts.length = ps.length := by
  induction t with
  | nil => rfl
  | cons h t ih => rw [List.length_cons, List.length_cons, ih]
/-- list(z), z a new zip -/
theorem call_list_zip {s : Shared} {H : Hp} {E : Value → Shared → Prop} {Q : Value → Shared → Prop} (hh : A.handled = none) (D : ZipApart z TI TO i1 i2 l1 l2) (I : L2.Inv X pins σ H s) (hf : ∀ b ∈ [z, TI, TO, i1, i2], FpOk X pins H b)
    (hz : IsZip s.heap z TI TO .none) (hTI : IsPair s.heap TI (.ref i1) (.ref i2)) (hTO : ∃ a b, IsPair s.heap TO a b) (h1 : s.heap.IsListIter i1 l1 0) (h2 : s.heap.IsListIter i2 l2 0) (q1 : SqL X.K H l1 xs) (q2 : SqL X.K H l2 ys)
    (hQ : ∀ Ts H' s' p, Tups H (xs.zip ys) Ts H' → H' p = none → L2.Inv X pins σ (upd H' p (.lst (Ts.map V.ref))) s' → Q (.ref p) s') :
    wpAny (model X.prog X.w) A (PySem.call (.type "list") [.ref z]) Q E s := by
  refine callType_codes (Q₁ := fun obj s₁ => obj = .ref s.heap.objs.size ∧ s₁ = { s with heap := s.heap.push { cls := .type "list", data := .seq #[] } }) PySem.F.called_list (PySem.F.typeCall_list_1 _) PySem.F.entry_list_init
    (code_list_new _ ⟨rfl, rfl⟩) fun obj s₁ h₁ => ?_
  obtain ⟨rfl, rfl⟩ := h₁
  have hS : (s.heap.push { cls := .type "list", data := .seq #[] }).get? s.heap.objs.size = some { cls := .type "list", data := .seq #[] } := Heap.get?_push_size _ rfl
  refine ⟨⟨_, hS, rfl⟩, PySem.F.args_list_init_2 _ _, ?_⟩
  generalize hSe : s.heap.objs.size = S at hS
  obtain ⟨ao, bo, hTO⟩ := hTO
  obtain ⟨o1, e1, r1⟩ := id h1
  obtain ⟨o2, e2, r2⟩ := id h2
  have hSf : S ∉ [z, TI, TO, i1, i2] := by
    have l1 := Heap.lt_size hz
    have l2 := Heap.lt_size hTI
    have l3 := Heap.lt_size hTO
    have l4 := Heap.lt_size e1
    have l5 := Heap.lt_size e2
    rw [hSe] at l1 l2 l3 l4 l5
    simp only [List.mem_cons, List.not_mem_nil, or_false, not_or]
    exact ⟨Nat.ne_of_gt l1, Nat.ne_of_gt l2, Nat.ne_of_gt l3, Nat.ne_of_gt l4, Nat.ne_of_gt l5⟩
  have hSz : S ≠ z := fun e => hSf (by simp [e])
  have hn : H S = none := I.hok.fresh (by rw [hSe]; exact Nat.le_refl _)
  have fS : FpOk X pins H S := I.fpOk (by rw [hSe]; exact Nat.le_refl _) hn
  have hf' : ∀ b ∈ S :: [z, TI, TO, i1, i2], FpOk X pins H b := fun b hb => (List.mem_cons.mp hb).elim (fun e => e ▸ fS) (hf b)
  show wpAny _ _ (do let old ← Builtin.List.listItems (.ref S); Builtin.List.listUpdate (.ref S) (fun _ => #[]); letGo old.toList.reverse; Builtin.List.listExtendWith (.ref S) (.ref z) .none) _ _ _
  refine wpAny_bind ?_
  unfold Builtin.List.listItems
  refine wpAny_bind (wpAny_seqItems hS rfl (wpAny_pure ?_))
  show wpAny _ _ (updateSeq S (fun _ => #[]) >>= fun _ => letGo (#[] : Array Value).toList.reverse >>= fun _ => Builtin.List.listExtendWith (.ref S) (.ref z) .none) _ _ _
  refine wpAny_bind (wpAny_updateSeq hS rfl ?_)
  have hS₂ := Heap.get?_update_self (Obj.mapSeq (fun _ => (#[] : Array Value))) hS rfl
  have oth : ∀ b o, b ≠ S → s.heap.get? b = some o → ((s.heap.push { cls := .type "list", data := .seq #[] }).update S (Obj.mapSeq (fun _ => (#[] : Array Value)))).get? b = some o :=
    fun b o hb e => (Heap.get?_update_other _ _ (Ne.symm hb)).trans (Heap.get?_push_of_some _ e)
  refine wpAny_bind (wpAny_letGo ?_)
  generalize hG : (s.heap.push { cls := .type "list", data := .seq #[] }).update S (Obj.mapSeq (fun _ => (#[] : Array Value))) = G at hS₂ oth
  have hT : ∀ {G : Heap}, G.get? z = s.heap.get? z → ({ s with heap := G } : Shared).TypeIs (.ref z) "zip" := fun e => ⟨_, e.trans hz, rfl⟩
  have gz : G.get? z = s.heap.get? z := by rw [hz]; exact oth z _ (Ne.symm hSz) hz
  unfold Builtin.List.listExtendWith
  refine wpAny_bind (wpAny_typeOf (hT gz) ?_)
  have b1 : Builtin.List.listSameRef (.ref S) (.ref z) = false := by simp [Builtin.List.listSameRef, hSz]
  have b2 : (Value.type "zip" == Value.type "list") = false := by decide
  have b3 : (Value.type "zip" == Value.type "tuple") = false := by decide
  simp only [b1, b2, b3, Bool.or_false, Bool.false_eq_true, if_false]
  refine wpAny_bind (wpAny_pyIter_zip (gz.trans hz) ?_)
  refine wpAny_bind (wpAny_holding ?_)
  unfold Builtin.List.listLengthHint
  refine wpAny_bind (wpAny_specialOf (hT gz) zip_no_len ?_)
  show wpAny _ _ (specialOf (Value.ref z) (Str.ofString "__length_hint__") >>= _) _ _ _
  refine wpAny_bind (wpAny_specialOf (hT gz) zip_no_hint ?_)
  refine wpAny_pure ?_
  show wpAny _ _ (rule "list.extend.makes-room" >>= fun _ => Builtin.List.listTouch (.ref S) >>= fun _ =>
    again (.builtin "list.extend.loop" ⟨[.ref S, .ref z, .none], []⟩)) _ _ _
  refine wpAny_bind (wpAny_rule ?_)
  refine wpAny_bind ?_
  show wpAny _ _ (updateSeq S (·.push .none) >>= fun _ => updateSeq S (·.pop)) _ _ _
  refine wpAny_bind (wpAny_updateSeq hS₂ rfl ?_)
  have hS₃ := Heap.get?_update_self (Obj.mapSeq (·.push Value.none)) hS₂ rfl
  refine wpAny_updateSeq (hz := by seq_fits) hS₃ rfl ?_
  have hS₄ := Heap.get?_update_self (Obj.mapSeq (·.pop)) hS₃ rfl
  have oth2 : ∀ b o, b ≠ S → s.heap.get? b = some o → ((G.update S (Obj.mapSeq (·.push Value.none))).update S (Obj.mapSeq (·.pop))).get? b = some o :=
    fun b o hb e => (Heap.get?_update_other _ _ (Ne.symm hb)).trans ((Heap.get?_update_other _ _ (Ne.symm hb)).trans (oth b o hb e))
  have I1 : L2.Inv X pins σ H { s with heap := (G.update S (Obj.mapSeq (·.push Value.none))).update S (Obj.mapSeq (·.pop)) } :=
    I.kept (t' := s.toks) fun b u e => oth2 b u (by have := Heap.lt_size e; rw [hSe] at this; exact Nat.ne_of_lt this) e
  have zst : ZSt S z TI TO i1 i2 l1 l2 0 ((G.update S (Obj.mapSeq (·.push Value.none))).update S (Obj.mapSeq (·.pop))) :=
    ZSt.at (h := s.heap) ⟨.inl ⟨hz, ao, bo, hTO⟩, hTI, h1, h2⟩ hSf oth2
  have lto : TO < ((G.update S (Obj.mapSeq (·.push Value.none))).update S (Obj.mapSeq (·.pop))).objs.size := Heap.lt_size (oth2 TO _ (fun e => hSf (by simp [e])) hTO)
  refine wpAny_pure ⟨plainId_quiet PySem.F.plain_extend_loop _, zip_loop (A := A.in1) hh D hSf .none _ 0 _ H #[] _ rfl (Nat.zero_le _) rfl I1 hf' lto hS₄ zst q1 q2 fun Ts H' s' c' t I' hf2 hL' => ?_⟩
  rw [List.drop_zero, List.drop_zero] at t
  refine ⟨rfl, ?_⟩
  have hL2 : LsAt s'.heap S (Ts.map Value.ref).toArray c' := by
    have : #[] ++ (Ts.map Value.ref).toArray = (Ts.map Value.ref).toArray := by simp
    rw [← this]; exact hL'
  obtain ⟨its, rv, _, z1⟩ := I.list q1
  refine hQ Ts H' s' S t hf2.1 (inv_adopt I' hf2 ⟨?_, Ts.map Value.ref, c', vals_refs' Ts, hL2⟩)
  rw [List.length_map, t.len, List.length_zip]
  omega
/-- list(zip(a, b)) as one rule -/
def rLz (K : PySem.W.Frag) : List V → Hp → VK → Prop := fun vs H Q => ∃ a b xs ys, vs = [.ref a, .ref b] ∧ SqL K H a xs ∧ SqL K H b ys ∧ ∀ Ts H' p, Tups H (xs.zip ys) Ts H' → H' p = none → Q (.ref p) (upd H' p (.lst (Ts.map V.ref)))
theorem pe_lzip {e e2 : Expr} {ta : TA} {p p2 pos pos2 : Pos} (hc : X.calm = true) (hg : Gl X "list") (hm : X.mg "list" = none) (hg2 : Gl X "zip") (hm2 : X.mg "zip" = none) (ha : PA X [e, e2] ta)
    (hs : starEach [e, e2] X.env = (false, eval e X.env) :: starEach [e2] X.env) (hpl : (backTo pos2 (starEach [e2] X.env)).any (·.1) = false) :
    PE X (.Call (.Name "list" p) [.Call (.Name "zip" p2) [e, e2] [] pos2] [] pos) (tCB (rLz X.K) ta) := by
  refine ⟨fun pins s σ H Q I h => ?_⟩
  have na : starEach [Expr.Call (.Name "zip" p2) [e, e2] [] pos2] X.env = (false, eval (.Call (.Name "zip" p2) [e, e2] [] pos2) X.env) :: starEach [] X.env := rfl
  have ze : wpAny (model X.prog X.w) X.A (eval (.Call (.Name "zip" p2) [e, e2] [] pos2) X.env) (fun v s1 => ∃ z TI TO i1 i2 l1 l2 xs ys H1, v = .ref z ∧ ZipApart z TI TO i1 i2 l1 l2 ∧ L2.Inv X pins σ H1 s1 ∧ (∀ b ∈ [z, TI, TO, i1, i2], FpOk X pins H1 b) ∧
      IsZip s1.heap z TI TO .none ∧ IsPair s1.heap TI (.ref i1) (.ref i2) ∧ (∃ a b, IsPair s1.heap TO a b) ∧ s1.heap.IsListIter i1 l1 0 ∧ s1.heap.IsListIter i2 l2 0 ∧ SqL X.K H1 l1 xs ∧ SqL X.K H1 l2 ys ∧
      ∀ Ts H' p, Tups H1 (xs.zip ys) Ts H' → H' p = none → Q (.ref p) (upd H' p (.lst (Ts.map V.ref)))) X.xe s := by
    refine Call_ (ld_blt I hg2 hm2 PyProof.Rows.boot_zip (PyProof.Rows.callWith_type1 (thn (ha.run pos2 pins s σ H _ I h) fun us s1 ⟨vs, H1, I1, r1, q1⟩ => ?_) hs hpl))
    obtain ⟨a, b, xs, ys, ex, hqx, hqy, q⟩ := q1
    subst ex
    cases r1 with
    | cons r rr =>
      cases rr with
      | cons r' rr =>
        cases rr
        cases r
        cases r'
        obtain ⟨its, rv, p1, _⟩ := I1.list hqx
        obtain ⟨its2, rv2, p2, _⟩ := I1.list hqy
        have la : a < s1.heap.objs.size := p1.lt
        have lb : b < s1.heap.objs.size := p2.lt
        refine call_zip_2 p1.isList p2.isList fun h' hz hTI hTO h1 h2 hsz hk => ?_
        have I2 : L2.Inv X pins σ H1 { s1 with heap := h' } := I1.kept (t' := s1.toks) hk
        refine ⟨s1.heap.objs.size + 4, s1.heap.objs.size + 2, s1.heap.objs.size + 3, s1.heap.objs.size, s1.heap.objs.size + 1, a, b, xs, ys, H1, rfl, PySem.W.ktu_apart s1.heap.objs.size a b la lb, I2, fun c hcm => ?_, hz, hTI, ⟨_, _, hTO⟩, h1, h2, hqx, hqy, q⟩
        have e' : c = s1.heap.objs.size + 4 ∨ c = s1.heap.objs.size + 2 ∨ c = s1.heap.objs.size + 3 ∨ c = s1.heap.objs.size ∨ c = s1.heap.objs.size + 1 := by simpa using hcm
        have hle : s1.heap.objs.size ≤ c := by
          rcases e' with z | z | z | z | z
          · rw [z]; exact Nat.le_add_right _ _
          · rw [z]; exact Nat.le_add_right _ _
          · rw [z]; exact Nat.le_add_right _ _
          · rw [z]; exact Nat.le_refl _
          · rw [z]; exact Nat.le_add_right _ _
        exact I1.fpOk hle (I1.hok.fresh hle)
  refine Call_ (ld_blt I hg hm boot_list (PyProof.Rows.callWith_type1 (args_cons (thn ze fun x s1 ⟨z, TI, TO, i1, i2, l1, l2, xs, ys, H1, ex, D, I1, hf, hz, hTI, hTO, h1, h2, q1, q2, q⟩ => args_nil ?_) na) na))
  subst ex
  exact call_list_zip (I1.ok.hd hc) D I1 hf hz hTI hTO h1 h2 q1 q2 fun Ts H' s' p t hp I' => ⟨.ref p, _, I', rfl, q Ts H' p t hp⟩
end

section
variable {X : Cx} {K : PySem.W.Frag} {cl : Cl} {W : WX} {g : G} {es : Es}
theorem tups_rel {B : Hp} {ι : List Addr} {col : Col} {σa : List IL.Slot} {S : Store} {σ : L2.St} : ∀ {xs ys : List D} {vx vy : List V} {F H H' : Hp} {Ts : List Addr}, Rel K B F H ι col σa S σ → Reps K F ι xs vx → Reps K F ι ys vy → Tups H (vx.zip vy) Ts H' →
    ∃ F', Ext B F F' ι ι ∧ Rel K B F' H' ι col σa S σ ∧ Reps K F' ι (zipL xs ys) (Ts.map V.ref)
  | [], ys, vx, vy, F, H, H', Ts, rel, r1, r2, t => by
    have e : vx = [] := r1
    subst e
    rw [List.zip_nil_left] at t
    cases t
    exact ⟨F, .refl, rel, rfl⟩
  | x :: xs, [], vx, vy, F, H, H', Ts, rel, r1, r2, t => by
    have e : vy = [] := r2
    subst e
    rw [List.zip_nil_right] at t
    cases t
    exact ⟨F, .refl, rel, rfl⟩
  | x :: xs, y :: ys, vx, vy, F, H, H', Ts, rel, r1, r2, t => by
    obtain ⟨v, vx', rfl, a1, b1⟩ := r1
    obtain ⟨u, vy', rfl, a2, b2⟩ := r2
    rw [List.zip_cons_cons] at t
    cases t with
    | cons hn t =>
      obtain ⟨F1, x1, rel1, q1⟩ := pairT rel hn a1 a2
      obtain ⟨F2, x2, rel2, q2⟩ := tups_rel rel1 (Reps.mono x1.same x1.pre _ _ b1) (Reps.mono x1.same x1.pre _ _ b2) t
      exact ⟨F2, x1.trans x2, rel2, .cons (Rep.mono x2.same x2.pre _ _ q1) q2⟩
theorem seq_sh {F H B : Hp} {ι : List Addr} {col : Col} {σa : List IL.Slot} {S : Store} {σ : L2.St} {d : D} {v : V} {xs : List D} (rel : Rel K B F H ι col σa S σ) (h : seqL S d = some xs) (s : Sh K F H ι d v) : ∃ p vs, v = .ref p ∧ SqL K H p vs ∧ Reps K F ι xs vs := by
  cases d with
  | lst ds => cases h; obtain ⟨p, vs, rfl, hp, q⟩ := s; exact ⟨p, vs, rfl, SqL.of hp, q⟩
  | ref n =>
    obtain ⟨a, rfl, hi⟩ := s
    have e : (match S[n]? with
      | some (.lst ds) => some ds
      | _ => none) = some xs := h
    cases hs : S[n]? with
    | none => rw [hs] at e; cases e
    | some o =>
      rw [hs] at e
      have z := rel.st n o a hs hi
      cases o with
      | lst ds => cases e; obtain ⟨vs, hp, q1⟩ := z; exact ⟨a, vs, rfl, SqL.of hp, q1⟩
      | _ => cases e
  | _ => cases h
theorem s_lzip (hK : X.K = K) {e : Expr} (he : PE X e (tCB (rLz X.K) (tAs K cl W g es))) : PE X e (tE K cl W g (.blt .lzip es)) := by
  refine s_cb he fun q F H ι S ds vs d Q k rel pp ee h => ?_
  have h : EK q F ι (rO q) (.ok d S) Q := h
  subst k
  match ds, ee with
  | [], ee => simp [bltD] at ee
  | [a], ee => cases a <;> simp [bltD] at ee
  | [a, b], ee =>
    obtain ⟨v, w, rfl, s, t⟩ := pair2 pp
    obtain ⟨xs, e1, ee⟩ := Option.bind_eq_some_iff.mp (show ((seqL S a).bind fun xs => (seqL S b).map fun ys => D.lst (zipL xs ys)) = some d from ee)
    obtain ⟨ys, e2, rfl⟩ := Option.map_eq_some_iff.mp ee
    obtain ⟨p1, v1, rfl, h1, q1⟩ := seq_sh rel e1 s
    obtain ⟨p2, v2, rfl, h2, q2⟩ := seq_sh rel e2 t
    rw [hK]
    refine ⟨p1, p2, v1, v2, rfl, h1, h2, fun Ts H' p tt hp => ?_⟩
    obtain ⟨F', x, rel', rr⟩ := tups_rel rel q1 q2 tt
    exact (h.mono x).new rel' hp fun f1 f2 f3 f4 => ⟨p, _, rfl, upd_same, f1, f2, f3, f4, rr⟩
  | _ :: _ :: _ :: _, ee => simp [bltD] at ee
end
end IL
/-! Soundness, part K: comprehensions. -/
namespace IL
open PySem L2

section
variable {K : PySem.W.Frag} {B F H F' H' : Hp} {ι ι' : List Addr} {col : Col} {σa : List IL.Slot} {S S' : Store} {σ : St}
theorem Rel.addB (r : Rel K B F H ι col σa S σ) {p : Addr} {o : HO} (h : H p = some o) (hc : col p = none) (hi : p ∉ ι) : Rel K (upd B p o) F H ι col σa S σ := by
  refine ⟨r.fh, fun a u e => ?_, fun a c e => ?_, fun a ha => ?_, r.nd, r.ln, r.st, r.sl, r.slots⟩
  · by_cases q : a = p
    · subst q; rw [upd_same] at e; cases e; exact h
    · rw [upd_ne q] at e; exact r.bh a u e
  · obtain ⟨h1, h2, h3, h4⟩ := r.cf a c e
    exact ⟨h1, by rw [upd_ne fun q => by subst q; rw [hc] at e; cases e]; exact h2, h3, h4⟩
  · obtain ⟨h1, h2⟩ := r.io a ha
    exact ⟨h1, by rw [upd_ne fun q => hi (by rw [← q]; exact ha)]; exact h2⟩
theorem Rel.dropB {p : Addr} {o : HO} (r : Rel K (upd B p o) F H ι col σa S σ) (hb : B p = none) : Rel K B F H ι col σa S σ := by
  refine ⟨r.fh, fun a u e => r.bh a u ?_, fun a c e => ?_, fun a ha => ?_, r.nd, r.ln, r.st, r.sl, r.slots⟩
  · rw [upd_ne fun q => by subst q; rw [hb] at e; cases e]; exact e
  · obtain ⟨h1, h2, h3, h4⟩ := r.cf a c e
    have hp : a ≠ p := fun q => by subst q; rw [upd_same] at h2; cases h2
    rw [upd_ne hp] at h2
    exact ⟨h1, h2, h3, h4⟩
  · obtain ⟨h1, h2⟩ := r.io a ha
    refine ⟨h1, ?_⟩
    by_cases hp : a = p
    · subst hp; rw [hb]; exact NB.none
    · rw [upd_ne hp] at h2; exact h2
/-- what the context keeps is changed by the context -/
theorem Rel.updB {p : Addr} {o u : HO} (r : Rel K (upd B p o) F H ι col σa S σ) (hf : F p = none) (no : ∀ od kvs, o ≠ .frz od (.dK kvs)) : Rel K (upd B p u) F (upd H p u) ι col σa S σ := by
  have io : ∀ a, a ∈ ι → a ≠ p := fun a ha q => by have := (r.io a ha).2; subst q; rw [upd_same] at this; obtain ⟨od, kvs, z⟩ := this _ rfl; exact no od kvs z
  have cn : ∀ a c, col a = some c → a ≠ p := fun a c e q => by have := (r.cf a c e).2.1; subst q; rw [upd_same] at this; cases this
  refine ⟨fun a v e => ?_, fun a v e => ?_, fun a c e => ?_, fun a ha => ?_, r.nd, r.ln, fun n x a h1 h2 => ?_, r.sl, fun i s x h1 h2 => ?_⟩
  · rw [upd_ne fun q => by subst q; rw [hf] at e; cases e]; exact r.fh a v e
  · by_cases q : a = p
    · subst q; rw [upd_same] at e; rw [upd_same]; exact e
    · rw [upd_ne q] at e; rw [upd_ne q]; exact r.bh a v (by rw [upd_ne q]; exact e)
  · obtain ⟨h1, h2, h3, h4⟩ := r.cf a c e
    have hp := cn a c e
    rw [upd_ne hp] at h2
    exact ⟨h1, by rw [upd_ne hp]; exact h2, h3, by rw [upd_ne hp]; exact h4⟩
  · obtain ⟨h1, h2⟩ := r.io a ha
    have hp := io a ha
    rw [upd_ne hp] at h2
    exact ⟨h1, by rw [upd_ne hp]; exact h2⟩
  · exact ObjR.mono (Same.refl F) (List.prefix_refl _) (upd_ne (io a (List.mem_of_getElem? h2))) (r.st n x a h1 h2)
  · exact SlotR.mono (Same.refl F) (List.prefix_refl _) (fun a c e v q => by rw [upd_ne (cn a c e)]; exact q) (r.slots i s x h1 h2)
theorem Ext.dropB {p : Addr} {o : HO} (x : Ext (upd B p o) F F' ι ι') : Ext B F F' ι ι' := ⟨x.same, x.pre, fun a u e => (x.nf a u e).imp id fun q => by
  have hp : a ≠ p := fun z => by subst z; rw [upd_same] at q; cases q
  rwa [upd_ne hp] at q⟩
theorem Ext.keepN {p : Addr} {o : HO} (x : Ext (upd B p o) F F' ι ι') (h : F p = none) : F' p = none := by
  cases e : F' p with
  | none => rfl
  | some u =>
    rcases x.nf p u e with q | q
    · rw [h] at q; cases q
    · rw [upd_same] at q; cases q
theorem asg_other : ∀ {tg : Tg} {d : D} {σ σ' : List IL.Slot} {j : Nat}, asg tg d σ = some σ' → j ∉ tg.vars → σ'[j]? = σ[j]?
  | .v i, d, σ, σ', j, e, h => by
    have e : (if i < σ.length then some (σ.set i (.val d)) else none) = some σ' := e
    split at e
    · cases e
      exact List.getElem?_set_ne fun q => h (List.mem_singleton.mpr q.symm)
    · cases e
  | .t2 a b, d, σ, σ', j, e, h => by
    cases d with
    | tup ds =>
      match ds, e with
      | [x, y], e =>
        obtain ⟨σ1, e1, e2⟩ := Option.bind_eq_some_iff.mp (show (asg a x σ).bind (asg b y) = some σ' from e)
        have h : j ∉ a.vars ++ b.vars := h
        rw [List.mem_append] at h
        rw [asg_other e2 fun q => h (.inr q), asg_other e1 fun q => h (.inl q)]
      | [], e => cases e
      | [_], e => cases e
      | _ :: _ :: _ :: _, e => cases e
    | _ => cases e
  | .t3 a b c, d, σ, σ', j, e, h => by
    cases d with
    | tup ds =>
      match ds, e with
      | [x, y, z], e =>
        obtain ⟨σ2, e2, e3⟩ := Option.bind_eq_some_iff.mp (show ((asg a x σ).bind (asg b y)).bind (asg c z) = some σ' from e)
        obtain ⟨σ1, e1, e2⟩ := Option.bind_eq_some_iff.mp e2
        have h : j ∉ a.vars ++ b.vars ++ c.vars := h
        rw [List.mem_append, List.mem_append] at h
        rw [asg_other e3 fun q => h (.inr q), asg_other e2 fun q => h (.inl (.inr q)), asg_other e1 fun q => h (.inl (.inl q))]
      | [], e => cases e
      | [_], e => cases e
      | [_, _], e => cases e
      | _ :: _ :: _ :: _ :: _, e => cases e
    | _ => cases e
  | .t4 a b c c', d, σ, σ', j, e, h => by
    cases d with
    | tup ds =>
      match ds, e with
      | [x, y, z, w], e =>
        obtain ⟨σ3, e3, e4⟩ := Option.bind_eq_some_iff.mp (show (((asg a x σ).bind (asg b y)).bind (asg c z)).bind (asg c' w) = some σ' from e)
        obtain ⟨σ2, e2, e3⟩ := Option.bind_eq_some_iff.mp e3
        obtain ⟨σ1, e1, e2⟩ := Option.bind_eq_some_iff.mp e2
        have h : j ∉ a.vars ++ b.vars ++ c.vars ++ c'.vars := h
        rw [List.mem_append, List.mem_append, List.mem_append] at h
        rw [asg_other e4 fun q => h (.inr q), asg_other e3 fun q => h (.inl (.inr q)), asg_other e2 fun q => h (.inl (.inl (.inr q))), asg_other e1 fun q => h (.inl (.inl (.inl q)))]
      | [], e => cases e
      | [_], e => cases e
      | [_, _], e => cases e
      | [_, _, _], e => cases e
      | _ :: _ :: _ :: _ :: _ :: _, e => cases e
    | _ => cases e
theorem wipeA_out {σ : List IL.Slot} {i : Nat} : ∀ {vs : List Nat}, i ∉ vs → (IL.wipe σ vs)[i]? = σ[i]?
  | [], _ => rfl
  | v :: vs, h => by
    unfold IL.wipe
    rw [List.getElem?_set_ne fun e => h (by rw [e]; exact List.mem_cons_self), wipeA_out fun q => h (List.mem_cons_of_mem _ q)]
theorem wipe_idem {σ : St} (vs : List Nat) : L2.wipe (L2.wipe σ vs) vs = L2.wipe σ vs := by
  have gen : ∀ (ws : List Nat) (τ : St), (∀ w ∈ ws, w ∈ vs) → τ = L2.wipe σ vs → L2.wipe τ ws = L2.wipe σ vs := by
    intro ws
    induction ws with
    | nil => intro τ _ e; exact e
    | cons w ws ih =>
      intro τ h e
      show (L2.wipe τ ws).set w none = L2.wipe σ vs
      rw [ih τ (fun x hx => h x (List.mem_cons_of_mem _ hx)) e]
      have hw := h w List.mem_cons_self
      have : ∀ {us : List Nat}, w ∈ us → (L2.wipe σ us).set w none = L2.wipe σ us := by
        intro us
        induction us with
        | nil => intro h; cases h
        | cons u us ih2 =>
          intro h
          unfold L2.wipe
          by_cases q : w = u
          · subst q; rw [List.set_set]
          · have hm : w ∈ us := by rcases List.mem_cons.mp h with e | e; exact absurd e q; exact e
            rw [List.set_comm _ _ (Ne.symm q), ih2 hm]
      exact this hw
  exact gen vs _ (fun _ h => h) rfl
/-- behind a turn of a comprehension, the outer slots again -/
theorem Rel.back {F0 H0 : Hp} {ι0 : List Addr} {S0 : Store} {B0 : Hp} {σa' : List IL.Slot} {σ' : St} {vs : List Nat} (r0 : Rel K B0 F0 H0 ι0 col σa S0 σ) (r : Rel K B F H ι col σa' S σ') (s : Same F0 F) (p : ι0 <+: ι)
    (hv : noOwn σa vs = true) (h1 : ∀ j, j ∉ vs → σa'[j]? = σa[j]?) (h2 : L2.wipe σ' vs = L2.wipe σ vs) : Rel K B F H ι col σa S σ := by
  have lw : ∀ (σ : St), (L2.wipe σ vs).length = σ.length := fun σ => L2.wipe_length σ vs
  refine ⟨r.fh, r.bh, r.cf, r.io, r.nd, r.ln, r.st, r0.sl, fun j x o e1 e2 => ?_⟩
  by_cases q : j ∈ vs
  · have hx := List.all_eq_true.mp hv j q
    rw [e1] at hx
    have z := r0.slots j x o e1 e2
    cases x with
    | no => trivial
    | val d => obtain ⟨v, ev, rv⟩ := z; exact ⟨v, ev, Rep.mono s p d v rv⟩
    | own d => cases hx
    | own2 d => cases hx
  · refine r.slots j x o (by rw [h1 j q]; exact e1) ?_
    have this : (L2.wipe σ' vs)[j]? = (L2.wipe σ vs)[j]? := by rw [h2]
    rw [L2.wipe_out q, L2.wipe_out q] at this
    rw [this]; exact e2
end

section
variable {X : Cx} {K : PySem.W.Frag} {cl : Cl} {W : WX} {g : G} {a b c : Expr} {ea eb ec : E} {es : Es} {xs : List Expr} {pos : Pos}
abbrev W0 : WX := fun _ _ _ _ => False
theorem nox_ok {α : Type} {r : R α} {a : α} {S : Store} (h : r.nox = .ok a S) : r = .ok a S := by
  cases r with
  | ok b S' => exact h
  | exc _ _ => cases h
  | bad => cases h
theorem lc_tail {t : Tg} {B F1 H1 : Hp} {ι1 : List Addr} {col : Col} {σa : List IL.Slot} {S1 : Store} {σ : St} {J : L2.It} {ds : List D} {Q : VK} {f : D → Store → R (Option D)} (hpk : ea.isPk = false) (hno : noOwn σa t.vars = true)
    (hf : (fun (d : D) (S : Store) => match asg t d (IL.wipe σa t.vars) with
        | some σ' => ((evalAnd g σ' es S).bind fun b S' => (match b with
          | .bl true => (evalE g σ' ea S').bind fun y S'' => .ok (some y) S''
          | .bl false => .ok none S'
          | _ => .bad)).nox
        | none => .bad) = f) (rel1 : Rel K B F1 H1 ι1 col σa S1 σ) (wk : Wk K B J F1 ι1 ds) (hl : ds.length ≤ line)
    (h1 : EK ⟨K, cl, W, B, col, σa, σ⟩ F1 ι1 (rO ⟨K, cl, W, B, col, σa, σ⟩) ((lcLoop f ds S1).bind fun r S2 => .ok (.lst r) S2) Q) :
    tLc (fun _ H R => R J H) (gT K t) (tB' K cl W0 fun σa S => evalAnd g σa es S) (tR K cl W0 g ea) t.vars σ H1 Q := by
  intro Dd hD
  have fD := (rel1.free hD).1
  have bD := (rel1.free hD).2
  obtain ⟨iD, cD⟩ := rel1.off hD
  refine ⟨fun i m H => m = ds.length - i ∧ i ≤ ds.length ∧ ∃ F ι S acc dacc, Ext B F1 F ι1 ι ∧ F Dd = none ∧ Rel K (upd B Dd (.lst acc)) F H ι col σa S σ ∧ Reps K F ι dacc acc ∧ acc.length ≤ i ∧
    EK ⟨K, cl, W, B, col, σa, σ⟩ F ι (rO ⟨K, cl, W, B, col, σa, σ⟩) ((lcLoop f (ds.drop i) S).bind fun r S2 => .ok (.lst (dacc ++ r)) S2) Q,
    ⟨_, rfl, Nat.zero_le _, F1, ι1, S1, [], [], .refl, fD, (rel1.lay hD).addB upd_same cD iD, rfl, Nat.le_refl _, h1⟩, ?_⟩
  rintro i m H ⟨rfl, hi, F2, ι2, S2, acc, dacc, x2, f2, rel2, racc, lacc, h2⟩
  obtain ⟨stop, step⟩ := wk i _ F2 H ι2 col σa S2 σ (same_upd bD) x2.same x2.pre rel2
  have hH : H Dd = some (.lst acc) := rel2.bh Dd _ upd_same
  by_cases hlt : i < ds.length
  · refine .inr ?_
    obtain ⟨go, yld⟩ := step ds[i] (List.getElem?_eq_getElem hlt)
    refine ⟨go, fun H' => ∃ F ι S acc dacc, Ext B F1 F ι1 ι ∧ F Dd = none ∧ Rel K (upd B Dd (.lst acc)) F H' ι col σa S σ ∧ Reps K F ι dacc acc ∧ acc.length ≤ i + 1 ∧
      EK ⟨K, cl, W, B, col, σa, σ⟩ F ι (rO ⟨K, cl, W, B, col, σa, σ⟩) ((lcLoop f (ds.drop (i + 1)) S).bind fun r S2 => .ok (.lst (dacc ++ r)) S2) Q,
      fun H' z => ⟨ds.length - (i + 1), by omega, rfl, hlt, z⟩, fun x H' hy => ?_⟩
    obtain ⟨F3, x3, rel3, rx⟩ := yld x H' hy
    rw [List.drop_eq_getElem_cons hlt] at h2
    have h2 : EK _ F2 ι2 (rO _) (((f ds[i] S2).bind fun o S1 => (lcLoop f (ds.drop (i + 1)) S1).bind fun r S2 => .ok (match o with | some x => x :: r | none => r) S2).bind fun r S2 => .ok (.lst (dacc ++ r)) S2) Q := h2
    have efd : f ds[i] S2 = (match asg t ds[i] (IL.wipe σa t.vars) with
      | some σ' => ((evalAnd g σ' es S2).bind fun b S' => (match b with
        | .bl true => (evalE g σ' ea S').bind fun y S'' => .ok (some y) S''
        | .bl false => .ok none S'
        | _ => .bad)).nox
      | none => .bad) := by rw [← hf]
    cases ha : asg t ds[i] (IL.wipe σa t.vars) with
    | none => rw [ha] at efd; rw [efd] at h2; exact h2.elim
    | some σa' =>
      rw [ha] at efd
      have efd : f ds[i] S2 = ((evalAnd g σa' es S2).bind fun b S' => (match b with
        | .bl true => (evalE g σa' ea S').bind fun y S'' => .ok (some y) S''
        | .bl false => .ok none S'
        | _ => .bad)).nox := efd
      refine ⟨_, F3, ι2, col, _, S2, ds[i], rel3.wipe _, rx, σa', ha, fun σ2 rel4 hw => ?_⟩
      have hw2 : L2.wipe σ2 t.vars = L2.wipe σ t.vars := (hw t.vars fun _ h => h).trans (wipe_idem _)
      have oth : ∀ j, j ∉ t.vars → σa'[j]? = σa[j]? := fun j hj => (asg_other ha hj).trans (wipeA_out hj)
      refine ⟨hw2, _, col, σa', F3, ι2, S2, rel4, ?_⟩
      show EK _ F3 ι2 (rB _) (toB (evalAnd g σa' es S2)) _
      cases hand : evalAnd g σa' es S2 with
      | bad => rw [hand] at efd; rw [efd] at h2; exact h2.elim
      | exc x S3 => rw [hand] at efd; rw [efd] at h2; exact h2.elim
      | ok bd S3 =>
        rw [hand] at efd
        cases bd with
        | bl bb =>
          intro F5 H5 ι5 v5 x5 rel5 r5
          obtain rfl : v5 = bb := r5
          cases v5 with
          | false =>
            rw [if_neg Bool.false_ne_true]
            have efd : f ds[i] S2 = .ok none S3 := efd
            rw [efd] at h2
            have x25 := x3.trans x5
            refine ⟨F5, ι5, S3, acc, dacc, x2.trans x25.dropB, x25.keepN f2, Rel.back rel2 rel5 x25.same x25.pre hno oth hw2, Reps.mono x25.same x25.pre _ _ racc, by omega, ?_⟩
            have h2 : EK _ F2 ι2 (rO _) (((lcLoop f (ds.drop (i + 1)) S3).bind fun r S2 => .ok r S2).bind fun r S2 => .ok (.lst (dacc ++ r)) S2) Q := h2
            have e : ((lcLoop f (ds.drop (i + 1)) S3).bind fun r S2 => R.ok r S2) = lcLoop f (ds.drop (i + 1)) S3 := by cases lcLoop f (ds.drop (i + 1)) S3 <;> rfl
            rw [e] at h2
            exact h2.mono x25.dropB
          | true =>
            rw [if_pos rfl]
            have efd : f ds[i] S2 = ((evalE g σa' ea S3).bind fun y S'' => .ok (some y) S'').nox := efd
            refine ⟨_, col, σa', F5, ι5, S3, rel5, ?_⟩
            show EK _ F5 ι5 (rR ea _) (evalE g σa' ea S3) _
            cases hev : evalE g σa' ea S3 with
            | bad => rw [hev] at efd; rw [efd] at h2; exact h2.elim
            | exc x S4 => rw [hev] at efd; rw [efd] at h2; exact h2.elim
            | ok yd S4 =>
              rw [hev] at efd
              have efd : f ds[i] S2 = .ok (some yd) S4 := efd
              rw [efd] at h2
              intro F6 H6 ι6 v6 x6 rel6 r6
              rw [notPk hpk] at r6
              have x26 := (x3.trans x5).trans x6
              refine ⟨acc, rel6.bh Dd _ upd_same, by have := line_eq; omega, F6, ι6, S4, acc ++ [v6], dacc ++ [yd], x2.trans x26.dropB, x26.keepN f2, ?_, (Reps.mono x26.same x26.pre _ _ racc).append (.cons r6 .nil), by rw [List.length_append]; show acc.length + 1 ≤ _; omega, ?_⟩
              · exact (Rel.back rel2 rel6 x26.same x26.pre hno oth hw2).updB (x26.keepN f2) (fun _ _ z => by cases z)
              · have h2 : EK _ F2 ι2 (rO _) (((lcLoop f (ds.drop (i + 1)) S4).bind fun r S2 => .ok (yd :: r) S2).bind fun r S2 => .ok (.lst (dacc ++ r)) S2) Q := h2
                have e : (((lcLoop f (ds.drop (i + 1)) S4).bind fun r S2 => R.ok (yd :: r) S2).bind fun r S2 => R.ok (D.lst (dacc ++ r)) S2) = (lcLoop f (ds.drop (i + 1)) S4).bind fun r S2 => .ok (.lst (dacc ++ [yd] ++ r)) S2 := by
                  cases lcLoop f (ds.drop (i + 1)) S4 with
                  | ok r S5 => show R.ok _ _ = R.ok _ _; rw [List.append_assoc]; rfl
                  | exc _ _ => rfl
                  | bad => rfl
                rw [e] at h2
                exact h2.mono x26.dropB
        | _ => rw [efd] at h2; exact h2.elim
  · have hi2 : i = ds.length := by omega
    subst hi2
    refine .inl ⟨stop (Nat.le_refl _), ?_⟩
    rw [List.drop_length] at h2
    have h2 : EK _ F2 ι2 (rO _) (.ok (.lst (dacc ++ [])) S2) Q := h2
    rw [List.append_nil] at h2
    exact h2.at (rel2.dropB bD) ⟨Dd, acc, rfl, hH, f2, bD, cD, (fun q => by have := (rel2.io Dd q).2; rw [upd_same] at this; obtain ⟨_, _, z⟩ := this _ rfl; cases z), racc⟩
theorem lc_live {t : Tg} {B F1 H1 : Hp} {ι1 : List Addr} {col : Col} {σa : List IL.Slot} {S1 : Store} {σ : St} {Q : VK} {f : D → Store → R (Option D)} (hpk : ea.isPk = false) (hno : noOwn σa t.vars = true)
    (hf : (fun (d : D) (S : Store) => match asg t d (IL.wipe σa t.vars) with
        | some σ' => ((evalAnd g σ' es S).bind fun b S' => (match b with
          | .bl true => (evalE g σ' ea S').bind fun y S'' => .ok (some y) S''
          | .bl false => .ok none S'
          | _ => .bad)).nox
        | none => .bad) = f) (rel1 : Rel K B F1 H1 ι1 col σa S1 σ) {n N : Nat} {a : Addr} (hi0 : ι1[n]? = some a) (hN : N ≤ line)
    (h1 : EK ⟨K, cl, W, B, col, σa, σ⟩ F1 ι1 (rO ⟨K, cl, W, B, col, σa, σ⟩) ((lcLive f n N 0 S1).bind fun r S2 => .ok (.lst r) S2) Q) :
    tLc (fun _ H R => R (Itl K a) H) (gT K t) (tB' K cl W0 fun σa S => evalAnd g σa es S) (tR K cl W0 g ea) t.vars σ H1 Q := by
  intro Dd hD
  have fD := (rel1.free hD).1
  have bD := (rel1.free hD).2
  obtain ⟨iD, cD⟩ := rel1.off hD
  refine ⟨fun i m H => m + i = N ∧ ∃ F ι S acc dacc, Ext B F1 F ι1 ι ∧ F Dd = none ∧ Rel K (upd B Dd (.lst acc)) F H ι col σa S σ ∧ Reps K F ι dacc acc ∧ acc.length ≤ i ∧
    EK ⟨K, cl, W, B, col, σa, σ⟩ F ι (rO ⟨K, cl, W, B, col, σa, σ⟩) ((lcLive f n m i S).bind fun r S2 => .ok (.lst (dacc ++ r)) S2) Q,
    ⟨N, rfl, F1, ι1, S1, [], [], .refl, fD, (rel1.lay hD).addB upd_same cD iD, rfl, Nat.le_refl _, h1⟩, ?_⟩
  rintro i m H ⟨hmi, F2, ι2, S2, acc, dacc, x2, f2, rel2, racc, lacc, h2⟩
  cases m with
  | zero => exact h2.elim
  | succ m =>
  have hi2 := pre_get x2.pre hi0
  have lv : lcLive f n (m + 1) i S2 = (match S2[n]? with
    | some (.lst ds) => (match ds[i]? with
      | some d => (f d S2).bind fun o S1 => (lcLive f n m (i + 1) S1).bind fun r S2 => .ok (match o with | some x => x :: r | none => r) S2
      | none => .ok [] S2)
    | _ => .bad) := rfl
  rw [lv] at h2
  cases hs : S2[n]? with
  | none => rw [hs] at h2; exact h2.elim
  | some ob =>
  rw [hs] at h2
  cases ob with
  | dct _ _ => exact h2.elim
  | ins _ _ => exact h2.elim
  | dcl _ _ => exact h2.elim
  | lst ds =>
  dsimp only at h2
  obtain ⟨vs, ha0, qs⟩ := rel2.st n _ a hs hi2
  have sq : SqL K H a vs := SqL.of ha0
  have vl := qs.length
  have hH : H Dd = some (.lst acc) := rel2.bh Dd _ upd_same
  by_cases hlt : i < ds.length
  · refine .inr ?_
    obtain ⟨v0, hv0, rv0⟩ := qs.get (List.getElem?_eq_getElem hlt)
    have go : (Itl K a).go i H := ⟨vs, v0, sq, hv0⟩
    have yld : ∀ x H', (Itl K a).yld i H x H' → ∃ F', Ext (upd B Dd (.lst acc)) F2 F' ι2 ι2 ∧ Rel K (upd B Dd (.lst acc)) F' H' ι2 col σa S2 σ ∧ Rep K F' ι2 ds[i] x := fun x H' ⟨e, k⟩ => by
      subst e
      have := k vs sq
      rw [hv0] at this; cases this
      exact ⟨F2, .refl, rel2, rv0⟩
    rw [List.getElem?_eq_getElem hlt] at h2
    refine ⟨go, fun H' => ∃ F ι S acc dacc, Ext B F1 F ι1 ι ∧ F Dd = none ∧ Rel K (upd B Dd (.lst acc)) F H' ι col σa S σ ∧ Reps K F ι dacc acc ∧ acc.length ≤ i + 1 ∧
      EK ⟨K, cl, W, B, col, σa, σ⟩ F ι (rO ⟨K, cl, W, B, col, σa, σ⟩) ((lcLive f n m (i + 1) S).bind fun r S2 => .ok (.lst (dacc ++ r)) S2) Q,
      fun H' z => ⟨m, by omega, by omega, z⟩, fun x H' hy => ?_⟩
    obtain ⟨F3, x3, rel3, rx⟩ := yld x H' hy
    have h2 : EK _ F2 ι2 (rO _) (((f ds[i] S2).bind fun o S1 => (lcLive f n m (i + 1) S1).bind fun r S2 => .ok (match o with | some x => x :: r | none => r) S2).bind fun r S2 => .ok (.lst (dacc ++ r)) S2) Q := h2
    have efd : f ds[i] S2 = (match asg t ds[i] (IL.wipe σa t.vars) with
      | some σ' => ((evalAnd g σ' es S2).bind fun b S' => (match b with
        | .bl true => (evalE g σ' ea S').bind fun y S'' => .ok (some y) S''
        | .bl false => .ok none S'
        | _ => .bad)).nox
      | none => .bad) := by rw [← hf]
    cases ha : asg t ds[i] (IL.wipe σa t.vars) with
    | none => rw [ha] at efd; rw [efd] at h2; exact h2.elim
    | some σa' =>
      rw [ha] at efd
      have efd : f ds[i] S2 = ((evalAnd g σa' es S2).bind fun b S' => (match b with
        | .bl true => (evalE g σa' ea S').bind fun y S'' => .ok (some y) S''
        | .bl false => .ok none S'
        | _ => .bad)).nox := efd
      refine ⟨_, F3, ι2, col, _, S2, ds[i], rel3.wipe _, rx, σa', ha, fun σ2 rel4 hw => ?_⟩
      have hw2 : L2.wipe σ2 t.vars = L2.wipe σ t.vars := (hw t.vars fun _ h => h).trans (wipe_idem _)
      have oth : ∀ j, j ∉ t.vars → σa'[j]? = σa[j]? := fun j hj => (asg_other ha hj).trans (wipeA_out hj)
      refine ⟨hw2, _, col, σa', F3, ι2, S2, rel4, ?_⟩
      show EK _ F3 ι2 (rB _) (toB (evalAnd g σa' es S2)) _
      cases hand : evalAnd g σa' es S2 with
      | bad => rw [hand] at efd; rw [efd] at h2; exact h2.elim
      | exc x S3 => rw [hand] at efd; rw [efd] at h2; exact h2.elim
      | ok bd S3 =>
        rw [hand] at efd
        cases bd with
        | bl bb =>
          intro F5 H5 ι5 v5 x5 rel5 r5
          obtain rfl : v5 = bb := r5
          cases v5 with
          | false =>
            rw [if_neg Bool.false_ne_true]
            have efd : f ds[i] S2 = .ok none S3 := efd
            rw [efd] at h2
            have x25 := x3.trans x5
            refine ⟨F5, ι5, S3, acc, dacc, x2.trans x25.dropB, x25.keepN f2, Rel.back rel2 rel5 x25.same x25.pre hno oth hw2, Reps.mono x25.same x25.pre _ _ racc, by omega, ?_⟩
            have h2 : EK _ F2 ι2 (rO _) (((lcLive f n m (i + 1) S3).bind fun r S2 => .ok r S2).bind fun r S2 => .ok (.lst (dacc ++ r)) S2) Q := h2
            have e : ((lcLive f n m (i + 1) S3).bind fun r S2 => R.ok r S2) = lcLive f n m (i + 1) S3 := by cases lcLive f n m (i + 1) S3 <;> rfl
            rw [e] at h2
            exact h2.mono x25.dropB
          | true =>
            rw [if_pos rfl]
            have efd : f ds[i] S2 = ((evalE g σa' ea S3).bind fun y S'' => .ok (some y) S'').nox := efd
            refine ⟨_, col, σa', F5, ι5, S3, rel5, ?_⟩
            show EK _ F5 ι5 (rR ea _) (evalE g σa' ea S3) _
            cases hev : evalE g σa' ea S3 with
            | bad => rw [hev] at efd; rw [efd] at h2; exact h2.elim
            | exc x S4 => rw [hev] at efd; rw [efd] at h2; exact h2.elim
            | ok yd S4 =>
              rw [hev] at efd
              have efd : f ds[i] S2 = .ok (some yd) S4 := efd
              rw [efd] at h2
              intro F6 H6 ι6 v6 x6 rel6 r6
              rw [notPk hpk] at r6
              have x26 := (x3.trans x5).trans x6
              refine ⟨acc, rel6.bh Dd _ upd_same, by have := line_eq; omega, F6, ι6, S4, acc ++ [v6], dacc ++ [yd], x2.trans x26.dropB, x26.keepN f2, ?_, (Reps.mono x26.same x26.pre _ _ racc).append (.cons r6 .nil), by rw [List.length_append]; show acc.length + 1 ≤ _; omega, ?_⟩
              · exact (Rel.back rel2 rel6 x26.same x26.pre hno oth hw2).updB (x26.keepN f2) (fun _ _ z => by cases z)
              · have h2 : EK _ F2 ι2 (rO _) (((lcLive f n m (i + 1) S4).bind fun r S2 => .ok (yd :: r) S2).bind fun r S2 => .ok (.lst (dacc ++ r)) S2) Q := h2
                have e : (((lcLive f n m (i + 1) S4).bind fun r S2 => R.ok (yd :: r) S2).bind fun r S2 => R.ok (D.lst (dacc ++ r)) S2) = (lcLive f n m (i + 1) S4).bind fun r S2 => .ok (.lst (dacc ++ [yd] ++ r)) S2 := by
                  cases lcLive f n m (i + 1) S4 with
                  | ok r S5 => show R.ok _ _ = R.ok _ _; rw [List.append_assoc]; rfl
                  | exc _ _ => rfl
                  | bad => rfl
                rw [e] at h2
                exact h2.mono x26.dropB
        | _ => rw [efd] at h2; exact h2.elim
  · refine .inl ⟨⟨vs, sq, by omega⟩, ?_⟩
    rw [List.getElem?_eq_none (by omega)] at h2
    have h2 : EK _ F2 ι2 (rO _) (.ok (.lst (dacc ++ [])) S2) Q := h2
    rw [List.append_nil] at h2
    exact h2.at (rel2.dropB bD) ⟨Dd, acc, rfl, hH, f2, bD, cD, (fun q => by have := (rel2.io Dd q).2; rw [upd_same] at this; obtain ⟨_, _, z⟩ := this _ rfl; cases z), racc⟩
theorem lc_read {t : Tg} {it : IL.It} : ∀ σ H Q, tE K cl W g (.lc t it es ea) σ H Q → tLc (tI K cl W g it) (gT K t) (tB' K cl W0 fun σa S => evalAnd g σa es S) (tR K cl W0 g ea) t.vars σ H Q := by
  rintro σ H Q ⟨B, col, σa, F, ι, S, rel, h⟩
  have h : EK ⟨K, cl, W, B, col, σa, σ⟩ F ι (rO ⟨K, cl, W, B, col, σa, σ⟩) (if ea.isPk || !noOwn σa t.vars then .bad else (evalIt g σa it S).bind fun ds S1 => if ds.length ≤ line then
      (lcLoop (fun d S => match asg t d (IL.wipe σa t.vars) with
        | some σ' => ((evalAnd g σ' es S).bind fun b S' => (match b with
          | .bl true => (evalE g σ' ea S').bind fun y S'' => .ok (some y) S''
          | .bl false => .ok none S'
          | _ => .bad)).nox
        | none => .bad) ds S1).bind fun r S2 => .ok (.lst r) S2
    else .bad) Q := h
  cases hpk : (ea.isPk || !noOwn σa t.vars) with
  | true => rw [hpk] at h; exact h.elim
  | false =>
    rw [hpk, if_neg Bool.false_ne_true] at h
    rw [Bool.or_eq_false_iff, Bool.not_eq_false'] at hpk
    obtain ⟨hpk, hno⟩ := hpk
    generalize hf : (fun (d : D) (S : Store) => match asg t d (IL.wipe σa t.vars) with
        | some σ' => ((evalAnd g σ' es S).bind fun b S' => (match b with
          | .bl true => (evalE g σ' ea S').bind fun y S'' => .ok (some y) S''
          | .bl false => .ok none S'
          | _ => .bad)).nox
        | none => .bad) = f at h
    refine ⟨B, col, σa, F, ι, S, rel, EK.bind h fun ds S1 F1 H1 ι1 J x1 rel1 wk h1 => ?_⟩
    by_cases hl : ds.length ≤ line
    · rw [if_pos hl] at h1
      exact lc_tail hpk hno hf rel1 wk hl h1
    · rw [if_neg hl] at h1; exact h1.elim
theorem s_lc {elt tg iter : Expr} {ifs : List Expr} {scope : Scope} {own : List (Str × Nat)} {t : Tg} {it : IL.It} (hc : X.calm = true) (hN : X.N.Nodup) (hi : PI X tg iter (tI K cl W g it)) (ok : BlkOk X.N X.env.scope scope own) (hv : own.map (·.2) = t.vars)
    (hg : ∀ (s : Shared) (H : Hp) (C : Addr) (cl : List (Str × Addr)) (fp : List Addr), PG (X.blk s H scope (compEnvC scope cl C X.env) fp) tg (gT K t))
    (ht : ∀ (s : Shared) (H : Hp) (C : Addr) (cl' : List (Str × Addr)) (fp : List Addr), PTs (X.blk s H scope (compEnvC scope cl' C X.env) fp) ifs (tB' K cl W0 fun σa S => evalAnd g σa es S))
    (he : ∀ (s : Shared) (H : Hp) (C : Addr) (cl' : List (Str × Addr)) (fp : List Addr), PE (X.blk s H scope (compEnvC scope cl' C X.env) fp) elt (tR K cl W0 g ea)) (hp : plainB iter = true) :
    PE X (.ListComp elt [⟨tg, iter, ifs, 0⟩] scope pos) (tE K cl W g (.lc t it es ea)) := by
  have h := pe_lc (pos := pos) hc hN hi ok hg ht he (noset hp)
  rw [hv] at h
  exact h.imp lc_read
end
end IL
/-! Soundness, part L: statements. -/
namespace IL
open PySem L2

section
variable {K : PySem.W.Frag} {B F H F' H' : Hp} {ι ι' : List Addr} {col col' : Col} {σa σa' : List IL.Slot} {S S' : Store} {σ σ' : St}
theorem Rel.strip (r : Rel K B F H ι col σa S σ) : Rel K B F H ι col0 [] S [] :=
  ⟨r.fh, r.bh, fun a c e => (nomatch e), r.io, r.nd, r.ln, r.st, rfl, fun i s o e => (nomatch (show none = some s by simpa using e))⟩
open Classical in
noncomputable def colSet (col : Col) (a : Addr) (c : Nat × Option Nat) : Col := fun b => if b = a then some c else col b
theorem colSet_self {col : Col} {a : Addr} {c : Nat × Option Nat} : colSet col a c a = some c := by unfold colSet; rw [if_pos rfl]
theorem colSet_ne {col : Col} {a b : Addr} {c : Nat × Option Nat} (h : b ≠ a) : colSet col a c b = col b := by unfold colSet; rw [if_neg h]
/-- a new list or dict of nobody's becomes a slot's own -/
theorem SlotR.recol {i : Nat} {x : IL.Slot} {o : Option V} (k : ∀ a c, col a = some c → col' a = some c) (h : SlotR K F H ι col i x o) : SlotR K F H ι col' i x o := by
  cases x with
  | no => trivial
  | val d => exact h
  | own d =>
    cases d with
    | lst ds => obtain ⟨a, vs, e, ha, c, r⟩ := h; exact ⟨a, vs, e, ha, k a _ c, r⟩
    | dct ks ds => obtain ⟨a, kvs, e, ha, c, q, r⟩ := h; exact ⟨a, kvs, e, ha, k a _ c, q, r⟩
    | _ => exact h.elim
  | own2 d =>
    cases d with
    | lst ds =>
      obtain ⟨a, vs, e, ha, c, l, r⟩ := h
      refine ⟨a, vs, e, ha, k a _ c, l, fun j d v h1 h2 => ?_⟩
      obtain ⟨b, ws, es, e1, e2, hb, cb, rr⟩ := r j d v h1 h2
      exact ⟨b, ws, es, e1, e2, hb, k b _ cb, rr⟩
    | _ => exact h.elim
theorem Rel.setOwn (r : Rel K B F H ι col σa S σ) {i : Nat} {a : Addr} {d : D} (hf : F a = none) (hb : B a = none) (hc : col a = none) (hi : a ∉ ι) (hk : (∃ xs, H a = some (.lst xs)) ∨ ∃ kvs, H a = some (.dK kvs))
    (new : SlotR K F H ι (colSet col a (i, none)) i (.own d) (some (.ref a))) : Rel K B F H ι (colSet col a (i, none)) (σa.set i (.own d)) S (σ.set i (some (.ref a))) := by
  have ck : ∀ b c, col b = some c → colSet col a (i, none) b = some c := fun b c e => by rw [colSet_ne fun z => by subst z; rw [hc] at e; cases e]; exact e
  refine ⟨r.fh, r.bh, fun b c e => ?_, r.io, r.nd, r.ln, r.st, by rw [List.length_set, List.length_set]; exact r.sl, fun j s o h1 h2 => ?_⟩
  · by_cases q : b = a
    · subst q; exact ⟨hf, hb, hi, hk⟩
    · rw [colSet_ne q] at e; exact r.cf b c e
  · by_cases q : j = i
    · subst q
      have hl : j < σa.length := by have := (List.getElem?_eq_some_iff.mp h1).1; rwa [List.length_set] at this
      rw [List.getElem?_set_self hl] at h1
      rw [List.getElem?_set_self (by rw [← r.sl]; exact hl)] at h2
      cases h1; cases h2
      exact new
    · rw [List.getElem?_set_ne (Ne.symm q)] at h1 h2
      exact SlotR.recol ck (r.slots j s o h1 h2)
/-- a slot's own thing is written -/
theorem Rel.updOwn (r : Rel K B F H ι col σa S σ) {i : Nat} {a : Addr} {d : D} {u : HO} (hc : col a = some (i, none)) (ho : ∀ s o, σa[i]? = some s → σ[i]? = some o → (∃ d', s = .own d') ∧ o = some (.ref a)) (hk : (∃ xs, u = .lst xs) ∨ ∃ kvs, u = .dK kvs)
    (new : SlotR K F (upd H a u) ι col i (.own d) (some (.ref a))) : Rel K B F (upd H a u) ι col (σa.set i (.own d)) S σ := by
  obtain ⟨hf, hb, hi, _⟩ := r.cf a _ hc
  refine ⟨fun b o e => by rw [upd_ne fun z => by subst z; rw [hf] at e; cases e]; exact r.fh b o e, fun b o e => by rw [upd_ne fun z => by subst z; rw [hb] at e; cases e]; exact r.bh b o e, fun b c e => ?_, r.io, r.nd, r.ln,
    fun n o b h1 h2 => ObjR.mono (Same.refl F) (List.prefix_refl _) (upd_ne fun z => by subst z; exact hi (List.mem_of_getElem? h2)) (r.st n o b h1 h2), by rw [List.length_set]; exact r.sl, fun j s o h1 h2 => ?_⟩
  · obtain ⟨h1, h2, h3, h4⟩ := r.cf b c e
    refine ⟨h1, h2, h3, ?_⟩
    by_cases q : b = a
    · subst q; rw [upd_same]; exact hk.imp (fun ⟨xs, e⟩ => ⟨xs, congrArg some e⟩) fun ⟨xs, e⟩ => ⟨xs, congrArg some e⟩
    · rw [upd_ne q]; exact h4
  · by_cases q : j = i
    · subst q
      have hl : j < σa.length := by have := (List.getElem?_eq_some_iff.mp h1).1; rwa [List.length_set] at this
      rw [List.getElem?_set_self hl] at h1
      cases h1
      have := (ho _ o (List.getElem?_eq_getElem hl) h2).2
      rw [this]
      exact new
    · rw [List.getElem?_set_ne (Ne.symm q)] at h1
      have z := r.slots j s o h1 h2
      -- other slots' things stand elsewhere
      cases s with
      | no => trivial
      | val d => exact z
      | own d =>
        cases d with
        | lst ds =>
          obtain ⟨b, vs, e, ha, c, rr⟩ := z
          have ne : b ≠ a := fun w => by subst w; rw [hc] at c; cases c; exact q rfl
          exact ⟨b, vs, e, by rw [upd_ne ne]; exact ha, c, rr⟩
        | dct ks ds =>
          obtain ⟨b, vs, e, ha, c, k, rr⟩ := z
          have ne : b ≠ a := fun w => by subst w; rw [hc] at c; cases c; exact q rfl
          exact ⟨b, vs, e, by rw [upd_ne ne]; exact ha, c, k, rr⟩
        | _ => exact z.elim
      | own2 d =>
        cases d with
        | lst ds =>
          obtain ⟨b, vs, e, ha, c, l, rr⟩ := z
          have ne : b ≠ a := fun w => by subst w; rw [hc] at c; cases c; exact q rfl
          refine ⟨b, vs, e, by rw [upd_ne ne]; exact ha, c, l, fun k d v h1 h2 => ?_⟩
          obtain ⟨b2, ws, es, e1, e2, hb2, cb, rr2⟩ := rr k d v h1 h2
          exact ⟨b2, ws, es, e1, e2, by rw [upd_ne fun w => by subst w; rw [hc] at cb; cases cb]; exact hb2, cb, rr2⟩
        | _ => exact z.elim
end

/-! ### the wish at a statement's end -/
def SK (K : PySem.W.Frag) (cl : Cl) (W : WX) (B F : Hp) (ι : List Addr) (r : RS) (D : Ends) : Prop := match r with
  | .nx σa S => ∀ F' H' ι' col σ, Ext B F F' ι ι' → Rel K B F' H' ι' col σa S σ → D.nx σ H'
  | .rt d o S => ∀ F' H' ι' v, Ext B F F' ι ι' → Rel K B F' H' ι' col0 [] S [] → (if o then rO else rF) ⟨K, cl, W, B, col0, [], []⟩ d F' H' ι' v → D.rt v H'
  | .exc x σa S => ∀ F' H' ι' col σ cls d, Ext B F F' ι ι' → Rel K B F' H' ι' col σa S σ → ExcR K x cls d H' → W cls d σ H'
  | .bad => False
theorem SK.mono {K : PySem.W.Frag} {cl : Cl} {W : WX} {B F F1 : Hp} {ι ι1 : List Addr} {r : RS} {D : Ends} (h : SK K cl W B F ι r D) (x : Ext B F F1 ι ι1) : SK K cl W B F1 ι1 r D := by
  cases r with
  | nx σa S => exact fun F' H' ι' col σ x' => h F' H' ι' col σ (x.trans x')
  | rt d o S => exact fun F' H' ι' v x' => h F' H' ι' v (x.trans x')
  | exc y σa S => exact fun F' H' ι' col σ cls d x' => h F' H' ι' col σ cls d (x.trans x')
  | bad => exact h
def tS (K : PySem.W.Frag) (cl : Cl) (W : WX) (ev : List IL.Slot → Store → RS) : TS := fun D σ H => ∃ B col σa F ι S, Rel K B F H ι col σa S σ ∧ SK K cl W B F ι (ev σa S) D
/-- from a statement's wish to its expression's -/
theorem SK.bind {α β : Type} {K : PySem.W.Frag} {cl : Cl} {W : WX} {B F : Hp} {ι : List Addr} {col : Col} {σa : List IL.Slot} {σ : St} {ra : α → Hp → Hp → List Addr → β → Prop} {r : R α} {f : α → Store → RS} {D : Ends} {Q' : β → Hp → Prop} (h : SK K cl W B F ι (r.toS σa f) D)
    (k : ∀ d S F1 H1 ι1 v, Ext B F F1 ι ι1 → Rel K B F1 H1 ι1 col σa S σ → ra d F1 H1 ι1 v → SK K cl W B F1 ι1 (f d S) D → Q' v H1) : EK ⟨K, cl, W, B, col, σa, σ⟩ F ι ra r Q' := by
  cases r with
  | ok d S => exact fun F' H' ι' v s rel r => k d S F' H' ι' v s rel r (SK.mono h s)
  | exc x S => exact fun F' H' ι' cls d s rel r => h F' H' ι' col σ cls d s rel r
  | bad => exact h

section
variable {X : Cx} {K : PySem.W.Frag} {cl : Cl} {W : WX} {g : G} {a b c : Expr} {ea eb ec : E} {es : Es} {xs : List Expr} {pos : Pos}
abbrev tSt (K : PySem.W.Frag) (cl : Cl) (W : WX) (g : G) (s : S) : TS := tS K cl W fun σa S => exec g s σa S
abbrev tSs (K : PySem.W.Frag) (cl : Cl) (W : WX) (g : G) (ss : Ss) : TS := tS K cl W fun σa S => execs g ss σa S
theorem ss_nil : PSs X [] (tSs K cl W g .nil) := pss_nil.imp fun D σ H ⟨B, col, σa, F, ι, S, rel, h⟩ => h F H ι col σ .refl rel
theorem seq_read {t : S} {u : Ss} : ∀ D σ H, tSs K cl W g (.cons t u) D σ H → tSeq (tSt K cl W g t) (tSs K cl W g u) D σ H := by
  rintro D σ H ⟨B, col, σa, F, ι, S, rel, h⟩
  refine ⟨B, col, σa, F, ι, S, rel, ?_⟩
  have h : SK K cl W B F ι ((exec g t σa S).then (execs g u)) D := h
  show SK K cl W B F ι (exec g t σa S) { D with nx := tSs K cl W g u D }
  cases e : exec g t σa S with
  | nx σ1 S1 =>
    rw [e] at h
    exact fun F' H' ι' col' σ' x rel' => ⟨B, col', σ1, F', ι', S1, rel', SK.mono h x⟩
  | rt d o S1 => rw [e] at h; exact h
  | exc x σ1 S1 => rw [e] at h; exact h
  | bad => rw [e] at h; exact h
theorem ss_cons {st : Stmt} {rest : List Stmt} {t : S} {u : Ss} (h1 : PS X st (tSt K cl W g t)) (h2 : PSs X rest (tSs K cl W g u)) : PSs X (st :: rest) (tSs K cl W g (.cons t u)) := (pss_cons h1 h2).imp seq_read
/-- a ghost step -/
theorem ss_fz {i : Nat} {sts : List Stmt} {u : Ss} (h2 : PSs X sts (tSs K cl W g u)) : PSs X sts (tSs K cl W g (.cons (.fz i) u)) := by
  refine h2.imp ?_
  rintro D σ H ⟨B, col, σa, F, ι, S, rel, h⟩
  have h : SK K cl W B F ι ((match σa[i]? with
    | some (.own d) => RS.nx (σa.set i (.val d)) S
    | some (.val d) => .nx σa S
    | _ => .bad).then (execs g u)) D := h
  cases e : σa[i]? with
  | none => rw [e] at h; exact h.elim
  | some s =>
    rw [e] at h
    have hi : i < σ.length := by rw [← rel.sl]; exact (List.getElem?_eq_some_iff.mp e).1
    have z := rel.slots i _ _ e (List.getElem?_eq_getElem hi)
    cases s with
    | no => exact h.elim
    | val d => exact ⟨B, col, σa, F, ι, S, rel, h⟩
    | own d =>
      have fin : ∀ (p : Addr) (o : HO), σ[i]? = some (some (.ref p)) → H p = some o → col p = some (i, none) → (∀ (F1 : Hp) (s : Same F F1), F1 p = some o → Rep K F1 ι d (.ref p)) → tSs K cl W g u D σ H := fun p o hv hp hc hr => by
        obtain ⟨f1, b1, i1, _⟩ := rel.cf p _ hc
        have s := same_upd (o := o) f1
        have x : Ext B F (upd F p o) ι ι := ⟨s, List.prefix_refl _, fun b u z => by
          by_cases w : b = p
          · subst w; exact .inr b1
          · rw [upd_ne w] at z; exact .inl z⟩
        refine ⟨B, fun b => if col b = some (i, none) then none else col b, σa.set i (.val d), upd F p o, ι, S, ?_, SK.mono h x⟩
        refine ⟨fun b u e2 => ?_, rel.bh, fun b c e2 => ?_, fun b hb => ?_, rel.nd, rel.ln, fun n o' b h1 h2 => ObjR.mono s (List.prefix_refl _) rfl (rel.st n o' b h1 h2), by rw [List.length_set]; exact rel.sl, fun j s' o' h1 h2 => ?_⟩
        · by_cases w : b = p
          · subst w; rw [upd_same] at e2; cases e2; exact .inl hp
          · rw [upd_ne w] at e2; exact rel.fh b u e2
        · by_cases w : col b = some (i, none)
          · have e2 : (if col b = some (i, none) then none else col b) = some c := e2
            rw [if_pos w] at e2; cases e2
          · have e2 : (if col b = some (i, none) then none else col b) = some c := e2
            rw [if_neg w] at e2
            obtain ⟨g1, g2, g3, g4⟩ := rel.cf b c e2
            have ne : b ≠ p := fun q => by subst q; exact w hc
            exact ⟨by rw [upd_ne ne]; exact g1, g2, g3, g4⟩
        · obtain ⟨g1, g2⟩ := rel.io b hb
          have ne : b ≠ p := fun q => by subst q; exact i1 hb
          exact ⟨by rw [upd_ne ne]; exact g1, g2⟩
        · by_cases q : j = i
          · subst q
            have hl : j < σa.length := by have := (List.getElem?_eq_some_iff.mp h1).1; rwa [List.length_set] at this
            rw [List.getElem?_set_self hl] at h1
            cases h1
            rw [hv] at h2; cases h2
            exact ⟨_, rfl, hr _ s upd_same⟩
          · rw [List.getElem?_set_ne (Ne.symm q)] at h1
            have z := SlotR.mono (H' := H) s (List.prefix_refl ι) (fun a c _ o e => e) (rel.slots j s' o' h1 h2)
            have ck : ∀ (b : Addr) (m : Option Nat), col b = some (j, m) → (if col b = some (i, none) then none else col b) = some (j, m) := fun b m e => by rw [if_neg fun w => by rw [e] at w; cases w; exact q rfl]; exact e
            cases s' with
            | no => trivial
            | val d => exact z
            | own d =>
              cases d with
              | lst ds => obtain ⟨a, vs, e, ha, c, r⟩ := z; exact ⟨a, vs, e, ha, ck a _ c, r⟩
              | dct ks ds => obtain ⟨a, kvs, e, ha, c, q, r⟩ := z; exact ⟨a, kvs, e, ha, ck a _ c, q, r⟩
              | _ => exact z.elim
            | own2 d =>
              cases d with
              | lst ds =>
                obtain ⟨a, vs, e, ha, c, l, r⟩ := z
                refine ⟨a, vs, e, ha, ck a _ c, l, fun j d v h1 h2 => ?_⟩
                obtain ⟨b, ws, es, e1, e2, hb, cb, rr⟩ := r j d v h1 h2
                exact ⟨b, ws, es, e1, e2, hb, ck b _ cb, rr⟩
              | _ => exact z.elim
      cases d with
      | lst ds =>
        obtain ⟨p, vs, ev, hp, hc, q1⟩ := z
        exact fin p (.lst vs) (by rw [List.getElem?_eq_getElem hi, ev]) hp hc fun F1 s e => ⟨p, vs, rfl, e, Reps.mono s (List.prefix_refl _) _ _ q1⟩
      | dct ks ds =>
        obtain ⟨p, kvs, ev, hp, hc, kk, q1⟩ := z
        exact fin p (.dK kvs) (by rw [List.getElem?_eq_getElem hi, ev]) hp hc fun F1 s e => ⟨p, kvs, rfl, e, kk, Reps.mono s (List.prefix_refl _) _ _ q1⟩
      | _ => exact z.elim
    | own2 d => exact h.elim
end
end IL
/-! Soundness, part M: statements, the forms. -/
namespace IL
open PySem L2

section
variable {X : Cx} {K : PySem.W.Frag} {cl : Cl} {W : WX} {g : G} {a b c : Expr} {ea eb ec : E} {es : Es} {xs : List Expr} {pos : Pos}
theorem rE_alloc {fr : Nat → Bool} {e : E} (h : e.alloc fr = true) : rE fr e = rO := by
  unfold rE
  cases e with
  | pk i => cases h
  | _ => dsimp only; rw [if_pos h]
theorem rE_noalloc {fr : Nat → Bool} {e : E} (h : e.alloc fr = false) (np : e.isPk = false) : rE fr e = rF := by
  unfold rE
  cases e with
  | pk i => cases np
  | _ => dsimp only; rw [h]; rfl
/-- a new thing stored as a slot's own -/
theorem Rel.setO {B F H : Hp} {ι : List Addr} {col : Col} {σa : List IL.Slot} {S : Store} {σ : St} {d : D} {v : V} (rel : Rel K B F H ι col σa S σ) (i : Nat) (r : rO ⟨K, cl, W, B, col, σa, σ⟩ d F H ι v) :
    ∃ col', Rel K B F H ι col' (σa.set i (mkSlot 1 d)) S (σ.set i (some v)) := by
  cases d with
  | lst ds =>
    obtain ⟨p, vs, rfl, hp, hf, hb, hc, hi, q⟩ := r
    exact ⟨_, rel.setOwn hf hb hc hi (.inl ⟨_, hp⟩) ⟨p, vs, rfl, hp, colSet_self, q⟩⟩
  | dct ks ds =>
    obtain ⟨p, vs, rfl, hp, hf, hb, hc, hi, kk, q⟩ := r
    exact ⟨_, rel.setOwn hf hb hc hi (.inr ⟨_, hp⟩) ⟨p, vs, rfl, hp, colSet_self, kk, q⟩⟩
  | _ => exact ⟨col, rel.setVal r⟩
theorem set_read {i o : Nat} : ∀ D σ H, tSt K cl W g (.set i o ea) D σ H → tAsg (tE K cl W g ea) (gName i) D σ H := by
  rintro D σ H ⟨B, col, σa, F, ι, S, rel, h⟩
  have h : SK K cl W B F ι (if ea.isPk then .bad else (evalE g σa ea S).toS σa fun d S1 => if i < σa.length then (if o = 0 || (o = 1 && ea.alloc g.fr) then .nx (σa.set i (mkSlot o d)) S1 else .bad) else .bad) D := h
  cases np : ea.isPk with
  | true => rw [np] at h; exact h.elim
  | false =>
    rw [np, if_neg Bool.false_ne_true] at h
    refine ⟨B, col, σa, F, ι, S, rel, ?_⟩
    by_cases h0 : o = 0
    · subst h0
      refine frzE (SK.bind h fun d S1 F1 H1 ι1 v x rel1 r h1 => ?_)
      rw [notPk np] at r
      by_cases hi : i < σa.length
      · rw [if_pos hi] at h1
        exact h1 F1 H1 ι1 col _ .refl (rel1.setVal r)
      · rw [if_neg hi] at h1; exact h1.elim
    · refine SK.bind h fun d S1 F1 H1 ι1 v x rel1 r h1 => ?_
      by_cases hi : i < σa.length
      · rw [if_pos hi] at h1
        by_cases h2 : o = 1
        · subst h2
          cases ha : ea.alloc g.fr with
          | false => rw [ha] at h1; exact h1.elim
          | true =>
            rw [ha] at h1
            rw [rE_alloc ha] at r
            obtain ⟨col', rel2⟩ := rel1.setO (cl := cl) (W := W) i r
            exact h1 F1 H1 ι1 col' _ .refl rel2
        · have : (decide (o = 0) || decide (o = 1) && ea.alloc g.fr) = false := by simp [h0, h2]
          rw [this] at h1; exact h1.elim
      · rw [if_neg hi] at h1; exact h1.elim
theorem unp_read {t : Tg} : ∀ D σ H, tSt K cl W g (.unp t ea) D σ H → tAsg (tE K cl W g ea) (gT K t) D σ H := by
  rintro D σ H ⟨B, col, σa, F, ι, S, rel, h⟩
  have h : SK K cl W B F ι (if ea.isPk then .bad else (evalE g σa ea S).toS σa fun d S1 => (match asg t d σa with
    | some σ' => .nx σ' S1
    | none => .bad)) D := h
  cases np : ea.isPk with
  | true => rw [np] at h; exact h.elim
  | false =>
    rw [np, if_neg Bool.false_ne_true] at h
    refine ⟨B, col, σa, F, ι, S, rel, frzE (SK.bind h fun d S1 F1 H1 ι1 v x rel1 r h1 => ?_)⟩
    rw [notPk np] at r
    cases e : asg t d σa with
    | none => rw [e] at h1; exact h1.elim
    | some σa' =>
      rw [e] at h1
      exact ⟨B, F1, ι1, col, σa, S1, d, rel1, r, σa', e, fun σ' rel' _ => h1 F1 H1 ι1 col σ' .refl rel'⟩
theorem ex_read : ∀ D σ H, tSt K cl W g (.ex ea) D σ H → tDrop (tE K cl W g ea) D σ H := by
  rintro D σ H ⟨B, col, σa, F, ι, S, rel, h⟩
  have h : SK K cl W B F ι ((evalE g σa ea S).toS σa fun _ S1 => .nx σa S1) D := h
  exact ⟨B, col, σa, F, ι, S, rel, SK.bind h fun d S1 F1 H1 ι1 v x rel1 r h1 => h1 F1 H1 ι1 col σ .refl rel1⟩
def augI : Bop → Option (Int → Int → Int)
  | .add => some fun i j => i + j
  | .sub => some fun i j => i - j
  | _ => none
theorem augD_int {o : Bop} {f : Int → Int → Int} (hf : augI o = some f) {x y z : D} (h : augD o x y = some z) : ∃ p q, x = .int p ∧ y = .int q ∧ z = .int (f p q) := by
  cases o with
  | add => cases hf; cases x <;> cases y <;> first | (cases h; exact ⟨_, _, rfl, rfl, rfl⟩) | cases h
  | sub => cases hf; cases x <;> cases y <;> first | (cases h; exact ⟨_, _, rfl, rfl, rfl⟩) | cases h
  | _ => cases hf
theorem aug_read {i : Nat} {o : Bop} {f : Int → Int → Int} (hf : augI o = some f) : ∀ D σ H, tSt K cl W g (.aug i o ea) D σ H → tAug i (tR K cl W g ea) (ipI f) D σ H := by
  rintro D σ H ⟨B, col, σa, F, ι, S, rel, h⟩
  have h : SK K cl W B F ι (match σa[i]? with
    | some (.val x) => (evalE g σa ea S).toS σa fun y S1 => (match augD o x y with
      | some z => .nx (σa.set i (.val z)) S1
      | none => .bad)
    | _ => .bad) D := h
  split at h
  · rename_i x e
    have hi : i < σ.length := by rw [← rel.sl]; exact (List.getElem?_eq_some_iff.mp e).1
    obtain ⟨v, ev, r⟩ := rel.slots i _ _ e (List.getElem?_eq_getElem hi)
    refine ⟨v, by rw [List.getElem?_eq_getElem hi, ev], B, col, σa, F, ι, S, rel, SK.bind h fun y S1 F1 H1 ι1 w x1 rel1 r1 h1 => ?_⟩
    have s1 := rel1.shR r1
    cases ez : augD o x y with
    | none => rw [ez] at h1; exact h1.elim
    | some z =>
      rw [ez] at h1
      obtain ⟨p, q, rfl, rfl, rfl⟩ := augD_int hf ez
      exact ⟨p, q, r, s1, h1 F1 H1 ι1 col _ .refl (rel1.setVal rfl)⟩
  · exact h.elim

/-! ### a slot's own list or dict -/
theorem own_lst {B F H : Hp} {ι : List Addr} {col : Col} {σa : List IL.Slot} {S : Store} {σ : St} {i : Nat} {ds : List D} {v : V} (rel : Rel K B F H ι col σa S σ) (h1 : σa[i]? = some (.own (.lst ds))) (h2 : σ[i]? = some (some v)) :
    ∃ a vs, v = .ref a ∧ H a = some (.lst vs) ∧ Reps K F ι ds vs ∧ ∀ ds' vs', Reps K F ι ds' vs' → Rel K B F (upd H a (.lst vs')) ι col (σa.set i (.own (.lst ds'))) S σ := by
  obtain ⟨a, vs, e, ha, hc, q⟩ := rel.slots i _ _ h1 h2
  cases e
  refine ⟨a, vs, rfl, ha, q, fun ds' vs' q' => rel.updOwn hc (fun s o e1 e2 => ?_) (.inl ⟨_, rfl⟩) ⟨a, vs', rfl, upd_same, hc, q'⟩⟩
  rw [h1] at e1; cases e1
  rw [h2] at e2; cases e2
  exact ⟨⟨_, rfl⟩, rfl⟩
theorem own_dct {B F H : Hp} {ι : List Addr} {col : Col} {σa : List IL.Slot} {S : Store} {σ : St} {i : Nat} {ks : List Ky} {ds : List D} {v : V} (rel : Rel K B F H ι col σa S σ) (h1 : σa[i]? = some (.own (.dct ks ds))) (h2 : σ[i]? = some (some v)) :
    ∃ a kvs, v = .ref a ∧ H a = some (.dK kvs) ∧ kvs.map (·.1) = ks.map kyK ∧ Reps K F ι ds (kvs.map (·.2)) ∧ ∀ (ks' : List Ky) (ds' : List D) (kvs' : List (Key × V)), kvs'.map (·.1) = ks'.map kyK → Reps K F ι ds' (kvs'.map (·.2)) → Rel K B F (upd H a (.dK kvs')) ι col (σa.set i (.own (.dct ks' ds'))) S σ := by
  obtain ⟨a, kvs, e, ha, hc, kk, q⟩ := rel.slots i _ _ h1 h2
  cases e
  refine ⟨a, kvs, rfl, ha, kk, q, fun ks' ds' kvs' k' q' => rel.updOwn hc (fun s o e1 e2 => ?_) (.inr ⟨_, rfl⟩) ⟨a, kvs', rfl, upd_same, hc, k', q'⟩⟩
  rw [h1] at e1; cases e1
  rw [h2] at e2; cases e2
  exact ⟨⟨_, rfl⟩, rfl⟩
/-- the name of an own slot, looked at -/
theorem pk_read {B F H : Hp} {ι : List Addr} {col : Col} {σa : List IL.Slot} {S : Store} {σ : St} {i : Nat} {d : D} {Q : VK} (rel : Rel K B F H ι col σa S σ) (h1 : σa[i]? = some (.own d)) (k : ∀ v, σ[i]? = some (some v) → Q v H) : tVar i σ H Q := by
  have hi : i < σ.length := by rw [← rel.sl]; exact (List.getElem?_eq_some_iff.mp h1).1
  have z := rel.slots i _ _ h1 (List.getElem?_eq_getElem hi)
  have fin : ∀ v, σ[i] = some v → tVar i σ H Q := fun v ev => by
    have q2 : σ[i]? = some (some v) := by rw [List.getElem?_eq_getElem hi, ev]
    exact ⟨v, q2, k v q2⟩
  cases d with
  | lst ds => obtain ⟨a, vs, ev, _⟩ := z; exact fin _ ev
  | dct ks ds => obtain ⟨a, vs, ev, _⟩ := z; exact fin _ ev
  | _ => exact z.elim
theorem app_read {i : Nat} (hK : X.K = K) : ∀ D σ H, tSt K cl W g (.app i ea) D σ H → tDrop (tBM X.K "list" rAppend (tVar i) (tAs K cl W g (.cons ea .nil))) D σ H := by
  rintro D σ H ⟨B, col, σa, F, ι, S, rel, h⟩
  have h : SK K cl W B F ι (if ea.isPk then .bad else (match σa[i]? with
    | some (.own (.lst ds)) => (evalE g σa ea S).toS σa fun d S1 => if ds.length < line then .nx (σa.set i (.own (.lst (ds ++ [d])))) S1 else .bad
    | _ => .bad)) D := h
  cases np : ea.isPk with
  | true => rw [np] at h; exact h.elim
  | false =>
    rw [np, if_neg Bool.false_ne_true] at h
    split at h
    · rename_i ds e
      unfold tDrop tBM
      refine pk_read rel e fun v hv => ?_
      obtain ⟨p, vs, rfl, hp, q, _⟩ := own_lst rel e hv
      refine ⟨.inl ⟨rfl, vs, SqL.of hp⟩, B, col, σa, F, ι, S, rel, ?_⟩
      show EK _ F ι _ ((evalE g σa ea S).bind fun d S1 => R.ok [d] S1) _
      cases ee : evalE g σa ea S with
      | bad => rw [ee] at h; exact h
      | exc x S1 => rw [ee] at h; exact fun F' H' ι' cls d s rel r => h F' H' ι' col σ cls d s rel r
      | ok d S1 =>
        rw [ee] at h
        have h : SK K cl W B F ι (if ds.length < line then .nx (σa.set i (.own (.lst (ds ++ [d])))) S1 else .bad) D := h
        intro F1 H1 ι1 ws x1 rel1 r1
        obtain ⟨w, rfl, rw'⟩ := reps1 (rA_reps (es := .cons ea .nil) (by show (ea.isPk || false) = false; rw [np]; rfl) r1)
        obtain ⟨p', vs', e', hp', q', k⟩ := own_lst rel1 e hv
        cases e'
        by_cases hl : ds.length < line
        · rw [if_pos hl] at h
          exact ⟨p, vs', w, rfl, rfl, hp', by rw [q'.length, ← line_eq]; exact hl, h F1 _ ι1 col σ x1 (k _ _ (q'.append (.cons rw' .nil)))⟩
        · rw [if_neg hl] at h; exact h.elim
    · exact h.elim
/-- what a loop of args hands on -/
theorem SK.nx {B F : Hp} {ι : List Addr} {σa : List IL.Slot} {S : Store} {D : Ends} {F1 H1 : Hp} {ι1 : List Addr} {col : Col} {σ : St} (h : SK K cl W B F ι (.nx σa S) D) (x : Ext B F F1 ι ι1) (r : Rel K B F1 H1 ι1 col σa S σ) : D.nx σ H1 := h F1 H1 ι1 col σ x r
theorem popA_read {i : Nat} (hK : X.K = K) : ∀ D σ H, tSt K cl W g (.popA i ea) D σ H → tDrop (tBM X.K "list" rPopAt (tVar i) (tAs K cl W g (.cons ea .nil))) D σ H := by
  rintro D σ H ⟨B, col, σa, F, ι, S, rel, h⟩
  have h : SK K cl W B F ι (match σa[i]? with
    | some (.own (.lst ds)) => (evalE g σa ea S).toS σa fun d S1 => (match d with
      | .int j => if 0 ≤ j ∧ j < ds.length ∧ ds.length ≤ line then .nx (σa.set i (.own (.lst (ds.eraseIdx j.toNat)))) S1 else .bad
      | _ => .bad)
    | _ => .bad) D := h
  split at h
  · rename_i ds e
    unfold tDrop tBM
    refine pk_read rel e fun v hv => ?_
    obtain ⟨p, vs, rfl, hp, q, _⟩ := own_lst rel e hv
    refine ⟨.inl ⟨rfl, vs, SqL.of hp⟩, B, col, σa, F, ι, S, rel, ?_⟩
    show EK _ F ι _ ((evalE g σa ea S).bind fun d S1 => R.ok [d] S1) _
    cases ee : evalE g σa ea S with
    | bad => rw [ee] at h; exact h
    | exc x S1 => rw [ee] at h; exact fun F' H' ι' cls d s rel r => h F' H' ι' col σ cls d s rel r
    | ok d S1 =>
      rw [ee] at h
      cases d with
      | int j =>
        have h : SK K cl W B F ι (if 0 ≤ j ∧ j < ds.length ∧ ds.length ≤ line then .nx (σa.set i (.own (.lst (ds.eraseIdx j.toNat)))) S1 else .bad) D := h
        intro F1 H1 ι1 ws x1 rel1 r1
        cases rA_sh rel1 r1 with
        | cons hw hn =>
          cases hn
          obtain ⟨p', vs', e', hp', q', k⟩ := own_lst rel1 e hv
          cases e'
          by_cases hl : 0 ≤ j ∧ j < ds.length ∧ ds.length ≤ line
          · rw [if_pos hl] at h
            have hl63 : line < 2 ^ 63 := by decide
            have hj : j.toNat < vs'.length := by rw [q'.length]; omega
            refine ⟨p, vs', j, j.toNat, vs'[j.toNat], rfl, congrArg (fun z => [z]) hw, hp', by omega, by omega, PySem.seqIndex_of hl.1 (by rw [q'.length]; exact hl.2.1), List.getElem?_eq_getElem hj, h.nx x1 (k _ _ ?_)⟩
            rw [List.eraseIdx_eq_take_drop_succ, List.eraseIdx_eq_take_drop_succ]
            exact (q'.take _).append (q'.drop _)
          · rw [if_neg hl] at h; exact h.elim
      | _ => exact h.elim
  · exact h.elim
theorem ins_read {i : Nat} (hK : X.K = K) : ∀ D σ H, tSt K cl W g (.ins i ea eb) D σ H → tDrop (tBM X.K "list" (fun x vs H Q => ∃ (l : Addr) (xs : List V) (i : Int) (y : V), x = .ref l ∧ vs = [.int i, y] ∧ H l = some (.lst xs) ∧ xs.length < sizeLine ∧ 0 ≤ i ∧ i < 2 ^ 63 ∧
    Q .non (upd H l (.lst (xs.take i.toNat ++ [y] ++ xs.drop i.toNat)))) (tVar i) (tAs K cl W g (.cons ea (.cons eb .nil)))) D σ H := by
  rintro D σ H ⟨B, col, σa, F, ι, S, rel, h⟩
  have h : SK K cl W B F ι (if eb.isPk then .bad else (match σa[i]? with
    | some (.own (.lst ds)) => (evalE g σa ea S).toS σa fun d S1 => (evalE g σa eb S1).toS σa fun y S2 => (match d with
      | .int j => if 0 ≤ j ∧ j ≤ ds.length ∧ ds.length < line then .nx (σa.set i (.own (.lst (ds.take j.toNat ++ y :: ds.drop j.toNat)))) S2 else .bad
      | _ => .bad)
    | _ => .bad)) D := h
  cases np : eb.isPk with
  | true => rw [np] at h; exact h.elim
  | false =>
    rw [np, if_neg Bool.false_ne_true] at h
    split at h
    · rename_i ds e
      unfold tDrop tBM
      refine pk_read rel e fun v hv => ?_
      obtain ⟨p, vs, rfl, hp, q, _⟩ := own_lst rel e hv
      refine ⟨.inl ⟨rfl, vs, SqL.of hp⟩, B, col, σa, F, ι, S, rel, ?_⟩
      show EK _ F ι _ ((evalE g σa ea S).bind fun d S1 => ((evalE g σa eb S1).bind fun y S2 => R.ok [y] S2).bind fun ds S2 => R.ok (d :: ds) S2) _
      cases ee : evalE g σa ea S with
      | bad => rw [ee] at h; exact h
      | exc x S1 => rw [ee] at h; exact fun F' H' ι' cls d s rel r => h F' H' ι' col σ cls d s rel r
      | ok d S1 =>
        rw [ee] at h
        rw [R.toS_ok] at h
        show EK _ F ι _ (((evalE g σa eb S1).bind fun y S2 => R.ok [y] S2).bind fun ds S2 => R.ok (d :: ds) S2) _
        cases eb' : evalE g σa eb S1 with
        | bad => rw [eb'] at h; exact h
        | exc x S2 => rw [eb'] at h; exact fun F' H' ι' cls d s rel r => h F' H' ι' col σ cls d s rel r
        | ok y S2 =>
          rw [eb'] at h
          cases d with
          | int j =>
            have h : SK K cl W B F ι (if 0 ≤ j ∧ j ≤ ds.length ∧ ds.length < line then .nx (σa.set i (.own (.lst (ds.take j.toNat ++ y :: ds.drop j.toNat)))) S2 else .bad) D := h
            intro F1 H1 ι1 ws x1 rel1 r1
            obtain ⟨d1, t1, w1, ws1, e1, e2, rr1, rr2⟩ := r1
            obtain ⟨d2, t2, w2, ws2, e3, e4, rr3, rr4, rr5⟩ := rr2
            cases e1
            cases e3
            subst e2 e4 rr5
            have hw : w1 = .int j := rel1.shR rr1
            rw [notPk np] at rr3
            obtain ⟨p', vs', e', hp', q', k⟩ := own_lst rel1 e hv
            cases e'
            by_cases hl : 0 ≤ j ∧ j ≤ ds.length ∧ ds.length < line
            · rw [if_pos hl] at h
              have hl63 : line < 2 ^ 63 := by decide
              refine ⟨p, vs', j, w2, rfl, by rw [hw], hp', by rw [q'.length, ← line_eq]; exact hl.2.2, hl.1, by omega, h.nx x1 (k _ _ ?_)⟩
              rw [List.append_assoc]
              exact (q'.take _).append (.cons rr3 (q'.drop _))
            · rw [if_neg hl] at h; exact h.elim
          | _ => exact h.elim
    · exact h.elim
theorem any_mem {kvs : List (Key × V)} {ks : List Ky} (h : kvs.map (·.1) = ks.map kyK) (k : Ky) : (kvs.any fun kv => decide (kv.1 = kyK k)) = true ↔ k ∈ ks := by
  rw [List.any_eq_true]
  constructor
  · rintro ⟨p, hp, e⟩
    have e := of_decide_eq_true e
    have : p.1 ∈ ks.map kyK := by rw [← h]; exact List.mem_map_of_mem hp
    obtain ⟨k', hk, e2⟩ := List.mem_map.mp this
    rw [← kyK_inj (e2.trans e)]; exact hk
  · intro hk
    have : kyK k ∈ kvs.map (·.1) := by rw [h]; exact List.mem_map_of_mem hk
    obtain ⟨p, hp, e⟩ := List.mem_map.mp this
    exact ⟨p, hp, decide_eq_true e⟩
theorem kset_put {F : Hp} {ι : List Addr} {k : Ky} {d : D} {v : V} (rv : Rep K F ι d v) : ∀ {ks : List Ky} {ds : List D} {kvs : List (Key × V)}, kvs.map (·.1) = ks.map kyK → Reps K F ι ds (kvs.map (·.2)) →
    (kvs.map fun kv => if kv.1 = kyK k then (kv.1, v) else kv).map (·.1) = ks.map kyK ∧ Reps K F ι (kset ks ds k d) ((kvs.map fun kv => if kv.1 = kyK k then (kv.1, v) else kv).map (·.2))
  | [], ds, [], _, r => by cases ds with
    | nil => exact ⟨rfl, rfl⟩
    | cons d ds => obtain ⟨_, _, e, _⟩ := r; cases e
  | _ :: _, _, [], e, _ => by cases e
  | [], _, _ :: _, e, _ => by cases e
  | x :: ks, [], p :: kvs, e, r => by cases (show _ = [] from r)
  | x :: ks, y :: ds, p :: kvs, e, ⟨w, t, e2, h, r⟩ => by
    injection e with e1 e3
    injection e2 with e4 e5
    subst e5
    have e1 : p.1 = kyK x := e1
    have e4 : p.2 = w := e4
    obtain ⟨g1, g2⟩ := kset_put (k := k) (d := d) rv e3 r
    have hk : kset (x :: ks) (y :: ds) k d = (if x = k then d else y) :: kset ks ds k d := rfl
    rw [List.map_cons, List.map_cons, List.map_cons, List.map_cons, hk, g1]
    by_cases q : x = k
    · rw [if_pos q, if_pos (by rw [e1, q])]
      exact ⟨by rw [e1], .cons rv g2⟩
    · have q2 : ¬ p.1 = kyK k := fun z => q (kyK_inj (by rw [← e1]; exact z))
      rw [if_neg q, if_neg q2]
      exact ⟨by rw [e1], by rw [e4]; exact .cons h g2⟩
theorem kput_put {F : Hp} {ι : List Addr} {k : Ky} {d : D} {v : V} (rv : Rep K F ι d v) {ks : List Ky} {ds : List D} {kvs : List (Key × V)} (h : kvs.map (·.1) = ks.map kyK) (r : Reps K F ι ds (kvs.map (·.2))) :
    (putK kvs (kyK k) v).map (·.1) = (kput ks ds k d).1.map kyK ∧ Reps K F ι (kput ks ds k d).2 ((putK kvs (kyK k) v).map (·.2)) := by
  unfold putK kput
  by_cases q : k ∈ ks
  · rw [if_pos q, if_pos ((any_mem h k).mpr q)]
    exact kset_put rv h r
  · rw [if_neg q, if_neg fun z => q ((any_mem h k).mp z)]
    refine ⟨by rw [List.map_append, List.map_append, h]; rfl, ?_⟩
    rw [List.map_append]
    exact r.append (.cons rv .nil)
end
end IL
/-! Soundness, part N: stores, suites, loops. -/
namespace IL
open PySem L2

open PySem.Spec PyProof.Rows in
theorem get_list {X : Cx} : PGet X (rIxL X.K) := by
  intro pins s σ H x y v u Q I rx ry h
  obtain ⟨p, xs, i, z, rfl, rfl, hq, he, q⟩ := h
  cases rx
  obtain ⟨t, rfl⟩ := ry
  obtain ⟨its, r, pl, hz⟩ := I.list hq
  obtain ⟨j, h1, h2, h3, h4, h5⟩ := atI_get he
  obtain ⟨w, ew, rw'⟩ := r.get h2
  have hl := r.length
  have hn := line63
  have fin : EP X pins σ Q w s := ⟨z, H, I, rw', q⟩
  by_cases h0 : 0 ≤ i
  · have hj : i.toNat = j := by
      rw [seqIndex_of h0 h5] at h1
      exact Option.some.inj h1
    exact wpAny_getItem_list pl.isList h0 (by omega) (by rw [hj]; simpa using ew) fin
  · have hj : (i + (its.toArray.size : Int)).toNat = j := by
      rw [seqIndex_neg (by omega) h4] at h1
      rw [List.size_toArray, ← hl]
      exact Option.some.inj h1
    exact wpAny_getItem_list_neg pl.isList (by omega) (by rw [List.size_toArray] <;> omega) (by omega) (by rw [hj]; simpa using ew) fin

section
variable {X : Cx} {K : PySem.W.Frag} {cl : Cl} {W : WX} {g : G} {a b c : Expr} {ea eb ec : E} {es : Es} {xs : List Expr} {pos : Pos}
theorem sw_sub {e o i : Expr} {p : Pos} {l : Nat} {env : Env} : swapsWith e (some (.Subscript o i p)) l env = pure false := by cases e <;> rfl
theorem sw_sole {e o i : Expr} {p : Pos} {l : Nat} {env : Env} : swapsWithSole [.Subscript o i p] e l env = pure false := by cases e <;> rfl
theorem ss_sub {e o i : Expr} {p : Pos} {env : Env} : swappedStores [.Subscript o i p] e env = pure none := by cases e <;> rfl
theorem as_sub {o i : Expr} {p : Pos} {env : Env} (h : noSlB i = true) (v : Value) : assign (.Subscript o i p) env v = (do
      let ov ← holding [v] (eval o env)
      let iv ← holding [v, ov] (eval i env)
      standAt p
      holding [v, ov, iv] (setItem ov iv v)
      release [v, ov, iv] []) := by cases i <;> first | rfl | cases h
theorem ixN_eq (n : Nat) (i : Int) : L2.ixN n i = ixN n i := rfl
theorem s_setx {i : Nat} {x : Str} {p1 p2 : Pos} (hK : X.K = K) (hu : X.A.units + 64 < cLine) (hN : X.N[i]? = some x) (hv : Vis X.env.scope x) (hd : (x == ("__debug__" : Str)) = false) (hcd : (x == ("__classdict__" : Str)) = false) (hn : noSlB b = true) (ha : PE X a (tR K cl W g ea)) (hb : PE X b (tR K cl W g eb)) :
    PS X (.Assign [.Subscript (.Name x p1) b p2] a pos) (tSt K cl W g (.setx i eb ea)) := by
  refine ⟨fun pins s σ H D I h => ?_⟩
  obtain ⟨B, col, σa, F, ι, S, rel, h⟩ := h
  have ho : PE X (.Name x p1) (tVar i) := pe_var hN hv hd hcd
  have h : SK K cl W B F ι (if ea.isPk then .bad else (match σa[i]? with
    | some (.own (.lst ds)) => (evalE g σa ea S).toS σa fun y S1 => (evalE g σa eb S1).toS σa fun d S2 => (match d with
      | .int j => (match ixN ds.length j with
        | some a => .nx (σa.set i (.own (.lst (ds.set a y)))) S2
        | none => .bad)
      | _ => .bad)
    | some (.own (.dct ks ds)) => (evalE g σa ea S).toS σa fun y S1 => (evalE g σa eb S1).toS σa fun d S2 => (match d.ky with
      | some x => if ks.length < line then .nx (σa.set i (.own (.dct (kput ks ds x y).1 (kput ks ds x y).2))) S2 else .bad
      | none => .bad)
    | _ => .bad)) D := h
  cases np : ea.isPk with
  | true => rw [np] at h; exact h.elim
  | false =>
    rw [np, if_neg Bool.false_ne_true] at h
    split at h
    · rename_i ds e
      refine (ps_asg ha (pg_sub (pos := p2) ho hb set_list (as_sub hn)) sw_sole ss_sub).run pins s σ H D I ?_
      refine ⟨B, col, σa, F, ι, S, rel, SK.bind h fun y S1 F1 H1 ι1 v x1 rel1 r1 h1 => ?_⟩
      refine pk_read rel1 e fun w hw => ⟨B, col, σa, F1, ι1, S1, rel1, SK.bind h1 fun d S2 F2 H2 ι2 u x2 rel2 r2 h2 => ?_⟩
      rw [notPk np] at r1
      have r1 := stab_rF _ y F1 H1 ι1 v F2 H2 ι2 x2 r1
      obtain ⟨p, vs, rfl, hp, q, k⟩ := own_lst rel2 e hw
      cases d with
      | int j =>
        dsimp only at h2
        cases ej : ixN ds.length j with
        | none => rw [ej] at h2; exact h2.elim
        | some n =>
          rw [ej] at h2
          exact ⟨p, vs, j, n, rfl, rel2.shR r2, hp, by rw [q.length]; exact ej, h2.nx .refl (k _ _ (Reps.set r1 n q))⟩
      | _ => exact h2.elim
    · rename_i ks ds e
      refine (ps_dput (by omega) ho hb ha sw_sub).run pins s σ H D I ?_
      refine ⟨B, col, σa, F, ι, S, rel, SK.bind h fun y S1 F1 H1 ι1 v x1 rel1 r1 h1 => ?_⟩
      refine pk_read rel1 e fun w hw => ⟨B, col, σa, F1, ι1, S1, rel1, SK.bind h1 fun d S2 F2 H2 ι2 u x2 rel2 r2 h2 => ?_⟩
      rw [notPk np] at r1
      have r1 := stab_rF _ y F1 H1 ι1 v F2 H2 ι2 x2 r1
      obtain ⟨p, kvs, rfl, hp, kk, q, k⟩ := own_dct rel2 e hw
      cases ek : d.ky with
      | none => rw [ek] at h2; exact h2.elim
      | some kx =>
        rw [ek] at h2
        dsimp only at h2
        by_cases hl : ks.length < line
        · rw [if_pos hl] at h2
          have len : kvs.length = ks.length := by have := congrArg List.length kk; simpa using this
          obtain ⟨g1, g2⟩ := kput_put (k := kx) r1 kk q
          exact ⟨p, _, rfl, .inl ⟨kvs, kyK kx, hp, ky_rep ek (rel2.shR r2), by rw [len, ← line_eq]; exact hl, rfl⟩, h2.nx .refl (k _ _ _ g1 g2)⟩
        · rw [if_neg hl] at h2; exact h2.elim
    · exact h.elim
theorem s_sets {p2 : Pos} (hn : noSlB b = true) (ha : PE X a (tR K cl W g ea)) (hb : PE X b (tR K cl W g eb)) (hc : PE X c (tR K cl W g ec)) :
    PS X (.Assign [.Subscript a b p2] c pos) (tSt K cl W g (.sets ea eb ec)) := by
  refine (ps_asg hc (pg_sub (pos := p2) ha hb set_list (as_sub hn)) sw_sole ss_sub).imp ?_
  rintro D σ H ⟨B, col, σa, F, ι, S, rel, h⟩
  have h : SK K cl W B F ι (if ec.isPk then .bad else (evalE g σa ec S).toS σa fun y S1 => (evalE g σa ea S1).toS σa fun x S2 => (evalE g σa eb S2).toS σa fun z S3 => (match x with
    | .ref n => (match S3[n]? with
      | some (.lst ds) => (match z with
        | .int j => (match ixN ds.length j with
          | some p => .nx σa (S3.set n (.lst (ds.set p y)))
          | none => .bad)
        | _ => .bad)
      | _ => .bad)
    | _ => .bad)) D := h
  cases np : ec.isPk with
  | true => rw [np] at h; exact h.elim
  | false =>
    rw [np, if_neg Bool.false_ne_true] at h
    refine ⟨B, col, σa, F, ι, S, rel, SK.bind h fun y S1 F1 H1 ι1 v x1 rel1 r1 h1 => ⟨B, col, σa, F1, ι1, S1, rel1, SK.bind h1 fun x S2 F2 H2 ι2 w x2 rel2 r2 h2 => ⟨B, col, σa, F2, ι2, S2, rel2, SK.bind h2 fun z S3 F3 H3 ι3 u x3 rel3 r3 h3 => ?_⟩⟩⟩
    rw [notPk np] at r1
    have r1 := stab_rF _ y F1 H1 ι1 v F3 H3 ι3 (x2.trans x3) r1
    have s2 := rel3.shR (stab_rR ea _ x F2 H2 ι2 w F3 H3 ι3 x3 r2)
    cases x with
    | ref n =>
      obtain ⟨q, rfl, hi⟩ := s2
      dsimp only at h3
      cases hs : S3[n]? with
      | none => rw [hs] at h3; exact h3.elim
      | some o =>
        rw [hs] at h3
        have zz := rel3.st n o q hs hi
        cases o with
        | lst ds =>
          obtain ⟨vs, hp, q1⟩ := zz
          cases z with
          | int j =>
            dsimp only at h3
            cases ej : ixN ds.length j with
            | none => rw [ej] at h3; exact h3.elim
            | some m =>
              rw [ej] at h3
              exact ⟨q, vs, j, m, rfl, rel3.shR r3, hp, by rw [q1.length]; exact ej, h3.nx .refl (rel3.setObj hi hp (fun _ _ z => by cases z) ⟨_, upd_same, Reps.set r1 m q1⟩)⟩
          | _ => exact h3.elim
        | _ => exact h3.elim
    | _ => exact h3.elim
theorem s_setd {p2 : Pos} (hu : X.A.units + 64 < cLine) (hn : noSlB b = true) (ha : PE X a (tR K cl W g ea)) (hb : PE X b (tR K cl W g eb)) (hc : PE X c (tR K cl W g ec)) :
    PS X (.Assign [.Subscript a b p2] c pos) (tSt K cl W g (.setd ea eb ec)) := by
  refine (ps_dput (by omega) ha hb hc sw_sub).imp ?_
  rintro D σ H ⟨B, col, σa, F, ι, S, rel, h⟩
  have h : SK K cl W B F ι (if ec.isPk then .bad else (evalE g σa ec S).toS σa fun y S1 => (evalE g σa ea S1).toS σa fun x S2 => (evalE g σa eb S2).toS σa fun z S3 => (match x with
    | .ref n => (match S3[n]? with
      | some (.dct ks ds) => (match z.ky with
        | some x => if ks.length < line then .nx σa (S3.set n (.dct (kput ks ds x y).1 (kput ks ds x y).2)) else .bad
        | none => .bad)
      | _ => .bad)
    | _ => .bad)) D := h
  cases np : ec.isPk with
  | true => rw [np] at h; exact h.elim
  | false =>
    rw [np, if_neg Bool.false_ne_true] at h
    refine ⟨B, col, σa, F, ι, S, rel, SK.bind h fun y S1 F1 H1 ι1 v x1 rel1 r1 h1 => ⟨B, col, σa, F1, ι1, S1, rel1, SK.bind h1 fun x S2 F2 H2 ι2 w x2 rel2 r2 h2 => ⟨B, col, σa, F2, ι2, S2, rel2, SK.bind h2 fun z S3 F3 H3 ι3 u x3 rel3 r3 h3 => ?_⟩⟩⟩
    rw [notPk np] at r1
    have r1 := stab_rF _ y F1 H1 ι1 v F3 H3 ι3 (x2.trans x3) r1
    have s2 := rel3.shR (stab_rR ea _ x F2 H2 ι2 w F3 H3 ι3 x3 r2)
    cases x with
    | ref n =>
      obtain ⟨q, rfl, hi⟩ := s2
      dsimp only at h3
      cases hs : S3[n]? with
      | none => rw [hs] at h3; exact h3.elim
      | some o =>
        rw [hs] at h3
        have zz := rel3.st n o q hs hi
        cases o with
        | dct ks ds =>
          obtain ⟨kvs, hp, kk, q1⟩ := zz
          cases ek : z.ky with
          | none => rw [ek] at h3; exact h3.elim
          | some kx =>
            rw [ek] at h3
            dsimp only at h3
            by_cases hl : ks.length < line
            · rw [if_pos hl] at h3
              have len : kvs.length = ks.length := by have := congrArg List.length kk; simpa using this
              obtain ⟨g1, g2⟩ := kput_put (k := kx) r1 kk q1
              exact ⟨q, _, rfl, .inl ⟨kvs, kyK kx, hp, ky_rep ek (rel3.shR r3), by rw [len, ← line_eq]; exact hl, rfl⟩, h3.nx .refl (rel3.setObj hi hp (fun _ _ z => by cases z) ⟨_, upd_same, g1, g2⟩)⟩
            · rw [if_neg hl] at h3; exact h3.elim
        | _ => exact h3.elim
    | _ => exact h3.elim
theorem s_augs {p2 : Pos} {o : Bop} {op : Operator} {f : Int → Int → Int} (hK : X.K = K) (hf : augI o = some f) (ho : PIp X op (ipI f)) (hn : noSlB b = true) (ha : PE X a (tR K cl W g ea)) (hb : PE X b (tR K cl W g eb)) (hc : PE X c (tR K cl W g ec)) :
    PS X (.AugAssign (.Subscript a b p2) op c pos) (tSt K cl W g (.augs ea eb o ec)) := by
  refine (ps_augS ha hb get_list hc ho set_list (by intro ov iv new; cases b <;> first | rfl | cases hn)).imp ?_
  rintro D σ H ⟨B, col, σa, F, ι, S, rel, h⟩
  have h : SK K cl W B F ι ((evalE g σa ea S).toS σa fun x S1 => (evalE g σa eb S1).toS σa fun z S2 => (match x, z with
    | .ref n, .int j => (match S2[n]? with
      | some (.lst ds) => (match atI ds j with
        | some d => (evalE g σa ec S2).toS σa fun y S3 => (match augD o d y with
          | some w => (match S3[n]? with
            | some (.lst ds) => (match ixN ds.length j with
              | some p => .nx σa (S3.set n (.lst (ds.set p w)))
              | none => .bad)
            | _ => .bad)
          | none => .bad)
        | none => .bad)
      | _ => .bad)
    | _, _ => .bad)) D := h
  refine ⟨B, col, σa, F, ι, S, rel, SK.bind h fun x S1 F1 H1 ι1 v x1 rel1 r1 h1 => ⟨B, col, σa, F1, ι1, S1, rel1, SK.bind h1 fun z S2 F2 H2 ι2 w x2 rel2 r2 h2 => ?_⟩⟩
  have s1 := rel2.shR (stab_rR ea _ x F1 H1 ι1 v F2 H2 ι2 x2 r1)
  have s2 := rel2.shR r2
  split at h2
  · rename_i n j
    obtain ⟨q, rfl, hi⟩ := s1
    obtain rfl : w = .int j := s2
    split at h2
    · rename_i ds hs
      obtain ⟨vs, hp, q1⟩ := rel2.st n _ q hs hi
      split at h2
      · rename_i d hd
        obtain ⟨v0, hv0, rv0⟩ := at_rep q1 hd
        refine ⟨q, vs, j, v0, rfl, rfl, by rw [hK]; exact SqL.of hp, hv0, B, col, σa, F2, ι2, S2, rel2, SK.bind h2 fun y S3 F3 H3 ι3 u x3 rel3 r3 h3 => ?_⟩
        split at h3
        · rename_i w0 hw0
          obtain ⟨a1, a2, rfl, rfl, rfl⟩ := augD_int hf hw0
          have hi3 := pre_get x3.pre hi
          split at h3
          · rename_i ds3 hs3
            obtain ⟨vs3, hp3, q3⟩ := rel3.st n _ q hs3 hi3
            split at h3
            · rename_i m hm
              exact ⟨a1, a2, rv0, rel3.shR r3, q, vs3, j, m, rfl, rfl, hp3, by rw [q3.length]; exact hm, h3.nx .refl (rel3.setObj hi3 hp3 (fun _ _ z => by cases z) ⟨_, upd_same, Reps.set (d := .int (f a1 a2)) (v := .int (f a1 a2)) rfl m q3⟩)⟩
            · exact h3.elim
          · exact h3.elim
        · exact h3.elim
      · exact h2.elim
    · exact h2.elim
  · exact h2.elim

/-! ### suites and loops -/
theorem s_iff {t e : List Stmt} {u v : Ss} (hc : PT X c (tB' K cl W fun σa S => evalE g σa ec S)) (ht : PSs X t (tSs K cl W g u)) (he : PSs X e (tSs K cl W g v)) : PS X (.If c t e pos) (tSt K cl W g (.iff ec u v)) := by
  refine (ps_if hc ht he).imp ?_
  rintro D σ H ⟨B, col, σa, F, ι, S, rel, h⟩
  have h : SK K cl W B F ι ((evalE g σa ec S).toS σa fun b S1 => (match b with
    | .bl true => execs g u σa S1
    | .bl false => execs g v σa S1
    | _ => .bad)) D := h
  refine ⟨B, col, σa, F, ι, S, rel, ?_⟩
  show EK _ F ι (rB _) (toB (evalE g σa ec S)) _
  cases e : evalE g σa ec S with
  | bad => rw [e] at h; exact h
  | exc x S1 => rw [e] at h; exact fun F' H' ι' cls d s rel r => h F' H' ι' col σ cls d s rel r
  | ok d S1 =>
    rw [e, R.toS_ok] at h
    cases d with
    | bl b =>
      intro F1 H1 ι1 b' x1 rel1 r1
      obtain rfl : b' = b := r1
      cases b' with
      | true => rw [if_pos rfl]; exact ⟨B, col, σa, F1, ι1, S1, rel1, SK.mono h x1⟩
      | false => rw [if_neg Bool.false_ne_true]; exact ⟨B, col, σa, F1, ι1, S1, rel1, SK.mono h x1⟩
    | _ => exact h.elim
theorem for_tail {t : Tg} {u : Ss} {B F1 H1 : Hp} {ι1 : List Addr} {col : Col} {σa : List IL.Slot} {S1 : Store} {σ : St} {J : L2.It} {ds : List IL.D} {D : Ends} {f : IL.D → List IL.Slot → Store → RS}
    (hf : (fun (d : IL.D) (σ : List IL.Slot) (S : Store) => match asg t d σ with
    | some σ' => execs g u σ' S
    | none => RS.bad) = f) (rel1 : Rel K B F1 H1 ι1 col σa S1 σ) (wk : Wk K B J F1 ι1 ds) (h1 : SK K cl W B F1 ι1 (forLoop f ds σa S1) D) :
    tFor (fun _ H R => R J H) (gT K t) (tSs K cl W g u) D σ H1 := by
  refine ⟨fun i m σ H => m = ds.length - i ∧ i ≤ ds.length ∧ ∃ col σa F ι S, Ext B F1 F ι1 ι ∧ Rel K B F H ι col σa S σ ∧ SK K cl W B F ι (forLoop f (ds.drop i) σa S) D,
    ⟨_, rfl, Nat.zero_le _, col, σa, F1, ι1, S1, .refl, rel1, h1⟩, ?_⟩
  rintro i m σ H ⟨rfl, hi, col, σa, F2, ι2, S2, x2, rel2, h2⟩
  obtain ⟨stop, step⟩ := wk i B F2 H ι2 col σa S2 σ (Same.refl B) x2.same x2.pre rel2
  by_cases hlt : i < ds.length
  · refine .inr ?_
    obtain ⟨go, yld⟩ := step ds[i] (List.getElem?_eq_getElem hlt)
    refine ⟨go, fun σ' H' => ∃ col σa F ι S, Ext B F1 F ι1 ι ∧ Rel K B F H' ι col σa S σ' ∧ SK K cl W B F ι (forLoop f (ds.drop (i + 1)) σa S) D, fun σ' H' z => ⟨ds.length - (i + 1), by omega, rfl, hlt, z⟩, fun x H' hy => ?_⟩
    obtain ⟨F3, x3, rel3, rx⟩ := yld x H' hy
    rw [List.drop_eq_getElem_cons hlt] at h2
    have h2 : SK K cl W B F2 ι2 ((f ds[i] σa S2).then (forLoop f (ds.drop (i + 1)))) D := h2
    have efd : f ds[i] σa S2 = (match asg t ds[i] σa with
      | some σ' => execs g u σ' S2
      | none => .bad) := by rw [← hf]
    cases ha : asg t ds[i] σa with
    | none => rw [ha] at efd; rw [efd] at h2; exact h2.elim
    | some σa' =>
      rw [ha] at efd
      have efd : f ds[i] σa S2 = execs g u σa' S2 := efd
      rw [efd] at h2
      refine ⟨B, F3, ι2, col, σa, S2, ds[i], rel3, rx, σa', ha, fun σ2 rel4 _ => ⟨B, col, σa', F3, ι2, S2, rel4, ?_⟩⟩
      show SK K cl W B F3 ι2 (execs g u σa' S2) _
      cases er : execs g u σa' S2 with
      | nx σ3 S3 =>
        rw [er, RS.then_nx] at h2
        exact fun F4 H4 ι4 col4 σ4 x4 rel5 => ⟨col4, σ3, F4, ι4, S3, (x2.trans x3).trans x4, rel5, SK.mono h2 (x3.trans x4)⟩
      | rt d o S3 => rw [er, RS.then_rt] at h2; exact SK.mono (r := .rt d o S3) (D := D) h2 x3
      | exc x σ3 S3 => rw [er, RS.then_exc] at h2; exact SK.mono (r := .exc x σ3 S3) (D := D) h2 x3
      | bad => rw [er] at h2; exact h2.elim
  · have hi2 : i = ds.length := by omega
    subst hi2
    refine .inl ⟨stop (Nat.le_refl _), ?_⟩
    rw [List.drop_length] at h2
    exact SK.nx (σa := σa) (S := S2) h2 .refl rel2
theorem s_for {tg iter : Expr} {body : List Stmt} {t : Tg} {it : IL.It} {u : Ss} (hp : PassesOwn (model X.prog X.w) X.A X.env X.xe) (hc : X.calm = true) (hi : PI X tg iter (tI K cl W g it)) (hg : PG X tg (gT K t)) (hb : PSs X body (tSs K cl W g u)) (hpl : plainB iter = true) :
    PS X (.For tg iter body [] pos) (tSt K cl W g (.for t it u)) := by
  refine (ps_for hp hc hi hg hb (noset hpl)).imp ?_
  rintro D σ H ⟨B, col, σa, F, ι, S, rel, h⟩
  have h : SK K cl W B F ι ((evalIt g σa it S).toS σa fun ds S1 => forLoop (fun d σ S => match asg t d σ with
    | some σ' => execs g u σ' S
    | none => .bad) ds σa S1) D := h
  generalize hf : (fun (d : IL.D) (σ : List IL.Slot) (S : Store) => match asg t d σ with
    | some σ' => execs g u σ' S
    | none => RS.bad) = f at h
  refine ⟨B, col, σa, F, ι, S, rel, SK.bind h fun ds S1 F1 H1 ι1 J x1 rel1 wk h1 => ?_⟩
  exact for_tail hf rel1 wk h1
theorem s_whl {n : Nat} {body : List Stmt} {u : Ss} (hp : PassesOwn (model X.prog X.w) X.A X.env X.xe) (hc : PT X c (tB' K cl W fun σa S => evalE g σa ec S)) (hb : PSs X body (tSs K cl W g u)) :
    PS X (.While c body [] pos) (tSt K cl W g (.whl n ec u)) := by
  refine (ps_while hp hc hb).imp ?_
  rintro D σ H ⟨B, col, σa, F, ι, S, rel, h⟩
  have h : SK K cl W B F ι (whlLoop (fun σ S => evalE g σ ec S) (execs g u) n σa S) D := h
  refine ⟨fun m σ H => ∃ col σa F' ι' S, Ext B F F' ι ι' ∧ Rel K B F' H ι' col σa S σ ∧ SK K cl W B F' ι' (whlLoop (fun σ S => evalE g σ ec S) (execs g u) m σa S) D, ⟨n, col, σa, F, ι, S, .refl, rel, h⟩, ?_⟩
  rintro m σ H ⟨col, σa, F1, ι1, S1, x1, rel1, h1⟩
  cases m with
  | zero => exact h1.elim
  | succ m =>
    have h1 : SK K cl W B F1 ι1 ((evalE g σa ec S1).toS σa fun b S1 => (match b with
      | .bl true => (execs g u σa S1).then (whlLoop (fun σ S => evalE g σ ec S) (execs g u) m)
      | .bl false => .nx σa S1
      | _ => .bad)) D := h1
    refine ⟨B, col, σa, F1, ι1, S1, rel1, ?_⟩
    show EK _ F1 ι1 (rB _) (toB (evalE g σa ec S1)) _
    cases e : evalE g σa ec S1 with
    | bad => rw [e] at h1; exact h1
    | exc x S2 => rw [e] at h1; exact fun F' H' ι' cls d s rel r => h1 F' H' ι' col σ cls d s rel r
    | ok d S2 =>
      rw [e, R.toS_ok] at h1
      cases d with
      | bl b =>
        intro F2 H2 ι2 b' x2 rel2 r2
        obtain rfl : b' = b := r2
        cases b' with
        | true =>
          rw [if_pos rfl]
          have h1 : SK K cl W B F1 ι1 ((execs g u σa S2).then (whlLoop (fun σ S => evalE g σ ec S) (execs g u) m)) D := h1
          refine ⟨fun σ' H' => ∃ col σa F' ι' S, Ext B F F' ι ι' ∧ Rel K B F' H' ι' col σa S σ' ∧ SK K cl W B F' ι' (whlLoop (fun σ S => evalE g σ ec S) (execs g u) m σa S) D, fun σ' H' z => ⟨m, Nat.lt_succ_self _, z⟩, B, col, σa, F2, ι2, S2, rel2, ?_⟩
          show SK K cl W B F2 ι2 (execs g u σa S2) _
          cases er : execs g u σa S2 with
          | nx σ3 S3 =>
            rw [er, RS.then_nx] at h1
            exact fun F4 H4 ι4 col4 σ4 x4 rel5 => ⟨col4, σ3, F4, ι4, S3, (x1.trans x2).trans x4, rel5, SK.mono h1 (x2.trans x4)⟩
          | rt d o S3 => rw [er, RS.then_rt] at h1; exact SK.mono (r := .rt d o S3) (D := D) h1 x2
          | exc x σ3 S3 => rw [er, RS.then_exc] at h1; exact SK.mono (r := .exc x σ3 S3) (D := D) h1 x2
          | bad => rw [er] at h1; exact h1.elim
        | false =>
          rw [if_neg Bool.false_ne_true]
          exact SK.nx (σa := σa) (S := S2) h1 x2 rel2
      | _ => exact h1.elim

/-! ### ends -/
theorem ret_read : ∀ D σ H, tSt K cl W g (.ret ea) D σ H → tRet (tE K cl W g ea) D σ H := by
  rintro D σ H ⟨B, col, σa, F, ι, S, rel, h⟩
  have h : SK K cl W B F ι (if ea.isPk then .bad else (evalE g σa ea S).toS σa fun d S1 => .rt d (ea.alloc g.fr) S1) D := h
  cases np : ea.isPk with
  | true => rw [np] at h; exact h.elim
  | false =>
    rw [np, if_neg Bool.false_ne_true] at h
    refine ⟨B, col, σa, F, ι, S, rel, SK.bind h fun d S1 F1 H1 ι1 v x1 rel1 r1 h1 => ?_⟩
    refine h1 F1 H1 ι1 v .refl rel1.strip ?_
    cases ha : ea.alloc g.fr with
    | false => rw [rE_noalloc ha np] at r1; exact r1
    | true =>
      rw [rE_alloc ha] at r1
      rw [if_pos rfl]
      cases d with
      | lst ds => obtain ⟨a, vs, e, h1, h2, h3, h4, h5, q⟩ := r1; exact ⟨a, vs, e, h1, h2, h3, rfl, h5, q⟩
      | dct ks ds => obtain ⟨a, vs, e, h1, h2, h3, h4, h5, k, q⟩ := r1; exact ⟨a, vs, e, h1, h2, h3, rfl, h5, k, q⟩
      | _ => exact r1
theorem mov_read {i : Nat} : ∀ D σ H, tSt K cl W g (.mov i) D σ H → tRet (tVar i) D σ H := by
  rintro D σ H ⟨B, col, σa, F, ι, S, rel, h⟩
  have h : SK K cl W B F ι (match σa[i]? with
    | some (.own d) => .rt d true S
    | some (.val d) => .rt d false S
    | _ => .bad) D := h
  split at h
  · rename_i d e
    refine pk_read rel e fun v hv => h F H ι v .refl rel.strip ?_
    rw [if_pos rfl]
    have z := rel.slots i _ _ e hv
    cases d with
    | lst ds => obtain ⟨a, vs, e, ha, hc, q⟩ := z; cases e; obtain ⟨f, b, i, _⟩ := rel.cf a _ hc; exact ⟨a, vs, rfl, ha, f, b, rfl, i, q⟩
    | dct ks ds => obtain ⟨a, vs, e, ha, hc, k, q⟩ := z; cases e; obtain ⟨f, b, i, _⟩ := rel.cf a _ hc; exact ⟨a, vs, rfl, ha, f, b, rfl, i, k, q⟩
    | _ => exact z.elim
  · rename_i d e
    have hi : i < σ.length := by rw [← rel.sl]; exact (List.getElem?_eq_some_iff.mp e).1
    obtain ⟨v, ev, r⟩ := rel.slots i _ _ e (List.getElem?_eq_getElem hi)
    exact ⟨v, by rw [List.getElem?_eq_getElem hi, ev], h F H ι v .refl rel.strip r⟩
  · exact h.elim
theorem pass_read : ∀ D σ H, tSt K cl W g .pass D σ H → tNext D σ H := fun D σ H ⟨B, col, σa, F, ι, S, rel, h⟩ => h F H ι col σ .refl rel
end
end IL
/-! Soundness, part O: and, or, chains; names of built-ins and methods. -/
namespace IL
open PySem L2

mutual
/-- may stand as a test -/
def E.tst : E → Bool
  | .ite _ _ _ => false
  | .cell _ => false
  | .frzr _ => false
  | .not a => a.tst
  | .and es => es.tst
  | .or es => es.tst
  | _ => true
def Es.tst : Es → Bool
  | .nil => true
  | .cons e es => e.tst && es.tst
end
section
variable {X : Cx} {K : PySem.W.Frag} {cl : Cl} {W : WX} {g : G} {a b c : Expr} {ea eb ec : E} {es : Es} {xs : List Expr} {pos : Pos}
/-- expressions in a row, each by its rule -/
def PEL (X : Cx) (K : PySem.W.Frag) (cl : Cl) (W : WX) (g : G) : Es → List Expr → Prop
  | .nil, xs => xs = []
  | .cons e es, xs => ∃ x r, xs = x :: r ∧ plainB x = true ∧ PE X x (tE K cl W g e) ∧ (e.tst = true → PT X x (tB' K cl W fun σa S => evalE g σa e S)) ∧ PEL X K cl W g es r
theorem PEL.plain : ∀ {es : Es} {xs : List Expr}, PEL X K cl W g es xs → xs.all plainB = true
  | .nil, xs, h => by rw [show xs = [] from h]; rfl
  | .cons e es, xs, ⟨x, r, e1, hp, _, _, t⟩ => by subst e1; rw [List.all_cons, hp, PEL.plain t]; rfl
theorem PEL.len : ∀ {es : Es} {xs : List Expr}, PEL X K cl W g es xs → xs.length = es.len
  | .nil, xs, h => by rw [show xs = [] from h]; rfl
  | .cons e es, xs, ⟨x, r, e1, hp, _, _, t⟩ => by subst e1; rw [List.length_cons, PEL.len t]; rfl
theorem PEL.pa : ∀ {es : Es} {xs : List Expr}, PEL X K cl W g es xs → PA X xs (tAs K cl W g es)
  | .nil, xs, h => by rw [show xs = [] from h]; exact s_anil
  | .cons e es, xs, ⟨x, r, e1, hp, h, _, t⟩ => by subst e1; exact s_acons hp (frz h) (PEL.pa t)
abbrev tAn (K : PySem.W.Frag) (cl : Cl) (W : WX) (g : G) (es : Es) : TE := tQ K cl W (fun σa S => evalAnd g σa es S) rF
abbrev tOn (K : PySem.W.Frag) (cl : Cl) (W : WX) (g : G) (es : Es) : TE := tQ K cl W (fun σa S => evalOr g σa es S) rF
theorem and1_read {e : E} : ∀ σ H Q, tAn K cl W g (.cons e .nil) σ H Q → tR K cl W g e σ H Q := by
  rintro σ H Q ⟨B, col, σa, F, ι, S, rel, h⟩
  have h : EK ⟨K, cl, W, B, col, σa, σ⟩ F ι (rF ⟨K, cl, W, B, col, σa, σ⟩) ((evalE g σa e S).bind fun d S1 => (match d with
    | .bl true => .ok (.bl true) S1
    | .bl false => .ok (.bl false) S1
    | _ => .bad)) Q := h
  refine ⟨B, col, σa, F, ι, S, rel, EK.bind h fun d S1 F1 H1 ι1 v x1 rel1 r1 h1 => ?_⟩
  cases d with
  | bl b => cases b <;> exact h1.at rel1 (rel1.shR r1)
  | _ => exact h1.elim
theorem or1_read {e : E} : ∀ σ H Q, tOn K cl W g (.cons e .nil) σ H Q → tR K cl W g e σ H Q := by
  rintro σ H Q ⟨B, col, σa, F, ι, S, rel, h⟩
  have h : EK ⟨K, cl, W, B, col, σa, σ⟩ F ι (rF ⟨K, cl, W, B, col, σa, σ⟩) ((evalE g σa e S).bind fun d S1 => (match d with
    | .bl false => .ok (.bl false) S1
    | .bl true => .ok (.bl true) S1
    | _ => .bad)) Q := h
  refine ⟨B, col, σa, F, ι, S, rel, EK.bind h fun d S1 F1 H1 ι1 v x1 rel1 r1 h1 => ?_⟩
  cases d with
  | bl b => cases b <;> exact h1.at rel1 (rel1.shR r1)
  | _ => exact h1.elim
theorem and_read {e : E} {es : Es} : ∀ σ H Q, tAn K cl W g (.cons e es) σ H Q → tAndV (tR K cl W g e) (tAn K cl W g es) σ H Q := by
  rintro σ H Q ⟨B, col, σa, F, ι, S, rel, h⟩
  have h : EK ⟨K, cl, W, B, col, σa, σ⟩ F ι (rF ⟨K, cl, W, B, col, σa, σ⟩) ((evalE g σa e S).bind fun d S1 => (match d with
    | .bl true => evalAnd g σa es S1
    | .bl false => .ok (.bl false) S1
    | _ => .bad)) Q := h
  refine ⟨B, col, σa, F, ι, S, rel, EK.bind h fun d S1 F1 H1 ι1 v x1 rel1 r1 h1 => ?_⟩
  cases d with
  | bl b =>
    refine ⟨b, rel1.shR r1, ?_⟩
    cases b with
    | true => rw [if_pos rfl]; exact ⟨B, col, σa, F1, ι1, S1, rel1, h1⟩
    | false => rw [if_neg Bool.false_ne_true]; exact h1.at rel1 rfl
  | _ => exact h1.elim
theorem or_read {e : E} {es : Es} : ∀ σ H Q, tOn K cl W g (.cons e es) σ H Q → tOrV (tR K cl W g e) (tOn K cl W g es) σ H Q := by
  rintro σ H Q ⟨B, col, σa, F, ι, S, rel, h⟩
  have h : EK ⟨K, cl, W, B, col, σa, σ⟩ F ι (rF ⟨K, cl, W, B, col, σa, σ⟩) ((evalE g σa e S).bind fun d S1 => (match d with
    | .bl false => evalOr g σa es S1
    | .bl true => .ok (.bl true) S1
    | _ => .bad)) Q := h
  refine ⟨B, col, σa, F, ι, S, rel, EK.bind h fun d S1 F1 H1 ι1 v x1 rel1 r1 h1 => ?_⟩
  cases d with
  | bl b =>
    refine ⟨b, rel1.shR r1, ?_⟩
    cases b with
    | false => rw [if_neg Bool.false_ne_true]; exact ⟨B, col, σa, F1, ι1, S1, rel1, h1⟩
    | true => rw [if_pos rfl]; exact h1.at rel1 rfl
  | _ => exact h1.elim
theorem l_and : ∀ {es : Es} {x : Expr} {xs : List Expr}, PEL X K cl W g es (x :: xs) → PE X (.BoolOp .And (x :: xs) pos) (tAn K cl W g es)
  | .nil, _, _, h => by cases (show _ :: _ = [] from h)
  | .cons e .nil, x, xs, ⟨y, r, e1, _, h, _, t⟩ => by
    cases e1
    rw [show xs = [] from t]
    exact (pe_one (frz h)).imp and1_read
  | .cons e (.cons e2 es), x, xs, ⟨y, r, e1, _, h, _, t⟩ => by
    cases e1
    have t' := t
    obtain ⟨z, r2, e3, _⟩ := t
    subst e3
    exact (pe_and (frz h) (l_and t')).imp and_read
theorem l_or : ∀ {es : Es} {x : Expr} {xs : List Expr}, PEL X K cl W g es (x :: xs) → PE X (.BoolOp .Or (x :: xs) pos) (tOn K cl W g es)
  | .nil, _, _, h => by cases (show _ :: _ = [] from h)
  | .cons e .nil, x, xs, ⟨y, r, e1, _, h, _, t⟩ => by
    cases e1
    rw [show xs = [] from t]
    exact (pe_one (frz h)).imp or1_read
  | .cons e (.cons e2 es), x, xs, ⟨y, r, e1, _, h, _, t⟩ => by
    cases e1
    have t' := t
    obtain ⟨z, r2, e3, _⟩ := t
    subst e3
    exact (pe_or (frz h) (l_or t')).imp or_read
abbrev tAnB (K : PySem.W.Frag) (cl : Cl) (W : WX) (g : G) (es : Es) : TT := tB' K cl W fun σa S => evalAnd g σa es S
abbrev tOnB (K : PySem.W.Frag) (cl : Cl) (W : WX) (g : G) (es : Es) : TT := tB' K cl W fun σa S => evalOr g σa es S
/-- a step of a test -/
theorem tb_step {ev ev' : List IL.Slot → Store → R D} {f : Bool → List IL.Slot → Store → R D} (he : ∀ σa S, ev σa S = (ev' σa S).bind fun d S1 => match d with
    | .bl b => f b σa S1
    | _ => .bad) {Q : Bool → Hp → Prop} {σ : St} {H : Hp} (h : tB' K cl W ev σ H Q) {Q' : Bool → Hp → Prop} (k : ∀ b H1, tB' K cl W (f b) σ H1 Q → Q' b H1) : tB' K cl W ev' σ H Q' := by
  obtain ⟨B, col, σa, F, ι, S, rel, h⟩ := h
  refine ⟨B, col, σa, F, ι, S, rel, ?_⟩
  show EK _ F ι (rB _) (toB (ev' σa S)) Q'
  have h : EK _ F ι (rB _) (toB (ev σa S)) Q := h
  rw [he] at h
  cases e : ev' σa S with
  | bad => rw [e] at h; exact h
  | exc x S1 => rw [e] at h; exact h
  | ok d S1 =>
    rw [e] at h
    cases d with
    | bl b =>
      intro F1 H1 ι1 v x1 rel1 r1
      obtain rfl : v = b := r1
      exact k v H1 ⟨B, col, σa, F1, ι1, S1, rel1, EK.mono h x1⟩
    | _ => exact h.elim
theorem tb_done {b : Bool} {Q : Bool → Hp → Prop} {σ : St} {H : Hp} (h : tB' K cl W (fun _ S => .ok (.bl b) S) σ H Q) : Q b H := by
  obtain ⟨B, col, σa, F, ι, S, rel, h⟩ := h
  have h : EK _ F ι (rB _) (.ok b S) Q := h
  exact h.at rel rfl
theorem q_and : ∀ {es : Es} {x : Expr} {xs : List Expr}, PEL X K cl W g es (x :: xs) → es.tst = true → PW X (.BoolOp .And (x :: xs) pos) (tAnB K cl W g es)
  | .nil, _, _, h, _ => by cases (show _ :: _ = [] from h)
  | .cons e .nil, x, xs, ⟨y, r, e1, _, _, h, t⟩, ht => by
    cases e1
    rw [show xs = [] from t]
    have ht : (e.tst && true) = true := ht
    rw [Bool.and_true] at ht
    have := pw_and1 (pos := pos) (h ht)
    refine ⟨fun wh pins s σ H Q I q => this.run wh pins s σ H Q I ?_⟩
    refine tb_step (f := fun b _ S => .ok (.bl b) S) (fun σa S => ?_) q fun b H1 h => tb_done h
    show (evalE g σa e S).bind _ = _
    congr 1
    funext d S1
    cases d with
    | bl b => cases b <;> rfl
    | _ => rfl
  | .cons e (.cons e2 es), x, xs, ⟨y, r, e1, _, _, h, t⟩, ht => by
    cases e1
    have t' := t
    obtain ⟨z, r2, e3, _⟩ := t
    subst e3
    have ht : (e.tst && (Es.cons e2 es).tst) = true := ht
    rw [Bool.and_eq_true] at ht
    have := pw_and (pos := pos) (h ht.1) (q_and t' ht.2)
    refine ⟨fun wh pins s σ H Q I q => this.run wh pins s σ H Q I ?_⟩
    refine tb_step (f := fun b σa S => if b then evalAnd g σa (.cons e2 es) S else .ok (.bl false) S) (fun σa S => ?_) q fun b H1 h => ?_
    · show (evalE g σa e S).bind _ = _
      congr 1
      funext d S1
      cases d with
      | bl b => cases b <;> rfl
      | _ => rfl
    · cases b with
      | true => rw [if_pos rfl]; exact h
      | false => rw [if_neg Bool.false_ne_true]; exact tb_done h
theorem q_or : ∀ {es : Es} {x : Expr} {xs : List Expr}, PEL X K cl W g es (x :: xs) → es.tst = true → PW X (.BoolOp .Or (x :: xs) pos) (tOnB K cl W g es)
  | .nil, _, _, h, _ => by cases (show _ :: _ = [] from h)
  | .cons e .nil, x, xs, ⟨y, r, e1, _, _, h, t⟩, ht => by
    cases e1
    rw [show xs = [] from t]
    have ht : (e.tst && true) = true := ht
    rw [Bool.and_true] at ht
    have := pw_or1 (pos := pos) (h ht)
    refine ⟨fun wh pins s σ H Q I q => this.run wh pins s σ H Q I ?_⟩
    refine tb_step (f := fun b _ S => .ok (.bl b) S) (fun σa S => ?_) q fun b H1 h => tb_done h
    show (evalE g σa e S).bind _ = _
    congr 1
    funext d S1
    cases d with
    | bl b => cases b <;> rfl
    | _ => rfl
  | .cons e (.cons e2 es), x, xs, ⟨y, r, e1, _, _, h, t⟩, ht => by
    cases e1
    have t' := t
    obtain ⟨z, r2, e3, _⟩ := t
    subst e3
    have ht : (e.tst && (Es.cons e2 es).tst) = true := ht
    rw [Bool.and_eq_true] at ht
    have := pw_or (pos := pos) (h ht.1) (q_or t' ht.2)
    refine ⟨fun wh pins s σ H Q I q => this.run wh pins s σ H Q I ?_⟩
    refine tb_step (f := fun b σa S => if b then .ok (.bl true) S else evalOr g σa (.cons e2 es) S) (fun σa S => ?_) q fun b H1 h => ?_
    · show (evalE g σa e S).bind _ = _
      congr 1
      funext d S1
      cases d with
      | bl b => cases b <;> rfl
      | _ => rfl
    · cases b with
      | false => rw [if_neg Bool.false_ne_true]; exact h
      | true => rw [if_pos rfl]; exact tb_done h
/-- the tests of a comprehension: none or one -/
theorem q_tests : ∀ {es : Es} {xs : List Expr}, PEL X K cl W g es xs → es.tst = true → es.len ≤ 1 → PTs X xs (tAnB K cl W g es)
  | .nil, xs, h, _, _ => by
    rw [show xs = [] from h]
    exact ⟨fun pins s σ H Q I q => pts_nil.run pins s σ H Q I (tb_done (b := true) q)⟩
  | .cons e .nil, xs, ⟨y, r, e1, _, _, h, t⟩, ht, _ => by
    subst e1
    rw [show r = [] from t]
    have ht : (e.tst && true) = true := ht
    rw [Bool.and_true] at ht
    have := pts_one (h ht)
    refine ⟨fun pins s σ H Q I q => this.run pins s σ H Q I ?_⟩
    refine tb_step (f := fun b _ S => .ok (.bl b) S) (fun σa S => ?_) q fun b H1 h => tb_done h
    show (evalE g σa e S).bind _ = _
    congr 1
    funext d S1
    cases d with
    | bl b => cases b <;> rfl
    | _ => rfl
  | .cons e (.cons e2 es), _, _, _, hl => by
    exfalso
    have hl : es.len + 1 + 1 ≤ 1 := hl
    omega
/-! ### a ≤ b ≤ c -/
theorem chn_read : ∀ σ H Q, tE K cl W g (.chn ea eb ec) σ H Q → tChain (rI0 fun i j => .bl (decide (i ≤ j))) (rI0 fun i j => .bl (decide (i ≤ j))) (tR K cl W g ea) (tR K cl W g eb) (tR K cl W g ec) σ H Q := by
  rintro σ H Q ⟨B, col, σa, F, ι, S, rel, h⟩
  have h : EK ⟨K, cl, W, B, col, σa, σ⟩ F ι (rF ⟨K, cl, W, B, col, σa, σ⟩) ((evalE g σa ea S).bind fun x S1 => (evalE g σa eb S1).bind fun y S2 => (match x, y with
    | .int i, .int j => if i ≤ j then (evalE g σa ec S2).bind fun z S3 => (match z with
      | .int k => .ok (.bl (decide (j ≤ k))) S3
      | _ => .bad) else .ok (.bl false) S2
    | _, _ => .bad)) Q := h
  refine ⟨B, col, σa, F, ι, S, rel, EK.bind h fun x S1 F1 H1 ι1 v x1 rel1 r1 h1 => ⟨B, col, σa, F1, ι1, S1, rel1, EK.bind h1 fun y S2 F2 H2 ι2 w x2 rel2 r2 h2 => ?_⟩⟩
  have s1 := rel2.shR (stab_rR ea _ x F1 H1 ι1 v F2 H2 ι2 x2 r1)
  have s2 := rel2.shR r2
  cases x with
  | int i =>
    cases y with
    | int j =>
      refine ⟨i, j, s1, s2, decide (i ≤ j), rfl, ?_⟩
      by_cases hij : i ≤ j
      · dsimp only at h2
        rw [if_pos hij] at h2
        rw [decide_eq_true hij, if_pos rfl]
        refine ⟨B, col, σa, F2, ι2, S2, rel2, EK.bind h2 fun z S3 F3 H3 ι3 u x3 rel3 r3 h3 => ?_⟩
        cases z with
        | int k => exact ⟨j, k, s2, rel3.shR r3, h3.at rel3 rfl⟩
        | _ => exact h3.elim
      · dsimp only at h2
        rw [if_neg hij] at h2
        rw [decide_eq_false hij, if_neg Bool.false_ne_true]
        exact h2.at rel2 rfl
    | _ => exact h2.elim
  | _ => exact h2.elim
theorem l_chn (hm : plainB c = true) (ha : PE X a (tR K cl W g ea)) (hb : PE X b (tR K cl W g eb)) (hc : PE X c (tR K cl W g ec)) : PE X (.Compare a [.LtE, .LtE] [b, c] pos) (tE K cl W g (.chn ea eb ec)) :=
  (pe_chain op_le op_le ha hb hc (nomarkP hm _)).imp chn_read
theorem q_chn (hm : plainB c = true) (ha : PE X a (tR K cl W g ea)) (hb : PE X b (tR K cl W g eb)) (hc : PE X c (tR K cl W g ec)) : PT X (.Compare a [.LtE, .LtE] [b, c] pos) (tB' K cl W fun σa S => evalE g σa (.chn ea eb ec) S) := by
  refine (pt_chain op_le op_le ha hb hc (nomarkP hm _)).imp fun σ H Q h => ?_
  have h1 : tQ K cl W (fun σa S => evalE g σa (.chn ea eb ec) S) rF σ H fun v H1 => ∃ c, v = .bl c ∧ Q c H1 := tB_of (ra := rF) (fun q F H ι S b v _ r => r) σ H Q h
  exact chn_read σ H _ h1
/-! ### methods by their names -/
def baseB : Expr → Bool
  | .Call (.Name _ _) [] [] _ => false
  | _ => true
theorem base_ok {o : Expr} {attr : Str} {env : Env} {whole : Sem Value} (h : baseB o = true) : attributeBase o attr env whole = whole := by
  unfold attributeBase
  split
  · cases h
  · rfl
theorem few_ok {xs : List Expr} {env : Env} {pos : Pos} (h : xs.all plainB = true) (hl : xs.length < 29) : ((backTo pos (starEach xs env)).all (fun x => !x.1) && (backToKw pos (keywordEach [] env)).all (fun x => x.1.isSome)
      && decide (xs.length + ([] : List Keyword).length + (if ([] : List Keyword).isEmpty then 0 else 1) < 30)) = true := by
  rw [star_all2 h]
  have : (backToKw pos (keywordEach [] env)).all (fun x => x.1.isSome) = true := rfl
  rw [this]
  have : decide (xs.length + ([] : List Keyword).length + (if ([] : List Keyword).isEmpty then 0 else 1) < 30) = true := decide_eq_true (by show xs.length + 0 + 0 < 30; omega)
  rw [this]; rfl
theorem l_bm {T id : String} {name : Str} {r : V → List V → Hp → VK → Prop} {to : TE} {t : TA} {o e : Expr} {es : List Expr} {apos cpos : Pos} (pa : PlainAttrs T) (slot : PySem.Slot T name id) (hty : typeOf (.builtin id) = pure (.type "method_descriptor")) (hm : MtR X id r) (ho : PE X o to) (ha : PA X (e :: es) t)
    (hb : baseB o = true) (hp : (e :: es).all plainB = true) (hl : (e :: es).length < 29) (hline : (apos.endLine == cpos.line) = true) : PE X (.Call (.Attribute o name apos) (e :: es) [] cpos) (tBM X.K T r to t) := by
  have hp' := hp
  rw [List.all_cons, Bool.and_eq_true] at hp'
  exact pe_bm pa slot hty hm ho ha (base_ok hb) (few_ok hp hl) hline (star_cons hp'.1) (star_all hp'.2)
theorem l_bm0 {T id : String} {name : Str} {r : V → List V → Hp → VK → Prop} {to : TE} {o : Expr} {apos cpos : Pos} (pa : PlainAttrs T) (slot : PySem.Slot T name id) (hty : typeOf (.builtin id) = pure (.type "method_descriptor")) (hm : MtR X id r) (ho : PE X o to)
    (hb : baseB o = true) (hline : (apos.endLine == cpos.line) = true) : PE X (.Call (.Attribute o name apos) [] [] cpos) (tBM0 X.K T r to) := pe_bm0 pa slot hty hm ho (base_ok hb) hline
end
end IL
/-! Soundness, part 1: walks over dicts of the store. -/
namespace IL
open PySem L2

/-! ### a place told -/
theorem pth_eval {g : G} {σ : List IL.Slot} {S : Store} : ∀ (e : E) {d : IL.D}, pth σ S e = some d → evalE g σ e S = .ok d S := by
  intro e
  refine E.recOn (motive_1 := fun e => ∀ {d : IL.D}, pth σ S e = some d → evalE g σ e S = .ok d S) (motive_2 := fun _ => True) (motive_3 := fun _ => True) e ?v ?pk ?k ?g ?bin ?chn ?isn ?ntn ?neg ?not ?and ?or ?ite ?tup ?lst ?dct0 ?dctd ?idx ?slL ?slU ?slB ?rev ?call ?blt ?met ?lc ?lcd ?lcl ?cell ?frzr ?nw ?fld ?mth ?mk ?n1 ?n2 ?i1 ?i2 ?i3 ?i4 ?i5
  case v =>
    intro i d h
    have h : (match σ[i]? with
      | some (.val d) => some d
      | _ => none) = some d := h
    show (match σ[i]? with
      | some (.val d) => R.ok d S
      | _ => .bad) = _
    split at h
    · cases h; rfl
    · cases h
  case fld =>
    intro c f a ih d h
    obtain ⟨x, h1, h2⟩ := Option.bind_eq_some_iff.mp (show (pth σ S a).bind _ = some d from h)
    show (evalE g σ a S).bind _ = _
    rw [ih h1, R.bind_ok]
    show R.of ((insD S c x).bind (List.lookup f)) S = _
    rw [h2]; rfl
  case idx =>
    intro a i iha _ d h
    cases i with
    | k i =>
      obtain ⟨x, h1, h2⟩ := Option.bind_eq_some_iff.mp (show (pth σ S a).bind _ = some d from h)
      show (evalE g σ a S).bind _ = _
      rw [iha h1, R.bind_ok]
      show (R.ok i S).bind _ = _
      rw [R.bind_ok]
      show R.of (idxD S x i) S = _
      rw [h2]; rfl
    | _ => cases h
  all_goals first | trivial | (intros; trivial) | (intros; rename_i h; cases h)
theorem pth_np {σ : List IL.Slot} {S : Store} {e : E} {d : IL.D} (h : pth σ S e = some d) : e.isPk = false := by
  cases e <;> first | rfl | cases h

/-! ### locks -/
section
variable {K : PySem.W.Frag} {B F H F' H' : Hp} {ι ι' : List Addr} {col : Col} {σa : List IL.Slot} {S S' : Store} {σ : L2.St}
theorem Rel.setObjB (r : Rel K B F H ι col σa S σ) {n : Nat} {a : Addr} {u : HO} {o' : IL.Obj} (hi : ι[n]? = some a) (ba : B a = none) (new : ObjR K F (upd H a u) ι o' a) : Rel K B F (upd H a u) ι col σa (S.set n o') σ := by
  have ha : a ∈ ι := List.mem_of_getElem? hi
  have fa := (r.io a ha).1
  have ne : ∀ b o, F b = some o → b ≠ a := fun b o e z => by subst z; rw [fa] at e; cases e
  refine ⟨fun b o e => by rw [upd_ne (ne b o e)]; exact r.fh b o e, fun b o e => ?_, fun b c e => ?_, r.io, r.nd, by rw [List.length_set]; exact r.ln, fun m o b h1 h2 => ?_, r.sl, fun i s o h1 h2 => ?_⟩
  · rw [upd_ne fun z => by subst z; rw [ba] at e; cases e]; exact r.bh b o e
  · obtain ⟨h1, h2, h3, h4⟩ := r.cf b c e
    rw [upd_ne fun z => h3 (by rw [z]; exact ha)]
    exact ⟨h1, h2, h3, h4⟩
  · by_cases q : m = n
    · subst q
      rw [hi] at h2; cases h2
      have hl : m < S.length := by rw [← r.ln]; exact (List.getElem?_eq_some_iff.mp hi).1
      rw [List.getElem?_set_self hl] at h1; cases h1
      exact new
    · rw [List.getElem?_set_ne (Ne.symm q)] at h1
      have hb : b ≠ a := fun z => by subst z; exact q (nodup_get r.nd h2 hi)
      exact ObjR.mono (Same.refl F) (List.prefix_refl _) (upd_ne hb) (r.st m o b h1 h2)
  · exact SlotR.mono (Same.refl F) (List.prefix_refl _) (fun b c e o q => by rw [upd_ne fun z => (r.cf b c e).2.2.1 (by rw [z]; exact ha)]; exact q) (r.slots i s o h1 h2)
/-- the context keeps a dict that is walked -/
theorem Rel.addL (r : Rel K B F H ι col σa S σ) {a : Addr} {od : PySem.Obj} {kvs : List (Key × V)} (ha : a ∈ ι) (h : H a = some (.frz od (.dK kvs))) : Rel K (upd B a (.frz od (.dK kvs))) F H ι col σa S σ := by
  refine ⟨r.fh, fun b u e => ?_, fun b c e => ?_, fun b hb => ⟨(r.io b hb).1, ?_⟩, r.nd, r.ln, r.st, r.sl, r.slots⟩
  · by_cases q : b = a
    · subst q; rw [upd_same] at e; cases e; exact h
    · rw [upd_ne q] at e; exact r.bh b u e
  · obtain ⟨h1, h2, h3, h4⟩ := r.cf b c e
    exact ⟨h1, by rw [upd_ne fun q => h3 (by rw [q]; exact ha)]; exact h2, h3, h4⟩
  · by_cases q : b = a
    · subst q; rw [upd_same]; exact fun o e => by cases e; exact ⟨od, kvs, rfl⟩
    · rw [upd_ne q]; exact (r.io b hb).2
theorem Rel.dropL {a : Addr} {o : HO} (r : Rel K (upd B a o) F H ι col σa S σ) (hb : ∀ u, B a = some u → u = o) : Rel K B F H ι col σa S σ := by
  refine ⟨r.fh, fun b u e => ?_, fun b c e => ?_, fun b h => ⟨(r.io b h).1, fun u e => ?_⟩, r.nd, r.ln, r.st, r.sl, r.slots⟩
  · by_cases q : b = a
    · subst q; rw [hb u e]; exact r.bh b o upd_same
    · exact r.bh b u (by rw [upd_ne q]; exact e)
  · obtain ⟨h1, h2, h3, h4⟩ := r.cf b c e
    have q : b ≠ a := fun q => by subst q; rw [upd_same] at h2; cases h2
    rw [upd_ne q] at h2
    exact ⟨h1, h2, h3, h4⟩
  · have z := (r.io b h).2
    by_cases q : b = a
    · subst q; rw [upd_same] at z; rw [hb u e]; exact z o rfl
    · rw [upd_ne q] at z; exact z u e
theorem Rel.lock (r : Rel K B F H ι col σa S σ) {n : Nat} {a : Addr} {od : PySem.Obj} {kvs : List (Key × V)} {ks : List Ky} {ds : List IL.D} (hi : ι[n]? = some a) (hp : H a = some (.dK kvs)) (kk : kvs.map (·.1) = ks.map kyK) (q : Reps K F ι ds (kvs.map (·.2))) :
    Rel K (upd B a (.frz od (.dK kvs))) F (upd H a (.frz od (.dK kvs))) ι col σa (S.set n (.dcl ks ds)) σ :=
  (r.setObj (u := .frz od (.dK kvs)) (o' := .dcl ks ds) hi hp (fun _ _ z => by cases z) ⟨od, kvs, upd_same, kk, q⟩).addL (List.mem_of_getElem? hi) upd_same
theorem Rel.unlock {a : Addr} {od : PySem.Obj} {kvs : List (Key × V)} (r : Rel K (upd B a (.frz od (.dK kvs))) F H ι col σa S σ) (hb : B a = none) {n : Nat} {ks : List Ky} {ds : List IL.D} (hi : ι[n]? = some a) (hs : S[n]? = some (.dcl ks ds)) :
    H a = some (.frz od (.dK kvs)) ∧ Rel K B F (upd H a (.dK kvs)) ι col σa (S.set n (.dct ks ds)) σ := by
  have ha := r.bh a _ upd_same
  obtain ⟨od', kvs', e, kk, q⟩ := r.st n _ a hs hi
  rw [ha] at e
  cases e
  exact ⟨ha, (r.dropL fun u e => by rw [hb] at e; cases e).setObjB (u := .dK kvs) (o' := .dct ks ds) hi hb ⟨kvs, upd_same, kk, q⟩⟩
theorem Ext.dropL {a : Addr} {o : HO} (x : Ext (upd B a o) F F' ι ι') : Ext B F F' ι ι' := ⟨x.same, x.pre, fun b u e => (x.nf b u e).imp id fun q => by
  have hp : b ≠ a := fun z => by subst z; rw [upd_same] at q; cases q
  rwa [upd_ne hp] at q⟩
theorem Rel.addr (r : Rel K B F H ι col σa S σ) {n : Nat} {o : IL.Obj} (hs : S[n]? = some o) : ∃ a, ι[n]? = some a := by
  have hl : n < ι.length := by rw [r.ln]; exact (List.getElem?_eq_some_iff.mp hs).1
  exact ⟨ι[n], List.getElem?_eq_getElem hl⟩
end

/-! ### what is walked -/
section
variable {X : Cx} {K : PySem.W.Frag} {cl : Cl} {W : WX} {g : G}
theorem wk_dct {B0 F0 : Hp} {ι0 : List Addr} {a : Addr} {od : PySem.Obj} {kvs : List (Key × V)} {ks : List Ky} {ds : List IL.D} (hb : B0 a = some (.frz od (.dK kvs))) (kk : kvs.map (·.1) = ks.map kyK) (q : Reps K F0 ι0 ds (kvs.map (·.2))) :
    Wk K B0 (Itk a od kvs) F0 ι0 (wlk 0 ks ds) ∧ Wk K B0 (Itd a od kvs) F0 ι0 (wlk 1 ks ds) ∧ Wk K B0 (Iti a od kvs) F0 ι0 (wlk 2 ks ds) := by
  have kl : kvs.length = ks.length := by have := congrArg List.length kk; simpa using this
  have dl : kvs.length = ds.length := by have := q.length; simpa using this
  have kyr : ∀ {F : Hp} {ι : List Addr} {i : Nat} {k : Key} {v : V}, kvs[i]? = some (k, v) → ∃ y, ks[i]? = some y ∧ Rep K F ι (kyD y) (kV k) := fun {F ι i k v} h => by
    have h1 : (kvs.map (·.1))[i]? = some k := by rw [List.getElem?_map, h]; rfl
    rw [kk, List.getElem?_map] at h1
    obtain ⟨y, hy, e⟩ := Option.map_eq_some_iff.mp h1
    refine ⟨y, hy, ?_⟩
    rw [← e]
    cases y <;> rfl
  have dr : ∀ {F : Hp} {ι : List Addr} {i : Nat} {k : Key} {v : V}, Same F0 F → ι0 <+: ι → kvs[i]? = some (k, v) → ∃ d, ds[i]? = some d ∧ Rep K F ι d v := fun {F ι i k v} s px h => by
    have hlt : i < ds.length := by rw [← dl]; exact (List.getElem?_eq_some_iff.mp h).1
    obtain ⟨w, hw, rw'⟩ := (Reps.mono s px _ _ q).get (List.getElem?_eq_getElem hlt)
    rw [List.getElem?_map, h] at hw
    cases hw
    exact ⟨_, List.getElem?_eq_getElem hlt, rw'⟩
  refine ⟨?_, ?_, ?_⟩
  · intro i B F H ι col σa S σ sB s px rel
    have hH := rel.bh a _ (sB a _ hb)
    have wl : (wlk 0 ks ds).length = ks.length := by show (ks.map kyD).length = _; rw [List.length_map]
    refine ⟨fun hl => ⟨hH, by omega⟩, fun d hd => ⟨⟨hH, by have := (List.getElem?_eq_some_iff.mp hd).1; omega⟩, fun x H' ⟨e, k, v, hk, ex⟩ => ?_⟩⟩
    subst e ex
    obtain ⟨y, hy, ry⟩ := kyr (F := F) (ι := ι) hk
    have hd : (ks.map kyD)[i]? = some d := hd
    rw [List.getElem?_map, hy] at hd
    cases hd
    exact ⟨F, .refl, rel, ry⟩
  · intro i B F H ι col σa S σ sB s px rel
    have hH := rel.bh a _ (sB a _ hb)
    have wl : (wlk 1 ks ds).length = ds.length := rfl
    refine ⟨fun hl => ⟨hH, by omega⟩, fun d hd => ⟨⟨hH, by have := (List.getElem?_eq_some_iff.mp hd).1; omega⟩, fun x H' ⟨e, k, hk⟩ => ?_⟩⟩
    subst e
    obtain ⟨y, hy, ry⟩ := dr s px hk
    have hd : ds[i]? = some d := hd
    rw [hy] at hd
    cases hd
    exact ⟨F, .refl, rel, ry⟩
  · intro i B F H ι col σa S σ sB s px rel
    have hH := rel.bh a _ (sB a _ hb)
    have wl : (wlk 2 ks ds).length = ds.length := by
      show ((ks.zip ds).map _).length = _
      rw [List.length_map, List.length_zip]; omega
    refine ⟨fun hl => ⟨hH, by omega⟩, fun d hd => ⟨⟨hH, by have := (List.getElem?_eq_some_iff.mp hd).1; omega⟩, fun x H' ⟨T, k, v, hk, ex, hT, e2⟩ => ?_⟩⟩
    subst ex e2
    obtain ⟨y, hy, ry⟩ := kyr (F := F) (ι := ι) hk
    obtain ⟨z, hz, rz⟩ := dr s px hk
    have hd : ((ks.zip ds).map fun p => IL.D.tup [kyD p.1, p.2])[i]? = some d := hd
    have e3 : (ks.zip ds)[i]? = some (y, z) := by
      rw [List.getElem?_zip_eq_some]; exact ⟨hy, hz⟩
    rw [List.getElem?_map, e3] at hd
    cases hd
    exact pairT rel hT ry rz
/-- the dict is walked; the context keeps it -/
def tID (K : PySem.W.Frag) (w : Nat) (ed : E) : TI := fun σ H R => ∃ B col σa F ι S n a od kvs ks ds, Rel K B F H ι col σa S σ ∧ pth σa S ed = some (.ref n) ∧ S[n]? = some (.dcl ks ds) ∧ ι[n]? = some a ∧ B a = some (.frz od (.dK kvs)) ∧
  ∀ F' H' ι' J, Ext B F F' ι ι' → Rel K B F' H' ι' col σa S σ → Wk K B J F' ι' (wlk w ks ds) → R J H'
theorem tID_read {w : Nat} {ed : E} {σ : L2.St} {H : Hp} {R : L2.It → Hp → Prop} {Q : V → Hp → Prop} (h : tID K w ed σ H R)
    (k : ∀ a od kvs H1, H1 a = some (.frz od (.dK kvs)) → (∀ J, (w = 0 → J = Itk a od kvs) → (w = 1 → J = Itd a od kvs) → (w ≠ 0 → w ≠ 1 → J = Iti a od kvs) → R J H1) → Q (.ref a) H1) : tR K cl W g ed σ H Q := by
  obtain ⟨B, col, σa, F, ι, S, n, a, od, kvs, ks, ds, rel, hp, hs, hi, hb, h⟩ := h
  refine ⟨B, col, σa, F, ι, S, rel, ?_⟩
  show EK _ F ι _ (evalE g σa ed S) Q
  rw [pth_eval ed hp]
  intro F1 H1 ι1 v x1 rel1 r1
  rw [notPk (pth_np hp)] at r1
  obtain ⟨a', rfl, hi'⟩ := r1
  have e : a' = a := by
    have := pre_get x1.pre hi
    rw [this] at hi'; cases hi'; rfl
  subst e
  have ha := rel1.bh a' _ hb
  obtain ⟨od', kvs', e, kk, q⟩ := rel1.st n _ a' hs hi'
  rw [ha] at e
  cases e
  obtain ⟨w0, w1, w2⟩ := wk_dct (K := K) hb kk q
  refine k a' od kvs H1 ha fun J j0 j1 j2 => h F1 H1 ι1 J x1 rel1 ?_
  match w with
  | 0 => rw [j0 rfl]; exact w0
  | 1 => rw [j1 rfl]; exact w1
  | w + 2 => rw [j2 (by omega) (by omega)]; exact w2
theorem i_keysD {tg e : Expr} {ed : E} (he : PE X e (tR K cl W g ed)) : PI X tg e (tID K 0 ed) := by
  refine (pi_keys he).imp fun σ H R h => tID_read h fun a od kvs H1 ha k => ?_
  exact ⟨a, od, rfl, .inl ⟨kvs, ha, k _ (fun _ => rfl) (fun z => by cases z) (fun z => absurd rfl z)⟩⟩
theorem i_valsD {tg e : Expr} {ed : E} {apos cpos : Pos} (he : PE X e (tR K cl W g ed)) (hb : baseB e = true) (hl : (apos.endLine == cpos.line) = true) : PI X tg (.Call (.Attribute e "values" apos) [] [] cpos) (tID K 1 ed) := by
  refine (pi_values he (base_ok hb) hl).imp fun σ H R h => tID_read h fun a od kvs H1 ha k => ?_
  exact ⟨a, od, kvs, rfl, ha, k _ (fun z => by cases z) (fun _ => rfl) (fun _ z => absurd rfl z)⟩
theorem i_itemsD {elts : List Expr} {kk : Nat} {tpos : Pos} {e : Expr} {ed : E} {apos cpos : Pos} (he : PE X e (tR K cl W g ed)) (hb : baseB e = true) (hl : (apos.endLine == cpos.line) = true) : PI X (.Tuple elts kk tpos) (.Call (.Attribute e "items" apos) [] [] cpos) (tID K 2 ed) := by
  refine (pi_items he (base_ok hb) hl).imp fun σ H R h => tID_read h fun a od kvs H1 ha k => ?_
  exact ⟨a, od, kvs, rfl, ha, k _ (fun z => by cases z) (fun z => by cases z) (fun _ _ => rfl)⟩
/-- a place is told as ahead where a dict is locked -/
theorem pth_lock {σa : List IL.Slot} {S : Store} {n : Nat} {ks : List Ky} {ds : List IL.D} (e2 : S[n]? = some (.dct ks ds)) : ∀ (e : E) (d : IL.D), pth σa S e = some d → pth σa (S.set n (.dcl ks ds)) e = some d := by
  have hlt : n < S.length := (List.getElem?_eq_some_iff.mp e2).1
  intro e
  refine E.recOn (motive_1 := fun e => ∀ (d : IL.D), pth σa S e = some d → pth σa (S.set n (.dcl ks ds)) e = some d) (motive_2 := fun _ => True) (motive_3 := fun _ => True) e ?v ?pk ?k ?g ?bin ?chn ?isn ?ntn ?neg ?not ?and ?or ?ite ?tup ?lst ?dct0 ?dctd ?idx ?slL ?slU ?slB ?rev ?call ?blt ?met ?lc ?lcd ?lcl ?cell ?frzr ?nw ?fld ?mth ?mk ?n1 ?n2 ?i1 ?i2 ?i3 ?i4 ?i5
  case v => intro i d h; exact h
  case fld =>
    intro c f a ih d h
    obtain ⟨x, h1, h2⟩ := Option.bind_eq_some_iff.mp (show (pth σa S a).bind _ = some d from h)
    show (pth σa (S.set n (.dcl ks ds)) a).bind _ = _
    rw [ih x h1, Option.bind_some]
    obtain ⟨fs, h3, h4⟩ := Option.bind_eq_some_iff.mp h2
    have : insD (S.set n (.dcl ks ds)) c x = some fs := by
      cases x with
      | ref m =>
        have h3 : (match S[m]? with
          | some (.ins k fs) => if k = c then some fs else none
          | _ => none) = some fs := h3
        show (match (S.set n (.dcl ks ds))[m]? with
          | some (.ins k fs) => if k = c then some fs else none
          | _ => none) = some fs
        by_cases q : n = m
        · subst q; rw [e2] at h3; cases h3
        · rw [List.getElem?_set_ne q]; exact h3
      | _ => cases h3
    rw [this]
    exact h4
  case idx =>
    intro a i iha _ d h
    cases i with
    | k i =>
      obtain ⟨x, h1, h2⟩ := Option.bind_eq_some_iff.mp (show (pth σa S a).bind _ = some d from h)
      show (pth σa (S.set n (.dcl ks ds)) a).bind _ = _
      rw [iha x h1, Option.bind_some]
      cases x with
      | ref m =>
        have h2 : (S[m]?).bind (fun o => idxO o i) = some d := h2
        show ((S.set n (.dcl ks ds))[m]?).bind (fun o => idxO o i) = some d
        by_cases q : n = m
        · subst q; rw [e2] at h2; rw [List.getElem?_set_self hlt]; exact h2
        · rw [List.getElem?_set_ne q]; exact h2
      | _ => exact h2
    | _ => cases h
  all_goals first | trivial | (intros; trivial) | (intros; rename_i h; cases h)
theorem wlk_len {w : Nat} {ks : List Ky} {ds : List IL.D} (h : ks.length = ds.length) : (wlk w ks ds).length = ds.length := by
  match w with
  | 0 => show (ks.map kyD).length = _; rw [List.length_map, h]
  | 1 => rfl
  | w + 2 => show ((ks.zip ds).map _).length = _; rw [List.length_map, List.length_zip]; omega
/-! ### for, over a dict -/
/-- an exception's wish where a thing at d is locked -/
def lockW (d : Addr) (od : PySem.Obj) (u : HO) (W : WX) : WX := fun cls e σ H => H d = some (.frz od u) ∧ W cls e σ (upd H d u)
theorem takes_lock {d : Addr} {od : PySem.Obj} {u : HO} (t : L2N.Takes X W) (hn : ∀ o' u', X.H_0 d ≠ some (.frz o' u')) : L2N.Takes X (lockW d od u W) := fun v s' ⟨a, B, sI, pins, σ, H, cls, e, ev, I, nb, up, sky, na, os, ag, h, w⟩ =>
  t v s' ⟨a, B, sI, pins, σ, _, cls, e, ev, I.unlock h hn, nb, up, sky, by rw [upd_ne fun z => by rw [z, h] at na; cases na]; exact na, os, ag, w⟩
/-- for, the dict locked -/
theorem s_fordL {tg iter : Expr} {body : List Stmt} {t : Tg} {w : Nat} {ed : E} {u : Ss} (hp : PassesOwn (model X.prog X.w) X.A X.env X.xe) (hc : X.calm = true) (hi : PI X tg iter (tID K w ed)) (hg : PG X tg (gT K t)) (hb : PSs X body (tSs K cl W g u)) (hpl : plainB iter = true) {pos : Pos} :
    PS X (.For tg iter body [] pos) (fun D σ H => ∃ B col σa F ι S n a od kvs ks ds, Rel K B F H ι col σa S σ ∧ pth σa S ed = some (.ref n) ∧ S[n]? = some (.dcl ks ds) ∧ ι[n]? = some a ∧ B a = some (.frz od (.dK kvs)) ∧
      SK K cl W B F ι (forLoop (fun d σ S => match asg t d σ with
        | some σ' => execs g u σ' S
        | none => .bad) (wlk w ks ds) σa S) D) := by
  refine (ps_for hp hc hi hg hb (noset hpl)).imp ?_
  rintro D σ H ⟨B, col, σa, F, ι, S, n, a, od, kvs, ks, ds, rel, h1, h2, h3, h4, h⟩
  exact ⟨B, col, σa, F, ι, S, n, a, od, kvs, ks, ds, rel, h1, h2, h3, h4, fun F1 H1 ι1 J x1 rel1 wk => for_tail rfl rel1 wk (h.mono x1)⟩
theorem s_ford {tg iter : Expr} {body : List Stmt} {t : Tg} {w : Nat} {ed : E} {u : Ss} (hp : PassesOwn (model X.prog X.w) X.A X.env X.xe) (hc : X.calm = true) (tk : L2N.Takes X W) (hi : PI X tg iter (tID K w ed)) (hg : PG X tg (gT K t)) (hb : ∀ W, L2N.Takes X W → PSs X body (tSs K cl W g u)) (hpl : plainB iter = true) {pos : Pos} :
    PS X (.For tg iter body [] pos) (tSt K cl W g (.ford t w ed u)) := by
  refine ⟨fun pins s σ H D I hw => ?_⟩
  obtain ⟨B, col, σa, F, ι, S, rel, h⟩ := hw
  have h : SK K cl W B F ι (match pth σa S ed with
    | some (.ref n) => (match S[n]? with
      | some (.dct ks ds) => unl n (forLoop (fun d σ S => match asg t d σ with
        | some σ' => execs g u σ' S
        | none => .bad) (wlk w ks ds) σa (S.set n (.dcl ks ds)))
      | some (.dcl ks ds) => forLoop (fun d σ S => match asg t d σ with
        | some σ' => execs g u σ' S
        | none => .bad) (wlk w ks ds) σa S
      | _ => .bad)
    | _ => .bad) D := h
  cases e1 : pth σa S ed with
  | none => rw [e1] at h; exact h.elim
  | some d =>
    rw [e1] at h
    cases d with
    | ref n =>
      dsimp only at h
      cases e2 : S[n]? with
      | none => rw [e2] at h; exact h.elim
      | some o =>
        rw [e2] at h
        obtain ⟨a, hi'⟩ := rel.addr e2
        have z := rel.st n o a e2 hi'
        cases o with
        | dct ks ds =>
          dsimp only at h
          obtain ⟨kvs, ha, kk, q⟩ := z
          have hB := rel.unB (List.mem_of_getElem? hi') ha fun _ _ z => by cases z
          obtain ⟨od, I1⟩ := I.lock ha trivial
          have hn := I.nofrz ha trivial
          have relL := rel.lock (od := od) hi' ha kk q
          have hlt : n < S.length := (List.getElem?_eq_some_iff.mp e2).1
          have run := (s_fordL (W := lockW a od (.dK kvs) W) (pos := pos) hp hc hi hg (hb _ (takes_lock tk hn)) hpl).run pins s σ _
            ⟨fun σ' H' => H' a = some (.frz od (.dK kvs)) ∧ D.nx σ' (upd H' a (.dK kvs)), fun v H' => H' a = some (.frz od (.dK kvs)) ∧ D.rt v (upd H' a (.dK kvs)), fun σ' H' => H' a = some (.frz od (.dK kvs)) ∧ D.bk σ' (upd H' a (.dK kvs)), fun σ' H' => H' a = some (.frz od (.dK kvs)) ∧ D.ct σ' (upd H' a (.dK kvs))⟩ I1
            ⟨_, col, σa, F, ι, _, n, a, od, kvs, ks, ds, relL, pth_lock e2 ed _ e1, List.getElem?_set_self hlt, hi', upd_same, ?_⟩
          · refine thn run fun f s1 q => ?_
            cases f with
            | next => obtain ⟨σ', H', I2, e, q⟩ := q; exact ⟨σ', _, I2.unlock e hn, q⟩
            | brk => obtain ⟨σ', H', I2, e, q⟩ := q; exact ⟨σ', _, I2.unlock e hn, q⟩
            | cont => obtain ⟨σ', H', I2, e, q⟩ := q; exact ⟨σ', _, I2.unlock e hn, q⟩
            | ret v => obtain ⟨x, σ', H', I2, r, e, q⟩ := q; exact ⟨x, σ', _, I2.unlock e hn, r, q⟩
          · generalize forLoop _ (wlk w ks ds) σa (S.set n (.dcl ks ds)) = r at h ⊢
            cases r with
            | bad => exact h
            | nx σ1 S1 =>
              intro F' H' ι' col' σ' x' rel'
              have h : SK K cl W B F ι (match S1[n]? with
                | some (.dcl ks ds) => .nx σ1 (S1.set n (.dct ks ds))
                | _ => .bad) D := h
              split at h
              · rename_i e3
                obtain ⟨g1, g2⟩ := rel'.unlock hB (pre_get x'.pre hi') e3
                exact ⟨g1, h F' _ ι' col' σ' x'.dropL g2⟩
              · exact h.elim
            | rt d o S1 =>
              intro F' H' ι' v x' rel' rv
              have h : SK K cl W B F ι (match S1[n]? with
                | some (.dcl ks ds) => .rt d o (S1.set n (.dct ks ds))
                | _ => .bad) D := h
              split at h
              · rename_i e3
                obtain ⟨g1, g2⟩ := rel'.unlock hB (pre_get x'.pre hi') e3
                refine ⟨g1, h F' _ ι' v x'.dropL g2 ?_⟩
                cases o with
                | false => exact rv
                | true =>
                  have off : ∀ {p : Addr}, (upd B a (HO.frz od (.dK kvs))) p = none → p ≠ a ∧ B p = none := fun {p} q => by
                    have hp : p ≠ a := fun z => by subst z; rw [upd_same] at q; cases q
                    rw [upd_ne hp] at q
                    exact ⟨hp, q⟩
                  cases d with
                  | lst es =>
                    obtain ⟨p, vs, ev, hp, f1, f2, f3, f4, f5⟩ := rv
                    obtain ⟨g3, g4⟩ := off f2
                    exact ⟨p, vs, ev, by rw [upd_ne g3]; exact hp, f1, g4, f3, f4, f5⟩
                  | dct ks2 es =>
                    obtain ⟨p, vs, ev, hp, f1, f2, f3, f4, f5, f6⟩ := rv
                    obtain ⟨g3, g4⟩ := off f2
                    exact ⟨p, vs, ev, by rw [upd_ne g3]; exact hp, f1, g4, f3, f4, f5, f6⟩
                  | _ => exact rv
              · exact h.elim
            | exc x σ1 S1 =>
              intro F' H' ι' col' σ' cls d x' rel' er
              have h : SK K cl W B F ι (match S1[n]? with
                | some (.dcl ks ds) => .exc x σ1 (S1.set n (.dct ks ds))
                | _ => .bad) D := h
              split at h
              · rename_i e3
                obtain ⟨g1, g2⟩ := rel'.unlock hB (pre_get x'.pre hi') e3
                exact ⟨g1, h F' _ ι' col' σ' cls d x'.dropL g2 er⟩
              · exact h.elim
        | dcl ks ds =>
          dsimp only at h
          obtain ⟨od, kvs, ha, kk, q⟩ := z
          have ain := List.mem_of_getElem? hi'
          have bo : ∀ u, B a = some u → u = .frz od (.dK kvs) := fun u e => by
            have := rel.bh a u e
            rw [ha] at this; cases this; rfl
          refine (s_fordL (pos := pos) hp hc hi hg (hb W tk) hpl).run pins s σ H D I ⟨_, col, σa, F, ι, S, n, a, od, kvs, ks, ds, rel.addL ain ha, e1, e2, hi', upd_same, ?_⟩
          generalize forLoop _ (wlk w ks ds) σa S = r at h ⊢
          cases r with
          | bad => exact h
          | nx σ1 S1 => exact fun F' H' ι' col' σ' x' rel' => h F' H' ι' col' σ' x'.dropL (rel'.dropL bo)
          | rt d o S1 =>
            intro F' H' ι' v x' rel' rv
            refine h F' H' ι' v x'.dropL (rel'.dropL bo) ?_
            cases o with
            | false => exact rv
            | true =>
              have off : ∀ {p : Addr}, (upd B a (HO.frz od (.dK kvs))) p = none → B p = none := fun {p} q => by
                have hp : p ≠ a := fun z => by subst z; rw [upd_same] at q; cases q
                rw [upd_ne hp] at q
                exact q
              cases d with
              | lst es =>
                obtain ⟨p, vs, ev, hp, f1, f2, f3, f4, f5⟩ := rv
                exact ⟨p, vs, ev, hp, f1, off f2, f3, f4, f5⟩
              | dct ks2 es =>
                obtain ⟨p, vs, ev, hp, f1, f2, f3, f4, f5, f6⟩ := rv
                exact ⟨p, vs, ev, hp, f1, off f2, f3, f4, f5, f6⟩
              | _ => exact rv
          | exc x σ1 S1 => exact fun F' H' ι' col' σ' cls d x' rel' er => h F' H' ι' col' σ' cls d x'.dropL (rel'.dropL bo) er
        | _ => exact h.elim
    | _ => exact h.elim

/-! ### comprehension, over a dict -/
/-- the comprehension's wish where the dict is locked -/
def TLd (K : PySem.W.Frag) (cl : Cl) (W : WX) (g : G) (t : Tg) (w : Nat) (ed : E) (es : Es) (ea : E) : TE := fun σ H Q => ∃ B col σa F ι S n a od kvs ks ds, Rel K B F H ι col σa S σ ∧ pth σa S ed = some (.ref n) ∧ S[n]? = some (.dcl ks ds) ∧ ι[n]? = some a ∧ B a = some (.frz od (.dK kvs)) ∧ ea.isPk = false ∧ noOwn σa t.vars = true ∧ (wlk w ks ds).length ≤ line ∧
      EK ⟨K, cl, W, B, col, σa, σ⟩ F ι (rO ⟨K, cl, W, B, col, σa, σ⟩) ((lcLoop (fun d S => match asg t d (IL.wipe σa t.vars) with
        | some σ' => ((evalAnd g σ' es S).bind fun b S' => (match b with
          | .bl true => (evalE g σ' ea S').bind fun y S'' => .ok (some y) S''
          | .bl false => .ok none S'
          | _ => .bad)).nox
        | none => .bad) (wlk w ks ds) S).bind fun r S2 => .ok (.lst r) S2) Q
theorem TLd_lc {t : Tg} {w : Nat} {ed ea : E} {es : Es} {σ : L2.St} {H : Hp} {Q : VK} (h : TLd K cl W g t w ed es ea σ H Q) : tLc (tID K w ed) (gT K t) (tB' K cl W0 fun σa S => evalAnd g σa es S) (tR K cl W0 g ea) t.vars σ H Q := by
  obtain ⟨B, col, σa, F, ι, S, n, a, od, kvs, ks, ds, rel, h1, h2, h3, h4, h5, h6, h7, h⟩ := h
  exact ⟨B, col, σa, F, ι, S, n, a, od, kvs, ks, ds, rel, h1, h2, h3, h4, fun F1 H1 ι1 J x1 rel1 wk => lc_tail h5 h6 rfl rel1 wk h7 (h.mono x1)⟩
theorem lcd_split {t : Tg} {w : Nat} {ed ea : E} {es : Es} {σ : L2.St} {H : Hp} {Q : VK} (h : tE K cl W g (.lcd t w ed es ea) σ H Q) :
    (∃ a kvs, H a = some (.dK kvs) ∧ ∀ od, TLd K cl W g t w ed es ea σ (upd H a (.frz od (.dK kvs))) fun v H' => H' a = some (.frz od (.dK kvs)) ∧ Q v (upd H' a (.dK kvs))) ∨ TLd K cl W g t w ed es ea σ H Q := by
  obtain ⟨B, col, σa, F, ι, S, rel, h⟩ := h
  have h : EK ⟨K, cl, W, B, col, σa, σ⟩ F ι (rO ⟨K, cl, W, B, col, σa, σ⟩) (if ea.isPk || !noOwn σa t.vars then .bad else
      match pth σa S ed with
      | some (.ref n) => (match S[n]? with
        | some (.dct ks ds) => if ds.length ≤ line ∧ ks.length = ds.length then (lcLoop (fun d S => match asg t d (IL.wipe σa t.vars) with
        | some σ' => ((evalAnd g σ' es S).bind fun b S' => (match b with
          | .bl true => (evalE g σ' ea S').bind fun y S'' => .ok (some y) S''
          | .bl false => .ok none S'
          | _ => .bad)).nox
        | none => .bad) (wlk w ks ds) (S.set n (.dcl ks ds))).nox.bind fun r S2 => (match S2[n]? with
          | some (.dcl ks' ds') => .ok (.lst r) (S2.set n (.dct ks' ds'))
          | _ => .bad) else .bad
        | some (.dcl ks ds) => if ds.length ≤ line ∧ ks.length = ds.length then (lcLoop (fun d S => match asg t d (IL.wipe σa t.vars) with
        | some σ' => ((evalAnd g σ' es S).bind fun b S' => (match b with
          | .bl true => (evalE g σ' ea S').bind fun y S'' => .ok (some y) S''
          | .bl false => .ok none S'
          | _ => .bad)).nox
        | none => .bad) (wlk w ks ds) S).bind fun r S2 => .ok (.lst r) S2 else .bad
        | _ => .bad)
      | _ => .bad) Q := h
  cases hpk : (ea.isPk || !noOwn σa t.vars) with
  | true => rw [hpk] at h; exact h.elim
  | false =>
    rw [hpk, if_neg Bool.false_ne_true] at h
    rw [Bool.or_eq_false_iff, Bool.not_eq_false'] at hpk
    obtain ⟨hpk, hno⟩ := hpk
    cases e1 : pth σa S ed with
    | none => rw [e1] at h; exact h.elim
    | some d =>
      rw [e1] at h
      cases d with
      | ref n =>
        dsimp only at h
        cases e2 : S[n]? with
        | none => rw [e2] at h; exact h.elim
        | some o =>
          rw [e2] at h
          obtain ⟨a, hi'⟩ := rel.addr e2
          have z := rel.st n o a e2 hi'
          cases o with
          | dct ks ds =>
            dsimp only at h
            by_cases hl : ds.length ≤ line ∧ ks.length = ds.length
            · rw [if_pos hl] at h
              obtain ⟨kvs, ha, kk, q⟩ := z
              have hB := rel.unB (List.mem_of_getElem? hi') ha fun _ _ z => by cases z
              refine .inl ⟨a, kvs, ha, fun od => ?_⟩
              have hlt : n < S.length := (List.getElem?_eq_some_iff.mp e2).1
              refine ⟨_, col, σa, F, ι, _, n, a, od, kvs, ks, ds, rel.lock (od := od) hi' ha kk q, pth_lock e2 ed _ e1, List.getElem?_set_self hlt, hi', upd_same, hpk, hno, by rw [wlk_len hl.2]; exact hl.1, ?_⟩
              generalize lcLoop _ (wlk w ks ds) (S.set n (.dcl ks ds)) = r at h ⊢
              cases r with
              | bad => exact h
              | exc x S2 => exact h.elim
              | ok r S2 =>
                intro F1 H1 ι1 v x1 rel1 rv
                have h : EK ⟨K, cl, W, B, col, σa, σ⟩ F ι (rO ⟨K, cl, W, B, col, σa, σ⟩) (match S2[n]? with
                  | some (.dcl ks' ds') => .ok (.lst r) (S2.set n (.dct ks' ds'))
                  | _ => .bad) Q := h
                split at h
                · rename_i e3
                  obtain ⟨g1, g2⟩ := rel1.unlock hB (pre_get x1.pre hi') e3
                  obtain ⟨p, vs, ev, hp, f1, f2, f3, f4, f5⟩ := rv
                  have f2 : upd B a (.frz od (.dK kvs)) p = none := f2
                  have hp' : p ≠ a := fun z => by subst z; rw [upd_same] at f2; cases f2
                  rw [upd_ne hp'] at f2
                  exact ⟨g1, h F1 _ ι1 v x1.dropL g2 ⟨p, vs, ev, by rw [upd_ne hp']; exact hp, f1, f2, f3, f4, f5⟩⟩
                · exact h.elim
            · rw [if_neg hl] at h; exact h.elim
          | dcl ks ds =>
            dsimp only at h
            by_cases hl : ds.length ≤ line ∧ ks.length = ds.length
            · rw [if_pos hl] at h
              obtain ⟨od, kvs, ha, kk, q⟩ := z
              have ain := List.mem_of_getElem? hi'
              have bo : ∀ u, B a = some u → u = .frz od (.dK kvs) := fun u e => by
                have := rel.bh a u e
                rw [ha] at this; cases this; rfl
              refine .inr ⟨_, col, σa, F, ι, S, n, a, od, kvs, ks, ds, rel.addL ain ha, e1, e2, hi', upd_same, hpk, hno, by rw [wlk_len hl.2]; exact hl.1, ?_⟩
              generalize lcLoop _ (wlk w ks ds) S = r at h ⊢
              cases r with
              | bad => exact h
              | exc x S2 => exact fun F' H' ι' cls d x' rel' er => h F' H' ι' cls d x'.dropL (rel'.dropL bo) er
              | ok r S2 =>
                intro F1 H1 ι1 v x1 rel1 rv
                obtain ⟨p, vs, ev, hp, f1, f2, f3, f4, f5⟩ := rv
                have f2 : upd B a (.frz od (.dK kvs)) p = none := f2
                have hp' : p ≠ a := fun z => by subst z; rw [upd_same] at f2; cases f2
                rw [upd_ne hp'] at f2
                exact h F1 H1 ι1 v x1.dropL (rel1.dropL bo) ⟨p, vs, ev, hp, f1, f2, f3, f4, f5⟩
            · rw [if_neg hl] at h; exact h.elim
          | _ => exact h.elim
      | _ => exact h.elim
theorem s_lcd {elt tg iter : Expr} {ifs : List Expr} {scope : Scope} {own : List (Str × Nat)} {t : Tg} {w : Nat} {ed ea : E} {es : Es} {pos : Pos} (hc : X.calm = true) (hN : X.N.Nodup) (hi : PI X tg iter (tID K w ed)) (ok : BlkOk X.N X.env.scope scope own) (hv : own.map (·.2) = t.vars)
    (hg : ∀ (s : Shared) (H : Hp) (C : Addr) (cl : List (Str × Addr)) (fp : List Addr), PG (X.blk s H scope (compEnvC scope cl C X.env) fp) tg (gT K t))
    (ht : ∀ (s : Shared) (H : Hp) (C : Addr) (cl' : List (Str × Addr)) (fp : List Addr), PTs (X.blk s H scope (compEnvC scope cl' C X.env) fp) ifs (tB' K cl W0 fun σa S => evalAnd g σa es S))
    (he : ∀ (s : Shared) (H : Hp) (C : Addr) (cl' : List (Str × Addr)) (fp : List Addr), PE (X.blk s H scope (compEnvC scope cl' C X.env) fp) elt (tR K cl W0 g ea)) (hp : plainB iter = true) :
    PE X (.ListComp elt [⟨tg, iter, ifs, 0⟩] scope pos) (tE K cl W g (.lcd t w ed es ea)) := by
  have base : PE X (.ListComp elt [⟨tg, iter, ifs, 0⟩] scope pos) (TLd K cl W g t w ed es ea) := by
    have h := pe_lc (pos := pos) hc hN hi ok hg ht he (noset hp)
    rw [hv] at h
    exact h.imp fun σ H Q => TLd_lc
  refine ⟨fun pins s σ H Q I hw => ?_⟩
  rcases lcd_split hw with ⟨a, kvs, ha, h⟩ | h
  · exact (pe_lock base).run pins s σ H Q I ⟨a, .dK kvs, ha, trivial, h⟩
  · exact base.run pins s σ H Q I h

/-! ### comprehension, over a list of the store -/
def tIL (K : PySem.W.Frag) (ed : E) : TI := fun σ H R => ∃ B col σa F ι S n ds, Rel K B F H ι col σa S σ ∧ pth σa S ed = some (.ref n) ∧ S[n]? = some (.lst ds) ∧
  ∀ F' H' ι' a, Ext B F F' ι ι' → Rel K B F' H' ι' col σa S σ → ι'[n]? = some a → R (Itl K a) H'
theorem i_live {tg e : Expr} {ed : E} (hK : X.K = K) (he : PE X e (tR K cl W g ed)) : PI X tg e (tIL K ed) := by
  refine (pi_list he).imp ?_
  rintro σ H R ⟨B, col, σa, F, ι, S, n, ds, rel, hp, hs, h⟩
  refine ⟨B, col, σa, F, ι, S, rel, ?_⟩
  show EK _ F ι _ (evalE g σa ed S) _
  rw [pth_eval ed hp]
  intro F1 H1 ι1 v x1 rel1 r1
  rw [notPk (pth_np hp)] at r1
  obtain ⟨a, rfl, hi⟩ := r1
  obtain ⟨vs, ha, _⟩ := rel1.st n _ a hs hi
  rw [hK]
  exact ⟨a, rfl, ⟨vs, SqL.of ha⟩, h F1 H1 ι1 a x1 rel1 hi⟩
theorem lcl_read {t : Tg} {ed ea : E} {es : Es} {σ : L2.St} {H : Hp} {Q : VK} (h : tE K cl W g (.lcl t ed es ea) σ H Q) : tLc (tIL K ed) (gT K t) (tB' K cl W0 fun σa S => evalAnd g σa es S) (tR K cl W0 g ea) t.vars σ H Q := by
  obtain ⟨B, col, σa, F, ι, S, rel, h⟩ := h
  have h : EK ⟨K, cl, W, B, col, σa, σ⟩ F ι (rO ⟨K, cl, W, B, col, σa, σ⟩) (if ea.isPk || !noOwn σa t.vars then .bad else (match pth σa S ed with
      | some (.ref n) => (match S[n]? with
        | some (.lst ds) => if ds.length < line then (lcLive (fun d S => match asg t d (IL.wipe σa t.vars) with
          | some σ' => ((evalAnd g σ' es S).bind fun b S' => (match b with
            | .bl true => (evalE g σ' ea S').bind fun y S'' => .ok (some y) S''
            | .bl false => .ok none S'
            | _ => .bad)).nox
          | none => .bad) n (ds.length + 1) 0 S).bind fun r S2 => .ok (.lst r) S2 else .bad
        | _ => .bad)
      | _ => .bad)) Q := h
  cases hpk : (ea.isPk || !noOwn σa t.vars) with
  | true => rw [hpk] at h; exact h.elim
  | false =>
    rw [hpk, if_neg Bool.false_ne_true] at h
    rw [Bool.or_eq_false_iff, Bool.not_eq_false'] at hpk
    obtain ⟨hpk, hno⟩ := hpk
    cases e1 : pth σa S ed with
    | none => rw [e1] at h; exact h.elim
    | some d =>
      rw [e1] at h
      cases d with
      | ref n =>
        dsimp only at h
        cases e2 : S[n]? with
        | none => rw [e2] at h; exact h.elim
        | some o =>
          rw [e2] at h
          cases o with
          | lst ds =>
            dsimp only at h
            by_cases hl : ds.length < line
            · rw [if_pos hl] at h
              exact ⟨B, col, σa, F, ι, S, n, ds, rel, e1, e2, fun F1 H1 ι1 a x1 rel1 hi => lc_live hpk hno rfl rel1 hi (by omega) (h.mono x1)⟩
            · rw [if_neg hl] at h; exact h.elim
          | _ => exact h.elim
      | _ => exact h.elim

/-! ### get, pop with a key -/
def dctD (S : Store) : IL.D → Option (List Ky × List IL.D)
  | .dct ks ds => some (ks, ds)
  | .ref n => (match S[n]? with
    | some (.dct ks ds) => some (ks, ds)
    | some (.dcl ks ds) => some (ks, ds)
    | _ => none)
  | _ => none
theorem dct_sh {B F H : Hp} {ι : List Addr} {col : Col} {σa : List IL.Slot} {S : Store} {σ : L2.St} (rel : Rel K B F H ι col σa S σ) {x : IL.D} {v : V} (s : Sh K F H ι x v) {ks : List Ky} {ds : List IL.D} (h : dctD S x = some (ks, ds)) :
    ∃ a kvs, v = .ref a ∧ Rd H a (.dK kvs) ∧ kvs.map (·.1) = ks.map kyK ∧ Reps K F ι ds (kvs.map (·.2)) := by
  cases x with
  | dct ks' ds' => cases h; exact s
  | ref n =>
    have h : (match S[n]? with
      | some (.dct ks ds) => some (ks, ds)
      | some (.dcl ks ds) => some (ks, ds)
      | _ => none) = some (ks, ds) := h
    obtain ⟨a, rfl, hi⟩ := s
    cases e : S[n]? with
    | none => rw [e] at h; cases h
    | some o =>
      rw [e] at h
      have z := rel.st n o a e hi
      cases o with
      | dct _ _ => cases h; obtain ⟨kvs, hp, kk, q⟩ := z; exact ⟨a, kvs, rfl, .inl hp, kk, q⟩
      | dcl _ _ => cases h; obtain ⟨od, kvs, hp, kk, q⟩ := z; exact ⟨a, kvs, rfl, .inr ⟨od, hp⟩, kk, q⟩
      | _ => cases h
  | _ => cases h
theorem rcv_get {S : Store} {x : IL.D} (h : rcv .get x S = true) : ∃ p, dctD S x = some p := by
  cases x with
  | dct ks ds => exact ⟨_, rfl⟩
  | ref n =>
    have h : (match S[n]? with | some (.dct _ _) => true | some (.dcl _ _) => true | _ => false) = true := h
    show ∃ p, (match S[n]? with
      | some (.dct ks ds) => some (ks, ds)
      | some (.dcl ks ds) => some (ks, ds)
      | _ => none) = some p
    split at h
    · exact ⟨_, rfl⟩
    · exact ⟨_, rfl⟩
    · cases h
  | _ => cases h
theorem met_get {S S' : Store} {x y z d : IL.D} (h : metD S .get x [y, z] = some (d, S')) : ∃ ks ds k, dctD S x = some (ks, ds) ∧ y.ky = some k ∧ d = (kget ks ds k).getD z ∧ S' = S := by
  cases x with
  | dct ks ds =>
    obtain ⟨k, hk, e⟩ := Option.map_eq_some_iff.mp (show y.ky.map _ = _ from h)
    cases e
    exact ⟨ks, ds, k, rfl, hk, rfl, rfl⟩
  | ref n =>
    have h : (match S[n]? with
      | some (.dct ks ds) => y.ky.map fun k => ((kget ks ds k).getD z, S)
      | some (.dcl ks ds) => y.ky.map fun k => ((kget ks ds k).getD z, S)
      | _ => none) = some (d, S') := h
    show ∃ ks ds k, (match S[n]? with
      | some (.dct ks ds) => some (ks, ds)
      | some (.dcl ks ds) => some (ks, ds)
      | _ => none) = some (ks, ds) ∧ _
    split at h
    · rename_i ks ds e
      obtain ⟨k, hk, e⟩ := Option.map_eq_some_iff.mp h
      cases e
      exact ⟨ks, ds, k, rfl, hk, rfl, rfl⟩
    · rename_i ks ds e
      obtain ⟨k, hk, e⟩ := Option.map_eq_some_iff.mp h
      cases e
      exact ⟨ks, ds, k, rfl, hk, rfl, rfl⟩
    · cases h
  | _ => cases h
theorem s_get {o e f : Expr} {ea eb ec : E} {apos cpos : Pos} (hu : X.A.units + 64 < cLine) (ho : PE X o (tR K cl W g ea)) (he : PE X e (tR K cl W g eb)) (hf : PE X f (tR K cl W g ec)) (hb : baseB o = true) (hp : ([e, f] : List Expr).all plainB = true) (hl : (apos.endLine == cpos.line) = true) :
    PE X (.Call (.Attribute o "get" apos) [e, f] [] cpos) (tE K cl W g (.met .get ea (.cons eb (.cons ec .nil)))) := by
  have hp' := hp
  simp only [List.all_cons, List.all_nil, Bool.and_true, Bool.and_eq_true] at hp'
  have m : M2 X o "get" apos e f cpos := ⟨base_ok hb, few_ok hp (by show 2 < 29; omega), hl, by rw [star_cons hp'.1, star_cons hp'.2]; rfl⟩
  refine (pe_dget2 (by omega) ho he hf m).imp ?_
  rintro σ H Q ⟨B, col, σa, F, ι, S, rel, h⟩
  have h : EK ⟨K, cl, W, B, col, σa, σ⟩ F ι (rF ⟨K, cl, W, B, col, σa, σ⟩) (if (Es.cons eb (.cons ec .nil)).anyPk then .bad else (evalE g σa ea S).bind fun x S1 => if rcv .get x S1 then (evalEs g σa (.cons eb (.cons ec .nil)) S1).bind fun ds S2 => (match metD S2 .get x ds with
    | some (d, S3) => .ok d S3
    | none => .bad) else .bad) Q := h
  cases hpk : (Es.cons eb (.cons ec .nil)).anyPk with
  | true => rw [hpk] at h; exact h.elim
  | false =>
    rw [hpk, if_neg Bool.false_ne_true] at h
    have hpk : (eb.isPk || (ec.isPk || false)) = false := hpk
    rw [Bool.or_false, Bool.or_eq_false_iff] at hpk
    refine ⟨B, col, σa, F, ι, S, rel, EK.bind h fun x S1 F1 H1 ι1 v x1 rel1 r1 h1 => ?_⟩
    cases hc : rcv .get x S1 with
    | false => rw [hc] at h1; exact h1.elim
    | true =>
      rw [hc, if_pos rfl] at h1
      obtain ⟨⟨ks, ds⟩, hd⟩ := rcv_get hc
      obtain ⟨a, kvs, rfl, ra, _, _⟩ := dct_sh rel1 (rel1.shR r1) hd
      refine ⟨a, rfl, .inl ⟨kvs, ra⟩, ?_⟩
      have h1 : EK ⟨K, cl, W, B, col, σa, σ⟩ F1 ι1 (rF ⟨K, cl, W, B, col, σa, σ⟩) (((evalE g σa eb S1).bind fun y S2 => ((evalE g σa ec S2).bind fun z S3 => R.ok [z] S3).bind fun zs S3 => .ok (y :: zs) S3).bind fun ds S2 => (match metD S2 .get x ds with
        | some (d, S3) => R.ok d S3
        | none => .bad)) Q := by
        have e : evalEs g σa (.cons eb (.cons ec .nil)) S1 = ((evalE g σa eb S1).bind fun y S2 => ((evalE g σa ec S2).bind fun z S3 => R.ok [z] S3).bind fun zs S3 => .ok (y :: zs) S3) := rfl
        rw [e] at h1
        exact h1
      have e1 : ∀ (r : R IL.D) (f : IL.D → Store → R (List IL.D)) (k : List IL.D → Store → R IL.D), (r.bind f).bind k = r.bind fun y S => (f y S).bind k := by intro r f k; cases r <;> rfl
      have e2 : ∀ (r : R (List IL.D)) (f : List IL.D → Store → R (List IL.D)) (k : List IL.D → Store → R IL.D), (r.bind f).bind k = r.bind fun y S => (f y S).bind k := by intro r f k; cases r <;> rfl
      rw [e1] at h1
      refine ⟨B, col, σa, F1, ι1, S1, rel1, EK.bind h1 fun y S2 F2 H2 ι2 v2 x2 rel2 r2 h2 => ?_⟩
      rw [e2, e1] at h2
      refine ⟨B, col, σa, F2, ι2, S2, rel2, EK.bind h2 fun z S3 F3 H3 ι3 v3 x3 rel3 r3 h3 => ?_⟩
      have h4 : EK ⟨K, cl, W, B, col, σa, σ⟩ F3 ι3 (rF ⟨K, cl, W, B, col, σa, σ⟩) (match metD S3 .get x [y, z] with
        | some (d, S3) => R.ok d S3
        | none => .bad) Q := h3
      rw [notPk hpk.1] at r2
      rw [notPk hpk.2] at r3
      have r2 := stab_rF _ y F2 H2 ι2 v2 F3 H3 ι3 x3 r2
      have r1 := stab_rR ea _ x F1 H1 ι1 (.ref a) F3 H3 ι3 (x2.trans x3) r1
      split at h4
      · rename_i d S4 em
        obtain ⟨ks, ds, k, hd, hk, ed, rfl⟩ := met_get em
        obtain ⟨a', kvs, ea', ra, kk, q⟩ := dct_sh rel3 (rel3.shR r1) hd
        cases ea'
        refine ⟨valV kvs (kyK k), .inl ⟨kvs, kyK k, ra, ky_rep hk (rel3.sh r2), rfl⟩, ?_⟩
        have w := kget_val (K := K) k kk q
        have fin : ∀ u, Rep K F3 ι3 d u → Q u H3 := fun u ru => h4 F3 H3 ι3 u .refl rel3 ru
        cases hz : kget ks ds k with
        | none =>
          rw [hz] at w ed
          rw [w]
          have ed : d = _ := ed
          exact fin _ (by rw [ed]; exact r3)
        | some d' =>
          rw [hz] at w ed
          obtain ⟨v', w, rv⟩ := w
          rw [w]
          have ed : d = d' := ed
          exact fin v' (by rw [ed]; exact rv)
      · exact h4.elim
theorem kdel_drop {F : Hp} {ι : List Addr} (k : Ky) : ∀ {ks : List Ky} {ds : List IL.D} {kvs : List (Key × V)}, kvs.map (·.1) = ks.map kyK → Reps K F ι ds (kvs.map (·.2)) →
    (dropK kvs (kyK k)).map (·.1) = (kdel ks ds k).1.map kyK ∧ Reps K F ι (kdel ks ds k).2 ((dropK kvs (kyK k)).map (·.2))
  | [], ds, [], _, r => by
    cases ds with
    | nil => exact ⟨rfl, rfl⟩
    | cons d ds => obtain ⟨v, t, e, _⟩ := r; cases e
  | _ :: _, _, [], h, _ => by cases h
  | [], _, _ :: _, h, _ => by cases h
  | x :: ks, [], p :: kvs, h, r => by cases (show _ = [] from r)
  | x :: ks, d :: ds, p :: kvs, h, ⟨v, t, e, hr, r⟩ => by
    injection h with h1 h2
    injection e with e1 e2
    subst e2
    have h1 : p.1 = kyK x := h1
    have e1 : p.2 = v := e1
    obtain ⟨i1, i2⟩ := kdel_drop k h2 r
    unfold kdel
    by_cases q : x = k
    · subst q
      rw [if_pos rfl]
      have : dropK (p :: kvs) (kyK x) = dropK kvs (kyK x) := by
        unfold dropK
        rw [List.filter_cons_of_neg (by simp [h1])]
      rw [this]
      exact ⟨i1, i2⟩
    · rw [if_neg q]
      have : dropK (p :: kvs) (kyK k) = p :: dropK kvs (kyK k) := by
        unfold dropK
        rw [List.filter_cons_of_pos (by simp only [decide_eq_true_eq, ne_eq, decide_not, Bool.not_eq_true', decide_eq_false_iff_not]; rw [h1]; exact fun z => q (kyK_inj z))]
      rw [this]
      refine ⟨?_, ?_⟩
      · show p.1 :: _ = kyK x :: _
        rw [h1]
        exact congrArg _ i1
      · exact ⟨v, _, by rw [← e1]; rfl, hr, i2⟩
theorem s_popk {o e : Expr} {ea eb : E} {apos cpos : Pos} (ho : PE X o (tR K cl W g ea)) (he : PE X e (tR K cl W g eb)) (hb : baseB o = true) (hp : ([e] : List Expr).all plainB = true) (hl : (apos.endLine == cpos.line) = true) :
    PE X (.Call (.Attribute o "pop" apos) [e] [] cpos) (tE K cl W g (.met .popk ea (.cons eb .nil))) := by
  have hp' := hp
  simp only [List.all_cons, List.all_nil, Bool.and_true] at hp'
  have m : M1 X o "pop" apos e cpos := ⟨base_ok hb, few_ok hp (by show 1 < 29; omega), hl, by rw [star_cons hp']; rfl⟩
  refine (pe_dpop1 ho he m).imp ?_
  rintro σ H Q ⟨B, col, σa, F, ι, S, rel, h⟩
  have h : EK ⟨K, cl, W, B, col, σa, σ⟩ F ι (rF ⟨K, cl, W, B, col, σa, σ⟩) (if (Es.cons eb .nil).anyPk then .bad else (evalE g σa ea S).bind fun x S1 => if rcv .popk x S1 then (evalEs g σa (.cons eb .nil) S1).bind fun ds S2 => (match metD S2 .popk x ds with
    | some (d, S3) => .ok d S3
    | none => .bad) else .bad) Q := h
  cases hpk : (Es.cons eb .nil).anyPk with
  | true => rw [hpk] at h; exact h.elim
  | false =>
    rw [hpk, if_neg Bool.false_ne_true] at h
    have hpk : (eb.isPk || false) = false := hpk
    rw [Bool.or_false] at hpk
    refine ⟨B, col, σa, F, ι, S, rel, EK.bind h fun x S1 F1 H1 ι1 v x1 rel1 r1 h1 => ?_⟩
    cases hc : rcv .popk x S1 with
    | false => rw [hc] at h1; exact h1.elim
    | true =>
      rw [hc, if_pos rfl] at h1
      cases x with
      | ref n =>
        have hc : (match S1[n]? with | some (.dct _ _) => true | _ => false) = true := hc
        cases hs : S1[n]? with
        | none => rw [hs] at hc; cases hc
        | some ob =>
          rw [hs] at hc
          cases ob with
          | dct ks0 ds0 =>
            obtain ⟨a, rfl, hi⟩ := rel1.shR r1
            obtain ⟨kvs0, ha0, _, _⟩ := rel1.st n _ a hs hi
            refine ⟨a, rfl, .inl ⟨kvs0, .inl ha0⟩, ?_⟩
            have h1 : EK ⟨K, cl, W, B, col, σa, σ⟩ F1 ι1 (rF ⟨K, cl, W, B, col, σa, σ⟩) ((evalE g σa eb S1).bind fun y S2 => (match metD S2 .popk (.ref n) [y] with
              | some (d, S3) => R.ok d S3
              | none => .bad)) Q := by
              have e : ((evalEs g σa (.cons eb .nil) S1).bind fun ds S2 => (match metD S2 .popk (.ref n) ds with
                | some (d, S3) => R.ok d S3
                | none => .bad)) = ((evalE g σa eb S1).bind fun y S2 => (match metD S2 .popk (.ref n) [y] with
                | some (d, S3) => R.ok d S3
                | none => .bad)) := by
                show (((evalE g σa eb S1).bind fun y S2 => R.ok [y] S2).bind _) = _
                cases evalE g σa eb S1 <;> rfl
              rw [← e]
              exact h1
            refine ⟨B, col, σa, F1, ι1, S1, rel1, EK.bind h1 fun y S2 F2 H2 ι2 v2 x2 rel2 r2 h2 => ?_⟩
            rw [notPk hpk] at r2
            have em : metD S2 .popk (.ref n) [y] = (match S2[n]? with
              | some (.dct ks ds) => y.ky.bind fun k => (kget ks ds k).map fun d => (d, S2.set n (.dct (kdel ks ds k).1 (kdel ks ds k).2))
              | _ => none) := rfl
            rw [em] at h2
            have hi2 := pre_get x2.pre hi
            cases hs2 : S2[n]? with
            | none => rw [hs2] at h2; exact h2.elim
            | some o2 =>
              rw [hs2] at h2
              have z := rel2.st n o2 a hs2 hi2
              cases o2 with
              | dct ks ds =>
                obtain ⟨kvs, ha, kk, q⟩ := z
                dsimp only at h2
                cases hk : y.ky with
                | none => rw [hk] at h2; exact h2.elim
                | some k =>
                  rw [hk, Option.bind_some] at h2
                  cases hg : kget ks ds k with
                  | none => rw [hg] at h2; exact h2.elim
                  | some d =>
                    rw [hg, Option.map_some] at h2
                    have w := kget_val (K := K) k kk q
                    rw [hg] at w
                    obtain ⟨v', w, rv⟩ := w
                    obtain ⟨g1, g2⟩ := kdel_drop k kk q
                    have h2 : EK ⟨K, cl, W, B, col, σa, σ⟩ F2 ι2 (rF ⟨K, cl, W, B, col, σa, σ⟩) (R.ok d (S2.set n (.dct (kdel ks ds k).1 (kdel ks ds k).2))) Q := h2
                    exact ⟨kvs, kyK k, v', ha, ky_rep hk (rel2.sh r2), w, h2 F2 _ ι2 v' .refl (rel2.setObj (u := .dK (dropK kvs (kyK k))) hi2 ha (fun _ _ z => by cases z) ⟨_, upd_same, g1, g2⟩) rv⟩
              | _ => exact h2.elim
          | _ => cases hc
      | _ => cases hc
end
end IL
/-! Soundness, part V: instances, their fields and methods. -/
namespace IL
open PySem L2
section
variable {X : Cx} {CX : CXT} {k : Nat} {f C : Addr} {fd : FuncData} {ps : List Str} {sp : Sp} {x m : Str} {o e : Expr} {es : List Expr} {pos apos : Pos}
/-- the callee's value is handed on -/
theorem fin_ret {pins : List (Addr × PySem.Obj)} {σ : L2.St} {H : Hp} {sh : Shared} {Q : VK} {Ex : XK} {r : Result} {s2 : Shared} (hp : PassesAt CX X σ Ex) (Iv : Inv X pins σ H sh)
    (h : CR CX X.stack X.prog X.w H sh Q Ex r s2) : (match r with
      | .ok (.ret u) => EP X pins σ Q u s2
      | .ok _ => False
      | .error err => X.xe err s2) := by
  cases r with
  | error err => exact hp pins H sh err s2 Iv h
  | ok fl =>
    cases fl with
    | ret u => exact Iv.after h
    | _ => exact h.elim
theorem run_mk {pins : List (Addr × PySem.Obj)} {σ : L2.St} {H : Hp} {sh : Shared} {Q : VK} {us : List Value} {vs : List V} {Ex : XK} (mk : L2.Mk X.K C f) (Fn : FnOk X.prog X.w X.K X.mg X.base CX k f fd ps sp) (room : Room (k + 1) X.A) (bs : Binds X.K fd ps [])
    (hp : PassesAt CX X σ Ex) (Iv : Inv X pins σ H sh) (rv : Vals vs us)
    (go : ∀ y dy, H y = none → H dy = none → dy ≠ y → sp (.ref y :: vs) (upd (upd H dy (.own y)) y (.ins C dy [])) (fun v H2 => v = .non ∧ Q (.ref y) H2) Ex) :
    wpAny (model X.prog X.w) X.A (PySem.call (.ref C) us) (EP X pins σ Q) X.xe sh := by
  have fr1 := Iv.hok.fresh (Nat.le_refl sh.heap.objs.size)
  have fr2 := Iv.hok.fresh (Nat.le_succ sh.heap.objs.size)
  have g := go (sh.heap.objs.size + 1) sh.heap.objs.size fr2 fr1 (Nat.ne_of_lt (Nat.lt_succ_self _))
  have Iw := Inv.made (C := C) Iv
  have rw2 : Vals (V.ref (sh.heap.objs.size + 1) :: vs) (Value.ref (sh.heap.objs.size + 1) :: us) := .cons rfl rv
  have ln : ((Value.ref (sh.heap.objs.size + 1) :: us) ++ []).length = ps.length := by
    rw [List.append_nil, ← rw2.length]; exact Fn.len _ _ _ _ g
  have bt := bs _ (Value.ref (sh.heap.objs.size + 1) :: us) Iw.kIn ln
  rw [List.append_nil] at bt
  have body := Fn.run _ X.stack _ _ ⟨Value.ref (sh.heap.objs.size + 1) :: us, []⟩ (Value.ref (sh.heap.objs.size + 1) :: us) _ _ Ex (room.make C us []) (Iw.env0.make C us []) bt rw2 g
  refine wpAny_call (make_map (f := f) Iv.kIn mk.makes mk.init (beq_iff_eq.mp mk.fn) (codeAny_mono body fun r s2 hr => ?_))
  cases r with
  | error err => exact hp pins _ _ err s2 Iw hr
  | ok fl =>
    cases fl with
    | ret u =>
      obtain ⟨v, H2, I3, rr, ev, q3⟩ := Iw.after hr
      subst ev
      exact ⟨rr, ⟨V.ref (sh.heap.objs.size + 1), H2, I3, rfl, q3⟩⟩
    | _ => exact hr.elim
def tMethD (C : Addr) (m : Str) (sp : Sp) (Ex : L2.St → XK) (ta : TE) (t : TA) : TE := fun σ H Q => ta σ H fun v H1 => ∃ a dx fs, v = .ref a ∧ H1 a = some (.ins C dx fs) ∧ fs.lookup m = none ∧ t σ H1 fun vs H2 => sp (v :: vs) H2 Q (Ex σ)
def tMkD (C : Addr) (sp : Sp) (Ex : L2.St → XK) (t : TA) : TE := fun σ H Q => t σ H fun vs H1 => ∀ y dy, H1 y = none → H1 dy = none → dy ≠ y →
  sp (.ref y :: vs) (upd (upd H1 dy (.own y)) y (.ins C dy [])) (fun v H2 => v = .non ∧ Q (.ref y) H2) (Ex σ)
theorem wp_mth {prog : Program} {w : World} {A : Around} {E : Value → Shared → Prop} {sh : Shared} {env : Env} {args : List Expr} {Q : Value → Shared → Prop} (hb : attributeBase o m env (eval o env) = eval o env)
    (hf : methodCallForm (args.length + ([] : List Keyword).length) (backTo pos (starEach args env)) (backToKw pos (keywordEach [] env)) = true) (hl : (apos.endLine == pos.line) = true)
    (h : wpAny (model prog w) A (eval o env) (fun ov s1 => wpAny (model prog w) A (getMethod ov m (do return (← importBound o env).getD true)) (fun fx s2 => wpAny (model prog w) A (callWith pos fx.1 fx.2 (backTo pos (starEach args env)) (backToKw pos (keywordEach [] env))) Q E s2) E s1) E sh) :
    wpAny (model prog w) A (eval (.Call (.Attribute o m apos) args [] pos) env) Q E sh := by
  have he : methodCallPos true o env apos pos = pure pos := by unfold methodCallPos; simp [hl]
  rw [arm_eval_Call, hb]
  refine wpAny_bind (wpAny_mono h (fun ov s1 h1 => wpAny_bind (wpAny_standAt ?_)) fun _ _ z => z)
  unfold methodCall
  rw [hf]
  refine wpAny_bind (wpAny_holding (wpAny_mono h1 (fun fx s2 h2 => wpAny_bind (wpAny_of_eq he h2)) fun _ _ z => z))
variable {Ex : L2.St → XK} {ta : TE} {t : TA}
theorem few_form {xs : List Expr} {env : Env} (h : xs.all plainB = true) (hl : xs.length < 29) : methodCallForm (xs.length + ([] : List Keyword).length) (backTo pos (starEach xs env)) (backToKw pos (keywordEach [] env)) = true := few_ok h hl
theorem run_mth {pins : List (Addr × PySem.Obj)} {σ : L2.St} {H : Hp} {sh : Shared} {Q : VK} {us : List Value} {vs : List V} {Ex : XK} (Fn : FnOk X.prog X.w X.K X.mg X.base CX k f fd ps sp) (room : Room k X.A) (bs : Binds X.K fd ps [])
    (hp : PassesAt CX X σ Ex) (Iv : Inv X pins σ H sh) (rv : Vals vs us) (h : sp vs H Q Ex) : wpAny (model X.prog X.w) X.A (PySem.call (.ref f) us) (EP X pins σ Q) X.xe sh :=
  run_fnSD (E := fun _ => Ex) (dvs := []) Fn room bs .nil hp Iv rv (by rw [List.append_nil]; exact h)
theorem pe_mthD (ho : PE X o ta) (c : Cls X.K C) (hm : Meth X.K C m f) (Fn : FnOk X.prog X.w X.K X.mg X.base CX k f fd ps sp) (room : Room k X.A) (bs : Binds X.K fd ps []) (hx : ∀ σ, PassesAt CX X σ (Ex σ)) (hs : PA X (e :: es) t)
    (hb : baseB o = true) (hpl : (e :: es).all plainB = true) (hl : (e :: es).length < 29) (hline : (apos.endLine == pos.line) = true) : PE X (.Call (.Attribute o m apos) (e :: es) [] pos) (tMethD C m sp Ex ta t) := by
  refine ⟨fun pins sh σ H Q Iv h => wp_mth (base_ok hb) (few_form hpl hl) hline (thn (ho.run pins sh σ H _ Iv h) fun u s1 ⟨v, H1, I1, ru, a, dx, fs, ev, ia, lk, q1⟩ => ?_)⟩
  subst ev
  cases (show u = Value.ref a from ru)
  refine getmeth_ok I1 ia c hm lk ?_
  rw [List.all_cons, Bool.and_eq_true] at hpl
  have args := thn (hs.run pos pins s1 σ H1 _ I1 q1) fun us s2 z => (show X.K.In s2.heap ∧ wpAny (model X.prog X.w) X.A (PySem.call (.ref f) (.ref a :: us)) (EP X pins σ Q) X.xe s2 from by
    obtain ⟨vs, H2, I2, rus, q2⟩ := z
    exact ⟨I2.kIn, run_mth Fn room bs (hx σ) I2 (vs := .ref a :: vs) (.cons rfl rus) q2⟩)
  exact PySem.W.callWith_K (first := [.ref a]) (h₀ := X.base) Iv.ok.mod.kin hm.kp args (star_cons hpl.1) (star_all hpl.2)
theorem pe_mthD0 (ho : PE X o ta) (c : Cls X.K C) (hm : Meth X.K C m f) (Fn : FnOk X.prog X.w X.K X.mg X.base CX k f fd ps sp) (room : Room k X.A) (bs : Binds X.K fd ps []) (hx : ∀ σ, PassesAt CX X σ (Ex σ))
    (hb : baseB o = true) (hline : (apos.endLine == pos.line) = true) : PE X (.Call (.Attribute o m apos) [] [] pos) (tMethD C m sp Ex ta tNil) := by
  refine ⟨fun pins sh σ H Q Iv h => wp_mth (base_ok hb) rfl hline (thn (ho.run pins sh σ H _ Iv h) fun u s1 ⟨v, H1, I1, ru, a, dx, fs, ev, ia, lk, q1⟩ => ?_)⟩
  subst ev
  cases (show u = Value.ref a from ru)
  refine getmeth_ok I1 ia c hm lk ?_
  exact PySem.W.callWith_K0 (first := [.ref a]) I1.kIn hm.kp (run_mth Fn room bs (hx σ) I1 (vs := [.ref a]) (.cons rfl .nil) q1)
theorem pe_mkD (mk : L2.Mk X.K C f) (Fn : FnOk X.prog X.w X.K X.mg X.base CX k f fd ps sp) (room : Room (k + 1) X.A) (hg : Gl X x) (hm : X.mg x = some (.ref C)) (bs : Binds X.K fd ps []) (hx : ∀ σ, PassesAt CX X σ (Ex σ)) (hs : PA X (e :: es) t)
    (hd : (x == ("__debug__" : Str)) = false) (hpl : (e :: es).all plainB = true) {p : Pos} : PE X (.Call (.Name x p) (e :: es) [] pos) (tMkD C sp Ex t) := by
  rw [List.all_cons, Bool.and_eq_true] at hpl
  refine ⟨fun pins sh σ H Q Iv h => wpAny_Call_Name_kw (ld_glob Iv hg hm ?_ hd)⟩
  have args := thn (hs.run pos pins sh σ H _ Iv h) fun us s1 z => (show X.K.In s1.heap ∧ wpAny (model X.prog X.w) X.A (PySem.call (.ref C) us) (EP X pins σ Q) X.xe s1 from by
    obtain ⟨vs, H1, I1, rus, q1⟩ := z
    exact ⟨I1.kIn, run_mk mk Fn room bs (hx σ) I1 rus q1⟩)
  exact PySem.W.callWith_K (first := []) (h₀ := X.base) Iv.ok.mod.kin mk.kp args (star_cons hpl.1) (star_all hpl.2)
end
/-! ### fields by their numbers -/
def fldNs : List Nat := [0, 1, 2, 3, 10, 11, 12, 20, 21, 22, 23, 30, 31]
theorem fnm_or (g : Nat) : g ∈ fldNs ∨ fnm g = "?" := by
  by_cases h : g < 32
  · have : ∀ g, g < 32 → g ∈ fldNs ∨ fnm g = "?" := by decide +kernel
    exact this g h
  · right
    unfold fnm
    split <;> first | rfl | omega
theorem fnm_inj {f g : Nat} (h : fnm f ≠ "?") (e : fnm g = fnm f) : g = f := by
  have all : ∀ f ∈ fldNs, ∀ g ∈ fldNs, fnm g = fnm f → g = f := by decide +kernel
  have mf : f ∈ fldNs := (fnm_or f).resolve_right h
  have mg : g ∈ fldNs := (fnm_or g).resolve_right fun z => h (e ▸ z)
  exact all f mf g mg e
/-- no field is so called -/
def noFld (m : Str) : Bool := decide (m ≠ "?") && fldNs.all fun f => decide (fnm f ≠ m)
theorem noFld_ok {m : Str} (h : noFld m = true) (g : Nat) : fnm g ≠ m := by
  unfold noFld at h
  rw [Bool.and_eq_true, decide_eq_true_eq, List.all_eq_true] at h
  rcases fnm_or g with z | z
  · exact of_decide_eq_true (h.2 g z)
  · rw [z]; exact fun e => h.1 e.symm
section
variable {K : PySem.W.Frag} {F H : Hp} {ι : List Addr}
theorem ins_none {m : Str} (hm : noFld m = true) : ∀ {fs : List (Nat × D)} {vs : List (Str × V)}, vs.map (·.1) = fs.map (fun p => fnm p.1) → vs.lookup m = none
  | [], [], _ => rfl
  | [], _ :: _, h => by cases h
  | _ :: _, [], h => by cases h
  | (g, d) :: fs, (x, v) :: vs, h => by
    rw [List.map_cons, List.map_cons] at h
    injection h with h1 h2
    have ne : (m == x) = false := beq_eq_false_iff_ne.mpr fun e => noFld_ok hm g (by rw [e]; exact h1.symm)
    rw [List.lookup_cons, ne]
    exact ins_none hm h2
theorem ins_look {f : Nat} (hf : fnm f ≠ "?") {d : D} : ∀ {fs : List (Nat × D)} {vs : List (Str × V)}, vs.map (·.1) = fs.map (fun p => fnm p.1) → Reps K F ι (fs.map (·.2)) (vs.map (·.2)) → fs.lookup f = some d → ∃ v, vs.lookup (fnm f) = some v ∧ Rep K F ι d v
  | [], _, _, _, h => by cases h
  | _ :: _, [], h, _, _ => by cases h
  | (g, y) :: fs, (x, v) :: vs, h, r, l => by
    rw [List.map_cons, List.map_cons] at h
    injection h with h1 h2
    obtain ⟨w, ws, e, rw1, rws⟩ := r
    rw [List.map_cons] at e
    injection e with e1 e2
    rw [List.lookup_cons] at l ⊢
    by_cases c : f = g
    · subst c
      rw [beq_self_eq_true] at l
      cases l
      rw [show (fnm f == x) = true from beq_iff_eq.mpr h1.symm]
      exact ⟨v, rfl, by rw [show v = w from e1]; exact rw1⟩
    · rw [show (f == g) = false from beq_eq_false_iff_ne.mpr c] at l
      rw [show (fnm f == x) = false from beq_eq_false_iff_ne.mpr fun z => c (fnm_inj hf (by rw [z]; exact h1.symm)).symm]
      exact ins_look hf h2 (by rw [e2]; exact rws) l
theorem ins_put {f : Nat} (hf : fnm f ≠ "?") {y : D} {v : V} (ry : Rep K F ι y v) : ∀ {fs : List (Nat × D)} {vs : List (Str × V)}, vs.map (·.1) = fs.map (fun p => fnm p.1) → Reps K F ι (fs.map (·.2)) (vs.map (·.2)) →
    (putF (fnm f) v vs).map (·.1) = (fput f y fs).map (fun p => fnm p.1) ∧ Reps K F ι ((fput f y fs).map (·.2)) ((putF (fnm f) v vs).map (·.2))
  | [], [], _, _ => ⟨rfl, v, [], rfl, ry, rfl⟩
  | [], _ :: _, h, _ => by cases h
  | _ :: _, [], h, _ => by cases h
  | (g, z) :: fs, (x, w) :: vs, h, r => by
    rw [List.map_cons, List.map_cons] at h
    injection h with h1 h2
    obtain ⟨u, us, e, r1, rs⟩ := r
    rw [List.map_cons] at e
    injection e with e1 e2
    by_cases c : g = f
    · subst c
      have a : fput g y ((g, z) :: fs) = (g, y) :: fs := by unfold fput; rw [if_pos rfl]
      have b : putF (fnm g) v ((x, w) :: vs) = (x, v) :: vs := by unfold putF; rw [if_pos h1]
      rw [a, b]
      refine ⟨by rw [List.map_cons, List.map_cons, h2, h1], v, vs.map (·.2), rfl, ry, ?_⟩
      rw [e2]; exact rs
    · have nx : ¬ x = fnm f := fun q => c (fnm_inj hf (by rw [← q]; exact h1.symm))
      have a : fput f y ((g, z) :: fs) = (g, z) :: fput f y fs := by
        conv => lhs; unfold fput
        rw [if_neg c]
      have b : putF (fnm f) v ((x, w) :: vs) = (x, w) :: putF (fnm f) v vs := by
        conv => lhs; unfold putF
        rw [if_neg nx]
      obtain ⟨i1, i2⟩ := ins_put hf ry h2 (by rw [e2]; exact rs)
      rw [a, b]
      refine ⟨by rw [List.map_cons, List.map_cons, i1, h1], w, (putF (fnm f) v vs).map (·.2), rfl, ?_, i2⟩
      rw [show w = u from e1]; exact r1
end
theorem insD_ok {S : Store} {c : Nat} {x : D} {fs : List (Nat × D)} (h : insD S c x = some fs) : ∃ n, x = .ref n ∧ S[n]? = some (.ins c fs) := by
  cases x with
  | ref n =>
    have h : (match S[n]? with
      | some (.ins k fs) => if k = c then some fs else none
      | _ => none) = some fs := h
    refine ⟨n, rfl, ?_⟩
    cases e : S[n]? with
    | none => rw [e] at h; cases h
    | some o =>
      rw [e] at h
      cases o with
      | ins k gs =>
        dsimp only at h
        by_cases q : k = c
        · rw [if_pos q] at h; cases h; rw [q]
        · rw [if_neg q] at h; cases h
      | _ => cases h
  | _ => cases h
section
variable {X : Cx} {K : PySem.W.Frag} {cl : Cl} {W : WX} {g : G} {a : Expr} {ea : E} {es : Es} {xs : List Expr} {pos apos : Pos} {o : Expr} {CX : CXT} {k np f c : Nat} {fa : Addr} {fd : FuncData} {ps : List Str} {m x : Str}
theorem EK.post {α β : Type} {q : Q0} {F : Hp} {ι : List Addr} {res : α → Hp → Hp → List Addr → β → Prop} {r : R α} {Q Q' : β → Hp → Prop} (h : EK q F ι res r Q) (k : ∀ v H, Q v H → Q' v H) : EK q F ι res r Q' := by
  cases r with
  | ok d S => exact fun F' H' ι' v x rel e => k v H' (h F' H' ι' v x rel e)
  | exc x S => exact h
  | bad => exact h
/-- into a call -/
theorem call_in {B F H : Hp} {ι : List Addr} {col : Col} {σa : List IL.Slot} {S : Store} {σ : L2.St} {fr : Bool} {r : R D} {Q : VK} (rel : Rel K B F H ι col σa S σ) (h : EK ⟨K, cl, W, B, col, σa, σ⟩ F ι (rC fr ⟨K, cl, W, B, col, σa, σ⟩) r Q) :
    EK (qC K cl (WE W σ) H ι) F ι (rC fr (qC K cl (WE W σ) H ι)) r Q := by
  cases r with
  | bad => exact h
  | exc x S2 => exact fun F' H' ι' cls d x' rel' e => h F' H' ι' cls d (x'.leave rel) (rel.leave x' rel') e
  | ok d S2 =>
    intro F' H' ι' v x' rel' e
    refine h F' H' ι' v (x'.leave rel) (rel.leave x' rel') ?_
    unfold rC at e ⊢
    cases fr with
    | false => exact e
    | true =>
      cases d with
      | lst ds => obtain ⟨b, vs, e1, ha, f1, f2, f3, f4, q⟩ := e; exact ⟨b, vs, e1, ha, f1, (rel.bofN f2).1, (rel.bofN f2).2, f4, q⟩
      | dct ks ds => obtain ⟨b, vs, e1, ha, f1, f2, f3, f4, q⟩ := e; exact ⟨b, vs, e1, ha, f1, (rel.bofN f2).1, (rel.bofN f2).2, f4, q⟩
      | _ => exact e
theorem s_fld (hK : X.K = K) (ho : PE X o (tR K cl W g ea)) (hb : baseB o = true) (hc : Cls X.K (cad X.K c)) (hn : NoAttr X.K (cad X.K c) (fnm f)) (hf : fnm f ≠ "?") : PE X (.Attribute o (fnm f) apos) (tE K cl W g (.fld c f ea)) := by
  refine (pe_fld ho (base_ok hb)).imp ?_
  rintro σ H Q ⟨B, col, σa, F, ι, S, rel, h⟩
  have h : EK ⟨K, cl, W, B, col, σa, σ⟩ F ι (rF ⟨K, cl, W, B, col, σa, σ⟩) ((evalE g σa ea S).bind fun x S1 => .of ((insD S1 c x).bind (List.lookup f)) S1) Q := h
  refine ⟨B, col, σa, F, ι, S, rel, EK.bind h fun x S1 F1 H1 ι1 v x1 rel1 r1 h1 => ?_⟩
  have s1 := rel1.shR r1
  obtain ⟨d, e, h2⟩ := h1.of
  cases hi : insD S1 c x with
  | none => rw [hi] at e; cases e
  | some fs =>
    rw [hi] at e
    have e : fs.lookup f = some d := e
    obtain ⟨n, rfl, es⟩ := insD_ok hi
    obtain ⟨b, ev, ib⟩ := (show ∃ b, v = .ref b ∧ ι1[n]? = some b from s1)
    obtain ⟨dx, vs, hb', nm, rs⟩ := rel1.st n _ b es ib
    obtain ⟨w, lw, rw1⟩ := ins_look hf nm rs e
    exact ⟨b, cad X.K c, dx, vs, w, ev, by rw [hK]; exact hb', hc, hn, lw, h2.at rel1 rw1⟩
theorem s_mth (hK : X.K = K) (ho : PE X o (tR K cl W g ea)) (hc : Cls X.K (cad X.K c)) (hm : Meth X.K (cad X.K c) m fa) (hnf : noFld m = true) (Fn : FnOk X.prog X.w X.K X.mg X.base CX k fa fd ps (spI K cl np (g.fr f) (g.call f))) (hlen : es.len + 1 = np) (room : Room k X.A) (bs : Binds X.K fd ps [])
    (hx : ∀ σ, PassesAt CX X σ (WE W σ)) (hs : PA X xs (tAs K cl W g es)) (hb : baseB o = true) (hpl : xs.all plainB = true) (hl : xs.length < 29) (hline : (apos.endLine == pos.line) = true) (hnil : xs = [] → es = .nil) :
    PE X (.Call (.Attribute o m apos) xs [] pos) (tE K cl W g (.mth c f ea es)) := by
  have key : ∀ σ H Q, tE K cl W g (.mth c f ea es) σ H Q → tMethD (cad X.K c) m (spI K cl np (g.fr f) (g.call f)) (fun σ => WE W σ) (tR K cl W g ea) (tAs K cl W g es) σ H Q := by
    rintro σ H Q ⟨B, col, σa, F, ι, S, rel, h⟩
    have h : EK ⟨K, cl, W, B, col, σa, σ⟩ F ι (rC (g.fr f) ⟨K, cl, W, B, col, σa, σ⟩) (if es.anyPk then .bad else (evalE g σa ea S).bind fun x S1 => (match insD S1 c x with
      | some _ => (evalEs g σa es S1).bind fun ds S2 => g.call f (x :: ds) S2
      | none => .bad)) Q := h
    cases hpk : es.anyPk with
    | true => rw [hpk] at h; exact h.elim
    | false =>
      rw [hpk, if_neg Bool.false_ne_true] at h
      refine ⟨B, col, σa, F, ι, S, rel, EK.bind h fun x S1 F1 H1 ι1 v x1 rel1 r1 h1 => ?_⟩
      have s1 := rel1.shR r1
      cases hi : insD S1 c x with
      | none => rw [hi] at h1; exact h1.elim
      | some fs =>
        rw [hi] at h1
        obtain ⟨n, rfl, en⟩ := insD_ok hi
        obtain ⟨b, ev, ib⟩ := (show ∃ b, v = .ref b ∧ ι1[n]? = some b from s1)
        obtain ⟨dx, vs, hb', nm, rs⟩ := rel1.st n _ b en ib
        refine ⟨b, dx, vs, ev, by rw [hK]; exact hb', ins_none hnf nm, B, col, σa, F1, ι1, S1, rel1, EK.bind h1 fun ds S2 F2 H2 ι2 ws x2 rel2 r2 h2 => ?_⟩
        have hl2 := rA_len r2
        refine ⟨by rw [List.length_cons, hl2.1]; exact hlen, F2, ι2, S2, .ref n :: ds, rel2.enter, ⟨v, ws, rfl, ⟨b, ev, pre_get x2.pre ib⟩, rA_reps hpk r2⟩, call_in rel2 h2⟩
  cases xs with
  | nil =>
    have z := hnil rfl
    subst z
    refine (pe_mthD0 ho hc hm Fn room bs hx hb hline).imp fun σ H Q h => ?_
    obtain ⟨B, col, σa, F, ι, S, rel, h⟩ := key σ H Q h
    refine ⟨B, col, σa, F, ι, S, rel, EK.post h fun v H1 z => ?_⟩
    obtain ⟨b, dx, fs, ev, ib, lk, B', col', σa', F', ι', S', rel', h'⟩ := z
    exact ⟨b, dx, fs, ev, ib, lk, EK.at (res := rA .nil _) h' rel' ⟨rfl, rfl⟩⟩
  | cons e r => exact (pe_mthD ho hc hm Fn room bs hx hs hb hpl hl hline).imp key
theorem s_mk (hK : X.K = K) {p : Pos} (mk : L2.Mk X.K (cad X.K c) fa) (Fn : FnOk X.prog X.w X.K X.mg X.base CX k fa fd ps (spI K cl np (g.fr f) (g.call f))) (hlen : es.len + 1 = np) (room : Room (k + 1) X.A) (hg : Gl X x) (hm : X.mg x = some (.ref (cad X.K c))) (bs : Binds X.K fd ps [])
    (hx : ∀ σ, PassesAt CX X σ (WE W σ)) (hs : PA X (a :: xs) (tAs K cl W g es)) (hd : (x == ("__debug__" : Str)) = false) (hpl : (a :: xs).all plainB = true) : PE X (.Call (.Name x p) (a :: xs) [] pos) (tE K cl W g (.mk c f es)) := by
  refine (pe_mkD mk Fn room hg hm bs hx hs hd hpl).imp ?_
  rintro σ H Q ⟨B, col, σa, F, ι, S, rel, h⟩
  have h : EK ⟨K, cl, W, B, col, σa, σ⟩ F ι (rF ⟨K, cl, W, B, col, σa, σ⟩) (if es.anyPk then .bad else (evalEs g σa es S).bind fun ds S1 => (g.call f (.ref S1.length :: ds) (S1 ++ [.ins c []])).bind fun r S2 => (match r with
    | .non => .ok (.ref S1.length) S2
    | _ => .bad)) Q := h
  cases hpk : es.anyPk with
  | true => rw [hpk] at h; exact h.elim
  | false =>
    rw [hpk, if_neg Bool.false_ne_true] at h
    refine ⟨B, col, σa, F, ι, S, rel, EK.bind h fun ds S1 F1 H1 ι1 vs x1 rel1 r1 h1 => ?_⟩
    intro y dy hy hdy hne
    have hl := rA_len r1
    have relA := rel1.lay (o := .own y) hdy
    have hy2 : upd H1 dy (.own y) y = none := by rw [upd_ne (fun z => hne z.symm)]; exact hy
    have relB := relA.lay (o := .ins (cad X.K c) dy []) hy2
    obtain ⟨fy, byy⟩ := relA.free hy2
    obtain ⟨iy, cy⟩ := relA.off hy2
    have rel2 := relB.newObj (o' := .ins c []) fy byy cy iy ⟨dy, [], by rw [hK]; exact upd_same, rfl, rfl⟩
    have pr : ι1 <+: ι1 ++ [y] := List.prefix_append _ _
    have iy1 : (ι1 ++ [y])[S1.length]? = some y := by rw [← rel1.ln]; simp
    have ext : Ext B F1 F1 ι1 (ι1 ++ [y]) := ⟨Same.refl _, pr, fun _ _ e => .inl e⟩
    refine ⟨by rw [List.length_cons, hl.1]; exact hlen, F1, ι1 ++ [y], S1 ++ [.ins c []], .ref S1.length :: ds, rel2.enter, ⟨.ref y, vs, rfl, ⟨y, rfl, iy1⟩, Reps.mono (Same.refl _) pr _ _ (rA_reps hpk r1)⟩, call_in rel2 ?_⟩
    cases hc : g.call f (.ref S1.length :: ds) (S1 ++ [.ins c []]) with
    | bad => rw [hc] at h1; exact h1.elim
    | exc z S2 =>
      rw [hc] at h1
      exact EKx.mono (q := ⟨K, cl, W, B, col, σa, σ⟩) h1 ext
    | ok d S2 =>
      rw [hc] at h1
      cases d with
      | non =>
        have h1 : EK ⟨K, cl, W, B, col, σa, σ⟩ F1 ι1 (rF ⟨K, cl, W, B, col, σa, σ⟩) (.ok (.ref S1.length) S2) Q := h1
        intro F' H' ι' v x' rel' e
        have ev : v = .non := by
          unfold rC at e
          cases hfr : g.fr f with
          | true => rw [hfr] at e; exact e
          | false => rw [hfr] at e; exact e
        exact ⟨ev, h1 F' H' ι' (.ref y) (ext.trans x') rel' ⟨y, rfl, pre_get x'.pre iy1⟩⟩
      | _ => exact h1.elim
theorem sw_fld {e o : Expr} {m : Str} {p : Pos} {l : Nat} {env : Env} : swapsWith e (some (.Attribute o m p)) l env = pure false := by cases e <;> rfl
theorem s_sfld (hK : X.K = K) {p : Pos} {e : Expr} {ec : E} (ha : PE X o (tR K cl W g ea)) (hv : PE X e (tR K cl W g ec)) (hc : Cls X.K (cad X.K c)) (hn : NoAttr X.K (cad X.K c) (fnm f)) (hf : fnm f ≠ "?") : PS X (.Assign [.Attribute o (fnm f) apos] e p) (tSt K cl W g (.sfld c f ea ec)) := by
  refine (ps_fld ha hv sw_fld).imp ?_
  rintro D σ H ⟨B, col, σa, F, ι, S, rel, h⟩
  have h : SK K cl W B F ι (if ec.isPk then .bad else (evalE g σa ec S).toS σa fun y S1 => (evalE g σa ea S1).toS σa fun x S2 => (match x with
    | .ref n => (match S2[n]? with
      | some (.ins k fs) => if k = c ∧ fs.length < 500 then .nx σa (S2.set n (.ins k (fput f y fs))) else .bad
      | _ => .bad)
    | _ => .bad)) D := h
  cases np : ec.isPk with
  | true => rw [np] at h; exact h.elim
  | false =>
    rw [np, if_neg Bool.false_ne_true] at h
    refine ⟨B, col, σa, F, ι, S, rel, SK.bind h fun y S1 F1 H1 ι1 v x1 rel1 r1 h1 => ⟨B, col, σa, F1, ι1, S1, rel1, SK.bind h1 fun x S2 F2 H2 ι2 w x2 rel2 r2 h2 => ?_⟩⟩
    rw [notPk np] at r1
    have r1 := stab_rF _ y F1 H1 ι1 v F2 H2 ι2 x2 r1
    have s2 := rel2.shR r2
    cases x with
    | ref n =>
      obtain ⟨b, rfl, ib⟩ := (show ∃ b, w = .ref b ∧ ι2[n]? = some b from s2)
      dsimp only at h2
      cases en : S2[n]? with
      | none => rw [en] at h2; exact h2.elim
      | some ob =>
        rw [en] at h2
        cases ob with
        | ins kk fs =>
          dsimp only at h2
          by_cases cc : kk = c ∧ fs.length < 500
          · rw [if_pos cc] at h2
            obtain ⟨rfl, c2⟩ := cc
            obtain ⟨dx, vs, hb, nm, rs⟩ := rel2.st n _ b en ib
            obtain ⟨p1, p2⟩ := ins_put hf r1 nm rs
            have hl : vs.length < 1000 := by
              have := congrArg List.length nm
              rw [List.length_map, List.length_map] at this
              omega
            refine ⟨b, cad X.K kk, dx, vs, rfl, by rw [hK]; exact hb, hc, hn, hl, h2.nx .refl (rel2.setObj ib hb (fun _ _ z => by cases z) ⟨dx, _, ?_, p1, p2⟩)⟩
            rw [← hK]; exact upd_same
          · rw [if_neg cc] at h2; exact h2.elim
        | _ => exact h2.elim
    | _ => exact h2.elim
end
end IL
/-! Soundness, part W: dict displays. -/
namespace IL
open PySem PySem.Spec L2
section
variable {X : Cx} {K : PySem.W.Frag} {cl : Cl} {W : WX} {g : G} {es : Es} {xs : List Expr} {pos : Pos}
theorem rR_noPk {e : E} (h : e.isPk = false) : rR e = rF := by
  cases e with
  | pk i => cases h
  | _ => rfl
/-- the keys' rules, each with its value's -/
def trs (K : PySem.W.Frag) (cl : Cl) (W : WX) (g : G) (b : Bool) : Es → List (TE × TE)
  | .nil => []
  | .cons e es => (tR K cl W g e, tC (.bl b)) :: trs K cl W g b es
theorem pps_of {b : Bool} {j : Nat} : ∀ {es : Es} {xs : List Expr} {vs : List Expr}, PEL X K cl W g es xs → vs.length = xs.length → (∀ v ∈ vs, ∃ j p, v = .Constant (.bool b) j p) → PPs X pos (xs.map some) vs (trs K cl W g b es)
  | .nil, xs, vs, h, hl, hv => by
    rw [show xs = [] from h] at hl ⊢
    cases vs with
    | nil => exact pps_nil
    | cons v vs => cases hl
  | .cons e es, xs, vs, ⟨x, r, e1, hp, h, _, t⟩, hl, hv => by
    subst e1
    cases vs with
    | nil => cases hl
    | cons v vs =>
      obtain ⟨j, p, rfl⟩ := hv v List.mem_cons_self
      exact pps_cons (frz h) pe_bl (pps_of (j := j) t (by injection hl) fun v hv' => hv v (List.mem_cons_of_mem _ hv'))
theorem disp_pairs {B : Hp} {col : Col} {σa : List IL.Slot} {σ : St} {b : Bool} : ∀ (es : Es), es.anyPk = false → ∀ {F H : Hp} {ι : List Addr} {S : Store} {Q : List (V × V) → Hp → Prop}, Rel K B F H ι col σa S σ →
    EK ⟨K, cl, W, B, col, σa, σ⟩ F ι (rFs ⟨K, cl, W, B, col, σa, σ⟩) (evalEs g σa es S) (fun vs H' => Q (vs.map fun v => (v, .bl b)) H') → tPairs (trs K cl W g b es) σ H Q
  | .nil, _, F, H, ι, S, Q, rel, h => by
    have h : EK ⟨K, cl, W, B, col, σa, σ⟩ F ι (rFs ⟨K, cl, W, B, col, σa, σ⟩) (.ok [] S) (fun vs H' => Q (vs.map fun v => (v, .bl b)) H') := h
    exact h.at rel (show [] = [] from rfl)
  | .cons e es, hp, F, H, ι, S, Q, rel, h => by
    have hp : (e.isPk || es.anyPk) = false := hp
    rw [Bool.or_eq_false_iff] at hp
    have h : EK ⟨K, cl, W, B, col, σa, σ⟩ F ι (rFs ⟨K, cl, W, B, col, σa, σ⟩) ((evalE g σa e S).bind fun d S1 => (evalEs g σa es S1).bind fun ds S2 => .ok (d :: ds) S2) (fun vs H' => Q (vs.map fun v => (v, .bl b)) H') := h
    refine ⟨B, col, σa, F, ι, S, rel, EK.bind h fun d S1 F1 H1 ι1 v x1 rel1 r1 h1 => ?_⟩
    rw [rR_noPk hp.1] at r1
    show tPairs (trs K cl W g b es) σ H1 fun ps H3 => Q ((v, .bl b) :: ps) H3
    refine disp_pairs es hp.2 rel1 (EK.bind h1 fun ds S2 F2 H2 ι2 vs x2 rel2 r2 h2 => ?_)
    exact h2.at rel2 (Reps.cons (stab_rF ⟨K, cl, W, B, col, σa, σ⟩ d F1 H1 ι1 v F2 H2 ι2 x2 r1) r2)
theorem disp_merge {F : Hp} {ι : List Addr} {b : Bool} : ∀ {ds : List D} {ks : List Ky} {es : List D} {kvs : List (Key × V)} {d : D} {vs : List V}, dispK (.bl b) ds ks es = some d → Reps K F ι ds vs → kvs.map (·.1) = ks.map kyK → Reps K F ι es (kvs.map (·.2)) →
    ∃ (more : List (Key × V)) (ks' : List Ky) (es' : List D), d = .dct ks' es' ∧ vs.map (fun v => (v, V.bl b)) = more.map (fun kv => (kV kv.1, kv.2)) ∧ more.length = ds.length ∧ (mergeK kvs more).map (·.1) = ks'.map kyK ∧ Reps K F ι es' ((mergeK kvs more).map (·.2))
  | [], ks, es, kvs, d, vs, h, r, hk, he => by
    cases h
    rw [show vs = [] from r]
    exact ⟨[], ks, es, rfl, rfl, rfl, hk, he⟩
  | x :: ds, ks, es, kvs, d, vs, h, ⟨v, t, ev, h1, h2⟩, hk, he => by
    obtain ⟨k, ek, h⟩ := Option.bind_eq_some_iff.mp (show (x.ky.bind fun k => dispK (.bl b) ds (kput ks es k (.bl b)).1 (kput ks es k (.bl b)).2) = some d from h)
    have rv : Rep K F ι (.bl b) (V.bl b) := rfl
    obtain ⟨p1, p2⟩ := kput_put (k := k) rv hk he
    obtain ⟨more, ks', es', e1, e2, e3, e4, e5⟩ := disp_merge h h2 p1 p2
    refine ⟨(kyK k, .bl b) :: more, ks', es', e1, ?_, by rw [List.length_cons, List.length_cons, e3], e4, e5⟩
    rw [ev, List.map_cons, List.map_cons, e2]
    congr 2
    cases x with
    | int i => cases ek; exact h1
    | str l => cases ek; exact h1
    | _ => cases ek
theorem EKx.dropB {B F : Hp} {ι : List Addr} {col : Col} {σa : List IL.Slot} {σ : St} {p : Addr} {o : HO} {x : Exc} {S : Store} (hb : B p = none) (h : EKx ⟨K, cl, W, B, col, σa, σ⟩ F ι x S) : EKx ⟨K, cl, W, upd B p o, col, σa, σ⟩ F ι x S :=
  fun F' H' ι' cls d s rel r => h F' H' ι' cls d (Ext.dropB s) (rel.dropB hb) r
theorem s_dctd {b : Bool} {vs : List Expr} (pel : PEL X K cl W g es xs) (hl : vs.length = xs.length) (hv : ∀ v ∈ vs, ∃ j p, v = .Constant (.bool b) j p) (h0 : xs ≠ []) (h15 : xs.length ≤ 15) (hpk : es.anyPk = false) : PE X (.Dict (xs.map some) vs pos) (tE K cl W g (.dctd es b)) := by
  have dp := pe_disp (pps_of (pos := pos) (j := 0) pel hl hv) (by rw [List.all_map]; exact List.all_eq_true.mpr fun _ _ => rfl) (by rw [List.length_map, hl]) (by intro z; exact h0 (List.map_eq_nil_iff.mp z)) (by rw [List.length_map]; exact h15)
  refine dp.imp ?_
  rintro σ H Q ⟨B, col, σa, F, ι, S, rel, h⟩ p hp
  have h : EK ⟨K, cl, W, B, col, σa, σ⟩ F ι (rO _) (if es.anyPk then .bad else (evalEs g σa es S).bind fun ds S1 => .of (dispK (.bl b) ds [] []) S1) Q := h
  rw [hpk, if_neg Bool.false_ne_true] at h
  obtain ⟨fn, bn⟩ := rel.free hp
  obtain ⟨ni, nc⟩ := rel.off hp
  have relB : Rel K (upd B p (.dK [])) F (upd H p (.dK [])) ι col σa S σ := (rel.lay hp).addB upd_same nc ni
  refine disp_pairs es hpk relB ?_
  cases hr : evalEs g σa es S with
  | bad => rw [hr] at h; exact h
  | exc x S1 =>
    rw [hr] at h
    exact EKx.dropB bn h
  | ok ds S1 =>
    rw [hr] at h
    have h : EK ⟨K, cl, W, B, col, σa, σ⟩ F ι (rO _) (.of (dispK (.bl b) ds [] []) S1) Q := h
    obtain ⟨d, ed, h⟩ := h.of
    intro F2 H2 ι2 us x2 rel2 r2
    have r2 : Reps K F2 ι2 ds us := r2
    have hp2 : H2 p = some (.dK []) := rel2.bh p _ upd_same
    have fn2 := Ext.keepN x2 fn
    obtain ⟨more, ks', es', e1, e2, e3, e4, e5⟩ := disp_merge (kvs := []) ed r2 rfl rfl
    have dl : ds.length = es.len := by
      have : ∀ (es : Es) (S : Store) (ds : List D) (S1 : Store), evalEs g σa es S = .ok ds S1 → ds.length = es.len := by
        intro es
        induction es using Es.rec (motive_1 := fun _ => True) (motive_3 := fun _ => True) with
        | nil => intro S ds S1 h; cases h; rfl
        | cons e es _ ih =>
          intro S ds S1 h
          have h : ((evalE g σa e S).bind fun d S1 => (evalEs g σa es S1).bind fun ds S2 => .ok (d :: ds) S2) = .ok ds S1 := h
          cases he : evalE g σa e S with
          | ok d S2 =>
            rw [he, R.bind_ok] at h
            cases he2 : evalEs g σa es S2 with
            | ok ds2 S3 =>
              rw [he2, R.bind_ok] at h
              cases h
              show ds2.length + 1 = es.len + 1
              rw [ih S2 ds2 _ he2]
            | exc x S3 => rw [he2] at h; cases h
            | bad => rw [he2] at h; cases h
          | exc x S2 => rw [he] at h; cases h
          | bad => rw [he] at h; cases h
        | _ => trivial
      exact this es S ds S1 hr
    refine ⟨hp2, more, e2, by rw [e3, dl, ← PEL.len pel]; exact h15, ?_⟩
    subst e1
    have ext : Ext B F F2 ι ι2 := Ext.dropB x2
    have rel3 : Rel K B F2 (upd H2 p (.dK (mergeK [] more))) ι2 col σa S1 σ := (rel2.updB fn2 (fun _ _ z => by cases z)).dropB bn
    have ni2 : p ∉ ι2 := fun z => by
      have z2 : NB (upd B p (HO.dK []) p) := (rel2.io p z).2
      rw [upd_same] at z2
      obtain ⟨_, _, z3⟩ := z2 _ rfl
      cases z3
    exact h F2 _ ι2 (.ref p) ext rel3 ⟨p, mergeK [] more, rfl, upd_same, fn2, bn, nc, ni2, e4, e5⟩
end
end IL
/-! Soundness, part X: where an exception is handled: a comprehension over a range. -/
namespace IL
open PySem PySem.Spec PyProof.Rows L2

theorem noIter {scope : Scope} {t i : Expr} {c : List Expr} {p : Pos} {e : Expr} : clausesOf (.ListComp e [⟨t, i, c, 0⟩] scope p) = [⟨t, i, c, 0⟩] := rfl
section
variable {X : Cx}
/-- [e for t in range(n) if c], walked: W by the turn -/
def tLcH (n : Nat) (gt : TG) (tc : TT) (te : TE) (own : List Nat) : TE := fun σ H Q => ∀ D, H D = none → ∃ W : Nat → Hp → Prop, W 0 (upd H D (.lst [])) ∧ (∀ G, W n G → Q (.ref D) G) ∧
  ∀ i G, i < n → W i G → gt (.int (i : Nat)) (L2.wipe σ own) G fun τ G1 => L2.wipe τ own = L2.wipe σ own ∧ tc τ G1 fun b G2 => if b = true then te τ G2 fun y G3 => ∃ acc, G3 D = some (.lst acc) ∧ acc.length < sizeLine ∧ W (i + 1) (upd G3 D (.lst (acc ++ [y]))) else W (i + 1) G2
theorem rangeHot {pins : List (Addr × PySem.Obj)} {s : Shared} {τ : L2.St} {H : Hp} {n : Nat} {p q p2 : Pos} {j : Nat} (hr : Gl X "range") (nr : X.mg "range" = none) (hn : n < 1000) (Iv : Inv X pins τ H s) :
    wpAny (model X.prog X.w) X.A (eval (.Call (.Name "range" p) [.Constant (.int n) j p2] [] q) X.env) (fun v s1 => wpAny (model X.prog X.w) X.A (pyIter v) (fun w s2 => ∃ it, w = .ref it ∧ Inv X pins τ H s2 ∧ IsRangeIter s2.heap it 0 n 1 ∧ FpOk X pins H it) X.xe s1) X.xe s := by
  have pa : PA X [.Constant (.int n) j p2] (tCons (tC (.int n)) tNil) := pa_cons pe_int pa_nil
  refine Call_ (ld_blt Iv hr nr boot_range (PyProof.Rows.callWith_type1 (thn (pa.run q pins s τ H (fun vs H1 => vs = [V.int n] ∧ H = H1) Iv ⟨rfl, rfl⟩) fun us s1 hh => ?_) rfl rfl))
  obtain ⟨vs, H1, J, r, ev, eH⟩ := hh
  subst ev
  rw [← eH] at J
  cases r with
  | cons ru rn =>
    cases rn
    obtain ⟨t, rfl⟩ := ru
    refine call_range_1 ?_
    refine wpAny_pyIter_range (IsRange.new ..) (small_one (by omega) (by omega) (by omega) (by omega)) ?_
    refine ⟨_, rfl, ?_, ?_, ?_⟩
    · exact J.kept fun b o e => Heap.get?_push_of_some _ (Heap.get?_push_of_some _ e)
    · have z : Builtin.Range.rangeSize 0 n 1 = (n : Int) := by rw [rangeSize_one]; split <;> omega
      show Heap.get? _ _ = _
      rw [z] at *
      exact Heap.get?_push_size _ rfl
    · refine J.fpOk ?_ (J.hok.fresh ?_) <;> (rw [Heap.size_push]; omega)
/-- the comprehension, where p's object is handled -/
theorem pe_lcH {elt tg : Expr} {ifs : List Expr} {scope : Scope} {own : List (Str × Nat)} {pos p q p2 : Pos} {gt : TG} {tc : TT} {te : TE} {n j : Nat} {px : Addr × PySem.Obj} (hp : L2H.Hot1 X.A px) (hpn : px ∈ X.pn) (ndN : X.N.Nodup)
    (bk : BlkOk X.N X.env.scope scope own) (hr : Gl X "range") (nr : X.mg "range" = none) (hn : n < 1000)
    (Gg : ∀ (s : Shared) (H : Hp) (C : Addr) (cl : List (Str × Addr)) (fp : List Addr), PG (X.blk s H scope (compEnvC scope cl C X.env) fp) tg gt) (Gt : ∀ (s : Shared) (H : Hp) (C : Addr) (cl : List (Str × Addr)) (fp : List Addr), PTs (X.blk s H scope (compEnvC scope cl C X.env) fp) ifs tc)
    (Ge : ∀ (s : Shared) (H : Hp) (C : Addr) (cl : List (Str × Addr)) (fp : List Addr), PE (X.blk s H scope (compEnvC scope cl C X.env) fp) elt te) :
    PE X (.ListComp elt [⟨tg, .Call (.Name "range" p) [.Constant (.int n) j p2] [] q, ifs, 0⟩] scope pos) (tLcH n gt tc te (own.map (·.2))) := by
  refine ⟨fun pins s σ H Q Iv wish => ?_⟩
  rw [eval_ListComp]
  have fr : ∀ y ∈ scope.names, y.2 = .free → ∃ c, X.env.cells.lookup y.1 = some c := fun y hy e => (bk.free y hy e).elim (fun k => Iv.ok.has _ (.inl k)) fun k => Iv.ok.has _ (.inr k)
  refine wpAny_comprehension_free (use := none) noIter (fun x => rfl) (closure_ok fr) bk.kind (fun y hy e => by rw [bk.uniq y hy, e]) (thn (rangeHot hr nr hn Iv) fun xv s1 q1 => thn q1 fun w s2 q2 => ?_)
  obtain ⟨it, ew, J2, st2, f2⟩ := q2
  subst ew
  refine wpAny_newObj_type (newEnv_comp ?_) (Nat.zero_le _)
  generalize hD : s2.heap.objs.size = D
  have nD : H D = none := J2.hok.fresh (by rw [hD]; exact Nat.le_refl _)
  obtain ⟨W, W0, Wn, turn⟩ := wish D nD
  generalize hs3 : ({ s2 with heap := s2.heap.push { cls := .type "list", data := .seq ([] : List Value).toArray } } : Shared) = s3
  have h3 : s3.heap = s2.heap.push { cls := .type "list", data := .seq ([] : List Value).toArray } := by rw [← hs3]
  have J3 : Inv X pins σ (upd H D (.lst [])) s3 := by
    rw [← hs3]
    refine J2.laid (t' := s2.toks) (fun b o e => Heap.get?_push_of_some _ e) (by rw [hD]; exact Nat.le_refl _) ⟨Nat.zero_le _, [], 0, .nil, ?_⟩
    rw [← hD]
    exact Heap.get?_push_size _ rfl
  have itl : it < s2.heap.objs.size := Heap.lt_size st2
  have itD : it ≠ D := by rw [← hD]; exact Nat.ne_of_lt itl
  have f3 : ∀ b ∈ [it], FpOk X pins (upd H D (.lst [])) b ∧ b < s3.heap.objs.size := fun b hb => by
    rw [List.mem_singleton.mp hb]
    exact ⟨⟨by rw [upd_ne itD]; exact f2.1, f2.2⟩, by rw [h3, Heap.size_push]; exact Nat.lt_succ_of_lt itl⟩
  have st3 : IsRangeIter s3.heap it 0 n 1 := by rw [h3]; exact Heap.get?_push_of_some _ st2
  have J4 := block_start J3 bk ndN f3
  have pg := Gg s3 (upd H D (.lst [])) s3.heap.objs.size (cellsFrom (s3.heap.objs.size + 1) scope.names (cloFrom X.env.cells scope.names [])) [it]
  have pt := Gt s3 (upd H D (.lst [])) s3.heap.objs.size (cellsFrom (s3.heap.objs.size + 1) scope.names (cloFrom X.env.cells scope.names [])) [it]
  have pe := Ge s3 (upd H D (.lst [])) s3.heap.objs.size (cellsFrom (s3.heap.objs.size + 1) scope.names (cloFrom X.env.cells scope.names [])) [it]
  -- the handled exception, through the block
  obtain ⟨hh, v1, d1, c1⟩ := hp
  have P3 := J3.pin px (List.mem_append_left _ hpn)
  have pit : px.1 ≠ it := fun z => f2.2.2.2.2.2 px (List.mem_append_left _ hpn) z
  show codeAny _ _ (.compStart _ 0 (.ref it) (.ref D) (compEnvC scope (cellsFrom (s3.heap.objs.size + 1) scope.names (cloFrom X.env.cells scope.names [])) s3.heap.objs.size X.env)) (compPost (model X.prog X.w) X.A X.xe none (EP X pins σ Q) (.ref D) s3.heap.objs.size) { s3 with heap := pushCells (s3.heap.push { cls := .type "dict", data := .dict #[] }) scope.names }
  generalize hce : compEnvC scope (cellsFrom (s3.heap.objs.size + 1) scope.names (cloFrom X.env.cells scope.names [])) s3.heap.objs.size X.env = ce at J4 pg pt pe ⊢
  have cL : ce.locals = s3.heap.objs.size := by rw [← hce]; rfl
  generalize hH3 : upd H D (.lst []) = H3 at J3 J4 pg pt pe W0 f3 P3
  generalize hs4 : ({ s3 with heap := pushCells (s3.heap.push { cls := .type "dict", data := .dict #[] }) scope.names } : Shared) = s4 at J4 ⊢
  have st4 : IsRangeIter s4.heap it 0 n 1 := by rw [← hs4]; exact pushCells_keeps _ _ _ _ (Heap.get?_push_of_some _ st3)
  have fok : ∀ {τ : L2.St} {G : Hp} {u : Shared}, Inv (X.blk s3 H3 scope ce [it]) [] τ G u → G it = none → FpOk (X.blk s3 H3 scope ce [it]) [] G it := fun {τ G u} Ju ng =>
    ⟨ng, (Ju.ok.exf it List.mem_cons_self).1, Ju.ok.exfs it List.mem_cons_self, .inl List.mem_cons_self, fun x c e => (Ju.ok.exf it List.mem_cons_self).2 x c e, fun w hw => absurd (show w ∈ ([] : List (Addr × PySem.Obj)) ++ [] from hw) (by simp)⟩
  have hotAt : ∀ {τ : L2.St} {G : Hp} {u : Shared}, Inv (X.blk s3 H3 scope ce [it]) [] τ G u → HotX.HotAt X.A px.1 u.heap := fun {τ G u} Ju => by
    refine ⟨hh, px.2, v1, Ju.base.keep px.1 px.2 P3.1 P3.2.1 (fun z => ?_) (fun z => pit (List.mem_singleton.mp z)), d1, c1⟩
    have z : px.1 ∈ frs X.stack := z
    rcases List.mem_cons.mp (J3.stkSub px.1 z) with z | z
    · exact P3.2.2.1 z
    · exact P3.2.2.2.1 z
  have loop : codeAny (model X.prog X.w) X.A (.compLoop (.ListComp elt [⟨tg, .Call (.Name "range" p) [.Constant (.int n) j p2] [] q, ifs, 0⟩] scope pos) 0 (.ref it) (.ref D) ce) (compPost (model X.prog X.w) X.A X.xe none (EP X pins σ Q) (.ref D) s3.heap.objs.size) s4 := by
    refine compLoop_any (fun m u => ∃ i G, i + m = n ∧ Inv (X.blk s3 H3 scope ce [it]) [] (L2.wipe σ (own.map (·.2))) G u ∧ IsRangeIter u.heap it (i : Nat) ((n : Int) - (i : Nat)) 1 ∧ G it = none ∧ W i G) ?_ n ⟨0, H3, Nat.zero_add n, J4, by simpa using st4, (f3 it List.mem_cons_self).1.1, W0⟩
    rintro m s5 ⟨i, H5, him, J5, st5, n5, w5⟩
    have fo := fok J5 n5
    obtain ⟨g0, g1, g2, g3, g4, g5⟩ := id fo
    by_cases lt : i < n
    · refine thnF (wpAny_pyNext_range_item st5 (by omega) (Q := fun r s6 => ∃ u, r = some u ∧ wpAny (model X.prog X.w) X.A (letOwnedTupleGo tg (.ref it) u) (fun _ s7 => Inv (X.blk s3 H3 scope ce [it]) [] (L2.wipe σ (own.map (·.2))) H5 s7 ∧ RelV (.int (i : Nat)) u ∧ IsRangeIter s7.heap it ((i + 1 : Nat) : Int) ((n : Int) - ((i + 1 : Nat) : Int)) 1) (fun _ _ => False) s6) fun h' st' sb => ?_) fun r s6 ⟨u, hr', h6⟩ => ?_
      · have st2' : IsRangeIter h' it ((i + 1 : Nat) : Int) ((n : Int) - ((i + 1 : Nat) : Int)) 1 := by
          rw [show ((i + 1 : Nat) : Int) = (i : Int) + 1 by omega, show (n : Int) - ((i : Int) + 1) = (n : Int) - i - 1 by omega]
          exact st'
        have J6 : Inv (X.blk s3 H3 scope ce [it]) [] (L2.wipe σ (own.map (·.2))) H5 { s5 with heap := h', toks := s5.toks + 1 } := J5.turned (fun b o hb e => (sb.2 b hb).trans e) g0 g1 g3 g4 g5
        exact ⟨_, rfl, go_of (s := { s5 with heap := h', toks := s5.toks + 1 }) (n := "range_iterator") st2' rfl rfl (by decide) ⟨J6, ⟨s5.toks, rfl⟩, st2'⟩⟩
      · subst hr'
        refine thnF h6 fun _ s7 ⟨J7, r7, st7⟩ => ?_
        have J7' := J7.pinned (fp := [it]) (fun b hb => by rw [List.mem_singleton.mp hb]; exact fok J7 n5) fun b hb => by
          rw [List.mem_singleton.mp hb]
          exact ⟨_, st7, fun v z => by cases z⟩
        refine thnF (pg.run _ s7 _ H5 (.int (i : Nat)) u _ J7' r7 (turn i H5 lt w5)) fun _ s8 ⟨τ8, H8, J8, ew, q8⟩ => ?_
        refine thnF (pt.run _ s8 τ8 H8 _ J8 q8) fun b s9 ⟨H9, J9, q9⟩ => ?_
        have fin : ∀ {u : Shared} {G : Hp}, Inv (X.blk s3 H3 scope ce [it]) ([] ++ pinsAt [it] s7.heap) τ8 G u → W (i + 1) G → ∃ m', m' < m ∧ ∃ i G, i + m' = n ∧ Inv (X.blk s3 H3 scope ce [it]) [] (L2.wipe σ (own.map (·.2))) G u ∧ IsRangeIter u.heap it (i : Nat) ((n : Int) - (i : Nat)) 1 ∧ G it = none ∧ W i G := fun {u G} Ju wu => by
          have pk := Ju.pin (it, _) (List.mem_append_right _ (List.mem_append_right _ (mem_pinsAt List.mem_cons_self st7)))
          have ln : (L2.wipe σ (own.map (·.2))).length = τ8.length := by rw [← ew, wipe_length]
          refine ⟨m - 1, by omega, i + 1, G, by omega, (Ju.unpinned (pins := [])).weak ln (fun j' v e => ?_), pk.1, pk.2.1, wu⟩
          rw [← ew] at e
          exact (wipe_some e).1
        cases b with
        | false =>
          simp only [Bool.false_eq_true, if_false] at q9 ⊢
          exact fin J9 q9
        | true =>
          simp only [if_true] at q9 ⊢
          refine thnF (pe.run _ s9 τ8 H9 _ J9 q9) fun z s10 ⟨yv, H10, J10, r10, acc, aD, az, wu⟩ => ?_
          exact app_ok (X := X.blk s3 H3 scope ce [it]) J10 aD az r10 fun s11 J11 => fin J11 wu
    · have ei : i = n := by omega
      subst ei
      refine thnF (HotX.pyNext_range_end_hot (hotAt J5) st5 (by omega) (Q := fun r s6 => r = none ∧ Inv (X.blk s3 H3 scope ce [it]) [] (L2.wipe σ (own.map (·.2))) H5 s6) fun h' eb => ⟨rfl, J5.turned (t' := s5.toks) (fun b o _ e => eb b o e) g0 g1 g3 g4 g5⟩) fun r s6 ⟨hr', J6⟩ => ?_
      subst hr'
      have J7 : Inv X pins σ H5 s6 := J3.call' (ch := [it]) J6.os J6.base J6.hok J6.bare fun b hb => ⟨(f3 b hb).1.2.2.2.1, (f3 b hb).1.2.1, (f3 b hb).1.2.2.2.2.1, (f3 b hb).1.2.2.2.2.2⟩
      have nC : H5 s3.heap.objs.size = none := by
        have z : H5 ce.locals = none := J6.free
        rw [cL] at z
        exact z
      obtain ⟨mm, hns, _⟩ := J6.loc
      have hns : s6.heap.Ns ce.locals mm := hns
      rw [cL] at hns
      obtain ⟨e0, e1, e2, e3, e4, e5⟩ := J3.fpOk (b := s3.heap.objs.size) (H' := H5) (Nat.le_refl _) nC
      exact ⟨mm, hns, fun h'' sb => ⟨.ref D, H5, J7.turned (t' := s6.toks) (fun b o hb e => (sb.2 b hb).trans e) e0 e1 e3 e4 e5, rfl, Wn H5 w5⟩⟩
  exact codeAny_compStart_list loop (wpAny_pyIter_rangeiter st4 loop)
end
def visB (sc : Scope) (x : Str) : Bool := match sc.names.lookup x with
  | some .local => true
  | some .cell => true
  | some .free => true
  | _ => false
def glB (sc : Scope) (x : Str) : Bool := match sc.names.lookup x with
  | some .globalImplicit => true
  | _ => false
theorem vis_by {sc : Scope} {x : Str} (h : visB sc x = true) : Vis sc x := by
  unfold visB at h
  split at h
  · exact .inl (by assumption)
  · exact .inr (.inl (by assumption))
  · exact .inr (.inr (by assumption))
  · cases h
theorem gl_by {sc : Scope} {x : Str} (h : glB sc x = true) : sc.names.lookup x = some .globalImplicit := by
  unfold glB at h
  split at h
  · assumption
  · cases h
end IL
/-! Soundness, part Y: the law's def that tells a refusal by its class, called where the refusal is handled. -/
namespace IL
open PySem PySem.Spec PyProof.Rows L2

/-- what the module's classes of refusals must be -/
structure ExcF (K : PySem.W.Frag) : Prop where
  c : ∀ c < 17, ExcC K (xad K c)
  kit : ∀ c < 17, ∀ d < 17, PySem.W.kitOne K (.ref (xad K c)) (.ref (xad K d)) = some (decide (c = d))
  kiv : ∀ c < 17, PySem.W.kitOne K (.ref (xad K c)) (.type "ValueError") = some true
def kN : List Str := ["_law_e", "_law_found", "_law_words", "_law_k"]
def mFl (f : Option Nat) (x : Expr) : Bool := match f, x with
  | some d, .Call (.Name a _) [.Name b _, .Name c _] [] _ => decide (a = "isinstance") && decide (b = "_law_e") && decide (c = xnm d) && decide (d < 17)
  | none, .UnaryOp .Not (.Call (.Name a _) [.Name b _, .Name c _] [] _) _ => decide (a = "isinstance") && decide (b = "_law_e") && decide (c = "ValueError")
  | _, _ => false
def all2 {α β : Type} (p : α → β → Bool) : List α → List β → Bool
  | [], [] => true
  | a :: as, b :: bs => p a b && all2 p as bs
  | _, _ => false
def mWd (w : Str) : Expr → Bool
  | .Constant (.str m) _ _ => decide (m = w)
  | _ => false
def mLs {α : Type} (p : α → Expr → Bool) (l : List α) : Expr → Bool
  | .List xs _ => all2 p l xs
  | _ => false
def mK1 {α : Type} (p : α → Expr → Bool) (l : List α) (nm : Str) : Stmt → Bool
  | .Assign [.Name a _] v _ => decide (a = nm) && mLs p l v
  | _ => false
def mK2 {α : Type} (p : α → Expr → Bool) (l : List α) (nm : Str) : Stmt → Bool
  | .Assign [.Name a _] (.BinOp (.Name b _) .Add v _) _ => decide (a = nm) && decide (b = nm) && mLs p l v
  | _ => false
def locB (sc : Scope) (x : Str) : Bool := match sc.names.lookup x with
  | some .local => true
  | _ => false
def mK3 (sc : Scope) : Stmt → Bool
  | .Return (some (.ListComp (.Subscript (.Name a _) (.Name b _) _) [⟨.Name c _, .Call (.Name d _) [.Constant (.int n) _ _] [] _, [.Subscript (.Name e _) (.Name f _) _], z⟩] csc _)) _ =>
    decide (a = "_law_words") && decide (b = "_law_k") && decide (c = "_law_k") && decide (d = "range") && decide (e = "_law_found") && decide (f = "_law_k") && decide (n = 18) && decide (z = 0) && blkC kN sc csc [("_law_k", 3)] &&
      visB (relS csc sc) "_law_words" && visB (relS csc sc) "_law_found" && locB (relS csc sc) "_law_k"
  | _ => false
def kinB (sc : Scope) : List Stmt → Bool
  | [s1, s2, s3, s4, s5, s6, s7, s8] => mK1 mFl [some 0, some 1, some 2, some 3] "_law_found" s1 && mK2 mFl [some 4, some 5, some 6, some 7] "_law_found" s2 && mK2 mFl [some 8, some 9, some 10, some 11] "_law_found" s3 &&
      mK2 mFl [some 12, some 13, some 14, some 15] "_law_found" s4 && mK2 mFl [some 16, none] "_law_found" s5 && mK1 mWd ((List.range 9).map xnm) "_law_words" s6 && mK2 mWd ([9, 10, 11, 12, 13, 14, 15, 16].map xnm ++ (["no ValueError"] : List Str)) "_law_words" s7 && mK3 sc s8 &&
      visB sc "_law_e" && visB sc "_law_found" && visB sc "_law_words" && glB sc "isinstance" && glB sc "ValueError" && glB sc "range" && (List.range 17).all fun d => glB sc (xnm d)
  | _ => false
def lcB (sc : Scope) (x : Str) : Bool := match sc.names.lookup x with
  | some .local => true
  | some .cell => true
  | _ => false
/-- the context of that def's body -/
structure KinX (X : Cx) (px : Addr × PySem.Obj) (c : Nat) (sc : Scope) : Prop where
  hpn : px ∈ X.pn
  hot : L2H.Hot1 X.A px
  N : X.N = kN
  hs : X.env.scope = sc
  fn : ∀ x, X.fn x = true
  hu : X.A.units + 64 < cLine
  ef : ExcF X.K
  hc : c < 17
  z : Zc (.ref (xad X.K c)) none px.2
  free : ∀ x ∈ (["isinstance", "ValueError", "range"] : List Str), X.mg x = none
  cls : ∀ d < 17, X.mg (xnm d) = some (.ref (xad X.K d))
  loc : lcB sc "_law_found" = true ∧ lcB sc "_law_words" = true
def fV (c : Nat) : Option Nat → V
  | some d => .bl (decide (c = d))
  | none => .bl false
section
variable {X : Cx} {px : Addr × PySem.Obj} {c : Nat} {sc : Scope}
theorem call_isH {D : Addr} (hpn : px ∈ X.pn) (C : ExcC X.K D) (hz : Zc (.ref D) none px.2) (hf : ∃ vs, px.2.data = .fields vs) : CallR X (.builtin "isinstance") (rIsE X.K D px.1) := by
  intro pins s σ H xs us Q Iv r w
  obtain ⟨cl, cv, b, rfl, hcv, e, q⟩ := w
  match us, r with
  | [u1, u2], .cons r1 (.cons r2 .nil) =>
    obtain rfl : u1 = Value.ref px.1 := r1
    obtain rfl := hcv _ r2
    have hget := (Iv.pin px (List.mem_append_left _ hpn)).1
    obtain ⟨vs, hv⟩ := hf
    have J : PySem.W.InstAt s.heap px.1 px.2 D none := by
      obtain ⟨pa, ⟨oc, od, oda, osl⟩⟩ := px
      obtain ⟨h1, h2⟩ := hz
      dsimp only at h1 h2 hv
      subst h1 h2 hv
      exact ⟨hget, rfl, rfl, trivial⟩
    exact PySem.W.kia_one (PySem.W.handS_kitx_exc C.hg C.hk C.hs C.hd C.ha C.hn C.ht C.hm) Iv.kIn J e (fun z => nomatch z) fun tk => ⟨.bl b, H, Iv.kept (t' := tk) fun _ _ z => z, rfl, q⟩
theorem KinX.fields (k : KinX X px c sc) : ∃ vs, px.2.data = .fields vs := by obtain ⟨_, v, d, _⟩ := k.hot; exact ⟨v, d⟩
theorem xnm_dbg : ∀ d < 17, (xnm d == ("__debug__" : Str)) = false := by decide +kernel
theorem boot_ve : bootBuiltins "ValueError" = some (.type "ValueError") := by decide +kernel
theorem KinX.at0 (k : KinX X px c sc) : X.N[0]? = some ("_law_e" : Str) := by rw [k.N]; rfl
theorem pe_isx (k : KinX X px c sc) {p1 p2 p3 q : Pos} {u : Str} {v : V} {b : Bool} (h0 : visB sc "_law_e" = true) (h1 : glB sc "isinstance" = true) (hu : PE X (.Name u p3) (tC v)) {cv : Value} (hcv : ∀ w, RelV v w → w = cv) (hk : PySem.W.kitOne X.K (.ref (xad X.K c)) cv = some b) :
    PE X (.Call (.Name "isinstance" p1) [.Name "_law_e" p2, .Name u p3] [] q) (fun σ H Q => σ[0]? = some (some (.ref px.1)) ∧ Q (.bl b) H) := by
  have gi : Gl X "isinstance" := by show X.env.scope.names.lookup _ = _; rw [k.hs]; exact gl_by h1
  have ve : Vis X.env.scope "_law_e" := by rw [k.hs]; exact vis_by h0
  refine (pe_callB (call_isH k.hpn (k.ef.c c k.hc) k.z k.fields) gi (k.free _ (by simp)) PyProof.Rows.boot_isinstance (pa_cons (pe_var k.at0 ve) (pa_cons hu pa_nil)) (by decide) (by decide)).imp ?_
  rintro σ H Q ⟨h, q⟩
  exact ⟨_, h, v, cv, b, rfl, hcv, hk, q⟩
theorem pe_flag (k : KinX X px c sc) (h0 : visB sc "_law_e" = true) (h1 : glB sc "isinstance" = true) (h2 : glB sc "ValueError" = true) (h3 : ((List.range 17).all fun d => glB sc (xnm d)) = true) {f : Option Nat} {x : Expr} (h : mFl f x = true) :
    plainB x = true ∧ PE X x (fun σ H Q => σ[0]? = some (some (.ref px.1)) ∧ Q (fV c f) H) := by
  unfold mFl at h
  split at h
  · rename_i d a p1 b p2 u p3 q
    simp only [Bool.and_eq_true, decide_eq_true_eq] at h
    obtain ⟨⟨⟨rfl, rfl⟩, rfl⟩, hd⟩ := h
    have gx : Gl X (xnm d) := by
      show X.env.scope.names.lookup _ = _
      rw [k.hs]
      exact gl_by (List.all_eq_true.mp h3 d (List.mem_range.mpr hd))
    exact ⟨rfl, pe_isx k h0 h1 (pe_glob (v := .ref (xad X.K d)) gx (k.cls d hd) rfl (xnm_dbg d hd)) (fun w r => r) (k.ef.kit c k.hc d hd)⟩
  · rename_i a p1 b p2 u p3 q q2
    simp only [Bool.and_eq_true, decide_eq_true_eq] at h
    obtain ⟨⟨rfl, rfl⟩, rfl⟩ := h
    have gx : Gl X "ValueError" := by
      show X.env.scope.names.lookup _ = _
      rw [k.hs]
      exact gl_by h2
    refine ⟨rfl, (pe_not (pe_isx k h0 h1 (pe_bltn (v := .ty "ValueError") gx (k.free _ (by simp)) boot_ve rfl (by decide) (by decide)) (fun w r => r) (k.ef.kiv c k.hc))).imp ?_⟩
    rintro σ H Q ⟨h, q⟩
    exact ⟨h, true, rfl, q⟩
  · cases h
theorem pe_word {w : Str} {x : Expr} (h : mWd w x = true) : plainB x = true ∧ PE X x (tC (.str w)) := by
  unfold mWd at h
  split at h
  · rw [decide_eq_true_eq] at h
    subst h
    exact ⟨rfl, pe_str⟩
  · cases h
theorem pa_all {α : Type} {p : α → Expr → Bool} {v : α → V} {P : L2.St → Prop} (hp : ∀ a x, p a x = true → plainB x = true ∧ PE X x (fun σ H Q => P σ ∧ Q (v a) H)) : ∀ (l : List α) (xs : List Expr), all2 p l xs = true → PA X xs (fun σ H Q => P σ ∧ Q (l.map v) H)
  | [], [], _ => pa_nil.imp fun σ H Q h => h.2
  | [], _ :: _, h => by cases h
  | _ :: _, [], h => by cases h
  | a :: l, x :: xs, h => by
    have h : (p a x && all2 p l xs) = true := h
    rw [Bool.and_eq_true] at h
    obtain ⟨h1, h2⟩ := hp a x h.1
    exact (pa_cons h2 (pa_all hp l xs h.2) (star_cons h1)).imp fun σ H Q h => ⟨h.1, h.1, h.2⟩
theorem pe_ls {α : Type} {p : α → Expr → Bool} {v : α → V} {P : L2.St → Prop} (hp : ∀ a x, p a x = true → plainB x = true ∧ PE X x (fun σ H Q => P σ ∧ Q (v a) H)) {l : List α} (hl : l.length ≤ 100) {x : Expr} (h : mLs p l x = true) : plainB x = true ∧ (∀ t n env, swapsWith x t n env = pure false) ∧ PE X x (fun σ H Q => P σ ∧ ∀ r, H r = none → Q (.ref r) (upd H r (.lst (l.map v)))) := by
  unfold mLs at h
  split at h
  · refine ⟨rfl, fun _ _ _ => rfl, (pe_lst (pa_all hp l _ h)).imp fun σ H Q h => ⟨h.1, by rw [List.length_map, PySem.sizeLine_eq]; omega, h.2⟩⟩
  · cases h
theorem ps_k1 {α : Type} {p : α → Expr → Bool} {v : α → V} {P : L2.St → Prop} {i : Nat} {nm : Str} {l : List α} {st : Stmt} (nd : X.N.Nodup) (hi : X.N[i]? = some nm) (hl : Loc X.env.scope nm) (hf : X.fn nm = true) (hp : ∀ a x, p a x = true → plainB x = true ∧ PE X x (fun σ H Q => P σ ∧ Q (v a) H)) (hn : l.length ≤ 100) (h : mK1 p l nm st = true) :
    PS X st (fun D σ H => P σ ∧ ∀ r, H r = none → D.nx (σ.set i (some (.ref r))) (upd H r (.lst (l.map v)))) := by
  unfold mK1 at h
  split at h
  · simp only [Bool.and_eq_true, decide_eq_true_eq] at h
    obtain ⟨rfl, h⟩ := h
    obtain ⟨_, sw, pe⟩ := pe_ls hp hn h
    exact (ps_set nd hi hl pe (sw _ _ _) (.inl hf)).imp fun D σ H h => h
  · cases h
theorem ps_k2 {α : Type} {p : α → Expr → Bool} {v : α → V} {P : L2.St → Prop} {i : Nat} {nm : Str} {l : List α} {st : Stmt} (nd : X.N.Nodup) (hi : X.N[i]? = some nm) (hl : Loc X.env.scope nm) (hv : Vis X.env.scope nm) (hd : (nm == ("__debug__" : Str)) = false) (hcd : (nm == ("__classdict__" : Str)) = false) (hf : X.fn nm = true) (hp : ∀ a x, p a x = true → plainB x = true ∧ PE X x (fun σ H Q => P σ ∧ Q (v a) H)) (hn : l.length ≤ 100) (h : mK2 p l nm st = true) :
    PS X st (fun D σ H => P σ ∧ ∃ q xs, σ[i]? = some (some (.ref q)) ∧ H q = some (.lst xs) ∧ xs.length ≤ 100 ∧ ∀ r1 r2, H r1 = none → upd H r1 (.lst (l.map v)) r2 = none → D.nx (σ.set i (some (.ref r2))) (upd (upd H r1 (.lst (l.map v))) r2 (.lst (xs ++ l.map v)))) := by
  unfold mK2 at h
  split at h
  · simp only [Bool.and_eq_true, decide_eq_true_eq] at h
    obtain ⟨⟨rfl, rfl⟩, h⟩ := h
    obtain ⟨_, sw, pe⟩ := pe_ls hp hn h
    refine (ps_set nd hi hl (pe_op op_cat (pe_var hi hv hd hcd) pe) rfl (.inl hf)).imp fun D σ H h => ?_
    obtain ⟨h0, q, xs, e1, e2, e3, k⟩ := h
    refine ⟨_, e1, h0, fun r1 n1 => ?_⟩
    have ne : q ≠ r1 := fun z => by rw [z, n1] at e2; cases e2
    refine ⟨q, r1, xs, l.map v, rfl, rfl, by rw [upd_ne ne]; exact e2, upd_same, ?_, fun r2 n2 => k r1 r2 n1 n2⟩
    rw [List.length_map, PySem.sizeLine_eq]; omega
  · cases h
theorem at_natK {α : Type} {l : List α} {i : Nat} {v : α} (h : l[i]? = some v) : L2.atI l (i : Nat) = some v := by
  have hl := (List.getElem?_eq_some_iff.mp h).1
  show (L2.ixN l.length (i : Nat)).bind _ = _
  have e : L2.ixN l.length (i : Nat) = some i := by
    unfold L2.ixN
    rw [if_pos (by omega), if_pos (by omega), Int.toNat_natCast]
  rw [e]
  exact h
/-- what is picked -/
def selL : List Bool → List V → List V
  | b :: bs, w :: ws => if b then w :: selL bs ws else selL bs ws
  | _, _ => []
theorem sel_snoc : ∀ (bs : List Bool) (ws : List V) (b : Bool) (w : V), bs.length = ws.length → selL (bs ++ [b]) (ws ++ [w]) = selL bs ws ++ (if b then [w] else [])
  | [], [], b, w, _ => by cases b <;> rfl
  | [], _ :: _, _, _, h => by cases h
  | _ :: _, [], _, _, h => by cases h
  | c :: bs, x :: ws, b, w, h => by
    have ih := sel_snoc bs ws b w (by injection h)
    show (if c then x :: selL (bs ++ [b]) (ws ++ [w]) else selL (bs ++ [b]) (ws ++ [w])) = (if c then x :: selL bs ws else selL bs ws) ++ _
    rw [ih]
    cases c <;> rfl
theorem take_snoc {α : Type} {l : List α} {i : Nat} {v : α} (h : l[i]? = some v) : l.take (i + 1) = l.take i ++ [v] := by
  rw [List.take_add_one, h]; rfl
theorem sel_len : ∀ (bs : List Bool) (ws : List V), (selL bs ws).length ≤ bs.length
  | [], _ => Nat.le_refl _
  | _ :: _, [] => Nat.zero_le _
  | c :: bs, x :: ws => by
    have := sel_len bs ws
    show (if c then x :: selL bs ws else selL bs ws).length ≤ bs.length + 1
    cases c with
    | true => show (selL bs ws).length + 1 ≤ _; omega
    | false => show (selL bs ws).length ≤ _; omega
def Gr (H H' : Hp) : Prop := ∀ b o, H b = some o → H' b = some o
theorem grU {H : Hp} {r : Addr} {o : HO} (h : H r = none) : Gr H (upd H r o) := fun b u e => by rw [upd_ne fun z => by rw [z, h] at e; cases e]; exact e
theorem grT {H : Hp} {r1 r2 : Addr} {o1 o2 : HO} (h1 : H r1 = none) (h2 : upd H r1 o1 r2 = none) : Gr H (upd (upd H r1 o1) r2 o2) := fun b u e => grU h2 b u (grU h1 b u e)
theorem ps_k3 (k : KinX X px c sc) {st : Stmt} (h1 : visB sc "_law_e" = true) (h2 : glB sc "range" = true) (h : mK3 sc st = true) :
    PS X st (fun D σ H => ∃ rf rw fs ws, σ[1]? = some (some (.ref rf)) ∧ σ[2]? = some (some (.ref rw)) ∧ H rf = some (.lst (fs.map V.bl)) ∧ H rw = some (.lst ws) ∧ fs.length = 18 ∧ ws.length = 18 ∧ σ.length = 4 ∧ ∀ r, H r = none → D.rt (.ref r) (upd H r (.lst (selL fs ws)))) := by
  unfold mK3 at h
  split at h
  · rename_i a p1 b p2 p3 c1 p4 d p5 n j p6 p7 e p8 f p9 p10 z csc p11 p12
    simp only [Bool.and_eq_true, decide_eq_true_eq] at h
    obtain ⟨⟨⟨⟨⟨⟨⟨⟨⟨⟨⟨rfl, rfl⟩, rfl⟩, rfl⟩, rfl⟩, rfl⟩, rfl⟩, rfl⟩, g1⟩, g2⟩, g3⟩, g4⟩ := h
    have nd : X.N.Nodup := by rw [k.N]; decide +kernel
    have bk := blkOk_by g1
    rw [← k.N, ← k.hs] at bk
    have gr : Gl X "range" := by show X.env.scope.names.lookup _ = _; rw [k.hs]; exact gl_by h2
    have nr := k.free "range" (by simp)
    have hu := k.hu
    have N1 : X.N[1]? = some ("_law_found" : Str) := by rw [k.N]; rfl
    have N2 : X.N[2]? = some ("_law_words" : Str) := by rw [k.N]; rfl
    have N3 : X.N[3]? = some ("_law_k" : Str) := by rw [k.N]; rfl
    have scE : ∀ (s : Shared) (H : Hp) (C : Addr) (cl : List (Str × Addr)) (fp : List Addr), (X.blk s H csc (compEnvC csc cl C X.env) fp).env.scope = relS csc sc := fun _ _ _ _ _ => by
      show relS csc X.env.scope = _
      rw [k.hs]
    have lk : (relS csc sc).names.lookup ("_law_k" : Str) = some NameKind.local := by
      unfold locB at g4
      split at g4
      · assumption
      · cases g4
    have vv : ∀ (s : Shared) (H : Hp) (C : Addr) (cl : List (Str × Addr)) (fp : List Addr) (y : Str), visB (relS csc sc) y = true → Vis (X.blk s H csc (compEnvC csc cl C X.env) fp).env.scope y := fun s H C cl fp y hy => by rw [scE]; exact vis_by hy
    have vk : ∀ (s : Shared) (H : Hp) (C : Addr) (cl : List (Str × Addr)) (fp : List Addr), (X.blk s H csc (compEnvC csc cl C X.env) fp).env.scope.names.lookup ("_law_k" : Str) = some NameKind.local := fun s H C cl fp => by rw [scE]; exact lk
    have pf : ∀ (s : Shared) (H : Hp) (C : Addr) (cl : List (Str × Addr)) (fp : List Addr) (p q r : Pos), PE (X.blk s H csc (compEnvC csc cl C X.env) fp) (.Subscript (.Name "_law_found" p) (.Name "_law_k" q) r) (tOp (rIx X.K) (tVar 1) (tVar 3)) := fun s H C cl fp p q r =>
      pe_ix ix_seq (pe_var N1 (vv s H C cl fp _ g3)) (pe_var N3 (.inl (vk s H C cl fp))) (plainIx rfl)
    have pw : ∀ (s : Shared) (H : Hp) (C : Addr) (cl : List (Str × Addr)) (fp : List Addr) (p q r : Pos), PE (X.blk s H csc (compEnvC csc cl C X.env) fp) (.Subscript (.Name "_law_words" p) (.Name "_law_k" q) r) (tOp (rIx X.K) (tVar 2) (tVar 3)) := fun s H C cl fp p q r =>
      pe_ix ix_seq (pe_var N2 (vv s H C cl fp _ g2)) (pe_var N3 (.inl (vk s H C cl fp))) (plainIx rfl)
    refine (ps_ret (pe_lcH (n := 18) k.hot k.hpn nd bk gr nr (by decide) (fun s H C cl fp => pg_name (i := 3) nd N3 (.inl (vk s H C cl fp)) (.inr (vk s H C cl fp))) (fun s H C cl fp => pts_one (pt_val (pf s H C cl fp p8 p9 p10))) fun s H C cl fp => pw s H C cl fp p1 p2 p3)).imp ?_
    rintro D σ H ⟨rf, rw, fs, ws, s1, s2, a1, a2, l1, l2, ls, fin⟩ r nr'
    have nf : rf ≠ r := fun z => by rw [z, nr'] at a1; cases a1
    have nw : rw ≠ r := fun z => by rw [z, nr'] at a2; cases a2
    refine ⟨fun i G => G = upd H r (.lst (selL (fs.take i) (ws.take i))), rfl, fun G e => ?_, fun i G hi e => ?_⟩
    · rw [e, ← l1, List.take_length, l1, ← l2, List.take_length]; exact fin r nr'
    · subst e
      have x1 : L2.wipe σ [3] = σ.set 3 none := rfl
      show L2.wipe ((σ.set 3 none).set 3 (some (V.int (i : Nat)))) [3] = L2.wipe σ [3] ∧ tB (tOp (rIx X.K) (tVar 1) (tVar 3)) ((σ.set 3 none).set 3 (some (V.int (i : Nat)))) _ _
      rw [List.set_set]
      have y1 : (σ.set 3 (some (V.int (i : Nat))))[1]? = some (some (.ref rf)) := by rw [List.getElem?_set_ne (by decide)]; exact s1
      have y2 : (σ.set 3 (some (V.int (i : Nat))))[2]? = some (some (.ref rw)) := by rw [List.getElem?_set_ne (by decide)]; exact s2
      have y3 : (σ.set 3 (some (V.int (i : Nat))))[3]? = some (some (.int (i : Nat))) := by rw [List.getElem?_set_self (by omega)]
      obtain ⟨b, hb⟩ : ∃ b, fs[i]? = some b := ⟨fs[i], List.getElem?_eq_getElem (by omega)⟩
      obtain ⟨w, hw⟩ : ∃ w, ws[i]? = some w := ⟨ws[i], List.getElem?_eq_getElem (by omega)⟩
      have hb' : (fs.map V.bl)[i]? = some (.bl b) := by rw [List.getElem?_map, hb]; rfl
      have snoc := sel_snoc (fs.take i) (ws.take i) b w (by rw [List.length_take, List.length_take]; omega)
      rw [← take_snoc hb, ← take_snoc hw] at snoc
      refine ⟨by show (σ.set 3 (some (V.int (i : Nat)))).set 3 none = σ.set 3 none; rw [List.set_set], _, y1, _, y3, .inl ⟨rf, _, (i : Nat), .bl b, rfl, rfl, .inl (.inl (by rw [upd_ne nf]; exact a1)), at_natK hb', b, rfl, ?_⟩⟩
      cases b with
      | false =>
        show upd H r (.lst (selL (fs.take i) (ws.take i))) = upd H r (.lst (selL (fs.take (i + 1)) (ws.take (i + 1))))
        rw [snoc]
        simp
      | true =>
        show tOp (rIx X.K) (tVar 2) (tVar 3) ((σ.set 3 none).set 3 (some (V.int (i : Nat)))) _ _
        rw [List.set_set]
        refine ⟨_, y2, _, y3, .inl ⟨rw, ws, (i : Nat), w, rfl, rfl, .inl (.inl (by rw [upd_ne nw]; exact a2)), at_natK hw, selL (fs.take i) (ws.take i), upd_same, ?_, ?_⟩⟩
        · have := sel_len (fs.take i) (ws.take i)
          rw [List.length_take] at this
          rw [PySem.sizeLine_eq]; omega
        · show upd (upd H r _) r _ = _
          rw [snoc, upd_upd]; rfl
  · cases h
theorem sel_kind : ∀ c < 17, selL ((List.range 17).map (fun d => decide (c = d)) ++ [false]) ((List.range 17).map (fun d => V.str (xnm d)) ++ [V.str "no ValueError"]) = [V.str (xnm c)] := by decide +kernel
/-- the whole body: a new list with the one word -/
theorem kin_body (k : KinX X px c sc) {body : List Stmt} (h : kinB sc body = true) : ∃ t, PSs X body t ∧ ∀ (D : Ends) (H : Hp), (∀ r H', Gr H H' → H r = none → H' r = some (.lst [.str (xnm c)]) → D.rt (.ref r) H') → t D [some (.ref px.1), none, none, none] H := by
  unfold kinB at h
  split at h
  · rename_i s1 s2 s3 s4 s5 s6 s7 s8
    simp only [Bool.and_eq_true] at h
    obtain ⟨⟨⟨⟨⟨⟨⟨⟨⟨⟨⟨⟨⟨⟨h1, h2⟩, h3⟩, h4⟩, h5⟩, h6⟩, h7⟩, h8⟩, v1⟩, v2⟩, v3⟩, g1⟩, g2⟩, g3⟩, g4⟩ := h
    have nd : X.N.Nodup := by rw [k.N]; decide +kernel
    have N1 : X.N[1]? = some ("_law_found" : Str) := by rw [k.N]; rfl
    have N2 : X.N[2]? = some ("_law_words" : Str) := by rw [k.N]; rfl
    have lo : ∀ y, lcB sc y = true → Loc X.env.scope y := fun y hy => by
      rw [k.hs]
      unfold lcB at hy
      split at hy
      · exact .inl (by assumption)
      · exact .inr (by assumption)
      · cases hy
    have va : ∀ y, visB sc y = true → Vis X.env.scope y := fun y hy => by rw [k.hs]; exact vis_by hy
    have fl := fun (f : Option Nat) (x : Expr) (hx : mFl f x = true) => pe_flag k v1 g1 g2 g4 hx
    have wd := fun (w : Str) (x : Expr) (hx : mWd w x = true) => (⟨(pe_word (X := X) hx).1, (pe_word hx).2.imp fun σ H Q h => h.2⟩ : plainB x = true ∧ PE X x (fun σ H Q => (fun _ : L2.St => True) σ ∧ Q (V.str w) H))
    have q1 := ps_k1 (v := fV c) (P := fun σ => σ[0]? = some (some (.ref px.1))) nd N1 (lo _ k.loc.1) (k.fn _) fl (by decide) h1
    have q2 := ps_k2 (v := fV c) (P := fun σ => σ[0]? = some (some (.ref px.1))) nd N1 (lo _ k.loc.1) (va _ v2) (by decide +kernel) (by decide +kernel) (k.fn _) fl (by decide) h2
    have q3 := ps_k2 (v := fV c) (P := fun σ => σ[0]? = some (some (.ref px.1))) nd N1 (lo _ k.loc.1) (va _ v2) (by decide +kernel) (by decide +kernel) (k.fn _) fl (by decide) h3
    have q4 := ps_k2 (v := fV c) (P := fun σ => σ[0]? = some (some (.ref px.1))) nd N1 (lo _ k.loc.1) (va _ v2) (by decide +kernel) (by decide +kernel) (k.fn _) fl (by decide) h4
    have q5 := ps_k2 (v := fV c) (P := fun σ => σ[0]? = some (some (.ref px.1))) nd N1 (lo _ k.loc.1) (va _ v2) (by decide +kernel) (by decide +kernel) (k.fn _) fl (by decide) h5
    have q6 := ps_k1 (v := fun w => V.str w) (P := fun _ : L2.St => True) nd N2 (lo _ k.loc.2) (k.fn _) wd (by decide) h6
    have q7 := ps_k2 (v := fun w => V.str w) (P := fun _ : L2.St => True) nd N2 (lo _ k.loc.2) (va _ v3) (by decide +kernel) (by decide +kernel) (k.fn _) wd (by decide) h7
    have q8 := ps_k3 k v1 g3 h8
    refine ⟨_, pss_cons q1 (pss_cons q2 (pss_cons q3 (pss_cons q4 (pss_cons q5 (pss_cons q6 (pss_cons q7 (pss_cons q8 pss_nil))))))), fun D H fin => ?_⟩
    refine ⟨rfl, fun r1 n1 => ?_⟩
    have b1 := grU (o := HO.lst ([some 0, some 1, some 2, some 3].map (fV c))) n1
    have e1 : (upd H r1 (.lst ([some 0, some 1, some 2, some 3].map (fV c)))) r1 = _ := upd_same
    refine ⟨rfl, r1, _, rfl, e1, Nat.le_of_ble_eq_true rfl, fun x2 r2 m2 n2 => ?_⟩
    have b2 : Gr _ (upd (upd (upd H r1 _) x2 _) r2 _) := grT (o2 := HO.lst ([some 0, some 1, some 2, some 3].map (fV c) ++ [some 4, some 5, some 6, some 7].map (fV c))) m2 n2
    generalize hH2 : upd (upd (upd H r1 _) x2 _) r2 (HO.lst ([some 0, some 1, some 2, some 3].map (fV c) ++ [some 4, some 5, some 6, some 7].map (fV c))) = H2 at b2 ⊢
    have e2 : H2 r2 = some (.lst ([some 0, some 1, some 2, some 3].map (fV c) ++ [some 4, some 5, some 6, some 7].map (fV c))) := by rw [← hH2]; exact upd_same
    refine ⟨rfl, r2, _, rfl, e2, Nat.le_of_ble_eq_true rfl, fun x3 r3 m3 n3 => ?_⟩
    have b3 : Gr _ (upd (upd H2 x3 _) r3 _) := grT (o2 := HO.lst ([some 0, some 1, some 2, some 3].map (fV c) ++ [some 4, some 5, some 6, some 7].map (fV c) ++ [some 8, some 9, some 10, some 11].map (fV c))) m3 n3
    generalize hH3 : upd (upd H2 x3 _) r3 (HO.lst ([some 0, some 1, some 2, some 3].map (fV c) ++ [some 4, some 5, some 6, some 7].map (fV c) ++ [some 8, some 9, some 10, some 11].map (fV c))) = H3 at b3 ⊢
    have e3 : H3 r3 = some (.lst ([some 0, some 1, some 2, some 3].map (fV c) ++ [some 4, some 5, some 6, some 7].map (fV c) ++ [some 8, some 9, some 10, some 11].map (fV c))) := by rw [← hH3]; exact upd_same
    refine ⟨rfl, r3, _, rfl, e3, Nat.le_of_ble_eq_true rfl, fun x4 r4 m4 n4 => ?_⟩
    have b4 : Gr _ (upd (upd H3 x4 _) r4 _) := grT (o2 := HO.lst ([some 0, some 1, some 2, some 3].map (fV c) ++ [some 4, some 5, some 6, some 7].map (fV c) ++ [some 8, some 9, some 10, some 11].map (fV c) ++ [some 12, some 13, some 14, some 15].map (fV c))) m4 n4
    generalize hH4 : upd (upd H3 x4 _) r4 (HO.lst ([some 0, some 1, some 2, some 3].map (fV c) ++ [some 4, some 5, some 6, some 7].map (fV c) ++ [some 8, some 9, some 10, some 11].map (fV c) ++ [some 12, some 13, some 14, some 15].map (fV c))) = H4 at b4 ⊢
    have e4 : H4 r4 = some (.lst ([some 0, some 1, some 2, some 3].map (fV c) ++ [some 4, some 5, some 6, some 7].map (fV c) ++ [some 8, some 9, some 10, some 11].map (fV c) ++ [some 12, some 13, some 14, some 15].map (fV c))) := by rw [← hH4]; exact upd_same
    refine ⟨rfl, r4, _, rfl, e4, Nat.le_of_ble_eq_true rfl, fun x5 r5 m5 n5 => ?_⟩
    have b5 : Gr _ (upd (upd H4 x5 _) r5 _) := grT (o2 := HO.lst ([some 0, some 1, some 2, some 3].map (fV c) ++ [some 4, some 5, some 6, some 7].map (fV c) ++ [some 8, some 9, some 10, some 11].map (fV c) ++ [some 12, some 13, some 14, some 15].map (fV c) ++ [some 16, none].map (fV c))) m5 n5
    generalize hH5 : upd (upd H4 x5 _) r5 (HO.lst ([some 0, some 1, some 2, some 3].map (fV c) ++ [some 4, some 5, some 6, some 7].map (fV c) ++ [some 8, some 9, some 10, some 11].map (fV c) ++ [some 12, some 13, some 14, some 15].map (fV c) ++ [some 16, none].map (fV c))) = H5 at b5 ⊢
    have e5 : H5 r5 = some (.lst (((List.range 17).map (fun d => decide (c = d)) ++ [false]).map V.bl)) := by rw [← hH5]; exact upd_same
    refine ⟨trivial, fun r6 n6 => ?_⟩
    have b6 := grU (o := HO.lst (((List.range 9).map xnm).map fun w => V.str w)) n6
    generalize hH6 : upd H5 r6 (HO.lst (((List.range 9).map xnm).map fun w => V.str w)) = H6 at b6 ⊢
    have e6 : H6 r6 = some (.lst (((List.range 9).map xnm).map fun w => V.str w)) := by rw [← hH6]; exact upd_same
    refine ⟨trivial, r6, _, rfl, e6, Nat.le_of_ble_eq_true rfl, fun x7 r7 m7 n7 => ?_⟩
    have b7 : Gr _ (upd (upd H6 x7 _) r7 _) := grT (o2 := HO.lst ((((List.range 9).map xnm).map fun w => V.str w) ++ (([9, 10, 11, 12, 13, 14, 15, 16].map xnm ++ (["no ValueError"] : List Str)).map fun w => V.str w))) m7 n7
    generalize hH7 : upd (upd H6 x7 _) r7 (HO.lst ((((List.range 9).map xnm).map fun w => V.str w) ++ (([9, 10, 11, 12, 13, 14, 15, 16].map xnm ++ (["no ValueError"] : List Str)).map fun w => V.str w))) = H7 at b7 ⊢
    have e7 : H7 r7 = some (.lst ((List.range 17).map (fun d => V.str (xnm d)) ++ [V.str "no ValueError"])) := by rw [← hH7]; exact upd_same
    refine ⟨r5, r7, _, _, rfl, rfl, b7 _ _ (b6 _ _ e5), e7, rfl, rfl, rfl, fun r8 n8 => ?_⟩
    have all : Gr H (upd H7 r8 (.lst (selL ((List.range 17).map (fun d => decide (c = d)) ++ [false]) ((List.range 17).map (fun d => V.str (xnm d)) ++ [V.str "no ValueError"])))) := fun b o e => grU n8 b o (b7 b o (b6 b o (b5 b o (b4 b o (b3 b o (b2 b o (b1 b o e)))))))
    refine fin r8 _ all ?_ (by rw [upd_same, sel_kind c k.hc])
    cases e : H r8 with
    | none => rfl
    | some o =>
      have := b7 r8 o (b6 r8 o (b5 r8 o (b4 r8 o (b3 r8 o (b2 r8 o (b1 r8 o e))))))
      rw [n8] at this
      cases this
  · cases h
end
end IL
namespace IL
open PySem PySem.Spec PyProof.Rows L2
/-- what the def promises where p's refusal is handled -/
structure FnK (P : Program) (w : World) (K : PySem.W.Frag) (mg : Str → Option Value) (base : Heap) (CX : CXT) (k : Nat) (f : Addr) (fd : FuncData) : Prop where
  run : ∀ (A : Around) (outer : List Env) (s : Shared) (H : Hp) (args : Args) (Q : VK) (E : XK) (p : Addr × PySem.Obj) (c : Nat), L2H.RoomH k A → L2H.Hot1 A p → L2H.PinOk outer H s p → Env0 P w K mg base A outer s H → BindsTo s fd args (([("_law_e" : Str)]).zip [Value.ref p.1]) →
    Zc (.ref (xad K c)) none p.2 → c < 17 → (∀ r H', Gr H H' → H r = none → H' r = some (.lst [.str (xnm c)]) → Q (.ref r) H') → codeAny (model P w) A (.call (.ref f) args) (CR CX outer P w H s Q E) s
theorem kin_fn {CX : CXT} {P : Program} {w : World} {K : PySem.W.Frag} {mg : Str → Option Value} {base : Heap} {k : Nat} {f : Addr} {name qual : Str} {params : Arguments} {body : List Stmt} {scope : Scope} {kws : List (Str × V)} {fd : FuncData}
    (F : FunD K name qual params body scope [] kws f fd) (S : FnScope kN ["_law_e"] scope) (ef : ExcF K) (hb : kinB scope body = true) (hl : lcB scope "_law_found" = true ∧ lcB scope "_law_words" = true)
    (free : ∀ x ∈ (["isinstance", "ValueError", "range"] : List Str), mg x = none) (cls : ∀ d < 17, mg (xnm d) = some (.ref (xad K d))) : FnK P w K mg base CX (k + 1) f fd := by
  obtain ⟨oc, od, dV, kV, doc, pm, an, cdv, ct, osl, rfl, lk, hcd, _, _⟩ := F.ex
  refine ⟨fun A outer s H args Q E p c room hot pin e0 bind hz hc want => ?_⟩
  have kin : K.In s.heap := e0.mod.kin.keeps fun b o e => (e0.bs b o e).1
  have nolim : s.heap.NoLimit := e0.mod.nolimit.keeps fun b o e => (e0.bs b o e).1
  have kinds : ∀ y ∈ ([("_law_e" : Str)]).zip [Value.ref p.1], scope.names.lookup y.1 = some .local ∨ (scope.names.lookup y.1 = some .cell ∧ ((cellsFrom (s.heap.objs.size + 1) scope.names []).lookup y.1).isSome = true) := fun ⟨n, v⟩ hy => by
    rcases S.par n (List.of_mem_zip hy).1 with q | q
    · exact .inl q
    · exact .inr ⟨q, PySem.W.cellsFrom_some _ _ _ (.inl q)⟩
  refine codeAny_call_function room.depth (kin _ _ lk) rfl S.co S.gen rfl (PySem.W.codeRec_of kin hcd) (bind _ _ _ _ ?_)
  refine wpAny_newFunctionEnv_cells S.kind kinds fun env henv s1 x => ?_
  subst henv
  refine ⟨nolim.keeps x.toInCall.keep, codeAny_func ?_⟩
  have start := L2H.inv_startH (CX := CX) (P := P) (w := w) (K := K) (mg := mg) (base := base) (E := E) (vs := [.ref p.1]) S pin e0 rfl (.cons rfl .nil) x
  have rm := room.deeper (envOfC qual scope s.heap.objs.size f cdv)
  have KX : KinX (L2H.cxH CX P w K mg base kN qual scope f cdv A outer s H E p) p c scope :=
    { hpn := List.mem_cons_self
      hot := hot
      N := rfl
      hs := rfl
      fn := fun _ => rfl
      hu := by have := rm.un; show (A.deeper _).units + 64 < _; omega
      ef := ef
      hc := hc
      z := hz
      free := free
      cls := cls
      loc := hl }
  obtain ⟨t, pt, ht⟩ := kin_body KX hb
  have fin : ∀ {τ : L2.St} {G : Hp} {v : V} {u : Value} {s' : Shared}, Inv (L2H.cxH CX P w K mg base kN qual scope f cdv A outer s H E p) [] τ G s' → RelV v u → Q v G → CE outer P w H s Q u s' := fun {τ G v u s'} J rv q => ⟨v, G, J.os, J.bare, J.base, J.hok, rv, q⟩
  refine wpAny_mono (pt.run [] s1 _ H { nx := fun _ G => Q .non G, rt := Q } start (ht _ H want)) (fun fl s' hs => ?_) fun e s' hs => hs
  cases fl with
  | ret u => obtain ⟨v, τ, G, J, rv, q⟩ := hs; exact fin J rv q
  | next => obtain ⟨τ, G, J, q⟩ := hs; exact fin (v := V.non) (u := Value.none) J rfl q
  | brk => obtain ⟨_, _, _, q⟩ := hs; exact q.elim
  | cont => obtain ⟨_, _, _, q⟩ := hs; exact q.elim
/-- the call, in an except suite -/
def tKin (j : Nat) (a : Addr) (c : Nat) : TE := fun σ H Q => σ[j]? = some (some (.ref a)) ∧ ∀ r H', Gr H H' → H r = none → H' r = some (.lst [.str (xnm c)]) → Q (.ref r) H'
theorem pe_kin {X : Cx} {CX : CXT} {k j c : Nat} {f : Addr} {fd : FuncData} {px : Addr × PySem.Obj} {x n : Str} {p p2 q : Pos} (F : FnK X.prog X.w X.K X.mg X.base CX k f fd) (room : L2H.RoomH k X.A) (hot : L2H.Hot1 X.A px) (hpn : px ∈ X.pn) (hz : Zc (.ref (xad X.K c)) none px.2) (hc : c < 17)
    (hg : Gl X x) (hm : X.mg x = some (.ref f)) (hk : PySem.W.keepIn X.K (.ref f) = true) (hb : Binds X.K fd ["_law_e"] []) (cxF : ∀ outer H s e s', CX outer H s (fun _ _ _ => False) e s' → False) (hdb : (x == ("__debug__" : Str)) = false)
    (hN : X.N[j]? = some n) (hv : Vis X.env.scope n) (hd : (n == ("__debug__" : Str)) = false) (hcd : (n == ("__classdict__" : Str)) = false) : PE X (.Call (.Name x p) [.Name n p2] [] q) (tKin j px.1 c) := by
  refine ⟨fun pins s σ H Q Iv w => ?_⟩
  obtain ⟨h0, w⟩ := w
  refine wpAny_Call_Name_kw (ld_glob Iv hg hm ?_ hdb)
  have pa : PA X [.Name n p2] (tCons (tVar j) tNil) := pa_cons (pe_var hN hv hd hcd) pa_nil
  refine PySem.W.callWith_K (h₀ := X.base) Iv.ok.mod.kin hk (thn (pa.run q pins s σ H (fun vs G => vs = [V.ref px.1] ∧ H = G) Iv ⟨_, h0, rfl, rfl⟩) fun us s1 hh => ?_)
  obtain ⟨vs, G, J, r, ev, eG⟩ := hh
  subst ev
  rw [← eG] at J
  match us, r with
  | [u], .cons ru .nil =>
    obtain rfl : u = Value.ref px.1 := ru
    refine ⟨J.kIn, ?_⟩
    have bd := hb s1 [Value.ref px.1] J.kIn rfl
    have P1 := J.pin px (List.mem_append_left _ hpn)
    have pin : L2H.PinOk X.stack H s1 px := ⟨P1.1, P1.2.1, fun hm' => (List.mem_cons.mp (J.stkSub px.1 hm')).elim P1.2.2.1 P1.2.2.2.1, P1.2.2.2.2⟩
    refine wpAny_call (codeAny_mono (F.run X.A X.stack s1 H _ Q (fun _ _ _ => False) px c room hot pin J.env0 bd hz hc w) fun r' s' hq => ?_)
    cases r' with
    | error e => exact (cxF _ _ _ _ _ hq).elim
    | ok fl =>
      cases fl with
      | ret v => exact J.after hq
      | next => exact hq.elim
      | brk => exact hq.elim
      | cont => exact hq.elim
end IL
/-! Soundness, part Z: raise, try. -/
namespace IL
open PySem PySem.Spec PyProof.Rows L2

theorem xwd_nm : ∀ c < 17, xnm c = ⟨(xwd c).toArray⟩ := by decide +kernel
/-- a class of the module that may be raised -/
structure ExcR1 (K : PySem.W.Frag) (mg : Str → Option Value) (x : Str) (c : Nat) : Prop where
  lt : c < 17
  dbg : (x == ("__debug__" : Str)) = false
  mg : mg x = some (.ref (xad K c))
  keep : PySem.W.keepIn K (.ref (xad K c)) = true
  ex : PySem.W.excIn K (xad K c) He.veBase "ValueError.__new__" = true
  sub : PySem.W.subIn K (.ref (xad K c)) (.type "BaseException") = some true
  ty : PySem.W.typeIn K (.ref (xad K c)) = some (.type "type")
/-- a class that a handler names -/
structure ExcH1 (K : PySem.W.Frag) (mg : Str → Option Value) (x : Str) (c : Nat) : Prop where
  dbg : (x == ("__debug__" : Str)) = false
  mg : mg x = some (.ref (xad K c))
  exm : ∀ y < 17, PySem.W.exmOne K (.ref (xad K y)) (.ref (xad K c)) = some (subX y c)
section
variable {X : Cx} {K : PySem.W.Frag} {cl : Cl} {W : WX} {g : G}
theorem s_rai {c j : Nat} {x m : Str} {p p2 p3 pos : Pos} (hK : X.K = K) (hc : X.calm = true) (tk : L2N.Takes X W) (f : ExcR1 X.K X.mg x c) (hg : Gl X x) : PS X (.Raise (some (.Call (.Name x p) [.Constant (.str m) j p2] [] p3)) none pos) (tSt K cl W g (.rai c)) := by
  refine (L2N.ps_raise hc tk (L2N.pmk_own PySem.F.excBase_ValueError f.ex f.mg f.keep (raises_own f.sub f.ty) hg f.dbg)).imp ?_
  rintro D σ H ⟨B, col, σa, F, ι, S, rel, h⟩
  have h : SK K cl W B F ι (.exc ⟨c, []⟩ σa S) D := h
  exact h F H ι col σ (.ref (xad X.K c)) none .refl rel ⟨f.lt, by rw [hK], rfl, rfl⟩
theorem Rel.grown {B F H G : Hp} {ι : List Addr} {col : Col} {σa : List IL.Slot} {S : Store} {σ : L2.St} {r : Addr} {o : HO} (rel : Rel K B F H ι col σa S σ) (gr : Gr H G) (hr : H r = none) (gn : G r = some o) :
    Rel K B (upd F r o) G ι col σa S σ ∧ Ext B F (upd F r o) ι ι := by
  obtain ⟨fn, bn⟩ := rel.free hr
  obtain ⟨ni, nc⟩ := rel.off hr
  refine ⟨rel.grow (same_upd fn) (fun a u e => ?_) fun a ha => ?_, same_upd fn, List.prefix_refl _, fun a u e => ?_⟩
  · by_cases q : a = r
    · subst q; rw [upd_same] at e; cases e; exact .inr ⟨fn, gn, ni, nc⟩
    · rw [upd_ne q] at e; exact .inl e
  · have : ∃ u, H a = some u := by
      rcases ha with z | z
      · exact Option.isSome_iff_exists.mp z
      · obtain ⟨n, o', e1, e2⟩ := rel.obj z
        exact Option.ne_none_iff_exists'.mp (rel.st n o' a e2 e1).there
    obtain ⟨u, e⟩ := this
    rw [e]; exact gr a u e
  · by_cases q : a = r
    · subst q; exact .inr bn
    · rw [upd_ne q] at e; exact .inl e
theorem Rel.clr {B F H : Hp} {ι : List Addr} {col : Col} {σa : List IL.Slot} {S : Store} {σ : L2.St} (rel : Rel K B F H ι col σa S σ) (i : Nat) (o : Option V) : Rel K B F H ι col (σa.set i .no) S (σ.set i o) := by
  refine ⟨rel.fh, rel.bh, rel.cf, rel.io, rel.nd, rel.ln, rel.st, by rw [List.length_set, List.length_set]; exact rel.sl, fun j s u h1 h2 => ?_⟩
  by_cases q : i = j
  · subst q
    have hj : i < σa.length := by have := (List.getElem?_eq_some_iff.mp h1).1; rw [List.length_set] at this; exact this
    rw [List.getElem?_set_self hj] at h1
    cases h1
    trivial
  · rw [List.getElem?_set_ne q] at h1 h2
    exact rel.slots j s u h1 h2
/-- the suite's reading -/
def tHk (K : PySem.W.Frag) (h : Hk) (i : Nat) (a : Addr) (cls : Value) (d : Option Addr) : TS := fun D σ H => ∃ c, c < 17 ∧ cls = .ref (xad K c) ∧ d = none ∧ (match h with
  | .retK w => tRet (tTup (tCons (tC (.str ⟨w.toArray⟩)) (tCons (tKin i a c) tNil))) D σ H
  | .setK j => tAsg (tKin i a c) (gName j) D σ H
  | .retB b => tRet (tC (.bl b)) D σ H
  | .raiN _ => False)
theorem hk_read {B F H : Hp} {ι : List Addr} {col : Col} {σa : List IL.Slot} {S : Store} {σ : L2.St} {h : Hk} {i c : Nat} {a : Addr} {D : Ends} (hi : i < σ.length) (hc : c < 17) (rel : Rel K B F H ι col σa S σ) (w : SK K cl W B F ι (hand h c (some i) (σa.set i .no) S) D) (nr : ∀ k, h ≠ .raiN k) :
    tHk K h i a (.ref (xad K c)) none { nx := fun σ' H' => D.nx (σ'.set i none) H', rt := D.rt, bk := fun σ' H' => D.bk (σ'.set i none) H', ct := fun σ' H' => D.ct (σ'.set i none) H' } (σ.set i (some (.ref a))) H := by
  refine ⟨c, hc, rfl, rfl, ?_⟩
  have s0 : (σ.set i (some (V.ref a)))[i]? = some (some (.ref a)) := List.getElem?_set_self hi
  cases h with
  | retK t =>
    have w : SK K cl W B F ι (.rt (.tup [.str t, .lst [.str (xwd c)]]) false S) D := w
    refine ⟨s0, fun r G gr n1 e1 => ⟨Nat.le_of_ble_eq_true (by rw [PySem.sizeLine_eq]; rfl), fun p n2 => ?_⟩⟩
    obtain ⟨rel1, x1⟩ := rel.grown gr n1 e1
    have rel2 := rel1.layF (o := HO.tup [.str ⟨t.toArray⟩, .ref r]) n2
    have fn2 := (rel1.free n2).1
    have bn2 := (rel1.free n2).2
    refine w (upd (upd F r _) p _) _ ι (.ref p) (x1.trans ⟨same_upd fn2, List.prefix_refl _, fun b u e => ?_⟩) rel2.strip ?_
    · by_cases q : b = p
      · subst q; exact .inr bn2
      · rw [upd_ne q] at e; exact .inl e
    · refine ⟨p, _, rfl, upd_same, .cons rfl (.cons ⟨r, [.str (xnm c)], rfl, ?_, .cons ?_ .nil⟩ .nil)⟩
      · have ne : r ≠ p := fun z => by rw [← z, e1] at n2; cases n2
        rw [upd_ne ne]; exact upd_same
      · show V.str (xnm c) = V.str _
        rw [xwd_nm c hc]
  | setK j =>
    have w : SK K cl W B F ι (if j < (σa.set i .no).length ∧ some i ≠ some j then .nx ((σa.set i .no).set j (.val (.lst [.str (xwd c)]))) S else .bad) D := w
    refine ⟨s0, fun r G gr n1 e1 => ?_⟩
    split at w
    · rename_i hj
      obtain ⟨rel1, x1⟩ := rel.grown gr n1 e1
      have rr : Rep K (upd F r (.lst [.str (xnm c)])) ι (.lst [.str (xwd c)]) (.ref r) := ⟨r, [.str (xnm c)], rfl, upd_same, .cons (by show V.str (xnm c) = V.str _; rw [xwd_nm c hc]) .nil⟩
      have rel2 := (rel1.clr i none).setVal (i := j) rr
      have ne : i ≠ j := fun z => hj.2 (by rw [z])
      have e : ((σ.set i none).set j (some (V.ref r))) = (((σ.set i (some (V.ref a))).set j (some (V.ref r))).set i none) := by
        rw [List.set_comm _ _ ne.symm, List.set_set]
      rw [e] at rel2
      exact w _ G ι _ _ x1 rel2
    · exact w.elim
  | retB b =>
    have w : SK K cl W B F ι (.rt (.bl b) false S) D := w
    exact w F H ι (.bl b) .refl rel.strip rfl
  | raiN k => exact absurd rfl (nr k)
theorem s_try {b : Ss} {c i : Nat} {h : Hk} {x n : Str} {body suite : List Stmt} {b₀ : Stmt} {np pos pos' : Pos} (hK : X.K = K) (hs : X.stack = X.env :: X.outer) (hf : X.env.frame = some X.env.locals) (hN : X.N.Nodup) (hi : X.N[i]? = some n) (hln : X.env.kindOf n = some .local) (hg : Gl X x)
    (f : ExcH1 X.K X.mg x c) (tk : L2N.Takes X W) (nr : ∀ k, h ≠ .raiN k)
    (hb : ∀ (W : WX) (pn : List (Addr × PySem.Obj)) (xe : Value → Shared → Prop), L2N.Takes (X.tr pn xe) W → PassesOwn (model X.prog X.w) X.A X.env xe → PSs (X.tr pn xe) body (tSs K cl W g b))
    (hsu : ∀ (a : Addr) (oe : PySem.Obj) (cls : Value) (d : Option Addr) (pn : List (Addr × PySem.Obj)), L2N.Zn cls d oe → (∃ vs, oe.data = .fields vs) → PSs (X.suite a ((a, oe) :: pn)) (b₀ :: suite) (tHk K h i a cls d)) :
    PS X (.Try body [.ExceptHandler (some (.Name x np)) (some n) (b₀ :: suite) pos'] [] [] pos) (tSt K cl W g (.try b c (some i) h)) := by
  have base := L2N.ps_try_as (pos := pos) (pos' := pos') (np := np) hs hf hN hi hln (show Names X x (.ref (xad X.K c)) from ⟨hg, f.dbg, .inl f.mg⟩) tk hb hsu
  refine ⟨fun pins s σ H D Iv w => base.run pins s σ H D Iv ?_⟩
  have hlen : i < σ.length := by rw [Iv.len]; exact (List.getElem?_eq_some_iff.mp hi).1
  obtain ⟨B, col, σa, F, ι, S, rel, w⟩ := w
  have w : SK K cl W B F ι (tryR c (some i) h (execs g b σa S)) D := w
  refine ⟨B, col, σa, F, ι, S, rel, ?_⟩
  have hl : σa.length = X.N.length := by rw [rel.sl, Iv.len]
  show SK K cl _ B F ι (execs g b σa S) D
  generalize execs g b σa S = r at w ⊢
  cases r with
  | nx σ1 S1 => exact w
  | rt d o S1 => cases o <;> exact w
  | bad => exact w
  | exc y σ1 S1 =>
    intro F' H' ι' col' σ' cls d ext rel' er
    obtain ⟨h17, rfl, hfs, rfl⟩ := er
    have w : SK K cl W B F ι (if subX y.cls c then (if y.fs.isEmpty && decide (i < σ1.length) then hand h y.cls (some i) (σ1.set i .no) S1 else .bad) else .exc y σ1 S1) D := w
    refine ⟨subX y.cls c, by rw [← hK]; exact f.exm _ h17, fun e a na => ?_, fun e => ?_⟩
    · rw [e, if_pos rfl, hfs] at w
      have w : SK K cl W B F ι (if decide (i < σ1.length) = true then hand h y.cls (some i) (σ1.set i .no) S1 else .bad) D := w
      by_cases hi' : i < σ1.length
      · rw [decide_eq_true hi', if_pos rfl] at w
        exact hk_read (by rw [← rel'.sl]; exact hi') h17 rel' (w.mono ext) nr
      · rw [decide_eq_false hi', if_neg Bool.false_ne_true] at w
        exact w.elim
    · rw [e, if_neg Bool.false_ne_true] at w
      exact w F' H' ι' col' σ' _ none ext rel' ⟨h17, rfl, hfs, rfl⟩
/-- where a raise is taken -/
structure Tkx (X : Cx) (W : WX) : Prop where
  tk : L2N.Takes X W
  hs : X.stack = X.env :: X.outer
  hf : X.env.frame = some X.env.locals
/-- the law's def that tells a refusal -/
structure KinF (X : Cx) (CX : CXT) (k : Nat) (x : Str) : Prop where
  dbg : (x == ("__debug__" : Str)) = false
  ex : ∃ f fd, X.mg x = some (.ref f) ∧ PySem.W.keepIn X.K (.ref f) = true ∧ Binds X.K fd ["_law_e"] [] ∧ FnK X.prog X.w X.K X.mg X.base CX k f fd
theorem s_suite {CX : CXT} {k i : Nat} {h : Hk} {n kn : Str} {a : Addr} {oe : PySem.Obj} {cls : Value} {d : Option Addr} {pn : List (Addr × PySem.Obj)} {sts : List Stmt} (hK : X.K = K) (room : L2H.RoomH k X.A) (cxF : ∀ outer H s e s', CX outer H s (fun _ _ _ => False) e s' → False)
    (hN : X.N[i]? = some n) (hln : X.env.scope.names.lookup n = some .local) (hd : (n == ("__debug__" : Str)) = false) (hcd : (n == ("__classdict__" : Str)) = false) (hz : L2N.Zn cls d oe) (hv : ∃ vs, oe.data = .fields vs)
    (hh : (∃ w j p0 p1 p2 p3 p4 p5 x1, h = .retK w ∧ KinF X CX k kn ∧ Gl X kn ∧ sts = [.Return (some (.Tuple [.Constant (.str ⟨w.toArray⟩) j p0, .Call (.Name kn p1) [.Name n p2] [] p3] x1 p4)) p5]) ∨
      (∃ j y p0 p1 p2 p3 p4, h = .setK j ∧ KinF X CX k kn ∧ Gl X kn ∧ X.N.Nodup ∧ X.N[j]? = some y ∧ Loc X.env.scope y ∧ (X.fn y = true ∨ X.env.scope.names.lookup y = some .local) ∧ sts = [.Assign [.Name y p0] (.Call (.Name kn p1) [.Name n p2] [] p3) p4]) ∨
      (∃ b j p0 p1, h = .retB b ∧ sts = [.Return (some (.Constant (.bool b) j p0)) p1])) :
    PSs (X.suite a ((a, oe) :: pn)) sts (tHk K h i a cls d) := by
  refine ⟨fun pins s σ H D Iv w => ?_⟩
  obtain ⟨c, hc, rfl, rfl, w⟩ := w
  have kin : KinF X CX k kn → Gl X kn → ∀ p p2 q, PE (X.suite a ((a, oe) :: pn)) (.Call (.Name kn p) [.Name n p2] [] q) (tKin i a c) := fun kf gl p p2 q => by
    obtain ⟨f, fd, m1, m2, m3, m4⟩ := kf.ex
    obtain ⟨vs, ev⟩ := hv
    refine pe_kin (X := X.suite a ((a, oe) :: pn)) (px := (a, oe)) (c := c) m4 ⟨room.dp, room.un⟩ ⟨rfl, vs, ev, hz.2.2 vs ev⟩ List.mem_cons_self ?_ hc gl m1 m2 m3 cxF kf.dbg hN (.inl hln) hd hcd
    rw [← hK] at hz
    exact ⟨hz.1, hz.2.1⟩
  rcases hh with ⟨t, j, p0, p1, p2, p3, p4, p5, x1, rfl, kf, gl, rfl⟩ | ⟨j, y, p0, p1, p2, p3, p4, rfl, kf, gl, nd, hj, hl, hf, rfl⟩ | ⟨b, j, p0, p1, rfl, rfl⟩
  · have pe : PE (X.suite a ((a, oe) :: pn)) _ (tTup (tCons (tC (.str ⟨t.toArray⟩)) (tCons (tKin i a c) tNil))) := pe_tup (x1 := x1) (pos := p4) (pa_cons (pe_str (j := j) (pos := p0)) (pa_cons (kin kf gl p1 p2 p3) pa_nil))
    exact ((pss_cons (ps_ret pe) pss_nil).imp fun D σ H q => q).run pins s σ H D Iv w
  · have ps := ps_set (X := X.suite a ((a, oe) :: pn)) (pos := p4) (pos' := p0) nd hj hl (kin kf gl p1 p2 p3) rfl hf
    exact ((pss_cons ps pss_nil).imp fun D σ H q => q).run pins s σ H D Iv w
  · have pe : PE (X.suite a ((a, oe) :: pn)) (.Constant (.bool b) j p0) (tC (.bl b)) := pe_bl
    exact ((pss_cons (ps_ret (pos := p1) pe) pss_nil).imp fun D σ H q => q).run pins s σ H D Iv w
end
end IL
/-! Soundness, part P: the checker of expressions. -/
namespace IL
open PySem L2

/-- the classes: methods, makes, fields -/
structure ClT where
  mts : List ((Nat × Str) × Nat × Nat)
  mks : List (Str × Nat × Nat × Nat)
  fds : List (Nat × Nat)
  exs : List (Str × Nat)
  hns : List (Str × Nat)
  kin : Option Str
/-- what a def's text is read by: its names by slots, its scope, the defs and constants of the module -/
structure Chk where
  N : List Str
  sc : Scope
  fnb : Str → Bool
  fns : List (Str × Nat × Nat)
  cns : List (Str × Nat)
  cs : ClT
def nmB (C : Chk) (i : Nat) (x : Str) : Bool := decide (C.N[i]? = some x) && visB C.sc x
def tgB (C : Chk) (i : Nat) (x : Str) : Bool := decide (C.N[i]? = some x) && (match C.sc.names.lookup x with
  | some .local => true
  | some .cell => C.fnb x
  | _ => false)
def litB (d : D) (c : Const) : Bool := match d, c with
  | .non, .none => true
  | .bl a, .bool b => a == b
  | .int i, .int j => decide (i = j)
  | .str l, .str x => decide (l = x.cps.toList)
  | _, _ => false
theorem lit_ok {d : D} {c : Const} (h : litB d c = true) : litOf d = some c := by
  cases d with
  | non => cases c <;> first | rfl | cases h
  | bl a => cases c <;> first | (rename_i b; have : a = b := eq_of_beq h; rw [this]; rfl) | cases h
  | int a => cases c <;> first | (rename_i b; have : a = b := of_decide_eq_true h; rw [this]; rfl) | cases h
  | str a => cases c <;> first | (rename_i b; have : a = b.cps.toList := of_decide_eq_true h; rw [this]; rfl) | cases h
  | _ => cases h
def mTg : Tg → Chk → Expr → Bool
  | .v i, C, x => (match x with
    | .Name y _ => tgB C i y
    | _ => false)
  | .t2 a b, C, x => (match x with
    | .Tuple [y, z] _ _ => plainB y && plainB z && mTg a C y && mTg b C z
    | _ => false)
  | .t3 a b c, C, x => (match x with
    | .Tuple [y, z, w] _ _ => plainB y && plainB z && plainB w && mTg a C y && mTg b C z && mTg c C w
    | _ => false)
  | .t4 a b c d, C, x => (match x with
    | .Tuple [y, z, w, u] _ _ => plainB y && plainB z && plainB w && plainB u && mTg a C y && mTg b C z && mTg c C w && mTg d C u
    | _ => false)
def ownN (N : List Str) (vs : List Nat) : List (Str × Nat) := vs.map fun v => ((N[v]?).getD ⟨#[]⟩, v)
theorem ownN_snd {N : List Str} : ∀ {vs : List Nat}, (ownN N vs).map (·.2) = vs
  | [] => rfl
  | v :: vs => by
    show v :: (ownN N vs).map (·.2) = v :: vs
    rw [ownN_snd]
def Chk.in (C : Chk) (sc : Scope) : Chk := { C with sc := relS sc C.sc, fnb := fun x => sc.names.lookup x == some .cell }
def binB : Bop → Operator → Bool
  | .add, .Add => true | .sub, .Sub => true | .mul, .Mult => true | .fdiv, .FloorDiv => true | .mod, .Mod => true | .pow, .Pow => true
  | _, _ => false
def cmpB : Bop → CmpOp → Bool
  | .eq, .Eq => true | .ne, .NotEq => true | .lt, .Lt => true | .le, .LtE => true | .gt, .Gt => true | .ge, .GtE => true | .isin, .In => true | .notin, .NotIn => true
  | _, _ => false
def bnm : Blt → Option Str
  | .len => some "len" | .list => some "list" | .max2 => some "max" | .min2 => some "min" | .maxl => some "max" | .minl => some "min" | .int => some "int" | .str => some "str" | .sum => some "sum"
  | .any => some "any" | .all => some "all" | .sorted => some "sorted" | .tuple => some "tuple" | .dict => some "dict" | _ => none
def mnm : Met → Option Str
  | .append => some "append" | .index => some "index" | .find => some "find" | .join => some "join" | .count => some "count" | .split => some "split" | .get => some "get" | .popk => some "pop" | _ => none
/-- with as many arguments as it wants -/
def mcnt : Met → Es → Bool
  | .get, .cons _ (.cons _ .nil) => true
  | .get, _ => false
  | .popk, .cons _ .nil => true
  | .popk, _ => false
  | _, _ => true
/-- what is walked: the dict itself, its values, its items -/
def wkB : Nat → Expr → Expr → Option Expr
  | 0, x, _ => some x
  | 1, .Call (.Attribute o nm ap) [] [] cp, _ => if nm = "values" ∧ baseB o = true ∧ (ap.endLine == cp.line) = true then some o else none
  | 2, .Call (.Attribute o nm ap) [] [] cp, .Tuple _ _ _ => if nm = "items" ∧ baseB o = true ∧ (ap.endLine == cp.line) = true then some o else none
  | _, _, _ => none
def mnm0 : Met → Option Str
  | .pop => some "pop" | .clear => some "clear" | _ => none
def isiB (t : Ty) (C : Chk) (y : Str) (zs : List Expr) : Bool := match zs with
  | [.Name ty _] => decide (y = "isinstance") && glB C.sc y && decide (ty = Str.ofString (tyN t)) && glB C.sc ty
  | _ => false
def Es.one : Es → Bool
  | .cons _ .nil => true
  | _ => false
def blcB (b : Bool) : Expr → Bool
  | .Constant (.bool c) _ _ => c == b
  | _ => false
theorem blc_all {b : Bool} : ∀ (vs : List Expr), vs.all (blcB b) = true → ∀ v ∈ vs, ∃ j p, v = .Constant (.bool b) j p := by
  intro vs h v hv
  have := List.all_eq_true.mp h v hv
  unfold blcB at this
  split at this
  · rw [beq_iff_eq] at this; subst this; exact ⟨_, _, rfl⟩
  · cases this
theorem keys_some : ∀ (ks : List (Option Expr)), ks.all (·.isSome) = true → ks = (ks.filterMap id).map some
  | [], _ => rfl
  | k :: ks, h => by
    rw [List.all_cons, Bool.and_eq_true] at h
    cases k with
    | none => cases h.1
    | some x =>
      rw [List.filterMap_cons]
      show some x :: ks = some x :: (ks.filterMap id).map some
      rw [← keys_some ks h.2]
mutual
def mE : E → Chk → Expr → Bool
  | .v i, C, x => (match x with
    | .Name y _ => nmB C i y
    | _ => false)
  | .pk i, C, x => (match x with
    | .Name y _ => nmB C i y
    | _ => false)
  | .k d, _, x => (match x with
    | .Constant c _ _ => litB d c
    | _ => false)
  | .g i, C, x => (match x with
    | .Name y _ => glB C.sc y && decide (C.cns.lookup y = some i)
    | _ => false)
  | .bin o a b, C, x => (match x with
    | .BinOp y op z _ => binB o op && mE a C y && mE b C z
    | .Compare y [op] [z] _ => cmpB o op && plainB z && mE a C y && mE b C z
    | _ => false)
  | .chn a b c, C, x => (match x with
    | .Compare y [.LtE, .LtE] [z, w] _ => plainB w && mE a C y && mE b C z && mE c C w
    | _ => false)
  | .isn a, C, x => (match x with
    | .Compare y [.Is] [.Constant .none _ _] _ => mE a C y
    | _ => false)
  | .ntn a, C, x => (match x with
    | .Compare y [.IsNot] [.Constant .none _ _] _ => mE a C y
    | _ => false)
  | .neg a, C, x => (match x with
    | .UnaryOp .USub y _ => mE a C y
    | _ => false)
  | .not a, C, x => (match x with
    | .UnaryOp .Not y _ => mE a C y
    | _ => false)
  | .and es, C, x => (match x with
    | .BoolOp .And (y :: ys) _ => mEs es C (y :: ys)
    | _ => false)
  | .or es, C, x => (match x with
    | .BoolOp .Or (y :: ys) _ => mEs es C (y :: ys)
    | _ => false)
  | .ite c a b, C, x => (match x with
    | .IfExp y z w _ => c.tst && !a.isPk && !b.isPk && mE c C y && mE a C z && mE b C w
    | _ => false)
  | .tup es, C, x => (match x with
    | .Tuple ys _ _ => decide (es.len ≤ line) && mEs es C ys
    | _ => false)
  | .lst es, C, x => (match x with
    | .List ys _ => decide (es.len ≤ line) && mEs es C ys
    | _ => false)
  | .dct0, _, x => (match x with
    | .Dict [] [] _ => true
    | _ => false)
  | .dctd es b, C, x => (match x with
    | .Dict ks vs _ => ks.all (·.isSome) && mEs es C (ks.filterMap id) && vs.all (blcB b) && decide (vs.length = ks.length) && decide (0 < (ks.filterMap id).length ∧ (ks.filterMap id).length ≤ 15) && !es.anyPk
    | _ => false)
  | .idx a i, C, x => (match x with
    | .Subscript y z _ => noSlB z && mE a C y && mE i C z
    | _ => false)
  | .slL a lo, C, x => (match x with
    | .Subscript y (.Slice (some z) none none _) _ => mE a C y && mE lo C z
    | _ => false)
  | .slU a hi, C, x => (match x with
    | .Subscript y (.Slice none (some z) none _) _ => mE a C y && mE hi C z
    | _ => false)
  | .slB a lo hi, C, x => (match x with
    | .Subscript y (.Slice (some z) (some w) none _) _ => mE a C y && mE lo C z && mE hi C w
    | _ => false)
  | .rev a, C, x => (match x with
    | .Subscript y (.Slice none none (some (.UnaryOp .USub (.Constant (.int i) _ _) _)) _) _ => decide (i = 1) && mE a C y
    | _ => false)
  | .call f es, C, x => (match x with
    | .Call (.Name y _) (z :: zs) [] _ => glB C.sc y && decide (C.fns.lookup y = some (f, es.len)) && mEs es C (z :: zs)
    | _ => false)
  | .nw f es, C, x => (match x with
    | .Call (.Name y _) (z :: zs) [] _ => glB C.sc y && decide (C.fns.lookup y = some (f, es.len)) && mEs es C (z :: zs)
    | _ => false)
  | .blt b es, C, x => (match x with
    | .Call (.Name y _) (z :: zs) [] _ => (match b with
      | .isi t => isiB t C y zs && es.one && mEs es C [z]
      | .lzip => (match z, zs with
        | .Call (.Name y2 _) [a1, a2] [] _, [] => decide (y = "list") && glB C.sc y && decide (y2 = "zip") && glB C.sc y2 && mEs es C [a1, a2]
        | _, _ => false)
      | b => decide (bnm b = some y) && glB C.sc y && mEs es C (z :: zs))
    | _ => false)
  | .met m a es, C, x => (match x with
    | .Call (.Attribute o nm ap) (z :: zs) [] cp => mcnt m es && decide (mnm m = some nm) && baseB o && (ap.endLine == cp.line) && decide ((z :: zs).length < 29) && mE a C o && mEs es C (z :: zs)
    | .Call (.Attribute o nm ap) [] [] cp => decide (mnm0 m = some nm) && baseB o && (ap.endLine == cp.line) && mE a C o && mEs es C []
    | _ => false)
  | .lc tg it c e, C, x => (match x with
    | .ListComp elt [⟨t, iter, ifs, as⟩] sc _ => decide (as = 0) && plainB iter && mIt it C t iter && blkC C.N C.sc sc (ownN C.N tg.vars) && mTg tg (C.in sc) t && c.tst && decide (c.len ≤ 1) && mEs c (C.in sc) ifs && mE e (C.in sc) elt
    | _ => false)
  | .lcd tg w d c e, C, x => (match x with
    | .ListComp elt [⟨t, iter, ifs, as⟩] sc _ => decide (as = 0) && plainB iter && (match wkB w iter t with | some o => mE d C o | none => false) && blkC C.N C.sc sc (ownN C.N tg.vars) && mTg tg (C.in sc) t && c.tst && decide (c.len ≤ 1) && mEs c (C.in sc) ifs && mE e (C.in sc) elt
    | _ => false)
  | .lcl tg d c e, C, x => (match x with
    | .ListComp elt [⟨t, iter, ifs, as⟩] sc _ => decide (as = 0) && plainB iter && mE d C iter && blkC C.N C.sc sc (ownN C.N tg.vars) && mTg tg (C.in sc) t && c.tst && decide (c.len ≤ 1) && mEs c (C.in sc) ifs && mE e (C.in sc) elt
    | _ => false)
  | .cell e, C, x => !e.isPk && mE e C x
  | .frzr e, C, x => (match x with
    | .Call f as ks p => mE e C (.Call f as ks p)
    | _ => false)
  | .fld c f a, C, x => (match x with
    | .Attribute y nm _ => baseB y && decide (fnm f = nm) && decide (fnm f ≠ "?") && decide ((c, f) ∈ C.cs.fds) && mE a C y
    | _ => false)
  | .mth c f a es, C, x => (match x with
    | .Call (.Attribute o nm ap) zs [] cp => decide (C.cs.mts.lookup (c, nm) = some (f, es.len + 1)) && noFld nm && baseB o && (ap.endLine == cp.line) && decide (zs.length < 29) && mE a C o && mEs es C zs
    | _ => false)
  | .mk c f es, C, x => (match x with
    | .Call (.Name y _) (z :: zs) [] _ => glB C.sc y && decide (C.cs.mks.lookup y = some (c, f, es.len + 1)) && mEs es C (z :: zs)
    | _ => false)
def mEs : Es → Chk → List Expr → Bool
  | .nil, _, xs => (match xs with
    | [] => true
    | _ => false)
  | .cons e es, C, xs => (match xs with
    | y :: ys => plainB y && mE e C y && mEs es C ys
    | _ => false)
def mIt : It → Chk → Expr → Expr → Bool
  | .of e, C, _, x => mE e C x
  | .r1 e, C, _, x => (match x with
    | .Call (.Name y _) [z] [] _ => decide (y = "range") && glB C.sc y && plainB z && mE e C z
    | _ => false)
  | .r2 a b, C, _, x => (match x with
    | .Call (.Name y _) [z, w] [] _ => decide (y = "range") && glB C.sc y && plainB z && plainB w && mE a C z && mE b C w
    | _ => false)
  | .en e, C, t, x => (match t, x with
    | .Tuple _ _ _, .Call (.Name y _) [z] [] _ => decide (y = "enumerate") && glB C.sc y && plainB z && mE e C z
    | _, _ => false)
  | .zip a b, C, t, x => (match t, x with
    | .Tuple _ _ _, .Call (.Name y _) [z, w] [] _ => decide (y = "zip") && glB C.sc y && plainB z && plainB w && mE a C z && mE b C w
    | _, _ => false)
end

/-! ### what a context gives -/
def bltNs : List Str := ["len", "list", "max", "min", "isinstance", "int", "str", "sum", "any", "all", "sorted", "tuple", "bool", "range", "enumerate", "zip", "dict"]
structure Cxt (C : Chk) (X : Cx) (K : PySem.W.Frag) (cl : Cl) (W : WX) (g : G) (CX : CXT) (k : Nat) : Prop where
  hK : X.K = K
  nd : X.N.Nodup
  hN : X.N = C.N
  sc : X.env.scope = C.sc
  fn : ∀ x, C.fnb x = true → X.fn x = true
  calm : X.calm = true
  room : Room (k + 1) X.A
  pass : ∀ σ, PassesAt CX X σ (WE W σ)
  cxF : ∀ outer H s e s', CX outer H s (fun _ _ _ => False) e s' → False
  names : ∀ x ∈ C.N, (x == ("__debug__" : Str)) = false ∧ (x == ("__classdict__" : Str)) = false
  fns : ∀ x f np, C.fns.lookup x = some (f, np) → (x == ("__debug__" : Str)) = false ∧ ∃ fa fd ps, X.mg x = some (.ref fa) ∧ PySem.W.keepIn X.K (.ref fa) = true ∧ Binds X.K fd ps [] ∧ FnOk X.prog X.w X.K X.mg X.base CX k fa fd ps (spI K cl np (g.fr f) (g.call f))
  cns : ∀ x i, C.cns.lookup x = some i → (x == ("__debug__" : Str)) = false ∧ ∃ v u d, X.mg x = some u ∧ RelV v u ∧ g.con i = some d ∧ ∀ F ι, Rep K F ι d v
  free : ∀ x ∈ bltNs, X.mg x = none
  mts : ∀ c m f np, C.cs.mts.lookup (c, m) = some (f, np) → ∃ fa fd ps, Cls X.K (cad X.K c) ∧ Meth X.K (cad X.K c) m fa ∧ Binds X.K fd ps [] ∧ FnOk X.prog X.w X.K X.mg X.base CX k fa fd ps (spI K cl np (g.fr f) (g.call f))
  mks : ∀ x c f np, C.cs.mks.lookup x = some (c, f, np) → (x == ("__debug__" : Str)) = false ∧ ∃ fa fd ps, X.mg x = some (.ref (cad X.K c)) ∧ L2.Mk X.K (cad X.K c) fa ∧ Binds X.K fd ps [] ∧ FnOk X.prog X.w X.K X.mg X.base CX k fa fd ps (spI K cl np (g.fr f) (g.call f))
  fds : ∀ c f, (c, f) ∈ C.cs.fds → Cls X.K (cad X.K c) ∧ NoAttr X.K (cad X.K c) (fnm f)
  exs : ∀ x c, C.cs.exs.lookup x = some c → ExcR1 X.K X.mg x c
  hns : ∀ x c, C.cs.hns.lookup x = some c → ExcH1 X.K X.mg x c
  kin : ∀ x, C.cs.kin = some x → KinF X CX (k + 1) x
  cx : CX = L2N.CX X.prog X.w
section
variable {C : Chk} {X : Cx} {K : PySem.W.Frag} {cl : Cl} {W : WX} {g : G} {CX : CXT} {k : Nat}
theorem Cxt.hu (c : Cxt C X K cl W g CX k) : X.A.units + 64 < cLine := by have := c.room.un; omega
theorem Cxt.gl (c : Cxt C X K cl W g CX k) {x : Str} (h : glB C.sc x = true) : Gl X x := by
  show X.env.scope.names.lookup x = some .globalImplicit
  rw [c.sc]
  unfold glB at h
  split at h
  · assumption
  · cases h
theorem Cxt.vis (c : Cxt C X K cl W g CX k) {x : Str} (h : visB C.sc x = true) : Vis X.env.scope x := by
  rw [c.sc]
  unfold visB at h
  split at h
  · exact .inl (by assumption)
  · exact .inr (.inl (by assumption))
  · exact .inr (.inr (by assumption))
  · cases h
theorem Cxt.nm (c : Cxt C X K cl W g CX k) {i : Nat} {x : Str} (h : nmB C i x = true) : X.N[i]? = some x ∧ Vis X.env.scope x ∧ (x == ("__debug__" : Str)) = false ∧ (x == ("__classdict__" : Str)) = false := by
  unfold nmB at h
  rw [Bool.and_eq_true, decide_eq_true_eq] at h
  have := c.names x (List.mem_of_getElem? h.1)
  exact ⟨by rw [c.hN]; exact h.1, c.vis h.2, this.1, this.2⟩
theorem Cxt.tg (c : Cxt C X K cl W g CX k) {i : Nat} {x : Str} (h : tgB C i x = true) : X.N[i]? = some x ∧ Loc X.env.scope x ∧ (X.fn x = true ∨ X.env.scope.names.lookup x = some .local) := by
  unfold tgB at h
  rw [Bool.and_eq_true, decide_eq_true_eq] at h
  refine ⟨by rw [c.hN]; exact h.1, ?_⟩
  rw [c.sc]
  have h2 := h.2
  split at h2
  · rename_i e; exact ⟨.inl e, .inr e⟩
  · rename_i e; exact ⟨.inr e, .inl (c.fn x h2)⟩
  · cases h2
/-- a comprehension's block -/
theorem Cxt.blk (c : Cxt C X K cl W g CX k) (sc : Scope) (s : Shared) (H : Hp) (D : Addr) (cl' : List (Str × Addr)) (fp : List Addr) : Cxt (C.in sc) (X.blk s H sc (compEnvC sc cl' D X.env) fp) K cl W0 g CX k where
  hK := c.hK
  nd := c.nd
  hN := c.hN
  sc := by
    show relS sc X.env.scope = relS sc C.sc
    rw [c.sc]
  fn := fun x h => h
  calm := c.calm
  room := c.room
  pass := fun σ pins H s e s' I h => c.cxF _ _ _ _ _ h
  cxF := c.cxF
  names := c.names
  fns := c.fns
  cns := c.cns
  free := c.free
  mts := c.mts
  mks := c.mks
  fds := c.fds
  exs := c.exs
  hns := c.hns
  kin := fun x h => ⟨(c.kin x h).dbg, (c.kin x h).ex⟩
  cx := c.cx
/-- a try's body -/
theorem Cxt.tr (c : Cxt C X K cl W g CX k) {pn : List (Addr × PySem.Obj)} {xe : Value → Shared → Prop} {W' : WX} (tk : L2N.Takes (X.tr pn xe) W') : Cxt C (X.tr pn xe) K cl W' g CX k where
  hK := c.hK
  nd := c.nd
  hN := c.hN
  sc := c.sc
  fn := c.fn
  calm := c.calm
  room := c.room
  pass := fun σ => by rw [c.cx]; exact L2N.passAt tk σ
  cxF := c.cxF
  names := c.names
  fns := c.fns
  cns := c.cns
  free := c.free
  mts := c.mts
  mks := c.mks
  fds := c.fds
  exs := c.exs
  hns := c.hns
  kin := fun x h => ⟨(c.kin x h).dbg, (c.kin x h).ex⟩
  cx := c.cx
/-- another exceptions' wish -/
theorem Cxt.tw (c : Cxt C X K cl W g CX k) {W' : WX} (tk : L2N.Takes X W') : Cxt C X K cl W' g CX k where
  hK := c.hK
  nd := c.nd
  hN := c.hN
  sc := c.sc
  fn := c.fn
  calm := c.calm
  room := c.room
  pass := fun σ => by rw [c.cx]; exact L2N.passAt tk σ
  cxF := c.cxF
  names := c.names
  fns := c.fns
  cns := c.cns
  free := c.free
  mts := c.mts
  mks := c.mks
  fds := c.fds
  exs := c.exs
  hns := c.hns
  kin := fun x h => ⟨(c.kin x h).dbg, (c.kin x h).ex⟩
  cx := c.cx
theorem g_tg (c : Cxt C X K cl W g CX k) : ∀ (t : Tg) {x : Expr}, mTg t C x = true → PG X x (gT K t)
  | .v i, x, h => by
    cases x <;> first | cases h | skip
    rename_i y p
    obtain ⟨h1, h2, h3⟩ := c.tg (show tgB C i y = true from h)
    exact g_v c.nd h1 h2 h3
  | .t2 a b, x, h => by
    unfold mTg at h
    split at h
    · rename_i y z _ _
      simp only [Bool.and_eq_true] at h
      obtain ⟨⟨⟨h1, h2⟩, h3⟩, h4⟩ := h
      refine g_tup (ts := [a, b]) (n := 2) c.calm (g_cons (g_tg c a h3) (g_cons (g_tg c b h4) g_nil h2) h1) c.hK (by simp [h1, h2]) rfl rfl asg2 ?_
      intro ws hw t' ht i hi
      refine hw i ?_
      show i ∈ a.vars ++ b.vars
      simp only [List.mem_cons, List.not_mem_nil, or_false] at ht
      rcases ht with rfl | rfl <;> simp [hi]
    · cases h
  | .t3 a b d, x, h => by
    unfold mTg at h
    split at h
    · rename_i y z w _ _
      simp only [Bool.and_eq_true] at h
      obtain ⟨⟨⟨⟨⟨h1, h2⟩, h5⟩, h3⟩, h4⟩, h6⟩ := h
      refine g_tup (ts := [a, b, d]) (n := 3) c.calm (g_cons (g_tg c a h3) (g_cons (g_tg c b h4) (g_cons (g_tg c d h6) g_nil h5) h2) h1) c.hK (by simp [h1, h2, h5]) rfl rfl asg3 ?_
      intro ws hw t' ht i hi
      refine hw i ?_
      show i ∈ a.vars ++ b.vars ++ d.vars
      simp only [List.mem_cons, List.not_mem_nil, or_false] at ht
      rcases ht with rfl | rfl | rfl <;> simp [hi]
    · cases h
  | .t4 a b d e, x, h => by
    unfold mTg at h
    split at h
    · rename_i y z w u _ _
      simp only [Bool.and_eq_true] at h
      obtain ⟨⟨⟨⟨⟨⟨⟨h1, h2⟩, h5⟩, h7⟩, h3⟩, h4⟩, h6⟩, h8⟩ := h
      refine g_tup (ts := [a, b, d, e]) (n := 4) c.calm (g_cons (g_tg c a h3) (g_cons (g_tg c b h4) (g_cons (g_tg c d h6) (g_cons (g_tg c e h8) g_nil h7) h5) h2) h1) c.hK (by simp [h1, h2, h5, h7]) rfl rfl asg4 ?_
      intro ws hw t' ht i hi
      refine hw i ?_
      show i ∈ a.vars ++ b.vars ++ d.vars ++ e.vars
      simp only [List.mem_cons, List.not_mem_nil, or_false] at ht
      rcases ht with rfl | rfl | rfl | rfl <;> simp [hi]
    · cases h
end
end IL
/-! Soundness, part Q: what the checker of expressions proves. -/
namespace IL
open PySem L2

section
variable {C : Chk} {X : Cx} {K : PySem.W.Frag} {cl : Cl} {W : WX} {g : G} {CX : CXT} {k : Nat} {es : Es} {ea : E}
theorem Cxt.fr (c : Cxt C X K cl W g CX k) {x : Str} (h : x ∈ bltNs) : X.mg x = none := c.free x h
theorem l_blt (c : Cxt C X K cl W g CX k) {b : Blt} {y : Str} {z : Expr} {zs : List Expr} {p pos : Pos} (hb : bnm b = some y) (hg : glB C.sc y = true) (pel : PEL X K cl W g es (z :: zs)) : PE X (.Call (.Name y p) (z :: zs) [] pos) (tE K cl W g (.blt b es)) := by
  have hp := pel.plain
  rw [List.all_cons, Bool.and_eq_true] at hp
  have gl := c.gl hg
  have B : ∀ {id : String} (hy : bootBuiltins y = some (.builtin id)) (hm : X.mg y = none) (hn : y ≠ "__name__") (hd : (y == ("__debug__" : Str)) = false) {r : List V → Hp → VK → Prop}, CallR X (.builtin id) r → PE X (.Call (.Name y p) (z :: zs) [] pos) (tCB r (tAs K cl W g es)) :=
    @fun id hy hm hn hd r hc => pe_callB hc gl hm hy pel.pa hn hd (star_cons hp.1) (star_all hp.2)
  have T : ∀ {id : String} (hy : bootBuiltins y = some (.type id)) (hm : X.mg y = none) (hn : y ≠ "__name__") (hd : (y == ("__debug__" : Str)) = false) {r : List V → Hp → VK → Prop}, CallR X (.type id) r → PE X (.Call (.Name y p) (z :: zs) [] pos) (tCB r (tAs K cl W g es)) :=
    @fun id hy hm hn hd r hc => pe_callTy hc gl hm hy pel.pa hn hd (star_cons hp.1) (star_all hp.2)
  cases b with
  | len => cases hb; exact s_len c.hK (B PySem.boot_len (c.fr (by decide)) (by decide) (by decide))
  | list => cases hb; exact s_list c.calm c.hK (T PyProof.Rows.boot_list (c.fr (by decide)) (by decide) (by decide))
  | max2 => cases hb; exact s_max2 c.calm (B PyProof.Rows.boot_max (c.fr (by decide)) (by decide) (by decide))
  | min2 => cases hb; exact s_min2 c.calm (B PyProof.Rows.boot_min (c.fr (by decide)) (by decide) (by decide))
  | maxl => cases hb; exact s_maxl c.hK c.calm (B PyProof.Rows.boot_max (c.fr (by decide)) (by decide) (by decide))
  | minl => cases hb; exact s_minl c.hK c.calm (B PyProof.Rows.boot_min (c.fr (by decide)) (by decide) (by decide))
  | int => cases hb; exact s_int (T PyProof.Rows.boot_int (c.fr (by decide)) (by decide) (by decide))
  | str => cases hb; exact s_str (T PyProof.Rows.boot_str (c.fr (by decide)) (by decide) (by decide))
  | sum => cases hb; exact s_sum c.hK c.calm (B PyProof.Rows.boot_sum (c.fr (by decide)) (by decide) (by decide))
  | any => cases hb; exact s_any c.hK c.calm (B PyProof.Rows.boot_any (c.fr (by decide)) (by decide) (by decide))
  | all => cases hb; exact s_all c.hK c.calm (B PyProof.Rows.boot_all (c.fr (by decide)) (by decide) (by decide))
  | sorted => cases hb; exact s_sorted c.hK (B PyProof.Rows.boot_sorted (c.fr (by decide)) (by decide) (by decide))
  | tuple => cases hb; exact s_tuple c.hK (T PyProof.Rows.boot_tuple (c.fr (by decide)) (by decide) (by decide))
  | dict => cases hb; exact s_dict c.hK (T PyProof.Rows.boot_dict (c.fr (by decide)) (by decide) (by decide))
  | _ => cases hb
theorem l_met (c : Cxt C X K cl W g CX k) {m : Met} {nm : Str} {o z : Expr} {zs : List Expr} {ap cp : Pos} (hcn : mcnt m es = true) (hm : mnm m = some nm) (hb : baseB o = true) (hl : (ap.endLine == cp.line) = true) (hn : (z :: zs).length < 29) (ho : PE X o (tR K cl W g ea)) (pel : PEL X K cl W g es (z :: zs)) :
    PE X (.Call (.Attribute o nm ap) (z :: zs) [] cp) (tE K cl W g (.met m ea es)) := by
  have hp := pel.plain
  cases m with
  | append => cases hm; exact s_append c.hK fun hr => l_bm PySem.F.plainAttrs_list PySem.F.slot_list_append PySem.F.type_list_append hr ho pel.pa hb hp hn hl
  | index => cases hm; exact s_index c.hK fun hr => l_bm PySem.F.plainAttrs_list PySem.F.slot_list_index PySem.F.type_list_index hr ho pel.pa hb hp hn hl
  | count => cases hm; exact s_count fun hr => l_bm PySem.F.plainAttrs_str PySem.F.slot_str_count PySem.F.type_str_count hr ho pel.pa hb hp hn hl
  | find => cases hm; exact s_find fun hr => l_bm PySem.F.plainAttrs_str PySem.F.slot_str_find PySem.F.type_str_find hr ho pel.pa hb hp hn hl
  | split => cases hm; exact s_split fun hr => l_bm PySem.F.plainAttrs_str PySem.F.slot_str_split PySem.F.type_str_split hr ho pel.pa hb hp hn hl
  | get =>
    cases hm
    match es, hcn, pel with
    | .cons e1 (.cons e2 .nil), _, pel =>
      obtain ⟨x, r, ex, p1, q1, _, y, r2, ey, p2, q2, _, en⟩ := pel
      have en : r2 = [] := en
      subst en
      cases ex
      subst ey
      exact s_get c.hu ho (frz q1) (frz q2) hb hp hl
  | popk =>
    cases hm
    match es, hcn, pel with
    | .cons e1 .nil, _, pel =>
      obtain ⟨x, r, ex, p1, q1, _, en⟩ := pel
      have en : r = [] := en
      subst en
      cases ex
      exact s_popk ho (frz q1) hb hp hl
  | join => cases hm; exact s_join c.hK fun hr => l_bm PySem.F.plainAttrs_str PySem.F.slot_str_join PySem.F.type_str_join hr ho pel.pa hb hp hn hl
  | _ => cases hm
theorem l_met0 (c : Cxt C X K cl W g CX k) {m : Met} {nm : Str} {o : Expr} {ap cp : Pos} (hm : mnm0 m = some nm) (hb : baseB o = true) (hl : (ap.endLine == cp.line) = true) (ho : PE X o (tR K cl W g ea)) :
    PE X (.Call (.Attribute o nm ap) [] [] cp) (tE K cl W g (.met m ea .nil)) := by
  cases m with
  | pop => cases hm; exact s_pop0 c.hK (l_bm0 PySem.F.plainAttrs_list PySem.F.slot_list_pop PySem.F.type_list_pop mt_pop ho hb hl)
  | clear => cases hm; exact s_clear c.hK (l_bm0 PySem.F.plainAttrs_list PySem.F.slot_list_clear PySem.F.type_list_clear mt_clear ho hb hl)
  | _ => cases hm
theorem l_wk {w : Nat} {iter t o : Expr} {ed : E} (h : wkB w iter t = some o) (ho : PE X o (tR K cl W g ed)) : PI X t iter (tID K w ed) := by
  unfold wkB at h
  split at h
  · cases h; exact i_keysD ho
  · split at h
    · rename_i q
      cases h
      obtain ⟨rfl, q2, q3⟩ := q
      exact i_valsD ho q2 q3
    · cases h
  · split at h
    · rename_i q
      cases h
      obtain ⟨rfl, q2, q3⟩ := q
      exact i_itemsD ho q2 q3
    · cases h
  · cases h
theorem l_cmp (c : Cxt C X K cl W g CX k) {o : Bop} {op : CmpOp} {a b : Expr} {eb : E} (h : cmpB o op = true) (ha : PE X a (tR K cl W g ea)) (hb : PE X b (tR K cl W g eb)) : PC X op a b (tE K cl W g (.bin o ea eb)) := by
  cases o <;> cases op <;> first | cases h | skip
  · exact s_eq c.hu c.hK ha hb
  · exact s_ne c.hu c.hK ha hb
  · exact s_lt ha hb
  · exact s_le ha hb
  · exact s_gt c.hu c.hK ha hb
  · exact s_ge ha hb
  · exact s_in c.hu c.hK ha hb
  · exact s_notin c.hu c.hK ha hb
theorem l_bin {o : Bop} {op : Operator} {a b : Expr} {eb : E} {pos : Pos} (h : binB o op = true) (ha : PE X a (tR K cl W g ea)) (hb : PE X b (tR K cl W g eb)) : PE X (.BinOp a op b pos) (tE K cl W g (.bin o ea eb)) := by
  cases o <;> cases op <;> first | cases h | skip
  · exact s_add ha hb
  · exact s_sub ha hb
  · exact s_mul ha hb
  · exact s_fdiv ha hb
  · exact s_mod ha hb
  · exact s_pow ha hb
theorem s_dct0 {pos : Pos} : PE X (.Dict [] [] pos) (tE K cl W g .dct0) := by
  refine pe_dnewK.imp ?_
  rintro σ H Q ⟨B, col, σa, F, ι, S, rel, h⟩ p hp
  have h : EK _ F ι (rO _) (.ok (.dct [] []) S) Q := h
  exact h.new rel hp fun f1 f2 f3 f4 => ⟨p, [], rfl, upd_same, f1, f2, f3, f4, rfl, rfl⟩
theorem both {e : E} {x : Expr} (h : PE X x (tE K cl W g e)) (he : ∀ whole, isTrue x X.env whole = (do let v ← whole; standAt x.pos; holding [v] (truthy v))) : PE X x (tE K cl W g e) ∧ (e.tst = true → PT X x (tB' K cl W fun σa S => evalE g σa e S)) := ⟨h, fun _ => pt_plain h he⟩
theorem both2 {e : E} {op : CmpOp} {a b : Expr} {pos : Pos} (h : PC X op a b (tE K cl W g e)) (hm : behindInMarks op b = false) : PE X (.Compare a [op] [b] pos) (tE K cl W g e) ∧ (e.tst = true → PT X (.Compare a [op] [b] pos) (tB' K cl W fun σa S => evalE g σa e S)) := ⟨pe_cmp h hm, fun _ => pt_comp h hm⟩
variable (K cl g CX k)
mutual
theorem m_e : ∀ (e : E) {C : Chk} {X : Cx} {W : WX} (c : Cxt C X K cl W g CX k) {x : Expr}, mE e C x = true → PE X x (tE K cl W g e) ∧ (e.tst = true → PT X x (tB' K cl W fun σa S => evalE g σa e S))
  | .v i, C, X, W, c, x, h => by
    unfold mE at h
    split at h
    · obtain ⟨h1, h2, h3, h4⟩ := c.nm h
      exact both (s_v (K := K) (cl := cl) (W := W) (g := g) h1 h2 h3 h4) fun _ => rfl
    · cases h
  | .pk i, C, X, W, c, x, h => by
    unfold mE at h
    split at h
    · obtain ⟨h1, h2, h3, h4⟩ := c.nm h
      exact both (s_pk (K := K) (cl := cl) (W := W) (g := g) h1 h2 h3 h4) fun _ => rfl
    · cases h
  | .k d, C, X, W, c, x, h => by
    unfold mE at h
    split at h
    · exact both (s_k (X := X) (K := K) (cl := cl) (W := W) (g := g) (lit_ok h)) fun _ => rfl
    · cases h
  | .g i, C, X, W, c, x, h => by
    unfold mE at h
    split at h
    · rw [Bool.and_eq_true, decide_eq_true_eq] at h
      obtain ⟨hd, v, u, d, h1, h2, h3, h4⟩ := c.cns _ _ h.2
      exact both (s_g (K := K) (cl := cl) (W := W) (g := g) (c.gl h.1) h1 h2 hd h3 h4) fun _ => rfl
    · cases h
  | .bin o a b, C, X, W, c, x, h => by
    unfold mE at h
    split at h
    · simp only [Bool.and_eq_true] at h
      exact both (l_bin h.1.1 (frz (m_e a c h.1.2).1) (frz (m_e b c h.2).1)) fun _ => rfl
    · simp only [Bool.and_eq_true] at h
      exact both2 (l_cmp c h.1.1.1 (frz (m_e a c h.1.2).1) (frz (m_e b c h.2).1)) (nomarkP h.1.1.2 _)
    · cases h
  | .chn a b d, C, X, W, c, x, h => by
    unfold mE at h
    split at h
    · simp only [Bool.and_eq_true] at h
      have h1 := frz (m_e a c h.1.1.2).1
      have h2 := frz (m_e b c h.1.2).1
      have h3 := frz (m_e d c h.2).1
      exact ⟨l_chn h.1.1.1 h1 h2 h3, fun _ => q_chn h.1.1.1 h1 h2 h3⟩
    · cases h
  | .isn a, C, X, W, c, x, h => by
    unfold mE at h
    split at h
    · exact both2 (s_isn (frz (m_e a c h).1)) rfl
    · cases h
  | .ntn a, C, X, W, c, x, h => by
    unfold mE at h
    split at h
    · exact both2 (s_ntn (frz (m_e a c h).1)) rfl
    · cases h
  | .neg a, C, X, W, c, x, h => by
    unfold mE at h
    split at h
    · exact both (s_neg (frz (m_e a c h).1)) fun _ => rfl
    · cases h
  | .not a, C, X, W, c, x, h => by
    unfold mE at h
    split at h
    · have q := m_e a c h
      exact ⟨s_not (frz q.1), fun ht => t_not (q.2 ht)⟩
    · cases h
  | .and es, C, X, W, c, x, h => by
    unfold mE at h
    split at h
    · have q := m_es es c h
      exact ⟨l_and q, fun ht => (q_and q ht).pt⟩
    · cases h
  | .or es, C, X, W, c, x, h => by
    unfold mE at h
    split at h
    · have q := m_es es c h
      exact ⟨l_or q, fun ht => (q_or q ht).pt⟩
    · cases h
  | .ite d a b, C, X, W, c, x, h => by
    unfold mE at h
    split at h
    · simp only [Bool.and_eq_true, Bool.not_eq_true'] at h
      exact ⟨s_ite ((m_e d c h.1.1.2).2 h.1.1.1.1.1) (frz (m_e a c h.1.2).1) (frz (m_e b c h.2).1) h.1.1.1.1.2 h.1.1.1.2, fun ht => by cases ht⟩
    · cases h
  | .tup es, C, X, W, c, x, h => by
    unfold mE at h
    split at h
    · simp only [Bool.and_eq_true, decide_eq_true_eq] at h
      exact both (s_tup h.1 (m_es es c h.2).pa) fun _ => rfl
    · cases h
  | .lst es, C, X, W, c, x, h => by
    unfold mE at h
    split at h
    · simp only [Bool.and_eq_true, decide_eq_true_eq] at h
      exact both (s_lst h.1 (m_es es c h.2).pa) fun _ => rfl
    · cases h
  | .dct0, C, X, W, c, x, h => by
    unfold mE at h
    split at h
    · exact both (s_dct0 (X := X) (K := K) (cl := cl) (W := W) (g := g)) fun _ => rfl
    · cases h
  | .dctd es b, C, X, W, c, x, h => by
    unfold mE at h
    split at h
    · simp only [Bool.and_eq_true, decide_eq_true_eq] at h
      obtain ⟨⟨⟨⟨⟨h1, h2⟩, h3⟩, h4⟩, h5⟩, h6⟩ := h
      rename_i ks vs pos
      have ek := keys_some ks h1
      have kl : ks.length = (ks.filterMap id).length := by
        have := congrArg List.length ek
        rw [List.length_map] at this
        exact this
      have z := s_dctd (pos := pos) (m_es es c h2) (h4.trans kl) (blc_all vs h3) (fun z => by have h5 := h5.1; rw [z] at h5; exact absurd h5 (Nat.lt_irrefl 0)) h5.2 (by rw [Bool.not_eq_true'] at h6; exact h6)
      rw [← ek] at z
      exact both z fun _ => rfl
    · cases h
  | .idx a i, C, X, W, c, x, h => by
    unfold mE at h
    split at h
    · simp only [Bool.and_eq_true] at h
      exact both (s_idx c.hu c.hK h.1.1 (frz (m_e a c h.1.2).1) (frz (m_e i c h.2).1)) fun _ => rfl
    · cases h
  | .slL a lo, C, X, W, c, x, h => by
    unfold mE at h
    split at h
    · simp only [Bool.and_eq_true] at h
      exact both (s_slL c.hK (frz (m_e a c h.1).1) (frz (m_e lo c h.2).1)) fun _ => rfl
    · cases h
  | .slU a hi, C, X, W, c, x, h => by
    unfold mE at h
    split at h
    · simp only [Bool.and_eq_true] at h
      exact both (s_slU c.hK (frz (m_e a c h.1).1) (frz (m_e hi c h.2).1)) fun _ => rfl
    · cases h
  | .slB a lo hi, C, X, W, c, x, h => by
    unfold mE at h
    split at h
    · simp only [Bool.and_eq_true] at h
      exact both (s_slB c.hK (frz (m_e a c h.1.1).1) (frz (m_e lo c h.1.2).1) (frz (m_e hi c h.2).1)) fun _ => rfl
    · cases h
  | .rev a, C, X, W, c, x, h => by
    unfold mE at h
    split at h
    · simp only [Bool.and_eq_true, decide_eq_true_eq] at h
      obtain ⟨rfl, h⟩ := h
      exact both (s_rev c.hK (frz (m_e a c h).1)) fun _ => rfl
    · cases h
  | .call f es, C, X, W, c, x, h => by
    unfold mE at h
    split at h
    · simp only [Bool.and_eq_true, decide_eq_true_eq] at h
      have pel := m_es es c h.2
      have hp := pel.plain
      rw [List.all_cons, Bool.and_eq_true] at hp
      obtain ⟨hd, fa, fd, ps, h1, h2, h3, h4⟩ := c.fns _ _ _ h.1.2
      exact both (s_call hp.1 hp.2 h4 rfl (c.room.mono (Nat.le_succ k)) (c.gl h.1.1) h1 h2 h3 c.pass hd pel.pa) fun _ => rfl
    · cases h
  | .nw f es, C, X, W, c, x, h => by
    unfold mE at h
    split at h
    · simp only [Bool.and_eq_true, decide_eq_true_eq] at h
      have pel := m_es es c h.2
      have hp := pel.plain
      rw [List.all_cons, Bool.and_eq_true] at hp
      obtain ⟨hd, fa, fd, ps, h1, h2, h3, h4⟩ := c.fns _ _ _ h.1.2
      exact both (s_nw hp.1 hp.2 h4 rfl (c.room.mono (Nat.le_succ k)) (c.gl h.1.1) h1 h2 h3 c.pass hd pel.pa) fun _ => rfl
    · cases h
  | .blt b es, C, X, W, c, x, h => by
    unfold mE at h
    split at h
    · rename_i y p z zs pos
      cases b with
      | isi t =>
        simp only [Bool.and_eq_true] at h
        obtain ⟨⟨h1, h2⟩, h3⟩ := h
        cases es with
        | nil => cases h2
        | cons e es =>
          cases es with
          | cons _ _ => cases h2
          | nil =>
            have pel := m_es (.cons e .nil) c h3
            obtain ⟨x', r', e1, hp, he, _, _⟩ := pel
            cases e1
            unfold isiB at h1
            split at h1
            · simp only [Bool.and_eq_true, decide_eq_true_eq] at h1
              obtain ⟨⟨⟨rfl, g1⟩, rfl⟩, g2⟩ := h1
              exact both (s_isi (pos := pos) c.hK hp (frz he) (c.gl g1) (c.fr (by decide)) (c.gl g2) (c.fr (by cases t <;> decide)) (by cases t <;> decide) (by cases t <;> decide)) fun _ => rfl
            · cases h1
      | lzip =>
        dsimp only at h
        split at h
        · simp only [Bool.and_eq_true, decide_eq_true_eq] at h
          obtain ⟨⟨⟨⟨rfl, g1⟩, rfl⟩, g2⟩, h3⟩ := h
          have pel := m_es es c h3
          have hp := pel.plain
          rw [List.all_cons, Bool.and_eq_true] at hp
          exact both (s_lzip c.hK (pe_lzip c.calm (c.gl g1) (c.fr (by decide)) (c.gl g2) (c.fr (by decide)) pel.pa (star_cons hp.1) (star_all hp.2))) fun _ => rfl
        · cases h
      | _ =>
        simp only [Bool.and_eq_true, decide_eq_true_eq] at h
        exact both (l_blt (p := p) (pos := pos) c h.1.1 h.1.2 (m_es es c h.2)) fun _ => rfl
    · cases h
  | .met m a es, C, X, W, c, x, h => by
    unfold mE at h
    split at h
    · simp only [Bool.and_eq_true, decide_eq_true_eq] at h
      obtain ⟨⟨⟨⟨⟨⟨h0, h1⟩, h2⟩, h3⟩, h4⟩, h5⟩, h6⟩ := h
      exact both (l_met c h0 h1 h2 h3 h4 (frz (m_e a c h5).1) (m_es es c h6)) fun _ => rfl
    · simp only [Bool.and_eq_true, decide_eq_true_eq] at h
      obtain ⟨⟨⟨⟨h1, h2⟩, h3⟩, h5⟩, h6⟩ := h
      cases es with
      | cons _ _ => cases h6
      | nil =>
        exact both (l_met0 c h1 h2 h3 (frz (m_e a c h5).1)) fun _ => rfl
    · cases h
  | .lc tg it d e, C, X, W, c, x, h => by
    unfold mE at h
    split at h
    · simp only [Bool.and_eq_true, decide_eq_true_eq] at h
      obtain ⟨⟨⟨⟨⟨⟨⟨⟨rfl, h2⟩, h3⟩, h4⟩, h5⟩, h6⟩, h7⟩, h8⟩, h9⟩ := h
      have ok := blkOk_by h4
      rw [← c.hN, ← c.sc] at ok
      exact both (s_lc (elt := _) c.calm c.nd (m_it it c h3) ok ownN_snd (fun s H D cl' fp => g_tg (c.blk _ s H D cl' fp) tg h5) (fun s H D cl' fp => q_tests (m_es d (c.blk _ s H D cl' fp) h8) h6 h7) (fun s H D cl' fp => frz (m_e e (c.blk _ s H D cl' fp) h9).1) h2) fun _ => rfl
    · cases h
  | .lcd tg w ed d e, C, X, W, c, x, h => by
    unfold mE at h
    split at h
    · simp only [Bool.and_eq_true, decide_eq_true_eq] at h
      obtain ⟨⟨⟨⟨⟨⟨⟨⟨rfl, h2⟩, h3⟩, h4⟩, h5⟩, h6⟩, h7⟩, h8⟩, h9⟩ := h
      split at h3
      · rename_i o ew
        have ok := blkOk_by h4
        rw [← c.hN, ← c.sc] at ok
        exact both (s_lcd (elt := _) c.calm c.nd (l_wk ew (frz (m_e ed c h3).1)) ok ownN_snd (fun s H D cl' fp => g_tg (c.blk _ s H D cl' fp) tg h5) (fun s H D cl' fp => q_tests (m_es d (c.blk _ s H D cl' fp) h8) h6 h7) (fun s H D cl' fp => frz (m_e e (c.blk _ s H D cl' fp) h9).1) h2) fun _ => rfl
      · cases h3
    · cases h
  | .lcl tg ed d e, C, X, W, c, x, h => by
    unfold mE at h
    split at h
    · rename_i elt' t' iter' ifs' as' sc' pos'
      simp only [Bool.and_eq_true, decide_eq_true_eq] at h
      obtain ⟨⟨⟨⟨⟨⟨⟨⟨rfl, h2⟩, h3⟩, h4⟩, h5⟩, h6⟩, h7⟩, h8⟩, h9⟩ := h
      have ok := blkOk_by h4
      rw [← c.hN, ← c.sc] at ok
      have p := pe_lc (elt := elt') (pos := pos') c.calm c.nd (i_live (W := W) (g := g) (cl := cl) c.hK (frz (m_e ed c h3).1)) ok (fun s H D cl' fp => g_tg (c.blk _ s H D cl' fp) tg h5) (fun s H D cl' fp => q_tests (m_es d (c.blk _ s H D cl' fp) h8) h6 h7) (fun s H D cl' fp => frz (m_e e (c.blk _ s H D cl' fp) h9).1) (noset h2)
      rw [ownN_snd] at p
      exact both (p.imp fun σ H Q => lcl_read) fun _ => rfl
    · cases h
  | .cell e, C, X, W, c, x, h => by
    unfold mE at h
    simp only [Bool.and_eq_true, Bool.not_eq_true'] at h
    exact ⟨s_cell h.1 (m_e e c h.2).1, fun ht => by cases ht⟩
  | .frzr e, C, X, W, c, x, h => by
    unfold mE at h
    split at h
    · exact ⟨s_frzr (m_e e c h).1, fun ht => by cases ht⟩
    · cases h
  | .fld cc f a, C, X, W, c, x, h => by
    unfold mE at h
    split at h
    · simp only [Bool.and_eq_true, decide_eq_true_eq] at h
      obtain ⟨⟨⟨⟨h1, rfl⟩, h3⟩, h4⟩, h5⟩ := h
      obtain ⟨q1, q2⟩ := c.fds _ _ h4
      exact both (s_fld c.hK (frz (m_e a c h5).1) h1 q1 q2 h3) fun _ => rfl
    · cases h
  | .mth cc f a es, C, X, W, c, x, h => by
    unfold mE at h
    split at h
    · simp only [Bool.and_eq_true, decide_eq_true_eq] at h
      obtain ⟨⟨⟨⟨⟨⟨h1, h2⟩, h3⟩, h4⟩, h5⟩, h6⟩, h7⟩ := h
      obtain ⟨fa, fd, ps, q1, q2, q3, q4⟩ := c.mts _ _ _ _ h1
      have pel := m_es es c h7
      refine both (s_mth c.hK (frz (m_e a c h6).1) q1 q2 h2 q4 rfl (c.room.mono (Nat.le_succ k)) q3 c.pass pel.pa h3 pel.plain h5 h4 fun z => ?_) fun _ => rfl
      subst z
      cases es with
      | nil => rfl
      | cons _ _ => obtain ⟨_, _, z, _⟩ := pel; cases z
    · cases h
  | .mk cc f es, C, X, W, c, x, h => by
    unfold mE at h
    split at h
    · simp only [Bool.and_eq_true, decide_eq_true_eq] at h
      have pel := m_es es c h.2
      obtain ⟨hd, fa, fd, ps, q1, q2, q3, q4⟩ := c.mks _ _ _ _ h.1.2
      exact both (s_mk c.hK q2 q4 rfl c.room (c.gl h.1.1) q1 q3 c.pass pel.pa hd pel.plain) fun _ => rfl
    · cases h
theorem m_es : ∀ (es : Es) {C : Chk} {X : Cx} {W : WX} (c : Cxt C X K cl W g CX k) {xs : List Expr}, mEs es C xs = true → PEL X K cl W g es xs
  | .nil, C, X, W, c, xs, h => by
    unfold mEs at h
    split at h
    · rfl
    · cases h
  | .cons e es, C, X, W, c, xs, h => by
    unfold mEs at h
    split at h
    · simp only [Bool.and_eq_true] at h
      have q := m_e e c h.1.2
      exact ⟨_, _, rfl, h.1.1, q.1, q.2, m_es es c h.2⟩
    · cases h
theorem m_it : ∀ (it : IL.It) {C : Chk} {X : Cx} {W : WX} (c : Cxt C X K cl W g CX k) {t x : Expr}, mIt it C t x = true → PI X t x (tI K cl W g it)
  | .of e, C, X, W, c, t, x, h => by
    unfold mIt at h
    exact i_of c.hK (frz (m_e e c h).1)
  | .r1 e, C, X, W, c, t, x, h => by
    unfold mIt at h
    split at h
    · simp only [Bool.and_eq_true, decide_eq_true_eq] at h
      obtain ⟨⟨⟨rfl, h1⟩, h2⟩, h3⟩ := h
      exact i_r1 (c.gl h1) (c.fr (by decide)) h2 (frz (m_e e c h3).1)
    · cases h
  | .r2 a b, C, X, W, c, t, x, h => by
    unfold mIt at h
    split at h
    · simp only [Bool.and_eq_true, decide_eq_true_eq] at h
      obtain ⟨⟨⟨⟨⟨rfl, h1⟩, h2⟩, h3⟩, h4⟩, h5⟩ := h
      exact i_r2 (c.gl h1) (c.fr (by decide)) h2 h3 (frz (m_e a c h4).1) (frz (m_e b c h5).1)
    · cases h
  | .en e, C, X, W, c, t, x, h => by
    unfold mIt at h
    split at h
    · simp only [Bool.and_eq_true, decide_eq_true_eq] at h
      obtain ⟨⟨⟨rfl, h1⟩, h2⟩, h3⟩ := h
      exact i_en c.hK (c.gl h1) (c.fr (by decide)) h2 (frz (m_e e c h3).1)
    · cases h
  | .zip a b, C, X, W, c, t, x, h => by
    unfold mIt at h
    split at h
    · simp only [Bool.and_eq_true, decide_eq_true_eq] at h
      obtain ⟨⟨⟨⟨⟨rfl, h1⟩, h2⟩, h3⟩, h4⟩, h5⟩ := h
      exact i_zip c.hK (c.gl h1) (c.fr (by decide)) h2 h3 (frz (m_e a c h4).1) (frz (m_e b c h5).1)
    · cases h
end
end
end IL
/-! Soundness, part R: the checker of statements. -/
namespace IL
open PySem L2

def swB (C : Chk) (y : Str) (py : Pos) (v : Expr) : Bool := match v with
  | .ListComp _ _ sc p => if decide (C.sc.names.lookup y = some .cell) then true else if py.line == p.line then decide (C.sc.kind = .function) && decide (C.sc.names.lookup y = some .local) && !(sc.names.any fun (n, k) => n == y && (k == .local || k == .cell)) else true
  | .SetComp _ _ _ _ => false
  | .DictComp _ _ _ _ _ => false
  | _ => true
def isLcB : Expr → Bool
  | .ListComp _ _ _ _ => true
  | _ => false
/-- no comprehension, no tuple, no list -/
def simpV : Expr → Bool
  | .ListComp _ _ _ _ => false
  | .SetComp _ _ _ _ => false
  | .DictComp _ _ _ _ _ => false
  | .Tuple _ _ _ => false
  | .List _ _ => false
  | _ => true
def isTup : Expr → Bool
  | .Tuple _ _ _ => true
  | _ => false
def augOp : Bop → Operator → Bool
  | .add, .Add => true
  | .sub, .Sub => true
  | _, _ => false
theorem arr_str (m : Str) : (⟨m.cps.toList.toArray⟩ : Str) = m := by cases m; simp
/-- an except suite's text -/
def mHk (C : Chk) (h : Hk) (n : Str) : List Stmt → Bool := fun sts => match h with
  | .retK w => (match sts with
    | [.Return (some (.Tuple [.Constant (.str m) _ _, .Call (.Name kn _) [.Name en _] [] _] _ _)) _] => decide (m.cps.toList = w) && decide (C.cs.kin = some kn) && glB C.sc kn && decide (en = n)
    | _ => false)
  | .setK i => (match sts with
    | [.Assign [.Name y _] (.Call (.Name kn _) [.Name en _] [] _) _] => tgB C i y && decide (C.cs.kin = some kn) && glB C.sc kn && decide (en = n)
    | _ => false)
  | .retB b => (match sts with
    | [.Return (some (.Constant (.bool c) _ _)) _] => b == c
    | _ => false)
  | .raiN _ => false
def E.isLcd : E → Bool
  | .lcd _ _ _ _ _ => true
  | .cell e => e.isLcd
  | _ => false
def E.isCellLcd : E → Bool
  | .cell e => e.isLcd
  | _ => false
mutual
def mS : S → Chk → Stmt → Bool
  | .set i o e, C, st => (match st with
    | .Assign [.Name y py] v _ => !e.isCellLcd && tgB C i y && swB C y py v && mE e C v
    | _ => false)
  | .fz _, _, _ => false
  | .unp t e, C, st => (match st with
    | .Assign [tg] v _ => isTup tg && simpV v && mTg t C tg && mE e C v
    | _ => false)
  | .aug i o e, C, st => (match st with
    | .AugAssign (.Name y _) op v _ => tgB C i y && augOp o op && mE e C v
    | _ => false)
  | .ex e, C, st => (match st with
    | .Expr v _ => simpV v && mE e C v
    | _ => false)
  | .app i e, C, st => (match st with
    | .Expr (.Call (.Attribute (.Name y _) nm ap) [z] [] cp) _ => decide (nm = "append") && nmB C i y && (ap.endLine == cp.line) && plainB z && mE e C z
    | _ => false)
  | .popA i e, C, st => (match st with
    | .Expr (.Call (.Attribute (.Name y _) nm ap) [z] [] cp) _ => decide (nm = "pop") && nmB C i y && (ap.endLine == cp.line) && plainB z && mE e C z
    | _ => false)
  | .ins i a b, C, st => (match st with
    | .Expr (.Call (.Attribute (.Name y _) nm ap) [z, w] [] cp) _ => decide (nm = "insert") && nmB C i y && (ap.endLine == cp.line) && plainB z && plainB w && mE a C z && mE b C w
    | _ => false)
  | .setx i a e, C, st => (match st with
    | .Assign [.Subscript (.Name y _) z _] v _ => nmB C i y && noSlB z && mE a C z && mE e C v
    | _ => false)
  | .setxx _ _ _ _, _, _ => false
  | .sets a b e, C, st => (match st with
    | .Assign [.Subscript y z _] v _ => noSlB z && mE a C y && mE b C z && mE e C v
    | _ => false)
  | .setd a b e, C, st => (match st with
    | .Assign [.Subscript y z _] v _ => noSlB z && mE a C y && mE b C z && mE e C v
    | _ => false)
  | .ford tg w d b, C, st => (match st with
    | .For t iter body [] _ => plainB iter && mTg tg C t && (match wkB w iter t with | some o => mE d C o | none => false) && mSs b C body
    | _ => false)
  | .augs a b o e, C, st => (match st with
    | .AugAssign (.Subscript y z _) op v _ => noSlB z && augOp o op && mE a C y && mE b C z && mE e C v
    | _ => false)
  | .iff d t e, C, st => (match st with
    | .If x ts es _ => d.tst && mE d C x && mSs t C ts && mSs e C es
    | _ => false)
  | .for tg it b, C, st => (match st with
    | .For t iter body [] _ => plainB iter && mTg tg C t && mIt it C t iter && mSs b C body
    | _ => false)
  | .whl n d b, C, st => (match st with
    | .While x body [] _ => d.tst && mE d C x && mSs b C body
    | _ => false)
  | .ret e, C, st => (match st with
    | .Return (some v) _ => mE e C v
    | _ => false)
  | .mov i, C, st => (match st with
    | .Return (some (.Name y _)) _ => nmB C i y
    | _ => false)
  | .pass, _, st => (match st with
    | .Pass _ => true
    | _ => false)
  | .never, _, _ => true
  | .sfld c f a e, C, st => (match st with
    | .Assign [.Attribute o nm _] v _ => decide (fnm f = nm) && decide (fnm f ≠ "?") && decide ((c, f) ∈ C.cs.fds) && mE a C o && mE e C v
    | _ => false)
  | .rai c, C, st => (match st with
    | .Raise (some (.Call (.Name x _) [.Constant (.str _) _ _] [] _)) none _ => glB C.sc x && decide (C.cs.exs.lookup x = some c)
    | _ => false)
  | .try b c j h, C, st => (match st, j with
    | .Try body [.ExceptHandler (some (.Name x _)) (some n) (b0 :: suite) _] [] [] _, some i => glB C.sc x && decide (C.cs.hns.lookup x = some c) && decide (C.N[i]? = some n) && locB C.sc n && mSs b C body && mHk C h n (b0 :: suite)
    | _, _ => false)
def mSs : Ss → Chk → List Stmt → Bool
  | .nil, _, sts => (match sts with
    | [] => true
    | _ => false)
  | .cons s ss, C, sts => (match s with
    | .fz _ => mSs ss C sts
    | s => (match sts with
      | st :: r => mS s C st && mSs ss C r
      | _ => false))
end

section
variable {C : Chk} {X : Cx} {K : PySem.W.Frag} {cl : Cl} {W : WX} {g : G} {CX : CXT} {k : Nat} {es : Es} {ea : E}
theorem cell_read {e : E} : ∀ σ H Q, tE K cl W g (.cell e) σ H Q → tE K cl W g e σ H Q := by
  rintro σ H Q ⟨B, col, σa, F, ι, S, rel, h⟩
  refine ⟨B, col, σa, F, ι, S, rel, ?_⟩
  have h : EK ⟨K, cl, W, B, col, σa, σ⟩ F ι (rF ⟨K, cl, W, B, col, σa, σ⟩) (if e.isPk || !e.alloc g.fr then .bad else (evalE g σa e S).bind fun d S1 => (match d with
    | .lst ds => .ok (.ref S1.length) (S1 ++ [.lst ds])
    | .dct ks ds => .ok (.ref S1.length) (S1 ++ [.dct ks ds])
    | _ => .bad)) Q := h
  cases np : e.isPk with
  | true => rw [np] at h; exact h.elim
  | false =>
    cases ha : e.alloc g.fr with
    | false => rw [np, ha] at h; exact h.elim
    | true =>
      rw [np, ha, if_neg (by decide)] at h
      rw [rE_alloc ha]
      refine EK.bind h fun d S1 F1 H1 ι1 v x1 rel1 r1 h1 => ?_
      cases d with
      | lst ds =>
        obtain ⟨p, vs, rfl, hp, hf, hb, hc, hi, q⟩ := r1
        exact h1 F1 H1 (ι1 ++ [p]) _ ⟨Same.refl _, List.prefix_append _ _, fun _ _ e => .inl e⟩ (rel1.newObj hf hb hc hi ⟨vs, hp, q⟩) ⟨p, rfl, by rw [← rel1.ln]; simp⟩
      | dct ks ds =>
        obtain ⟨p, vs, rfl, hp, hf, hb, hc, hi, k, q⟩ := r1
        exact h1 F1 H1 (ι1 ++ [p]) _ ⟨Same.refl _, List.prefix_append _ _, fun _ _ e => .inl e⟩ (rel1.newObj hf hb hc hi ⟨vs, hp, k, q⟩) ⟨p, rfl, by rw [← rel1.ln]; simp⟩
      | _ => exact h1.elim
theorem lc_parts (c : Cxt C X K cl W g CX k) {elt : Expr} {gs : List Comprehension} {sc : Scope} {p : Pos} : ∀ (e : E), e.isLcd = false → mE e C (.ListComp elt gs sc p) = true → ∃ (t iter : Expr) (ifs : List Expr) (own : List (Str × Nat)) (wi : TI) (gg : TG) (tt : TT) (te : TE), gs = [⟨t, iter, ifs, 0⟩] ∧ PI X t iter wi ∧ BlkOk X.N X.env.scope sc own ∧
    (∀ (s : Shared) (H : Hp) (D : Addr) (cl : List (Str × Addr)) (fp : List Addr), PG (X.blk s H sc (compEnvC sc cl D X.env) fp) t gg) ∧ (∀ (s : Shared) (H : Hp) (D : Addr) (cl : List (Str × Addr)) (fp : List Addr), PTs (X.blk s H sc (compEnvC sc cl D X.env) fp) ifs tt) ∧
    (∀ (s : Shared) (H : Hp) (D : Addr) (cl : List (Str × Addr)) (fp : List Addr), PE (X.blk s H sc (compEnvC sc cl D X.env) fp) elt te) ∧ plainB iter = true ∧ ∀ σ H Q, tE K cl W g e σ H Q → tLc wi gg tt te (own.map (·.2)) σ H Q
  | .cell e, nl, h => by
    unfold mE at h
    simp only [Bool.and_eq_true, Bool.not_eq_true'] at h
    obtain ⟨t, iter, ifs, own, wi, gg, tt, te, h1, h2, h3, h4, h5, h6, h7, h8⟩ := lc_parts c e nl h.2
    exact ⟨t, iter, ifs, own, wi, gg, tt, te, h1, h2, h3, h4, h5, h6, h7, fun σ H Q q => h8 σ H Q (cell_read σ H Q q)⟩
  | .lcd _ _ _ _ _, nl, h => by cases nl
  | .lcl tg ed d e, _, h => by
    unfold mE at h
    split at h
    · rename_i heq
      cases heq
      simp only [Bool.and_eq_true, decide_eq_true_eq] at h
      obtain ⟨⟨⟨⟨⟨⟨⟨⟨rfl, h2⟩, h3⟩, h4⟩, h5⟩, h6⟩, h7⟩, h8⟩, h9⟩ := h
      have ok := blkOk_by h4
      rw [← c.hN, ← c.sc] at ok
      refine ⟨_, _, _, _, _, _, _, _, rfl, i_live (W := W) (g := g) (cl := cl) c.hK (frz (m_e K cl g CX k ed c h3).1), ok, (fun s H D cl' fp => g_tg (c.blk _ s H D cl' fp) tg h5), (fun s H D cl' fp => q_tests (m_es K cl g CX k d (c.blk _ s H D cl' fp) h8) h6 h7), (fun s H D cl' fp => frz (m_e K cl g CX k e (c.blk _ s H D cl' fp) h9).1), h2, ?_⟩
      rw [ownN_snd]
      exact fun σ H Q => lcl_read
    · cases h
  | .lc tg it d e, _, h => by
    unfold mE at h
    split at h
    · rename_i heq
      cases heq
      simp only [Bool.and_eq_true, decide_eq_true_eq] at h
      obtain ⟨⟨⟨⟨⟨⟨⟨⟨rfl, h2⟩, h3⟩, h4⟩, h5⟩, h6⟩, h7⟩, h8⟩, h9⟩ := h
      have ok := blkOk_by h4
      rw [← c.hN, ← c.sc] at ok
      refine ⟨_, _, _, _, _, _, _, _, rfl, m_it K cl g CX k it c h3, ok, (fun s H D cl' fp => g_tg (c.blk _ s H D cl' fp) tg h5), (fun s H D cl' fp => q_tests (m_es K cl g CX k d (c.blk _ s H D cl' fp) h8) h6 h7), (fun s H D cl' fp => frz (m_e K cl g CX k e (c.blk _ s H D cl' fp) h9).1), h2, ?_⟩
      rw [ownN_snd]
      exact lc_read
    · cases h
  | .v _, _, h | .pk _, _, h | .k _, _, h | .g _, _, h | .bin _ _ _, _, h | .chn _ _ _, _, h | .isn _, _, h | .ntn _, _, h | .neg _, _, h | .not _, _, h | .and _, _, h | .or _, _, h | .ite _ _ _, _, h | .tup _, _, h | .lst _, _, h | .dct0, _, h | .dctd _ _, _, h | .idx _ _, _, h | .slL _ _, _, h | .slU _ _, _, h | .slB _ _ _, _, h | .rev _, _, h | .call _ _, _, h | .blt _ _, _, h | .met _ _ _, _, h => by
    unfold mE at h
    cases h
theorem r_setD (c : Cxt C X K cl W g CX k) {i o : Nat} {tg : Tg} {w : Nat} {ed e : E} {d : Es} {y : Str} {py p pos : Pos} {elt : Expr} {gs : List Comprehension} {sc : Scope} (g1 : X.N[i]? = some y) (hy : X.env.scope.names.lookup y = some .local) (h3 : mE (.lcd tg w ed d e) C (.ListComp elt gs sc p) = true)
    (hsw : swapsWith (.ListComp elt gs sc p) (some (.Name y py)) pos.line X.env = pure true) : PS X (.Assign [.Name y py] (.ListComp elt gs sc p) pos) (tSt K cl W g (.set i o (.lcd tg w ed d e))) := by
  unfold mE at h3
  split at h3
  · rename_i heq
    cases heq
    simp only [Bool.and_eq_true, decide_eq_true_eq] at h3
    obtain ⟨⟨⟨⟨⟨⟨⟨⟨rfl, h2⟩, h3⟩, h4⟩, h5⟩, h6⟩, h7⟩, h8⟩, h9⟩ := h3
    split at h3
    · rename_i ob ew
      have ok := blkOk_by h4
      rw [← c.hN, ← c.sc] at ok
      have base := ps_setLc (spos := pos) c.calm c.nd g1 hy hsw (l_wk ew (frz (m_e K cl g CX k ed c h3).1)) ok (fun s H D cl' fp => g_tg (c.blk _ s H D cl' fp) tg h5) (fun s H D cl' fp => q_tests (m_es K cl g CX k d (c.blk _ s H D cl' fp) h8) h6 h7) (fun s H D cl' fp => frz (m_e K cl g CX k e (c.blk _ s H D cl' fp) h9).1) (noset h2)
      rw [ownN_snd] at base
      refine ⟨fun pins s σ H D I hw => ?_⟩
      rcases lcd_split (set_read D σ H hw) with ⟨a, kvs, ha, h⟩ | h
      · exact (ps_lock base).run pins s σ H D I ⟨a, .dK kvs, ha, trivial, fun od => TLd_lc (h od)⟩
      · exact base.run pins s σ H D I (TLd_lc h)
    · cases h3
  · cases h3
theorem r_set (c : Cxt C X K cl W g CX k) {i o : Nat} {e : E} {y : Str} {py pos : Pos} {v : Expr} (h2' : e.isCellLcd = false) (h1 : tgB C i y = true) (h2 : swB C y py v = true) (h3 : mE e C v = true) : PS X (.Assign [.Name y py] v pos) (tSt K cl W g (.set i o e)) := by
  obtain ⟨g1, g2, g3⟩ := c.tg h1
  have plain : swapsWith v (some (.Name y py)) pos.line X.env = pure false → PS X (.Assign [.Name y py] v pos) (tSt K cl W g (.set i o e)) := fun hs => (ps_set c.nd g1 g2 (m_e K cl g CX k e c h3).1 hs g3).imp set_read
  cases v with
  | ListComp elt gs sc p =>
    have h2 : (if decide (C.sc.names.lookup y = some .cell) = true then true else if (py.line == p.line) = true then decide (C.sc.kind = .function) && decide (C.sc.names.lookup y = some .local) && !(sc.names.any fun (n, k) => n == y && (k == .local || k == .cell)) else true) = true := h2
    by_cases hcl : C.sc.names.lookup y = some .cell
    · refine plain ?_
      have ky : X.env.kindOf y = some .cell := by show X.env.scope.names.lookup y = some .cell; rw [c.sc]; exact hcl
      have kn : (X.env.kindOf y == some NameKind.local) = false := by rw [ky]; rfl
      unfold swapsWith
      simp only [kn, Bool.and_false, Bool.false_and]
    rw [decide_eq_false hcl, if_neg Bool.false_ne_true] at h2
    by_cases hl : (py.line == p.line) = true
    · rw [if_pos hl] at h2
      simp only [Bool.and_eq_true, decide_eq_true_eq, Bool.not_eq_true'] at h2
      obtain ⟨⟨k1, k2⟩, k3⟩ := h2
      have hk : X.env.scope.kind = .function := by rw [c.sc]; exact k1
      have hy : X.env.scope.names.lookup y = some .local := by rw [c.sc]; exact k2
      by_cases ld : e.isLcd = true
      · cases e with
        | lcd tg w ed d e => exact r_setD c g1 hy h3 (sw_true hk hy hl k3)
        | cell e => exact absurd (show e.isLcd = false from h2') (by rw [show e.isLcd = true from ld]; decide)
        | _ => cases ld
      have ld : e.isLcd = false := by simpa using ld
      obtain ⟨t, iter, ifs, own, wi, gg, tt, te, rfl, q2, q3, q4, q5, q6, q7, q8⟩ := lc_parts c e ld h3
      refine (ps_setLc (spos := pos) c.calm c.nd g1 hy (sw_true hk hy hl k3) q2 q3 q4 q5 q6 (noset q7)).imp fun D σ H q => ?_
      exact q8 σ H _ (set_read D σ H q)
    · refine plain ?_
      have hb : (py.line == p.line) = false := by simpa using hl
      unfold swapsWith
      simp only [Expr.pos, hb, Bool.and_false, Bool.false_and]
  | SetComp _ _ _ _ => cases h2
  | DictComp _ _ _ _ _ => cases h2
  | _ => exact plain rfl
theorem asg1 {tg : Expr} {env : Env} (h : isTup tg = true) : (assignEach [tg] env).map (·.2) = [assign tg env] := by cases tg <;> first | rfl | cases h
theorem r_unp (c : Cxt C X K cl W g CX k) {t : Tg} {e : E} {tg : Expr} {pos : Pos} {v : Expr} (h0 : isTup tg = true) (h1 : simpV v = true) (h2 : mTg t C tg = true) (h3 : mE e C v = true) : PS X (.Assign [tg] v pos) (tSt K cl W g (.unp t e)) := by
  refine (ps_asg (m_e K cl g CX k e c h3).1 (g_tg c t h2) ?_ ?_ (asg1 h0)).imp unp_read
  · cases v <;> first | rfl | cases h1
  · cases tg <;> first | cases h0 | skip
    cases v <;> first | rfl | cases h1
theorem ip_of (o : Bop) {op : Operator} (h : augOp o op = true) : ∃ f, augI o = some f ∧ PIp X op (ipI f) := by
  cases o <;> cases op <;> first | cases h | skip
  · exact ⟨_, rfl, ip_add⟩
  · exact ⟨_, rfl, ip_sub⟩
variable (K cl g CX k)
mutual
theorem m_s : ∀ (s : S) {C : Chk} {X : Cx} {W : WX} (c : Cxt C X K cl W g CX k) (hp : PassesOwn (model X.prog X.w) X.A X.env X.xe) (tx : Tkx X W) {st : Stmt}, mS s C st = true → PS X st (tSt K cl W g s)
  | .set i o e, C, X, W, c, hp, tx, st, h => by
    unfold mS at h
    split at h
    · simp only [Bool.and_eq_true] at h
      exact r_set c (by simpa using h.1.1.1) h.1.1.2 h.1.2 h.2
    · cases h
  | .fz _, C, X, W, c, hp, tx, st, h => by
    unfold mS at h
    cases h
  | .unp t e, C, X, W, c, hp, tx, st, h => by
    unfold mS at h
    split at h
    · simp only [Bool.and_eq_true] at h
      exact r_unp c h.1.1.1 h.1.1.2 h.1.2 h.2
    · cases h
  | .aug i o e, C, X, W, c, hp, tx, st, h => by
    unfold mS at h
    split at h
    · simp only [Bool.and_eq_true] at h
      obtain ⟨g1, g2, g3⟩ := c.tg h.1.1
      obtain ⟨f, hf, ho⟩ := ip_of o h.1.2
      exact (ps_aug c.nd g1 g2 (frz (m_e K cl g CX k e c h.2).1) ho g3).imp (aug_read hf)
    · cases h
  | .ex e, C, X, W, c, hp, tx, st, h => by
    unfold mS at h
    split at h
    · rename_i v pos
      simp only [Bool.and_eq_true] at h
      refine (ps_expr (m_e K cl g CX k e c h.2).1 ?_).imp ex_read
      have h1 := h.1
      cases v <;> first | rfl | cases h1
    · cases h
  | .app i e, C, X, W, c, hp, tx, st, h => by
    unfold mS at h
    split at h
    · simp only [Bool.and_eq_true, decide_eq_true_eq] at h
      obtain ⟨⟨⟨⟨rfl, h2⟩, h3⟩, h4⟩, h5⟩ := h
      obtain ⟨g1, g2, g3, g4⟩ := c.nm h2
      have pa : PA X [_] (tAs K cl W g (.cons e .nil)) := s_acons h4 (frz (m_e K cl g CX k e c h5).1) s_anil
      refine (ps_expr (l_bm PySem.F.plainAttrs_list PySem.F.slot_list_append PySem.F.type_list_append mt_append (pe_var g1 g2 g3 g4) pa rfl (by simp [h4]) (by show 1 < 29; decide) h3) rfl).imp (app_read c.hK)
    · cases h
  | .popA i e, C, X, W, c, hp, tx, st, h => by
    unfold mS at h
    split at h
    · simp only [Bool.and_eq_true, decide_eq_true_eq] at h
      obtain ⟨⟨⟨⟨rfl, h2⟩, h3⟩, h4⟩, h5⟩ := h
      obtain ⟨g1, g2, g3, g4⟩ := c.nm h2
      have pa : PA X [_] (tAs K cl W g (.cons e .nil)) := s_acons h4 (frz (m_e K cl g CX k e c h5).1) s_anil
      refine (ps_expr (l_bm PySem.F.plainAttrs_list PySem.F.slot_list_pop PySem.F.type_list_pop mt_popAt (pe_var g1 g2 g3 g4) pa rfl (by simp [h4]) (by show 1 < 29; decide) h3) rfl).imp (popA_read c.hK)
    · cases h
  | .ins i a b, C, X, W, c, hp, tx, st, h => by
    unfold mS at h
    split at h
    · simp only [Bool.and_eq_true, decide_eq_true_eq] at h
      obtain ⟨⟨⟨⟨⟨⟨rfl, h2⟩, h3⟩, h4⟩, h5⟩, h6⟩, h7⟩ := h
      obtain ⟨g1, g2, g3, g4⟩ := c.nm h2
      have pa : PA X [_, _] (tAs K cl W g (.cons a (.cons b .nil))) := s_acons h4 (frz (m_e K cl g CX k a c h6).1) (s_acons h5 (frz (m_e K cl g CX k b c h7).1) s_anil)
      refine (ps_expr (l_bm PySem.F.plainAttrs_list PySem.F.slot_list_insert PySem.F.type_list_insert mt_insert (pe_var g1 g2 g3 g4) pa rfl (by simp [h4, h5]) (by show 2 < 29; decide) h3) rfl).imp (ins_read c.hK)
    · cases h
  | .setx i a e, C, X, W, c, hp, tx, st, h => by
    unfold mS at h
    split at h
    · simp only [Bool.and_eq_true] at h
      obtain ⟨g1, g2, g3, g4⟩ := c.nm h.1.1.1
      exact s_setx c.hK c.hu g1 g2 g3 g4 h.1.1.2 (frz (m_e K cl g CX k e c h.2).1) (frz (m_e K cl g CX k a c h.1.2).1)
    · cases h
  | .setxx _ _ _ _, C, X, W, c, hp, tx, st, h => by
    unfold mS at h
    cases h
  | .sets a b e, C, X, W, c, hp, tx, st, h => by
    unfold mS at h
    split at h
    · simp only [Bool.and_eq_true] at h
      exact s_sets h.1.1.1 (frz (m_e K cl g CX k a c h.1.1.2).1) (frz (m_e K cl g CX k b c h.1.2).1) (frz (m_e K cl g CX k e c h.2).1)
    · cases h
  | .setd a b e, C, X, W, c, hp, tx, st, h => by
    unfold mS at h
    split at h
    · simp only [Bool.and_eq_true] at h
      exact s_setd c.hu h.1.1.1 (frz (m_e K cl g CX k a c h.1.1.2).1) (frz (m_e K cl g CX k b c h.1.2).1) (frz (m_e K cl g CX k e c h.2).1)
    · cases h
  | .ford tg w ed b, C, X, W, c, hp, tx, st, h => by
    unfold mS at h
    split at h
    · simp only [Bool.and_eq_true] at h
      obtain ⟨⟨⟨h1, h2⟩, h3⟩, h4⟩ := h
      split at h3
      · rename_i o ew
        exact s_ford hp c.calm tx.tk (l_wk ew (frz (m_e K cl g CX k ed c h3).1)) (g_tg c tg h2) (fun W' tk => m_ss b (c.tw tk) hp ⟨tk, tx.hs, tx.hf⟩ h4) h1
      · cases h3
    · cases h
  | .augs a b o e, C, X, W, c, hp, tx, st, h => by
    unfold mS at h
    split at h
    · simp only [Bool.and_eq_true] at h
      obtain ⟨f, hf, ho⟩ := ip_of o h.1.1.1.2
      exact s_augs c.hK hf ho h.1.1.1.1 (frz (m_e K cl g CX k a c h.1.1.2).1) (frz (m_e K cl g CX k b c h.1.2).1) (frz (m_e K cl g CX k e c h.2).1)
    · cases h
  | .iff d t e, C, X, W, c, hp, tx, st, h => by
    unfold mS at h
    split at h
    · simp only [Bool.and_eq_true] at h
      exact s_iff ((m_e K cl g CX k d c h.1.1.2).2 h.1.1.1) (m_ss t c hp tx h.1.2) (m_ss e c hp tx h.2)
    · cases h
  | .for tg it b, C, X, W, c, hp, tx, st, h => by
    unfold mS at h
    split at h
    · simp only [Bool.and_eq_true] at h
      exact s_for hp c.calm (m_it K cl g CX k it c h.1.2) (g_tg c tg h.1.1.2) (m_ss b c hp tx h.2) h.1.1.1
    · cases h
  | .whl n d b, C, X, W, c, hp, tx, st, h => by
    unfold mS at h
    split at h
    · simp only [Bool.and_eq_true] at h
      exact s_whl hp ((m_e K cl g CX k d c h.1.2).2 h.1.1) (m_ss b c hp tx h.2)
    · cases h
  | .ret e, C, X, W, c, hp, tx, st, h => by
    unfold mS at h
    split at h
    · exact (ps_ret (m_e K cl g CX k e c h).1).imp ret_read
    · cases h
  | .mov i, C, X, W, c, hp, tx, st, h => by
    unfold mS at h
    split at h
    · obtain ⟨g1, g2, g3, g4⟩ := c.nm h
      exact (ps_ret (pe_var g1 g2 g3 g4)).imp mov_read
    · cases h
  | .pass, C, X, W, c, hp, tx, st, h => by
    unfold mS at h
    split at h
    · exact ps_pass.imp pass_read
    · cases h
  | .never, C, X, W, c, hp, tx, st, h => ps_never.imp fun D σ H ⟨B, col, σa, F, ι, S, rel, h⟩ => h
  | .sfld cc f a e, C, X, W, c, hp, tx, st, h => by
    unfold mS at h
    split at h
    · simp only [Bool.and_eq_true, decide_eq_true_eq] at h
      obtain ⟨⟨⟨⟨rfl, h2⟩, h3⟩, h4⟩, h5⟩ := h
      obtain ⟨q1, q2⟩ := c.fds _ _ h3
      exact s_sfld c.hK (frz (m_e K cl g CX k a c h4).1) (frz (m_e K cl g CX k e c h5).1) q1 q2 h2
    · cases h
  | .rai c0, C, X, W, c, hp, tx, st, h => by
    unfold mS at h
    split at h
    · simp only [Bool.and_eq_true, decide_eq_true_eq] at h
      exact s_rai c.hK c.calm tx.tk (c.exs _ _ h.2) (c.gl h.1)
    · cases h
  | .try b c0 j hk, C, X, W, c, hp, tx, st, h => by
    unfold mS at h
    split at h
    · rename_i body x p1 n b0 suite p2 p3 i
      simp only [Bool.and_eq_true, decide_eq_true_eq] at h
      obtain ⟨⟨⟨⟨⟨h1, h2⟩, h3⟩, h4⟩, h5⟩, h6⟩ := h
      have hi : X.N[i]? = some n := by rw [c.hN]; exact h3
      have hln : X.env.scope.names.lookup n = some .local := by
        rw [c.sc]
        unfold locB at h4
        split at h4
        · assumption
        · cases h4
      have nd := c.names n (List.mem_of_getElem? h3)
      have nr : ∀ q, hk ≠ .raiN q := fun q z => by rw [z] at h6; cases h6
      refine s_try c.hK tx.hs tx.hf c.nd hi hln (c.gl h1) (c.hns _ _ h2) tx.tk nr (fun W' pn xe tk own => m_ss b (c.tr tk) own ⟨tk, tx.hs, tx.hf⟩ h5) fun a oe cls d pn hz hv => ?_
      have room : L2H.RoomH (k + 1) X.A := L2H.roomH_of c.room
      cases hk with
      | retK w =>
        unfold mHk at h6
        dsimp only at h6
        split at h6
        · rename_i heq
          simp only [Bool.and_eq_true, decide_eq_true_eq] at h6
          obtain ⟨⟨⟨rfl, k2⟩, k3⟩, rfl⟩ := h6
          refine s_suite (CX := CX) (k := k + 1) c.hK room c.cxF hi hln nd.1 nd.2 hz hv (.inl ⟨_, _, _, _, _, _, _, _, _, rfl, c.kin _ k2, c.gl k3, heq.trans (congrArg (fun z => [Stmt.Return (some (Expr.Tuple [Expr.Constant (Const.str z) _ _, _] _ _)) _]) (arr_str _).symm)⟩)
        · cases h6
      | setK j =>
        unfold mHk at h6
        dsimp only at h6
        split at h6
        · rename_i heq
          simp only [Bool.and_eq_true, decide_eq_true_eq] at h6
          obtain ⟨⟨⟨k1, k2⟩, k3⟩, rfl⟩ := h6
          obtain ⟨t1, t2, t3⟩ := c.tg k1
          refine s_suite (CX := CX) (k := k + 1) c.hK room c.cxF hi hln nd.1 nd.2 hz hv (.inr (.inl ⟨_, _, _, _, _, _, _, rfl, c.kin _ k2, c.gl k3, c.nd, t1, t2, t3, heq⟩))
        · cases h6
      | retB b =>
        unfold mHk at h6
        dsimp only at h6
        split at h6
        · rename_i heq
          have e := eq_of_beq h6
          subst e
          refine s_suite (CX := CX) (k := k + 1) (kn := n) c.hK room c.cxF hi hln nd.1 nd.2 hz hv (.inr (.inr ⟨_, _, _, _, rfl, heq⟩))
        · cases h6
      | raiN q => cases h6
    · cases h
theorem m_ss : ∀ (ss : Ss) {C : Chk} {X : Cx} {W : WX} (c : Cxt C X K cl W g CX k) (hp : PassesOwn (model X.prog X.w) X.A X.env X.xe) (tx : Tkx X W) {sts : List Stmt}, mSs ss C sts = true → PSs X sts (tSs K cl W g ss)
  | .nil, C, X, W, c, hp, tx, sts, h => by
    unfold mSs at h
    split at h
    · exact ss_nil
    · cases h
  | .cons s ss, C, X, W, c, hp, tx, sts, h => by
    unfold mSs at h
    split at h
    · exact ss_fz (m_ss ss c hp tx h)
    · split at h
      · simp only [Bool.and_eq_true] at h
        exact ss_cons (m_s s c hp tx h.1) (m_ss ss c hp tx h.2)
      · cases h
end
end
end IL
/-! Soundness, part S: defs. -/
namespace IL
open PySem L2

section
variable {K : PySem.W.Frag} {B F H : Hp} {ι : List Addr} {S : Store}
theorem Rel.cut (r : Rel K B F H ι col0 [] S []) (n : Nat) (h : (S.take n).all (Obj.refLt n) = true) : Rel K B F H (ι.take n) col0 [] (S.take n) [] := by
  refine ⟨r.fh, r.bh, fun a c e => (nomatch e), fun a ha => r.io a (List.mem_of_mem_take ha), r.nd.sublist (List.take_sublist _ _), by rw [List.length_take, List.length_take, r.ln], fun m o a h1 h2 => ?_, rfl, fun i s o e => (nomatch (show none = some s by simpa using e))⟩
  have hl : o.refLt n = true := List.all_eq_true.mp h o (List.mem_of_getElem? h1)
  have e1 : S[m]? = some o := by
    rw [List.getElem?_take] at h1
    split at h1
    · exact h1
    · cases h1
  have e2 : ι[m]? = some a := by
    rw [List.getElem?_take] at h2
    split at h2
    · exact h2
    · cases h2
  have z := r.st m o a e1 e2
  cases o with
  | lst ds => obtain ⟨vs, e, q⟩ := z; exact ⟨vs, e, Reps.cut _ _ hl q⟩
  | dct ks ds => obtain ⟨vs, e, k, q⟩ := z; exact ⟨vs, e, k, Reps.cut _ _ hl q⟩
  | ins _ _ => obtain ⟨dx, vs, e, k, q⟩ := z; exact ⟨dx, vs, e, k, Reps.cut _ _ hl q⟩
  | dcl _ _ => obtain ⟨dx, vs, e, k, q⟩ := z; exact ⟨dx, vs, e, k, Reps.cut _ _ hl q⟩
end
section
variable {K : PySem.W.Frag} {B : Hp}
/-- one element frozen, if it is a list made within -/
theorem unref_ok {F' H : Hp} {ι' : List Addr} {n : Nat} {S S0 : Store} (rel' : Rel K B F' H ι' col0 [] S []) : ∀ (ds : List D) (vs : List V) (F1 : Hp), Rel K B F1 H (ι'.take n) col0 [] S0 [] → Same F' F1 → (∀ a o, F1 a = some o → F' a = some o ∨ (H a = some o ∧ B a = none ∧ a ∈ ι')) → Reps K F' ι' ds vs → D.refLts n (ds.map (unref1 n S)) = true →
    ∃ F2, Rel K B F2 H (ι'.take n) col0 [] S0 [] ∧ Same F' F2 ∧ Same F1 F2 ∧ (∀ a o, F2 a = some o → F' a = some o ∨ (H a = some o ∧ B a = none ∧ a ∈ ι')) ∧ Reps K F2 (ι'.take n) (ds.map (unref1 n S)) vs
  | [], vs, F1, rel1, s1, t1, r, _ => ⟨F1, rel1, s1, Same.refl _, t1, r⟩
  | d :: ds, vs, F1, rel1, s1, t1, ⟨v, w, e, r, rs⟩, h => by
    have h : (D.refLt n (unref1 n S d) && D.refLts n (ds.map (unref1 n S))) = true := h
    rw [Bool.and_eq_true] at h
    subst e
    -- the head
    obtain ⟨F2, rel2, s2, s12, t2, q⟩ : ∃ F2, Rel K B F2 H (ι'.take n) col0 [] S0 [] ∧ Same F' F2 ∧ Same F1 F2 ∧ (∀ a o, F2 a = some o → F' a = some o ∨ (H a = some o ∧ B a = none ∧ a ∈ ι')) ∧ Rep K F2 (ι'.take n) (unref1 n S d) v := by
      have plain : unref1 n S d = d → ∃ F2, Rel K B F2 H (ι'.take n) col0 [] S0 [] ∧ Same F' F2 ∧ Same F1 F2 ∧ (∀ a o, F2 a = some o → F' a = some o ∨ (H a = some o ∧ B a = none ∧ a ∈ ι')) ∧ Rep K F2 (ι'.take n) (unref1 n S d) v := fun e => by
        have h1 := h.1
        rw [e] at h1 ⊢
        exact ⟨F1, rel1, s1, Same.refl _, t1, Rep.mono s1 (List.prefix_refl _) _ _ (Rep.cut d v h1 r)⟩
      cases d with
      | ref m =>
        by_cases c : n ≤ m
        · cases hs : S[m]? with
          | none => exact plain (by show (if n ≤ m then _ else _) = _; rw [if_pos c, hs])
          | some o =>
            cases o with
            | lst es =>
              by_cases c2 : D.refLts n es = true
              · have eq : unref1 n S (.ref m) = .lst es := by show (if n ≤ m then _ else _) = _; rw [if_pos c, hs]; exact if_pos c2
                obtain ⟨p, rfl, hp⟩ := r
                obtain ⟨ws, hH, rr⟩ := rel'.st m _ p hs hp
                have hm : p ∈ ι' := List.mem_of_getElem? hp
                have f0 := (rel'.io p hm).1
                have b0 := rel'.unB hm hH fun _ _ z => by cases z
                have hi : p ∉ ι'.take n := fun z => by
                  obtain ⟨j, hj, ej⟩ := List.getElem_of_mem z
                  rw [List.length_take] at hj
                  rw [List.getElem_take] at ej
                  obtain ⟨hm2, em⟩ := List.getElem?_eq_some_iff.mp hp
                  have := (List.getElem_inj rel'.nd).mp (ej.trans em.symm)
                  omega
                rw [eq]
                have fin : ∀ F2 : Hp, Same F' F2 → F2 p = some (.lst ws) → Rep K F2 (ι'.take n) (.lst es) (.ref p) := fun F2 s2 e2 => ⟨p, ws, rfl, e2, Reps.mono s2 (List.prefix_refl _) _ _ (Reps.cut es ws c2 rr)⟩
                cases hf : F1 p with
                | none =>
                  have sm := same_upd (o := HO.lst ws) hf
                  refine ⟨upd F1 p (.lst ws), rel1.freeze hH hf hi rfl, s1.trans sm, sm, fun a o e => ?_, fin _ (s1.trans sm) upd_same⟩
                  by_cases w : a = p
                  · subst w; rw [upd_same] at e; cases e; exact .inr ⟨hH, b0, hm⟩
                  · rw [upd_ne w] at e; exact t1 a o e
                | some o =>
                  rcases t1 p o hf with z | ⟨z, _, _⟩
                  · rw [f0] at z; cases z
                  · rw [hH] at z
                    cases z
                    exact ⟨F1, rel1, s1, Same.refl _, t1, fin F1 s1 hf⟩
              · exact plain (by show (if n ≤ m then _ else _) = _; rw [if_pos c, hs]; exact if_neg c2)
            | dct _ _ => exact plain (by show (if n ≤ m then _ else _) = _; rw [if_pos c, hs])
            | ins _ _ => exact plain (by show (if n ≤ m then _ else _) = _; rw [if_pos c, hs])
            | dcl _ _ => exact plain (by show (if n ≤ m then _ else _) = _; rw [if_pos c, hs])
        · exact plain (by show (if n ≤ m then _ else _) = _; rw [if_neg c])
      | _ => exact plain rfl
    obtain ⟨F3, rel3, s3, s23, t3, qs⟩ := unref_ok rel' ds w F2 rel2 s2 t2 rs h.2
    exact ⟨F3, rel3, s3, s12.trans s23, t3, .cons (Rep.mono s23 (List.prefix_refl _) _ _ q) qs⟩
end
section
variable {K : PySem.W.Frag} {cl : Cl} {E : XK}
theorem EK.undrop {F H0 : Hp} {ι ι0 : List Addr} {n : Nat} {dr fr : Bool} {r : R D} {Q : VK} (hn : n = ι.length) (h : EK (qC K cl E H0 ι0) F ι (rC fr (qC K cl E H0 ι0)) (drop dr n r) Q) : EK (qC K cl E H0 ι0) F ι (rC fr (qC K cl E H0 ι0)) r Q := by
  cases dr with
  | false => exact h
  | true =>
    have tk : ∀ ι' : List Addr, ι <+: ι' → ι'.take n = ι := fun ι' ⟨t, e⟩ => by rw [← e, hn, List.take_left]
    cases r with
    | bad => exact h
    | exc x S =>
      have h : EK (qC K cl E H0 ι0) F ι (rC fr (qC K cl E H0 ι0)) (if D.refLts n x.fs && (S.take n).all (Obj.refLt n) then .exc x (S.take n) else .bad) Q := h
      split at h
      · rename_i hc
        rw [Bool.and_eq_true] at hc
        intro F' H' ι' cls d x' rel' er
        have e := tk ι' x'.pre
        have rel2 := Rel.cut (show Rel K (Bof H0 ι0) F' H' ι' col0 [] S [] from rel') n hc.2
        rw [e] at rel2
        exact h F' H' ι cls d ⟨x'.same, List.prefix_refl _, x'.nf⟩ rel2 er
      · exact h.elim
    | ok d S =>
      have h : EK (qC K cl E H0 ι0) F ι (rC fr (qC K cl E H0 ι0)) (if D.refLt n (unref n S d) && (S.take n).all (Obj.refLt n) then .ok (unref n S d) (S.take n) else .bad) Q := h
      split at h
      · rename_i hc
        rw [Bool.and_eq_true] at hc
        intro F' H' ι' v x' rel' er
        have e := tk ι' x'.pre
        have relS : Rel K (Bof H0 ι0) F' H' ι' col0 [] S [] := rel'
        have rel2 := Rel.cut relS n hc.2
        have hs : ∀ a, a ∉ ι' → a ∉ ι := fun a q z => q (x'.pre.subset z)
        have plain : unref n S d = d → Q v H' := fun eu => by
          rw [eu] at h hc
          rw [e] at rel2
          refine h F' H' ι v ⟨x'.same, List.prefix_refl _, x'.nf⟩ rel2 ?_
          cases fr with
          | false =>
            have := Rep.cut (K := K) d v hc.1 er
            rw [e] at this
            exact this
          | true =>
            cases d with
            | lst ds =>
              obtain ⟨a, vs, e1, h1, h2, h3, h4, h5, q⟩ := er
              have := Reps.cut ds vs hc.1 q
              rw [e] at this
              exact ⟨a, vs, e1, h1, h2, h3, h4, hs a h5, this⟩
            | dct ks ds =>
              obtain ⟨a, vs, e1, h1, h2, h3, h4, h5, k, q⟩ := er
              have := Reps.cut ds _ hc.1 q
              rw [e] at this
              exact ⟨a, vs, e1, h1, h2, h3, h4, hs a h5, k, this⟩
            | _ =>
              have := Rep.cut (K := K) (F := F') (ι := ι') _ v hc.1 er
              rw [e] at this
              exact this
        cases d with
        | lst ds =>
          have tr : ∀ a o, F' a = some o → F' a = some o ∨ (H' a = some o ∧ Bof H0 ι0 a = none ∧ a ∈ ι') := fun a o z => .inl z
          have nf2 : ∀ {F2 : Hp}, (∀ a o, F2 a = some o → F' a = some o ∨ (H' a = some o ∧ Bof H0 ι0 a = none ∧ a ∈ ι')) → ∀ a o, F2 a = some o → F a = some o ∨ Bof H0 ι0 a = none := fun t2 a o z => by
            rcases t2 a o z with q | ⟨_, q, _⟩
            · exact x'.nf a o q
            · exact .inr q
          cases fr with
          | false =>
            obtain ⟨a, vs, e1, h1, q⟩ := (show ∃ a vs, v = .ref a ∧ F' a = some (.lst vs) ∧ Reps K F' ι' ds vs from er)
            obtain ⟨F2, r2, s2, _, t2, q2⟩ := unref_ok relS ds vs F' rel2 (Same.refl _) tr q hc.1
            rw [e] at r2 q2
            exact h F2 H' ι v ⟨x'.same.trans s2, List.prefix_refl _, nf2 t2⟩ r2 ⟨a, vs, e1, s2 _ _ h1, q2⟩
          | true =>
            obtain ⟨a, vs, e1, h1, h2, h3, h4, h5, q⟩ := er
            obtain ⟨F2, r2, s2, _, t2, q2⟩ := unref_ok relS ds vs F' rel2 (Same.refl _) tr q hc.1
            rw [e] at r2 q2
            refine h F2 H' ι v ⟨x'.same.trans s2, List.prefix_refl _, nf2 t2⟩ r2 ⟨a, vs, e1, h1, ?_, h3, h4, hs a h5, q2⟩
            cases ef : F2 a with
            | none => rfl
            | some o =>
              rcases t2 a o ef with z | ⟨_, _, z⟩
              · rw [h2] at z; cases z
              · exact absurd z h5
        | _ => exact plain rfl
      · exact h.elim
theorem rel_start {B F H : Hp} {ι : List Addr} {S : Store} {N : List Str} {ds : List D} {vs : List V} {nl : Nat} (rel : Rel K B F H ι col0 [] S []) (r : Reps K F ι ds vs) (hN : N.length = nl) : Rel K B F H ι col0 (IL.start nl ds) S (L2.start N vs) := by
  refine ⟨rel.fh, rel.bh, rel.cf, rel.io, rel.nd, rel.ln, rel.st, ?_, fun i s o h1 h2 => ?_⟩
  · unfold IL.start L2.start
    simp only [List.length_append, List.length_map, List.length_replicate, r.length, hN]
  · unfold IL.start at h1
    unfold L2.start at h2
    have hl := r.length
    by_cases hi : i < ds.length
    · rw [List.getElem?_append_left (by rw [List.length_map]; exact hi), List.getElem?_map] at h1
      rw [List.getElem?_append_left (by rw [List.length_map, hl]; exact hi), List.getElem?_map] at h2
      obtain ⟨d, hd, rfl⟩ := Option.map_eq_some_iff.mp h1
      obtain ⟨v, hv, rv⟩ := r.get hd
      rw [hv] at h2
      cases h2
      exact ⟨v, rfl, rv⟩
    · rw [List.getElem?_append_right (by rw [List.length_map]; omega)] at h1
      have := List.mem_of_getElem? h1
      rw [List.mem_replicate] at this
      rw [this.2]
      trivial
/-- a def's end -/
theorem SK.done {F H0 : Hp} {ι ι0 : List Addr} {fr : Bool} {r : RS} {Q : VK} (h : EK (qC K cl E H0 ι0) F ι (rC fr (qC K cl E H0 ι0)) (done fr r) Q) : SK K cl (fun cls d _ H => E cls d H) (Bof H0 ι0) F ι r { nx := fun _ H' => Q .non H', rt := Q, bk := fun _ _ => False, ct := fun _ _ => False } := by
  cases r with
  | bad => exact h
  | exc x σa S => exact fun F' H' ι' col σ cls d x' rel er => h F' H' ι' cls d x' rel.strip er
  | nx σa S =>
    intro F' H' ι' col σ x' rel
    refine h F' H' ι' .non x' rel.strip ?_
    cases fr <;> rfl
  | rt d o S =>
    have h : EK (qC K cl E H0 ι0) F ι (rC fr (qC K cl E H0 ι0)) (if fr && !o && d.isNode then .bad else .ok d S) Q := h
    cases hb : (fr && !o && d.isNode) with
    | true => rw [hb] at h; exact h.elim
    | false =>
      rw [hb] at h
      have h2 : EK (qC K cl E H0 ι0) F ι (rC fr (qC K cl E H0 ι0)) (.ok d S) Q := h
      clear h
      cases o with
      | true =>
        cases fr with
        | true => exact fun F' H' ι' v x' rel er => h2 F' H' ι' v x' rel er
        | false =>
          have h := EK.frz (show EK (qC K cl E H0 ι0) F ι (rF (qC K cl E H0 ι0)) (.ok d S) Q from h2)
          exact fun F' H' ι' v x' rel er => h F' H' ι' v x' rel er
      | false =>
        cases fr with
        | false => exact fun F' H' ι' v x' rel er => h2 F' H' ι' v x' rel er
        | true =>
          refine fun F' H' ι' v x' rel er => h2 F' H' ι' v x' rel ?_
          cases d with
          | lst ds => cases hb
          | dct ks ds => cases hb
          | _ => exact er
end

/-! ### a def by its text -/
def scB (N P : List Str) (sc : Scope) : Bool :=
  decide (sc.kind = .function) && !sc.isCoroutine && !sc.isGenerator && decide N.Nodup && decide (N.take P.length = P) && P.all (fun x => decide (sc.names.lookup x = some .local) || decide (sc.names.lookup x = some .cell)) && sc.names.all (fun y => !decide (y.2 = .free))
theorem scB_ok {N P : List Str} {sc : Scope} (h : scB N P sc = true) : FnScope N P sc := by
  unfold scB at h
  simp only [Bool.and_eq_true, Bool.not_eq_true', decide_eq_true_eq, List.all_eq_true, Bool.or_eq_true, decide_eq_false_iff_not] at h
  obtain ⟨⟨⟨⟨⟨⟨h1, h2⟩, h3⟩, h4⟩, h5⟩, h6⟩, h7⟩ := h
  exact ⟨h1, h2, h3, h4, h5, h6, h7⟩
/-- what is looked at in a def's text -/
def okDef (fns : List (Str × Nat × Nat)) (cns : List (Str × Nat)) (cs : ClT) (d : Def) (N ps : List Str) (sc : Scope) (body : List Stmt) : Bool :=
  scB N ps sc && decide (ps.length = d.np) && decide (N.length = d.nl) && N.all (fun x => !(x == ("__debug__" : Str)) && !(x == ("__classdict__" : Str))) && mSs d.body ⟨N, sc, fun _ => true, fns, cns, cs⟩ body
section
variable {P : Program} {w : World} {K : PySem.W.Frag} {cl : Cl} {mg : Str → Option Value} {base : Heap}
/-- the module's names, one depth of calls -/
structure Lev (P : Program) (w : World) (K : PySem.W.Frag) (cl : Cl) (mg : Str → Option Value) (base : Heap) (T : Tbl) (fns : List (Str × Nat × Nat)) (cns : List (Str × Nat)) (cs : ClT) (n : Nat) : Prop where
  fns : ∀ x f np, fns.lookup x = some (f, np) → (x == ("__debug__" : Str)) = false ∧ ∃ fa fd ps, mg x = some (.ref fa) ∧ PySem.W.keepIn K (.ref fa) = true ∧ Binds K fd ps [] ∧ FnOk P w K mg base (L2N.CX P w) (2 * n) fa fd ps (spI K cl np (frOf T f) (call T n f))
  cns : ∀ x i, cns.lookup x = some i → (x == ("__debug__" : Str)) = false ∧ ∃ v u d, mg x = some u ∧ RelV v u ∧ T.con i = some d ∧ ∀ F ι, Rep K F ι d v
  free : ∀ x ∈ bltNs, mg x = none
  mts : ∀ c m f np, cs.mts.lookup (c, m) = some (f, np) → ∃ fa fd ps, Cls K (cad K c) ∧ Meth K (cad K c) m fa ∧ Binds K fd ps [] ∧ FnOk P w K mg base (L2N.CX P w) (2 * n) fa fd ps (spI K cl np (frOf T f) (call T n f))
  mks : ∀ x c f np, cs.mks.lookup x = some (c, f, np) → (x == ("__debug__" : Str)) = false ∧ ∃ fa fd ps, mg x = some (.ref (cad K c)) ∧ L2.Mk K (cad K c) fa ∧ Binds K fd ps [] ∧ FnOk P w K mg base (L2N.CX P w) (2 * n) fa fd ps (spI K cl np (frOf T f) (call T n f))
  fds : ∀ c f, (c, f) ∈ cs.fds → Cls K (cad K c) ∧ NoAttr K (cad K c) (fnm f)
  exs : ∀ x c, cs.exs.lookup x = some c → ExcR1 K mg x c
  hns : ∀ x c, cs.hns.lookup x = some c → ExcH1 K mg x c
  kin : ∀ x, cs.kin = some x → (x == ("__debug__" : Str)) = false ∧ ∃ f fd, mg x = some (.ref f) ∧ PySem.W.keepIn K (.ref f) = true ∧ Binds K fd ["_law_e"] [] ∧ FnK P w K mg base (L2N.CX P w) (2 * n + 1) f fd
theorem def_ok {T : Tbl} {fns : List (Str × Nat × Nat)} {cns : List (Str × Nat)} {cs : ClT} {n id : Nat} {d : Def} {x qual : Str} {params : Arguments} {body : List Stmt} {sc : Scope} {kws : List (Str × V)} {fa : Addr} {fd : FuncData} {N ps : List Str}
    (L : Lev P w K cl mg base T fns cns cs n) (hT : T.defs id = some d) (F : FunD K x qual params body sc [] kws fa fd) (h : okDef fns cns cs d N ps sc body = true) : FnOk P w K mg base (L2N.CX P w) (2 * (n + 1)) fa fd ps (spI K cl d.np d.fr (call T (n + 1) id)) := by
  unfold okDef at h
  simp only [Bool.and_eq_true, decide_eq_true_eq, List.all_eq_true, Bool.not_eq_true'] at h
  obtain ⟨⟨⟨⟨h1, h2⟩, h3⟩, h4⟩, h5⟩ := h
  have S := scB_ok h1
  refine F.ok S (fun vs H Q E q => q.1.trans h2.symm) fun cdv A outer s H vs Q E hr q => ?_
  generalize hX : cxOf (L2N.CX P w) P w K mg base N qual sc fa cdv A outer s H E = X
  have hs : X.stack = X.env :: X.outer := by rw [← hX]; rfl
  have hf : X.env.frame = some X.env.locals := by rw [← hX]; rfl
  have hex : X.ex = [] := by rw [← hX]; rfl
  have tk : L2N.Takes X (fun cls d _ H => E cls d H) := by
    rw [← hX]
    exact L2N.takes_of (E := E) rfl rfl rfl rfl
  have own : PassesOwn (model X.prog X.w) X.A X.env X.xe := by
    rw [← hX]
    exact passes_of rfl
  have c : Cxt ⟨N, sc, fun _ => true, fns, cns, cs⟩ X K cl (fun cls d _ H => E cls d H) (T.G n) (L2N.CX P w) (2 * n) := by
    subst hX
    exact {
      hK := rfl
      nd := S.nd
      hN := rfl
      sc := rfl
      fn := fun _ _ => rfl
      calm := rfl
      room := hr
      pass := fun σ => L2N.passAt tk σ
      cxF := fun outer H s e s' ⟨_, _, _, _, _, _, _, _, _, _, _, _, z⟩ => z
      names := fun x hx => h4 x hx
      fns := L.fns
      cns := L.cns
      free := L.free
      mts := L.mts
      mks := L.mks
      fds := L.fds
      exs := L.exs
      hns := L.hns
      kin := fun x h => ⟨(L.kin x h).1, (L.kin x h).2⟩
      cx := rfl }
  refine ⟨_, m_ss K cl (T.G n) (L2N.CX P w) (2 * n) d.body c own ⟨tk, hs, hf⟩ h5, ?_⟩
  obtain ⟨hl, F0, ι, S0, ds, rel, reps, h⟩ := q
  refine ⟨Bof H ι, col0, IL.start d.nl ds, F0, ι, S0, rel_start rel reps h3, ?_⟩
  rw [call_succ, hT] at h
  have hd : ds.length = d.np := by rw [← reps.length]; exact hl
  have h : EK (qC K cl E H ι) F0 ι (rC d.fr (qC K cl E H ι)) (if ds.length = d.np then drop d.dr S0.length (done d.fr (execs (T.G n) d.body (IL.start d.nl ds) S0)) else .bad) Q := h
  rw [if_pos hd] at h
  exact SK.done (EK.undrop rel.ln.symm h)
end
end IL
/-! Soundness, part T: a module's defs, a law. -/
namespace IL
open PySem L2

def AllN (mg : Str → Option Value) : List Str → Prop
  | [] => True
  | x :: r => mg x = none ∧ AllN mg r
theorem AllN.of {mg : Str → Option Value} : ∀ {l : List Str}, AllN mg l → ∀ x ∈ l, mg x = none
  | y :: r, ⟨h1, h2⟩, x, h => by
    rcases List.mem_cons.mp h with e | e
    · rw [e]; exact h1
    · exact AllN.of h2 x e
/-- a def of the module -/
structure DefF (K : PySem.W.Frag) (mg : Str → Option Value) (T : Tbl) (fns : List (Str × Nat × Nat)) (cns : List (Str × Nat)) (cs : ClT) (x : Str) (id np : Nat) : Prop where
  ex : ∃ (fa : Addr) (fd : FuncData) (ps N : List Str) (d : Def) (params : Arguments) (body : List Stmt) (sc : Scope), mg x = some (.ref fa) ∧ PySem.W.keepIn K (.ref fa) = true ∧ Binds K fd ps [] ∧ FunD K x x params body sc [] [] fa fd ∧ T.defs id = some d ∧ okDef fns cns cs d N ps sc body = true ∧ d.np = np ∧ (x == ("__debug__" : Str)) = false
def AllF (K : PySem.W.Frag) (mg : Str → Option Value) (T : Tbl) (fns : List (Str × Nat × Nat)) (cns : List (Str × Nat)) (cs : ClT) : List (Str × Nat × Nat) → Prop
  | [] => True
  | e :: r => DefF K mg T fns cns cs e.1 e.2.1 e.2.2 ∧ AllF K mg T fns cns cs r
theorem AllF.of {K : PySem.W.Frag} {mg : Str → Option Value} {T : Tbl} {fns : List (Str × Nat × Nat)} {cns : List (Str × Nat)} {cs : ClT} : ∀ {l : List (Str × Nat × Nat)}, AllF K mg T fns cns cs l → ∀ x f np, l.lookup x = some (f, np) → DefF K mg T fns cns cs x f np
  | [], _, _, _, _, h => by cases h
  | (y, f', np') :: r, ⟨h1, h2⟩, x, f, np, h => by
    rw [List.lookup_cons] at h
    cases e : (x == y) with
    | true =>
      rw [e] at h
      cases h
      rw [eq_of_beq e]
      exact h1
    | false =>
      rw [e] at h
      exact AllF.of h2 x f np h
/-- a constant of the module -/
def ConF (K : PySem.W.Frag) (mg : Str → Option Value) (T : Tbl) (x : Str) (i : Nat) : Prop := (x == ("__debug__" : Str)) = false ∧ ∃ v u d, mg x = some u ∧ RelV v u ∧ T.con i = some d ∧ ∀ F ι, Rep K F ι d v
def AllC (K : PySem.W.Frag) (mg : Str → Option Value) (T : Tbl) : List (Str × Nat) → Prop
  | [] => True
  | e :: r => ConF K mg T e.1 e.2 ∧ AllC K mg T r
theorem AllC.of {K : PySem.W.Frag} {mg : Str → Option Value} {T : Tbl} : ∀ {l : List (Str × Nat)}, AllC K mg T l → ∀ x i, l.lookup x = some i → ConF K mg T x i
  | [], _, _, _, h => by cases h
  | (y, i') :: r, ⟨h1, h2⟩, x, i, h => by
    rw [List.lookup_cons] at h
    cases e : (x == y) with
    | true =>
      rw [e] at h
      cases h
      rw [eq_of_beq e]
      exact h1
    | false =>
      rw [e] at h
      exact AllC.of h2 x i h
theorem conS {K : PySem.W.Frag} {mg : Str → Option Value} {T : Tbl} {x z : Str} {l : List Nat} {i : Nat} (h : ∃ t, mg x = some (.str z t)) (hz : z = ⟨l.toArray⟩) (hc : T.con i = some (.str l)) (hd : (x == ("__debug__" : Str)) = false) : ConF K mg T x i := by
  obtain ⟨t, e⟩ := h
  subst hz
  exact ⟨hd, .str ⟨l.toArray⟩, _, _, e, ⟨t, rfl⟩, hc, fun _ _ => rfl⟩
theorem conI {K : PySem.W.Frag} {mg : Str → Option Value} {T : Tbl} {x : Str} {z : Int} {i : Nat} (h : ∃ t, mg x = some (.int z t)) (hc : T.con i = some (.int z)) (hd : (x == ("__debug__" : Str)) = false) : ConF K mg T x i := by
  obtain ⟨t, e⟩ := h
  exact ⟨hd, .int z, _, _, e, ⟨t, rfl⟩, hc, fun _ _ => rfl⟩
/-- a method -/
structure MthF (K : PySem.W.Frag) (T : Tbl) (fns : List (Str × Nat × Nat)) (cns : List (Str × Nat)) (cs : ClT) (c : Nat) (m : Str) (id np : Nat) : Prop where
  ex : ∃ (fa : Addr) (fd : FuncData) (ps N : List Str) (d : Def) (params : Arguments) (body : List Stmt) (sc : Scope) (x qual : Str), Cls K (cad K c) ∧ Meth K (cad K c) m fa ∧ Binds K fd ps [] ∧ FunD K x qual params body sc [] [] fa fd ∧ T.defs id = some d ∧ okDef fns cns cs d N ps sc body = true ∧ d.np = np
def AllM (K : PySem.W.Frag) (T : Tbl) (fns : List (Str × Nat × Nat)) (cns : List (Str × Nat)) (cs : ClT) : List ((Nat × Str) × Nat × Nat) → Prop
  | [] => True
  | e :: r => MthF K T fns cns cs e.1.1 e.1.2 e.2.1 e.2.2 ∧ AllM K T fns cns cs r
theorem AllM.of {K : PySem.W.Frag} {T : Tbl} {fns : List (Str × Nat × Nat)} {cns : List (Str × Nat)} {cs : ClT} : ∀ {l : List ((Nat × Str) × Nat × Nat)}, AllM K T fns cns cs l → ∀ c m f np, l.lookup (c, m) = some (f, np) → MthF K T fns cns cs c m f np
  | [], _, _, _, _, _, h => by cases h
  | ((c', m'), f', np') :: r, ⟨h1, h2⟩, c, m, f, np, h => by
    rw [List.lookup_cons] at h
    cases e : ((c, m) == (c', m')) with
    | true =>
      rw [e] at h
      cases h
      have := eq_of_beq e
      cases this
      exact h1
    | false =>
      rw [e] at h
      exact AllM.of h2 c m f np h
/-- a make of a class -/
structure MkF (K : PySem.W.Frag) (mg : Str → Option Value) (T : Tbl) (fns : List (Str × Nat × Nat)) (cns : List (Str × Nat)) (cs : ClT) (x : Str) (c id np : Nat) : Prop where
  ex : ∃ (fa : Addr) (fd : FuncData) (ps N : List Str) (d : Def) (params : Arguments) (body : List Stmt) (sc : Scope) (y qual : Str), mg x = some (.ref (cad K c)) ∧ L2.Mk K (cad K c) fa ∧ Binds K fd ps [] ∧ FunD K y qual params body sc [] [] fa fd ∧ T.defs id = some d ∧ okDef fns cns cs d N ps sc body = true ∧ d.np = np ∧ (x == ("__debug__" : Str)) = false
def AllK (K : PySem.W.Frag) (mg : Str → Option Value) (T : Tbl) (fns : List (Str × Nat × Nat)) (cns : List (Str × Nat)) (cs : ClT) : List (Str × Nat × Nat × Nat) → Prop
  | [] => True
  | e :: r => MkF K mg T fns cns cs e.1 e.2.1 e.2.2.1 e.2.2.2 ∧ AllK K mg T fns cns cs r
theorem AllK.of {K : PySem.W.Frag} {mg : Str → Option Value} {T : Tbl} {fns : List (Str × Nat × Nat)} {cns : List (Str × Nat)} {cs : ClT} : ∀ {l : List (Str × Nat × Nat × Nat)}, AllK K mg T fns cns cs l → ∀ x c f np, l.lookup x = some (c, f, np) → MkF K mg T fns cns cs x c f np
  | [], _, _, _, _, _, h => by cases h
  | (y, c', f', np') :: r, ⟨h1, h2⟩, x, c, f, np, h => by
    rw [List.lookup_cons] at h
    cases e : (x == y) with
    | true =>
      rw [e] at h
      cases h
      rw [eq_of_beq e]
      exact h1
    | false =>
      rw [e] at h
      exact AllK.of h2 x c f np h
def AllD (K : PySem.W.Frag) : List (Nat × Nat) → Prop
  | [] => True
  | e :: r => (Cls K (cad K e.1) ∧ NoAttr K (cad K e.1) (fnm e.2)) ∧ AllD K r
theorem AllD.of {K : PySem.W.Frag} : ∀ {l : List (Nat × Nat)}, AllD K l → ∀ c f, (c, f) ∈ l → Cls K (cad K c) ∧ NoAttr K (cad K c) (fnm f)
  | e :: r, ⟨h1, h2⟩, c, f, h => by
    rcases List.mem_cons.mp h with q | q
    · rw [← q] at h1; exact h1
    · exact AllD.of h2 c f q
def AllE (K : PySem.W.Frag) (mg : Str → Option Value) : List (Str × Nat) → Prop
  | [] => True
  | e :: r => ExcR1 K mg e.1 e.2 ∧ AllE K mg r
theorem AllE.of {K : PySem.W.Frag} {mg : Str → Option Value} : ∀ {l : List (Str × Nat)}, AllE K mg l → ∀ x c, l.lookup x = some c → ExcR1 K mg x c
  | [], _, _, _, h => by cases h
  | (y, c') :: r, ⟨h1, h2⟩, x, c, h => by
    rw [List.lookup_cons] at h
    cases e : (x == y) with
    | true => rw [e] at h; cases h; rw [eq_of_beq e]; exact h1
    | false => rw [e] at h; exact AllE.of h2 x c h
def AllH (K : PySem.W.Frag) (mg : Str → Option Value) : List (Str × Nat) → Prop
  | [] => True
  | e :: r => ExcH1 K mg e.1 e.2 ∧ AllH K mg r
theorem AllH.of {K : PySem.W.Frag} {mg : Str → Option Value} : ∀ {l : List (Str × Nat)}, AllH K mg l → ∀ x c, l.lookup x = some c → ExcH1 K mg x c
  | [], _, _, _, h => by cases h
  | (y, c') :: r, ⟨h1, h2⟩, x, c, h => by
    rw [List.lookup_cons] at h
    cases e : (x == y) with
    | true => rw [e] at h; cases h; rw [eq_of_beq e]; exact h1
    | false => rw [e] at h; exact AllH.of h2 x c h
/-- the def that tells a refusal, at every depth -/
structure KinG (K : PySem.W.Frag) (mg : Str → Option Value) (x : Str) : Prop where
  dbg : (x == ("__debug__" : Str)) = false
  ex : ∃ f fd, mg x = some (.ref f) ∧ PySem.W.keepIn K (.ref f) = true ∧ Binds K fd ["_law_e"] [] ∧ ∀ (P : Program) (w : World) (base : Heap) (CX : CXT) (k : Nat), FnK P w K mg base CX (k + 1) f fd
def AllG (K : PySem.W.Frag) (mg : Str → Option Value) : List Nat → Prop
  | [] => True
  | d :: r => mg (xnm d) = some (.ref (xad K d)) ∧ AllG K mg r
theorem AllG.of {K : PySem.W.Frag} {mg : Str → Option Value} : ∀ {l : List Nat}, AllG K mg l → ∀ d ∈ l, mg (xnm d) = some (.ref (xad K d))
  | e :: r, ⟨h1, h2⟩, d, h => by
    rcases List.mem_cons.mp h with q | q
    · rw [q]; exact h1
    · exact AllG.of h2 d q
theorem kin_g {K : PySem.W.Frag} {mg : Str → Option Value} {x name qual : Str} {params : Arguments} {body : List Stmt} {scope : Scope} {f : Addr} {fd : FuncData} (hd : (x == ("__debug__" : Str)) = false) (hm : mg x = some (.ref f)) (F : FunD K name qual params body scope [] [] f fd) (hb : Binds K fd ["_law_e"] [])
    (S : scB kN ["_law_e"] scope = true) (ef : ExcF K) (kb : kinB scope body = true) (hl : (lcB scope "_law_found" && lcB scope "_law_words") = true)
    (free : AllN mg ["isinstance", "ValueError", "range"]) (cls : AllG K mg (List.range 17)) : KinG K mg x := by
  refine ⟨hd, f, fd, hm, F.kp, hb, fun P w base CX k => ?_⟩
  rw [Bool.and_eq_true] at hl
  exact kin_fn F (scB_ok S) ef kb hl (free.of) fun d hd' => cls.of d (List.mem_range.mpr hd')
/-- the classes' part -/
structure AllX (K : PySem.W.Frag) (mg : Str → Option Value) (T : Tbl) (fns : List (Str × Nat × Nat)) (cns : List (Str × Nat)) (cs : ClT) : Prop where
  m : AllM K T fns cns cs cs.mts
  k : AllK K mg T fns cns cs cs.mks
  d : AllD K cs.fds
  e : AllE K mg cs.exs
  h : AllH K mg cs.hns
  g : ∀ x, cs.kin = some x → KinG K mg x
theorem nul_ok {P : Program} {w : World} {K : PySem.W.Frag} {cl : Cl} {mg : Str → Option Value} {base : Heap} {CX : CXT} {k np : Nat} {fr : Bool} {fa : Addr} {fd : FuncData} {ps : List Str} : FnOk P w K mg base CX k fa fd ps (spI K cl np fr fun _ _ => .bad) :=
  ⟨fun vs H Q E q => by obtain ⟨_, F, ι, S, ds, _, _, q⟩ := q; exact q.elim, fun A outer s H args us vs Q E _ _ _ _ q => by obtain ⟨_, F, ι, S, ds, _, _, q⟩ := q; exact q.elim⟩
theorem levs {P : Program} {w : World} {K : PySem.W.Frag} {cl : Cl} {mg : Str → Option Value} {base : Heap} {T : Tbl} {fns : List (Str × Nat × Nat)} {cns : List (Str × Nat)} {cs : ClT} (hf : AllF K mg T fns cns cs fns) (hc : AllC K mg T cns) (hn : AllN mg bltNs) (hx : AllX K mg T fns cns cs) : ∀ n, Lev P w K cl mg base T fns cns cs n
  | 0 => by
    refine ⟨fun x f np h => ?_, hc.of, hn.of, fun c m f np h => ?_, fun x c f np h => ?_, hx.d.of, hx.e.of, hx.h.of, fun x h => ⟨(hx.g x h).dbg, let ⟨f, fd, h1, h2, h3, h4⟩ := (hx.g x h).ex; ⟨f, fd, h1, h2, h3, h4 _ _ _ _ _⟩⟩⟩
    · obtain ⟨fa, fd, ps, N, d, params, body, sc, h1, h2, h3, h4, h5, h6, h7, h8⟩ := (hf.of x f np h).ex
      exact ⟨h8, fa, fd, ps, h1, h2, h3, nul_ok⟩
    · obtain ⟨fa, fd, ps, N, d, params, body, sc, x, qual, h1, h2, h3, h4, h5, h6, h7⟩ := (hx.m.of c m f np h).ex
      exact ⟨fa, fd, ps, h1, h2, h3, nul_ok⟩
    · obtain ⟨fa, fd, ps, N, d, params, body, sc, y, qual, h1, h2, h3, h4, h5, h6, h7, h8⟩ := (hx.k.of x c f np h).ex
      exact ⟨h8, fa, fd, ps, h1, h2, h3, nul_ok⟩
  | n + 1 => by
    have L := levs (P := P) (w := w) (cl := cl) (base := base) hf hc hn hx n
    refine ⟨fun x f np h => ?_, hc.of, hn.of, fun c m f np h => ?_, fun x c f np h => ?_, hx.d.of, hx.e.of, hx.h.of, fun x h => ⟨(hx.g x h).dbg, let ⟨f, fd, h1, h2, h3, h4⟩ := (hx.g x h).ex; ⟨f, fd, h1, h2, h3, h4 _ _ _ _ _⟩⟩⟩
    · obtain ⟨fa, fd, ps, N, d, params, body, sc, h1, h2, h3, h4, h5, h6, h7, h8⟩ := (hf.of x f np h).ex
      refine ⟨h8, fa, fd, ps, h1, h2, h3, ?_⟩
      have e : frOf T f = d.fr := by unfold frOf; rw [h5]
      rw [e, ← h7]
      exact def_ok L h5 h4 h6
    · obtain ⟨fa, fd, ps, N, d, params, body, sc, x, qual, h1, h2, h3, h4, h5, h6, h7⟩ := (hx.m.of c m f np h).ex
      refine ⟨fa, fd, ps, h1, h2, h3, ?_⟩
      have e : frOf T f = d.fr := by unfold frOf; rw [h5]
      rw [e, ← h7]
      exact def_ok L h5 h4 h6
    · obtain ⟨fa, fd, ps, N, d, params, body, sc, y, qual, h1, h2, h3, h4, h5, h6, h7, h8⟩ := (hx.k.of x c f np h).ex
      refine ⟨h8, fa, fd, ps, h1, h2, h3, ?_⟩
      have e : frOf T f = d.fr := by unfold frOf; rw [h5]
      rw [e, ← h7]
      exact def_ok L h5 h4 h6
theorem bind_cut {K : PySem.W.Frag} {fd : FuncData} {x : Str} (b : ∀ (s : Shared) (us : List Value), us.length = 1 → BindsTo s fd ⟨us, []⟩ ([x].zip us)) (s : Shared) (u : Value) : BindsTo s fd ⟨[u], []⟩ [(x, u)] := b s [u] rfl
/-- what the law's def promises at a script -/
theorem law_sp {K : PySem.W.Frag} {cl : Cl} {fr : Bool} {c : List D → Store → R D} {n : Nat} (h : ∀ ns : List Int, ns.length ≤ n → ∃ S, c [.scr (ns.map .int)] [] = .ok (.bl true) S) (H : Hp) (a : Addr) (ns : List Int) (hl : ns.length ≤ n) (hS : SqL K H a (ns.map V.int)) :
    spI K cl 1 fr c [.ref a] H (fun v _ => v = .bl true) fun _ _ _ => False := by
  refine ⟨rfl, H, [], [], [.scr (ns.map .int)], ⟨fun a o e => .inl e, fun a o e => ?_, fun a c e => (nomatch e), fun a h => (nomatch h), List.nodup_nil, rfl, fun n o a e => (nomatch (show none = some o by simpa using e)), rfl, fun i s o e => (nomatch (show none = some s by simpa using e))⟩, ⟨.ref a, [], rfl, ⟨a, _, rfl, hS, Reps.map (f := D.int) (g := V.int) (fun i => rfl) ns⟩, rfl⟩, ?_⟩
  · rw [Bof_out (by simp)] at e; exact e
  · obtain ⟨S, e⟩ := h ns hl
    rw [e]
    intro F' H' ι' v x rel r
    cases fr <;> exact r
/-- what may be let out, of any world -/
def CXe : CXT := fun outer H s E u s' => ∃ (P : Program) (w : World), L2N.CX P w outer H s E u s'
theorem cx_any {P : Program} {w : World} {K : PySem.W.Frag} {mg : Str → Option Value} {base : Heap} {k : Nat} {f : Addr} {fd : FuncData} {ps : List Str} {sp : Sp} (F : FnOk P w K mg base (L2N.CX P w) k f fd ps sp) : FnOk P w K mg base CXe k f fd ps sp :=
  ⟨F.len, fun A outer s H args us vs Q E h1 h2 h3 h4 h5 => codeAny_mono (F.run A outer s H args us vs Q E h1 h2 h3 h4 h5) fun r s' q => by
    cases r with
    | error e => exact ⟨P, w, q⟩
    | ok fl =>
      cases fl with
      | ret u => exact q
      | _ => exact q⟩
theorem cxe_none (H : Hp) (s : Shared) (e : Value) (s' : Shared) (h : CXe [] H s (fun _ _ _ => False) e s') : False := by
  obtain ⟨P, w, _, _, _, _, _, _, _, _, _, _, _, _, z⟩ := h
  exact z
/-! ### the refusals' classes, told by the head's run -/
def excCB (K : PySem.W.Frag) (D : Addr) : Bool :=
  He.eqO (PySem.W.findIn K (.ref D) "__getattribute__") (some (some (.builtin "BaseException.__getattribute__"))) && (He.eqO (PySem.W.findIn K (.ref D) "__getattr__") (some none) && (decide (PySem.W.subIn K (.ref D) (.type "BaseException") = some true) && (PySem.W.hasDictIn K D &&
  (He.eqO (PySem.W.findIn K (.ref D) "__class__") (some (some (.builtin "object.__class__"))) && (He.eqO (PySem.W.specialIn K (.builtin "object.__class__") "__get__") (some (some (.builtin "getset_descriptor.__get__"))) && (decide (PySem.W.takesIn K (.builtin "object.__class__") = some true) && decide (PySem.W.mroIn K D (.type "object") = some true)))))))
theorem excC_of {K : PySem.W.Frag} {D : Addr} (h : excCB K D = true) : ExcC K D := by
  obtain ⟨h1, h⟩ := He.ba h
  obtain ⟨h2, h⟩ := He.ba h
  obtain ⟨h3, h⟩ := He.ba h
  obtain ⟨h4, h⟩ := He.ba h
  obtain ⟨h5, h⟩ := He.ba h
  obtain ⟨h6, h⟩ := He.ba h
  obtain ⟨h7, h8⟩ := He.ba h
  exact ⟨He.eqO_ok h1, He.eqO_ok h2, of_decide_eq_true h3, h4, He.eqO_ok h5, He.eqO_ok h6, of_decide_eq_true h7, of_decide_eq_true h8⟩
def excOk (K : PySem.W.Frag) : Bool := (List.range 17).all fun c => excCB K (xad K c) && (((List.range 17).all fun d => decide (PySem.W.kitOne K (.ref (xad K c)) (.ref (xad K d)) = some (decide (c = d)))) && decide (PySem.W.kitOne K (.ref (xad K c)) (.type "ValueError") = some true))
theorem excF_of {K : PySem.W.Frag} (h : excOk K = true) : ExcF K := by
  have g : ∀ c < 17, _ := fun c hc => He.ba (List.all_eq_true.mp h c (List.mem_range.mpr hc))
  exact ⟨fun c hc => excC_of (g c hc).1, fun c hc d hd => of_decide_eq_true (List.all_eq_true.mp (He.ba (g c hc).2).1 d (List.mem_range.mpr hd)), fun c hc => of_decide_eq_true (He.ba (g c hc).2).2⟩
def obsX (n : Nat) (fa : List He.Fa) (fn : List He.DefD) (g : Addr → Option PySem.Obj) : He.AlD :=
  (((fa.all fun f => f.ok (He.frG g (He.asD g n))) && (fn.all fun d => d.ok (He.frG g (He.asD g n)))) && excOk (He.frG g (He.asD g n)), fn.map fun d => He.fnW (He.frG g (He.asD g n)) d.at_)
theorem obsX_says {n : Nat} {fa : List He.Fa} {fn : List He.DefD} {g : Addr → Option PySem.Obj} (e : obsX n fa fn g = He.valD fn) : He.SaysD fa fn (He.frG g (He.asD g n)) ∧ ExcF (He.frG g (He.asD g n)) := by
  have e1 : (((fa.all fun f => f.ok (He.frG g (He.asD g n))) && (fn.all fun d => d.ok (He.frG g (He.asD g n)))) && excOk (He.frG g (He.asD g n))) = true := congrArg (fun z : He.AlD => z.1) e
  have e2 : fn.map (fun d => He.fnW (He.frG g (He.asD g n)) d.at_) = fn.map He.DefD.val := congrArg (fun z : He.AlD => z.2) e
  obtain ⟨a1, a2⟩ := He.ba e1
  refine ⟨?_, excF_of a2⟩
  show ((fa.all fun f => f.ok (He.frG g (He.asD g n))) && (fn.all fun d => d.ok (He.frG g (He.asD g n))), fn.map fun d => He.fnW (He.frG g (He.asD g n)) d.at_) = (true, fn.map He.DefD.val)
  rw [a1, e2]
def hookX (n : Nat) (fa : List He.Fa) (fn : List He.DefD) : PySem.W.Hook where
  α := He.AlD
  obs := fun s => obsX n fa fn s.heap.get?
  val := fun _ => He.valD fn
  says := fun _ h => ∃ K : PySem.W.Frag, K.In h ∧ He.SaysD fa fn K ∧ ExcF K
  of := fun _ _ e => ⟨_, He.frG_in, obsX_says e⟩
  keeps := fun _ _ _ ⟨K, hK, c⟩ k => ⟨K, PySem.W.Frag.In.keeps hK k, c⟩
theorem obsX_eq {n : Nat} {fa : List He.Fa} {fn : List He.DefD} {g : Addr → Option PySem.Obj} {s : Shared} (h : ∀ a, g a = s.heap.get? a) : obsX n fa fn g = (hookX n fa fn).obs s := by
  have e : g = s.heap.get? := funext h
  rw [e] <;> rfl
/-- the facts of one class, from the head's -/
theorem excR_of {K : PySem.W.Frag} {h : Heap} {mg : Str → Option Value} {c : Nat} {x : Str} (X : K.In h) (G : h.Ns mainGlobals mg) (lt : c < 17) (hx : xnm c = x) (g : (He.Fa.glo x).ok K = true) (e : (He.Fa.exc x).ok K = true) : ExcR1 K mg x c := by
  subst hx
  obtain ⟨e1, e2, e3, e4⟩ := He.exc_ok e
  exact ⟨lt, xnm_dbg c lt, He.glo_ok X G g, e2, e1, e3, e4⟩
def AllMb (K : PySem.W.Frag) (y : Str) : List (Str × Bool) → Prop
  | [] => True
  | e :: r => PySem.W.exmOne K (.ref (He.ga K e.1)) (.ref (He.ga K y)) = some e.2 ∧ AllMb K y r
theorem AllMb.of {K : PySem.W.Frag} {y : Str} : ∀ {l : List (Str × Bool)}, AllMb K y l → ∀ e ∈ l, PySem.W.exmOne K (.ref (He.ga K e.1)) (.ref (He.ga K y)) = some e.2
  | e :: r, ⟨h1, h2⟩, d, h => by
    rcases List.mem_cons.mp h with q | q
    · rw [q]; exact h1
    · exact AllMb.of h2 d q
theorem excH_of {K : PySem.W.Frag} {h : Heap} {mg : Str → Option Value} {c : Nat} {y : Str} (l : List (Str × Bool)) (X : K.In h) (G : h.Ns mainGlobals mg) (hd : (y == ("__debug__" : Str)) = false) (hx : xnm c = y) (hl : ((List.range 17).all fun d => decide ((xnm d, subX d c) ∈ l)) = true) (g : (He.Fa.glo y).ok K = true) (a : AllMb K y l) : ExcH1 K mg y c := by
  subst hx
  exact ⟨hd, He.glo_ok X G g, fun d hd' => a.of _ (of_decide_eq_true (List.all_eq_true.mp hl d (List.mem_range.mpr hd')))⟩
/-- what the module's names of the classes hold -/
def AllGs (K : PySem.W.Frag) (mg : Str → Option Value) : List Str → Prop
  | [] => True
  | x :: r => mg x = some (.ref (He.ga K x)) ∧ AllGs K mg r
theorem AllGs.of {K : PySem.W.Frag} {mg : Str → Option Value} : ∀ {l : List Str}, AllGs K mg l → ∀ x ∈ l, mg x = some (.ref (He.ga K x))
  | e :: r, ⟨h1, h2⟩, d, h => by
    rcases List.mem_cons.mp h with q | q
    · rw [q]; exact h1
    · exact AllGs.of h2 d q
theorem allG_of {K : PySem.W.Frag} {mg : Str → Option Value} (l : List Str) (hl : ((List.range 17).all fun d => decide (xnm d ∈ l)) = true) (a : AllGs K mg l) : ∀ m : List Nat, (∀ d ∈ m, d < 17) → AllG K mg m
  | [], _ => trivial
  | d :: m, h => ⟨a.of _ (of_decide_eq_true (List.all_eq_true.mp hl d (List.mem_range.mpr (h d List.mem_cons_self)))), allG_of l hl a m fun x hx => h x (List.mem_cons_of_mem _ hx)⟩
end IL
/-! Plain laws, part 0: the evaluator's equations. -/
namespace IL
theorem e_v (G : G) (σ : List Slot) (i : Nat) (S : Store) : evalE G σ (.v i) S = ((match σ[i]? with
    | some (.val d) => .ok d S
    | _ => .bad)) := rfl
theorem e_pk (G : G) (σ : List Slot) (i : Nat) (S : Store) : evalE G σ (.pk i) S = ((match σ[i]? with
    | some (.own d) => .ok d S
    | _ => .bad)) := rfl
theorem e_k (G : G) (σ : List Slot) (d : D) (S : Store) : evalE G σ (.k d) S = (.ok d S) := rfl
theorem e_g (G : G) (σ : List Slot) (x : Nat) (S : Store) : evalE G σ (.g x) S = (.of (G.con x) S) := rfl
theorem e_bin (G : G) (σ : List Slot) (o : Bop) (a b : E) (S : Store) : evalE G σ (.bin o a b) S = ((evalE G σ a S).bind fun x S1 => (evalE G σ b S1).bind fun y S2 => .of (bop o x y S2) S2) := rfl
theorem e_chn (G : G) (σ : List Slot) (a b c : E) (S : Store) : evalE G σ (.chn a b c) S = ((evalE G σ a S).bind fun x S1 => (evalE G σ b S1).bind fun y S2 => (match x, y with
    | .int i, .int j => if i ≤ j then (evalE G σ c S2).bind fun z S3 => (match z with
      | .int k => .ok (.bl (decide (j ≤ k))) S3
      | _ => .bad) else .ok (.bl false) S2
    | _, _ => .bad)) := rfl
theorem e_isn (G : G) (σ : List Slot) (a : E) (S : Store) : evalE G σ (.isn a) S = ((evalE G σ a S).bind fun x S1 => .ok (.bl (isN x)) S1) := rfl
theorem e_ntn (G : G) (σ : List Slot) (a : E) (S : Store) : evalE G σ (.ntn a) S = ((evalE G σ a S).bind fun x S1 => .ok (.bl (!isN x)) S1) := rfl
theorem e_neg (G : G) (σ : List Slot) (a : E) (S : Store) : evalE G σ (.neg a) S = ((evalE G σ a S).bind fun x S1 => (match x with
    | .int i => .ok (.int (-i)) S1
    | _ => .bad)) := rfl
theorem e_not (G : G) (σ : List Slot) (a : E) (S : Store) : evalE G σ (.not a) S = ((evalE G σ a S).bind fun x S1 => (match x with
    | .bl b => .ok (.bl (!b)) S1
    | _ => .bad)) := rfl
theorem e_and (G : G) (σ : List Slot) (es : Es) (S : Store) : evalE G σ (.and es) S = (evalAnd G σ es S) := rfl
theorem e_or (G : G) (σ : List Slot) (es : Es) (S : Store) : evalE G σ (.or es) S = (evalOr G σ es S) := rfl
theorem e_ite (G : G) (σ : List Slot) (c a b : E) (S : Store) : evalE G σ (.ite c a b) S = ((evalE G σ c S).bind fun x S1 => (match x with
    | .bl t => if t then evalE G σ a S1 else evalE G σ b S1
    | _ => .bad)) := rfl
theorem e_tup (G : G) (σ : List Slot) (es : Es) (S : Store) : evalE G σ (.tup es) S = (if es.anyPk then .bad else (evalEs G σ es S).bind fun ds S1 => .ok (.tup ds) S1) := rfl
theorem e_lst (G : G) (σ : List Slot) (es : Es) (S : Store) : evalE G σ (.lst es) S = (if es.anyPk then .bad else (evalEs G σ es S).bind fun ds S1 => .ok (.lst ds) S1) := rfl
theorem e_dct0 (G : G) (σ : List Slot)  (S : Store) : evalE G σ (.dct0) S = (.ok (.dct [] []) S) := rfl
theorem e_dctd (G : G) (σ : List Slot) (es : Es) (b : Bool) (S : Store) : evalE G σ (.dctd es b) S = (if es.anyPk then .bad else (evalEs G σ es S).bind fun ds S1 => .of (dispK (.bl b) ds [] []) S1) := rfl
theorem e_idx (G : G) (σ : List Slot) (a i : E) (S : Store) : evalE G σ (.idx a i) S = ((evalE G σ a S).bind fun x S1 => (evalE G σ i S1).bind fun y S2 => .of (idxD S2 x y) S2) := rfl
theorem e_slL (G : G) (σ : List Slot) (a lo : E) (S : Store) : evalE G σ (.slL a lo) S = ((evalE G σ a S).bind fun x S1 => (evalE G σ lo S1).bind fun y S2 => .of ((intOf y).bind fun i => sliceD x (some i) none) S2) := rfl
theorem e_slU (G : G) (σ : List Slot) (a hi : E) (S : Store) : evalE G σ (.slU a hi) S = ((evalE G σ a S).bind fun x S1 => (evalE G σ hi S1).bind fun y S2 => .of ((intOf y).bind fun i => sliceD x none (some i)) S2) := rfl
theorem e_slB (G : G) (σ : List Slot) (a lo hi : E) (S : Store) : evalE G σ (.slB a lo hi) S = ((evalE G σ a S).bind fun x S1 => (evalE G σ lo S1).bind fun y S2 => (match y with
    | .int i => (evalE G σ hi S2).bind fun z S3 => .of ((intOf z).bind fun j => sliceD x (some i) (some j)) S3
    | _ => .bad)) := rfl
theorem e_rev (G : G) (σ : List Slot) (a : E) (S : Store) : evalE G σ (.rev a) S = ((evalE G σ a S).bind fun x S1 => (match x with
    | .lst ds => .ok (.lst ds.reverse) S1
    | .str l => if l.length ≤ line then .ok (.str l.reverse) S1 else .bad
    | _ => .bad)) := rfl
theorem e_call (G : G) (σ : List Slot) (f : Nat) (es : Es) (S : Store) : evalE G σ (.call f es) S = ((evalEs G σ es S).bind fun ds S1 => if es.anyPk then (G.call f ds S1).nox.bind fun d S2 => if pkOk (G.fr f) d S2 then .ok d S2 else .bad else G.call f ds S1) := rfl
theorem e_blt (G : G) (σ : List Slot) (b : Blt) (es : Es) (S : Store) : evalE G σ (.blt b es) S = ((evalEs G σ es S).bind fun ds S1 => .of (bltD S1 b ds) S1) := rfl
theorem e_met (G : G) (σ : List Slot) (m : Met) (a : E) (es : Es) (S : Store) : evalE G σ (.met m a es) S = (if es.anyPk then .bad else (evalE G σ a S).bind fun x S1 => if rcv m x S1 then (evalEs G σ es S1).bind fun ds S2 => (match metD S2 m x ds with
    | some (d, S3) => .ok d S3
    | none => .bad) else .bad) := rfl
theorem e_cell (G : G) (σ : List Slot) (e : E) (S : Store) : evalE G σ (.cell e) S = (if e.isPk || !e.alloc G.fr then .bad else (evalE G σ e S).bind fun d S1 => (match d with
    | .lst ds => .ok (.ref S1.length) (S1 ++ [.lst ds])
    | .dct ks ds => .ok (.ref S1.length) (S1 ++ [.dct ks ds])
    | _ => .bad)) := rfl
theorem x_set (G : G) (i o : Nat) (e : E) (σ : List Slot) (S : Store) : exec G (.set i o e) σ S = (if e.isPk then .bad else (evalE G σ e S).toS σ fun d S1 => if i < σ.length then (if o = 0 || (o = 1 && e.alloc G.fr) then .nx (σ.set i (mkSlot o d)) S1 else .bad) else .bad) := rfl
theorem x_fz (G : G) (i : Nat) (σ : List Slot) (S : Store) : exec G (.fz i) σ S = ((match σ[i]? with
    | some (.own d) => .nx (σ.set i (.val d)) S
    | some (.val d) => .nx σ S
    | _ => .bad)) := rfl
theorem x_unp (G : G) (t : Tg) (e : E) (σ : List Slot) (S : Store) : exec G (.unp t e) σ S = (if e.isPk then .bad else (evalE G σ e S).toS σ fun d S1 => (match asg t d σ with
    | some σ' => .nx σ' S1
    | none => .bad)) := rfl
theorem x_aug (G : G) (i : Nat) (o : Bop) (e : E) (σ : List Slot) (S : Store) : exec G (.aug i o e) σ S = ((match σ[i]? with
    | some (.val x) => (evalE G σ e S).toS σ fun y S1 => (match augD o x y with
      | some z => .nx (σ.set i (.val z)) S1
      | none => .bad)
    | _ => .bad)) := rfl
theorem x_ex (G : G) (e : E) (σ : List Slot) (S : Store) : exec G (.ex e) σ S = ((evalE G σ e S).toS σ fun _ S1 => .nx σ S1) := rfl
theorem x_app (G : G) (i : Nat) (e : E) (σ : List Slot) (S : Store) : exec G (.app i e) σ S = (if e.isPk then .bad else (match σ[i]? with
    | some (.own (.lst ds)) => (evalE G σ e S).toS σ fun d S1 => if ds.length < line then .nx (σ.set i (.own (.lst (ds ++ [d])))) S1 else .bad
    | _ => .bad)) := rfl
theorem x_popA (G : G) (i : Nat) (k : E) (σ : List Slot) (S : Store) : exec G (.popA i k) σ S = ((match σ[i]? with
    | some (.own (.lst ds)) => (evalE G σ k S).toS σ fun d S1 => (match d with
      | .int j => if 0 ≤ j ∧ j < ds.length ∧ ds.length ≤ line then .nx (σ.set i (.own (.lst (ds.eraseIdx j.toNat)))) S1 else .bad
      | _ => .bad)
    | _ => .bad)) := rfl
theorem x_ins (G : G) (i : Nat) (k e : E) (σ : List Slot) (S : Store) : exec G (.ins i k e) σ S = (if e.isPk then .bad else (match σ[i]? with
    | some (.own (.lst ds)) => (evalE G σ k S).toS σ fun d S1 => (evalE G σ e S1).toS σ fun y S2 => (match d with
      | .int j => if 0 ≤ j ∧ j ≤ ds.length ∧ ds.length < line then .nx (σ.set i (.own (.lst (ds.take j.toNat ++ y :: ds.drop j.toNat)))) S2 else .bad
      | _ => .bad)
    | _ => .bad)) := rfl
theorem x_setx (G : G) (i : Nat) (k e : E) (σ : List Slot) (S : Store) : exec G (.setx i k e) σ S = (if e.isPk then .bad else (match σ[i]? with
    | some (.own (.lst ds)) => (evalE G σ e S).toS σ fun y S1 => (evalE G σ k S1).toS σ fun d S2 => (match d with
      | .int j => (match ixN ds.length j with
        | some a => .nx (σ.set i (.own (.lst (ds.set a y)))) S2
        | none => .bad)
      | _ => .bad)
    | some (.own (.dct ks ds)) => (evalE G σ e S).toS σ fun y S1 => (evalE G σ k S1).toS σ fun d S2 => (match d.ky with
      | some x => if ks.length < line then .nx (σ.set i (.own (.dct (kput ks ds x y).1 (kput ks ds x y).2))) S2 else .bad
      | none => .bad)
    | _ => .bad)) := rfl
theorem x_sets (G : G) (a k e : E) (σ : List Slot) (S : Store) : exec G (.sets a k e) σ S = (if e.isPk then .bad else (evalE G σ e S).toS σ fun y S1 => (evalE G σ a S1).toS σ fun x S2 => (evalE G σ k S2).toS σ fun z S3 => (match x with
    | .ref n => (match S3[n]? with
      | some (.lst ds) => (match z with
        | .int j => (match ixN ds.length j with
          | some p => .nx σ (S3.set n (.lst (ds.set p y)))
          | none => .bad)
        | _ => .bad)
      | _ => .bad)
    | _ => .bad)) := rfl
theorem x_setd (G : G) (a k e : E) (σ : List Slot) (S : Store) : exec G (.setd a k e) σ S = (if e.isPk then .bad else (evalE G σ e S).toS σ fun y S1 => (evalE G σ a S1).toS σ fun x S2 => (evalE G σ k S2).toS σ fun z S3 => (match x with
    | .ref n => (match S3[n]? with
      | some (.dct ks ds) => (match z.ky with
        | some x => if ks.length < line then .nx σ (S3.set n (.dct (kput ks ds x y).1 (kput ks ds x y).2)) else .bad
        | none => .bad)
      | _ => .bad)
    | _ => .bad)) := rfl
theorem x_augs (G : G) (a k : E) (o : Bop) (e : E) (σ : List Slot) (S : Store) : exec G (.augs a k o e) σ S = ((evalE G σ a S).toS σ fun x S1 => (evalE G σ k S1).toS σ fun z S2 => (match x, z with
    | .ref n, .int j => (match S2[n]? with
      | some (.lst ds) => (match atI ds j with
        | some d => (evalE G σ e S2).toS σ fun y S3 => (match augD o d y with
          | some w => (match S3[n]? with
            | some (.lst ds) => (match ixN ds.length j with
              | some p => .nx σ (S3.set n (.lst (ds.set p w)))
              | none => .bad)
            | _ => .bad)
          | none => .bad)
        | none => .bad)
      | _ => .bad)
    | _, _ => .bad)) := rfl
theorem x_iff (G : G) (c : E) (t e : Ss) (σ : List Slot) (S : Store) : exec G (.iff c t e) σ S = ((evalE G σ c S).toS σ fun b S1 => (match b with
    | .bl true => execs G t σ S1
    | .bl false => execs G e σ S1
    | _ => .bad)) := rfl
theorem x_ret (G : G) (e : E) (σ : List Slot) (S : Store) : exec G (.ret e) σ S = (if e.isPk then .bad else (evalE G σ e S).toS σ fun d S1 => .rt d (e.alloc G.fr) S1) := rfl
theorem x_mov (G : G) (i : Nat) (σ : List Slot) (S : Store) : exec G (.mov i) σ S = ((match σ[i]? with
    | some (.own d) => .rt d true S
    | some (.val d) => .rt d false S
    | _ => .bad)) := rfl
theorem x_rai (G : G) (c : Nat) (σ : List Slot) (S : Store) : exec G (.rai c) σ S = .exc ⟨c, []⟩ σ S := rfl
theorem x_try (G : G) (b : Ss) (c : Nat) (j : Option Nat) (h : Hk) (σ : List Slot) (S : Store) : exec G (.try b c j h) σ S = tryR c j h (execs G b σ S) := rfl
theorem x_pass (G : G)  (σ : List Slot) (S : Store) : exec G (.pass) σ S = (.nx σ S) := rfl
theorem call_at {T : Tbl} {f : Nat} {d : Def} (h : T.defs f = some d) {ds : List D} (hl : ds.length = d.np) (n : Nat) (S : Store) : call T (n + 1) f ds S = drop d.dr S.length (done d.fr (execs (T.G n) d.body (start d.nl ds) S)) := by
  rw [call_succ, h]
  dsimp only
  rw [if_pos hl]
theorem rcv_join (l : List Nat) (S : Store) : rcv .join (.str l) S = true := rfl
theorem rcv_find (l : List Nat) (S : Store) : rcv .find (.str l) S = true := rfl
theorem rcv_index (l : List D) (S : Store) : rcv .index (.lst l) S = true := rfl
theorem eqv_ii (i j : Int) : D.eqv (.int i) (.int j) = decide (i = j) := by simp [D.eqv, Bool.beq_eq_decide_eq]
theorem eqv_bb (i j : Bool) : D.eqv (.bl i) (.bl j) = decide (i = j) := by cases i <;> cases j <;> rfl
theorem eqv_ss (i j : List Nat) : D.eqv (.str i) (.str j) = decide (i = j) := by simp [D.eqv, Bool.beq_eq_decide_eq]
theorem eqv_nn : D.eqv .non .non = true := rfl
theorem xs_nil (G : G) (σ : List Slot) (S : Store) : execs G .nil σ S = .nx σ S := rfl
theorem xs_cons (G : G) (s : S) (ss : Ss) (σ : List Slot) (S : Store) : execs G (.cons s ss) σ S = (exec G s σ S).then (execs G ss) := rfl
theorem G_call (T : Tbl) (n : Nat) : (T.G n).call = call T n := rfl
theorem G_fr (T : Tbl) (n : Nat) : (T.G n).fr = frOf T := rfl
theorem G_con (T : Tbl) (n : Nat) : (T.G n).con = T.con := rfl
def forStep (G : G) (tg : Tg) (b : Ss) (d : D) (σ : List Slot) (S : Store) : RS := match asg tg d σ with
  | some σ' => execs G b σ' S
  | none => .bad
theorem x_for (G : G) (tg : Tg) (it : It) (b : Ss) (σ : List Slot) (S : Store) : exec G (.for tg it b) σ S = (evalIt G σ it S).toS σ fun ds S1 => forLoop (forStep G tg b) ds σ S1 := rfl
theorem x_ford (G : G) (tg : Tg) (w : Nat) (e : E) (b : Ss) (σ : List Slot) (S : Store) : exec G (.ford tg w e b) σ S = (match pth σ S e with
    | some (.ref n) => (match S[n]? with
      | some (.dct ks ds) => unl n (forLoop (forStep G tg b) (wlk w ks ds) σ (S.set n (.dcl ks ds)))
      | some (.dcl ks ds) => forLoop (forStep G tg b) (wlk w ks ds) σ S
      | _ => .bad)
    | _ => .bad) := rfl
/-- a walk over a dict of the store -/
theorem ford_dct {G : G} {tg : Tg} {w : Nat} {e : E} {b : Ss} {σ : List Slot} {S : Store} {n : Nat} {ks : List Ky} {ds : List D} (h : pth σ S e = some (.ref n)) (hs : S[n]? = some (.dct ks ds)) : exec G (.ford tg w e b) σ S = unl n (forLoop (forStep G tg b) (wlk w ks ds) σ (S.set n (.dcl ks ds))) := by
  rw [x_ford, h]
  show (match S[n]? with
      | some (.dct ks ds) => unl n (forLoop (forStep G tg b) (wlk w ks ds) σ (S.set n (.dcl ks ds)))
      | some (.dcl ks ds) => forLoop (forStep G tg b) (wlk w ks ds) σ S
      | _ => RS.bad) = _
  rw [hs]
theorem ford_dcl {G : G} {tg : Tg} {w : Nat} {e : E} {b : Ss} {σ : List Slot} {S : Store} {n : Nat} {ks : List Ky} {ds : List D} (h : pth σ S e = some (.ref n)) (hs : S[n]? = some (.dcl ks ds)) : exec G (.ford tg w e b) σ S = forLoop (forStep G tg b) (wlk w ks ds) σ S := by
  rw [x_ford, h]
  show (match S[n]? with
      | some (.dct ks ds) => unl n (forLoop (forStep G tg b) (wlk w ks ds) σ (S.set n (.dcl ks ds)))
      | some (.dcl ks ds) => forLoop (forStep G tg b) (wlk w ks ds) σ S
      | _ => RS.bad) = _
  rw [hs]
theorem unl_nx {n : Nat} {σ : List Slot} {S : Store} {ks : List Ky} {ds : List D} (h : S[n]? = some (.dcl ks ds)) : unl n (.nx σ S) = .nx σ (S.set n (.dct ks ds)) := by
  show (match S[n]? with
    | some (.dcl ks ds) => RS.nx σ (S.set n (.dct ks ds))
    | _ => .bad) = _
  rw [h]
def whC (G : G) (c : E) (σ : List Slot) (S : Store) : R D := evalE G σ c S
theorem x_whl (G : G) (n : Nat) (c : E) (b : Ss) (σ : List Slot) (S : Store) : exec G (.whl n c b) σ S = whlLoop (whC G c) (execs G b) n σ S := rfl
def lcStep (G : G) (σ : List Slot) (tg : Tg) (c : Es) (e : E) (d : D) (S : Store) : R (Option D) := match asg tg d (wipe σ tg.vars) with
  | some σ' => ((evalAnd G σ' c S).bind fun b S' => (match b with
    | .bl true => (evalE G σ' e S').bind fun y S'' => .ok (some y) S''
    | .bl false => .ok none S'
    | _ => .bad)).nox
  | none => .bad
theorem e_lc (G : G) (σ : List Slot) (tg : Tg) (it : It) (c : Es) (e : E) (S : Store) : evalE G σ (.lc tg it c e) S = (if e.isPk || !noOwn σ tg.vars then .bad else (evalIt G σ it S).bind fun ds S1 => if ds.length ≤ line then
      (lcLoop (lcStep G σ tg c e) ds S1).bind fun r S2 => .ok (.lst r) S2
    else .bad) := rfl
theorem lc_ok {G : G} {σ : List Slot} {tg : Tg} {it : It} {c : Es} {e : E} {S S1 S2 : Store} {ds r : List D} (hp : (e.isPk || !noOwn σ tg.vars) = false) (h1 : evalIt G σ it S = .ok ds S1) (h2 : ds.length ≤ line) (h3 : lcLoop (lcStep G σ tg c e) ds S1 = .ok r S2) : evalE G σ (.lc tg it c e) S = .ok (.lst r) S2 := by
  rw [e_lc, hp, if_neg Bool.false_ne_true, h1, R.bind_ok, if_pos h2, h3, R.bind_ok]
/-- a comprehension over a dict of the store -/
theorem lcd_ok {G : G} {σ : List Slot} {tg : Tg} {w : Nat} {e : E} {c : Es} {x : E} {S S2 : Store} {n : Nat} {ks ks' : List Ky} {ds ds' r : List D} (hp : (x.isPk || !noOwn σ tg.vars) = false) (h1 : pth σ S e = some (.ref n)) (hs : S[n]? = some (.dct ks ds)) (h2 : ds.length ≤ line) (hk : ks.length = ds.length)
    (h3 : lcLoop (lcStep G σ tg c x) (wlk w ks ds) (S.set n (.dcl ks ds)) = .ok r S2) (h4 : S2[n]? = some (.dcl ks' ds')) : evalE G σ (.lcd tg w e c x) S = .ok (.lst r) (S2.set n (.dct ks' ds')) := by
  show (if (x.isPk || !noOwn σ tg.vars) = true then R.bad else
      match pth σ S e with
      | some (.ref n) => (match S[n]? with
        | some (.dct ks ds) => if ds.length ≤ line ∧ ks.length = ds.length then (lcLoop (lcStep G σ tg c x) (wlk w ks ds) (S.set n (.dcl ks ds))).nox.bind fun r S2 => (match S2[n]? with
          | some (.dcl ks' ds') => R.ok (D.lst r) (S2.set n (.dct ks' ds'))
          | _ => .bad) else .bad
        | some (.dcl ks ds) => if ds.length ≤ line ∧ ks.length = ds.length then (lcLoop (lcStep G σ tg c x) (wlk w ks ds) S).bind fun r S2 => R.ok (D.lst r) S2 else .bad
        | _ => .bad)
      | _ => .bad) = _
  rw [hp, if_neg (by decide), h1]
  dsimp only
  rw [hs]
  dsimp only
  rw [if_pos ⟨h2, hk⟩, h3]
  show (match S2[n]? with
          | some (.dcl ks' ds') => R.ok (D.lst r) (S2.set n (.dct ks' ds'))
          | _ => .bad) = _
  rw [h4]
/-- a comprehension over a list of the store -/
theorem lcl_ok {G : G} {σ : List Slot} {tg : Tg} {e : E} {c : Es} {x : E} {S S2 : Store} {n : Nat} {ds r : List D} (hp : (x.isPk || !noOwn σ tg.vars) = false) (h1 : pth σ S e = some (.ref n)) (hs : S[n]? = some (.lst ds)) (h2 : ds.length < line)
    (h3 : lcLive (lcStep G σ tg c x) n (ds.length + 1) 0 S = .ok r S2) : evalE G σ (.lcl tg e c x) S = .ok (.lst r) S2 := by
  show (if (x.isPk || !noOwn σ tg.vars) = true then R.bad else (match pth σ S e with
      | some (.ref n) => (match S[n]? with
        | some (.lst ds) => if ds.length < line then (lcLive (lcStep G σ tg c x) n (ds.length + 1) 0 S).bind fun r S2 => R.ok (D.lst r) S2 else .bad
        | _ => .bad)
      | _ => .bad)) = _
  rw [hp, if_neg (by decide), h1]
  dsimp only
  rw [hs]
  dsimp only
  rw [if_pos h2, h3]; rfl
theorem live_inv {f : D → Store → R (Option D)} {I : Store → Prop} {P : D → Prop} {n : Nat} {ds : List D} (hI : ∀ S, I S → S[n]? = some (.lst ds)) (h : ∀ d ∈ ds, ∀ S, I S → ∃ y S', f d S = .ok (some y) S' ∧ P y ∧ I S') : ∀ (m i : Nat) {S : Store}, I S → i + m = ds.length →
    ∃ ys S', lcLive f n (m + 1) i S = .ok ys S' ∧ ys.length = m ∧ (∀ y ∈ ys, P y) ∧ I S'
  | 0, i, S, hS, e => by
    refine ⟨[], S, ?_, rfl, fun y h => (nomatch h), hS⟩
    show (match S[n]? with
      | some (.lst ds) => (match ds[i]? with
        | some d => (f d S).bind fun o S1 => (lcLive f n 0 (i + 1) S1).bind fun r S2 => .ok (match o with | some x => x :: r | none => r) S2
        | none => .ok [] S)
      | _ => .bad) = _
    rw [hI S hS]
    dsimp only
    rw [List.getElem?_eq_none (by omega)]
  | m + 1, i, S, hS, e => by
    have hlt : i < ds.length := by omega
    obtain ⟨y, S1, e1, p1, i1⟩ := h ds[i] (List.getElem_mem hlt) S hS
    obtain ⟨ys, S2, e2, l2, p2, i2⟩ := live_inv hI h m (i + 1) i1 (by omega)
    refine ⟨y :: ys, S2, ?_, by rw [List.length_cons, l2], fun z hz => ?_, i2⟩
    · show (match S[n]? with
        | some (.lst ds) => (match ds[i]? with
          | some d => (f d S).bind fun o S1 => (lcLive f n (m + 1) (i + 1) S1).bind fun r S2 => .ok (match o with | some x => x :: r | none => r) S2
          | none => .ok [] S)
        | _ => .bad) = _
      rw [hI S hS]
      dsimp only
      rw [List.getElem?_eq_getElem hlt]
      dsimp only
      rw [e1, R.bind_ok, e2, R.bind_ok]
    · rcases List.mem_cons.mp hz with q | q
      · rw [q]; exact p1
      · exact p2 z q
theorem it_len {G : G} {σ : List Slot} {i : Nat} {ds : List D} {S : Store} (h : σ[i]? = some (.val (.lst ds))) (hl : ds.length ≤ 100000) : evalIt G σ (.r1 (.blt .len (.cons (.v i) .nil))) S = .ok (rangeL 0 ds.length) S := by
  have h1 : evalE G σ (.blt .len (.cons (.v i) .nil)) S = .ok (.int ds.length) S := by
    rw [e_blt]
    simp only [evalEs, e_v, h, R.bind_ok]
    rfl
  show (evalE G σ (.blt .len (.cons (.v i) .nil)) S).bind _ = _
  have hi : i62 (ds.length : Int) = true := by unfold i62; rw [Bool.and_eq_true, decide_eq_true_eq, decide_eq_true_eq]; omega
  rw [h1, R.bind_ok]
  dsimp only
  rw [hi, if_pos rfl, Int.toNat_natCast]
theorem iffT {G : G} {c : E} {t e : Ss} {σ : List Slot} {S S1 : Store} (h : evalE G σ c S = .ok (.bl true) S1) : exec G (.iff c t e) σ S = execs G t σ S1 := by rw [x_iff, h]; rfl
theorem iffF {G : G} {c : E} {t e : Ss} {σ : List Slot} {S S1 : Store} (h : evalE G σ c S = .ok (.bl false) S1) : exec G (.iff c t e) σ S = execs G e σ S1 := by rw [x_iff, h]; rfl
end IL
namespace IL
def d_law_box : Def := ⟨1, 1, true, false, (.cons (.ret (.lst (.cons (.cell (.blt .list (.cons (.v 0) .nil))) (.cons (.k (.int 0)) (.cons (.k (.int 0)) (.cons (.k (.int 1)) .nil)))))) .nil)⟩ -- 100 _law_script
def d_law_take : Def := ⟨2, 6, true, false, (.cons (.iff (.bin .gt (.idx (.v 0) (.k (.int 2))) (.k (.int 0))) (.cons (.set 4 0 (.idx (.v 0) (.k (.int 2)))) (.cons (.sets (.v 0) (.k (.int 2)) (.bin .fdiv (.v 4) (.v 1))) (.cons (.ret (.bin .mod (.v 4) (.v 1))) .nil))) .nil) (.cons (.sets (.v 0) (.k (.int 3)) (.bin .mod (.bin .add (.bin .mul (.idx (.v 0) (.k (.int 3))) (.k (.int 48271))) (.k (.int 7))) (.k (.int 2147483647)))) (.cons (.iff (.bin .lt (.idx (.v 0) (.k (.int 1))) (.blt .len (.cons (.idx (.v 0) (.k (.int 0))) .nil))) (.cons (.set 5 0 (.idx (.idx (.v 0) (.k (.int 0))) (.idx (.v 0) (.k (.int 1))))) (.cons (.augs (.v 0) (.k (.int 1)) .add (.k (.int 1))) (.cons (.iff (.bin .ge (.v 5) (.bin .pow (.k (.int 10)) (.k (.int 18)))) (.cons (.sets (.v 0) (.k (.int 2)) (.bin .fdiv (.v 5) (.v 1))) (.cons (.ret (.bin .mod (.v 5) (.v 1))) .nil)) .nil) (.cons (.sets (.v 0) (.k (.int 3)) (.bin .mod (.bin .add (.idx (.v 0) (.k (.int 3))) (.bin .mul (.v 5) (.k (.int 65537)))) (.k (.int 2147483647)))) .nil)))) .nil) (.cons (.set 2 0 (.idx (.v 0) (.k (.int 3)))) (.cons (.set 3 0 (.bin .mod (.bin .add (.bin .mul (.v 2) (.v 2)) (.bin .fdiv (.v 2) (.k (.int 7)))) (.k (.int 1000000007)))) (.cons (.ret (.bin .mod (.bin .mod (.bin .add (.bin .mul (.v 3) (.k (.int 69621))) (.v 2)) (.k (.int 2147483647))) (.v 1))) .nil))))))⟩ -- 101 _law_box_here _law_many _law_one _law_two _law_rest _law_cell
def d_law_cuts : Def := ⟨2, 4, true, false, (.cons (.set 2 0 (.call 101 (.cons (.v 0) (.cons (.k (.int 5)) .nil)))) (.cons (.iff (.bin .eq (.v 2) (.k (.int 0))) (.cons (.ret (.lst .nil)) .nil) .nil) (.cons (.iff (.bin .eq (.v 2) (.k (.int 1))) (.cons (.ret (.lc (.v 3) (.r2 (.k (.int 1)) (.v 1)) .nil (.v 3))) .nil) .nil) (.cons (.ret (.lc (.v 3) (.r2 (.k (.int 1)) (.v 1)) (.cons (.bin .gt (.call 101 (.cons (.v 0) (.cons (.k (.int 3)) .nil))) (.k (.int 0))) .nil) (.v 3))) .nil))))⟩ -- 122 _law_box_here _law_size _law_kind _law_place
def d_law_young : Def := ⟨2, 10, false, false, (.cons (.set 2 0 (.cell .dct0)) (.cons (.for (.t2 (.v 4) (.v 5)) (.of (.v 1)) (.cons (.setd (.v 2) (.v 4) (.blt .min2 (.cons (.v 5) (.cons (.met .get (.v 2) (.cons (.v 4) (.cons (.v 5) .nil))) .nil)))) .nil)) (.cons (.for (.v 3) (.r1 (.k (.int 7))) (.cons (.set 6 0 (.cell (.blt .dict (.cons (.v 2) .nil)))) (.cons (.ford (.v 7) 0 (.v 2) (.cons (.ford (.v 8) 0 (.v 2) (.cons (.set 5 0 (.bin .add (.blt .max2 (.cons (.idx (.v 2) (.v 7)) (.cons (.idx (.v 2) (.v 8)) .nil))) (.k (.int 1)))) (.cons (.for (.v 9) (.of (.v 0)) (.cons (.set 4 0 (.bin .add (.slU (.v 7) (.v 9)) (.slL (.v 8) (.v 9)))) (.cons (.setd (.v 6) (.v 4) (.blt .min2 (.cons (.v 5) (.cons (.met .get (.v 6) (.cons (.v 4) (.cons (.v 5) .nil))) .nil)))) .nil))) .nil))) .nil)) (.cons (.set 2 0 (.v 6)) .nil)))) (.cons (.ret (.v 2)) .nil))))⟩ -- 145 _law_cuts_here _law_takes _law_known _law_turn _law_text _law_age _law_later _law_one _law_other _law_place
def d_ends : Def := ⟨2, 2, true, false, (.cons (.ret (.bin .add (.bin .add (.lst (.cons (.k (.int 0)) .nil)) (.blt .list (.cons (.v 1) .nil))) (.lst (.cons (.v 0) .nil)))) .nil)⟩ -- 123 size cuts
def d_places_in : Def := ⟨1, 4, true, false, (.cons (.set 1 1 .dct0) (.cons (.for (.t2 (.v 2) (.v 3)) (.en (.v 0)) (.cons (.setx 1 (.v 3) (.v 2)) .nil)) (.cons (.mov 1) .nil)))⟩ -- 137 border found k end
def d_first_spoilt : Def := ⟨2, 3, false, false, (.cons (.set 2 0 (.met .find (.v 0) (.cons (.g 1) (.cons (.v 1) .nil)))) (.cons (.iff (.bin .eq (.v 2) (.neg (.k (.int 1)))) (.cons (.ret (.blt .len (.cons (.v 0) .nil))) .nil) .nil) (.cons (.ret (.v 2)) .nil)))⟩ -- 111 text at here
def d_far_in : Def := ⟨3, 6, false, false, (.cons (.set 3 0 (.call 111 (.cons (.v 1) (.cons (.v 2) .nil)))) (.cons (.set 4 0 (.v 2)) (.cons (.for (.v 5) (.of (.v 0)) (.cons (.iff (.chn (.v 2) (.v 5) (.v 3)) (.cons (.set 4 0 (.v 5)) .nil) .nil) .nil)) (.cons (.ret (.v 4)) .nil))))⟩ -- 125 border text end spoilt far one
def d_far_rows : Def := ⟨2, 5, true, false, (.cons (.ret (.lc (.t2 (.v 2) (.v 3)) (.of (.v 1)) .nil (.tup (.cons (.v 3) (.cons (.lc (.v 4) (.of (.v 0)) .nil (.call 125 (.cons (.v 0) (.cons (.v 2) (.cons (.v 4) .nil))))) .nil))))) .nil)⟩ -- 138 border takes text age end
def d_own_row : Def := ⟨3, 8, true, false, (.cons (.set 3 1 (.blt .list (.cons (.v 0) .nil))) (.cons (.for (.t2 (.v 4) (.v 5)) (.of (.v 1)) (.cons (.iff (.bin .le (.v 4) (.v 2)) (.cons (.fz 3) (.cons (.set 3 1 (.lc (.t2 (.v 6) (.v 7)) (.zip (.v 3) (.v 5)) .nil (.blt .max2 (.cons (.v 6) (.cons (.v 7) .nil))))) .nil)) .nil) .nil)) (.cons (.mov 3) .nil)))⟩ -- 139 border fars age row old far one other
def d_greater_row : Def := ⟨2, 4, true, false, (.cons (.ret (.lc (.t2 (.v 2) (.v 3)) (.zip (.v 0) (.v 1)) .nil (.blt .max2 (.cons (.v 2) (.cons (.v 3) .nil))))) .nil)⟩ -- 140 one other left right
def d_row_of_two : Def := ⟨3, 4, true, false, (.cons (.ret (.lc (.v 3) (.of (.v 0)) .nil (.idx (.v 1) (.idx (.v 2) (.v 3))))) .nil)⟩ -- 141 first second places end
def d_reach_rows : Def := ⟨3, 8, true, false, (.cons (.set 3 0 (.call 137 (.cons (.v 0) .nil))) (.cons (.set 4 0 (.call 138 (.cons (.v 0) (.cons (.v 1) .nil)))) (.cons (.set 5 1 (.lst .nil)) (.cons (.for (.v 6) (.r1 (.v 2)) (.cons (.set 7 0 (.call 139 (.cons (.v 0) (.cons (.v 4) (.cons (.v 6) .nil))))) (.cons (.iff (.bin .gt (.v 6) (.k (.int 0))) (.cons (.set 7 0 (.call 140 (.cons (.v 7) (.cons (.call 141 (.cons (.idx (.pk 5) (.neg (.k (.int 1)))) (.cons (.idx (.pk 5) (.neg (.k (.int 1)))) (.cons (.v 3) .nil)))) .nil)))) .nil) .nil) (.cons (.app 5 (.v 7)) .nil)))) (.cons (.mov 5) .nil)))))⟩ -- 142 border takes many places fars rows age row
def d_has_clean : Def := ⟨3, 5, false, false, (.cons (.for (.t2 (.v 3) (.v 4)) (.of (.v 0)) (.cons (.iff (.bin .ge (.call 111 (.cons (.v 3) (.cons (.v 1) .nil))) (.v 2)) (.cons (.ret (.k (.bl true))) .nil) .nil) .nil)) (.cons (.ret (.k (.bl false))) .nil))⟩ -- 132 takes first behind text age
def d_bar_of : Def := ⟨3, 5, false, false, (.cons (.set 3 0 (.call 123 (.cons (.v 0) (.cons (.v 1) .nil)))) (.cons (.for (.v 4) (.r1 (.bin .sub (.blt .len (.cons (.v 3) .nil)) (.k (.int 1)))) (.cons (.iff (.not (.call 132 (.cons (.v 2) (.cons (.idx (.v 3) (.v 4)) (.cons (.idx (.v 3) (.bin .add (.v 4) (.k (.int 1)))) .nil))))) (.cons (.ret (.tup (.cons (.idx (.v 3) (.v 4)) (.cons (.idx (.v 3) (.bin .add (.v 4) (.k (.int 1)))) .nil)))) .nil) .nil) .nil)) (.cons (.ret (.k .non)) .nil)))⟩ -- 133 size cuts takes border k
def d_least_age : Def := ⟨3, 8, false, false, (.cons (.iff (.ntn (.call 133 (.cons (.v 0) (.cons (.v 1) (.cons (.v 2) .nil))))) (.cons (.ret (.k .non)) .nil) .nil) (.cons (.set 3 0 (.call 123 (.cons (.v 0) (.cons (.v 1) .nil)))) (.cons (.set 4 0 (.blt .maxl (.cons (.lc (.t2 (.v 7) (.v 6)) (.of (.v 2)) .nil (.v 6)) .nil))) (.cons (.set 5 0 (.call 142 (.cons (.v 3) (.cons (.v 2) (.cons (.bin .add (.v 4) (.blt .len (.cons (.v 3) .nil))) .nil))))) (.cons (.set 6 0 (.k (.int 0))) (.cons (.whl 4096 (.bin .lt (.idx (.idx (.v 5) (.v 6)) (.k (.int 0))) (.v 0)) (.cons (.aug 6 .add (.k (.int 1))) .nil)) (.cons (.ret (.v 6)) .nil)))))))⟩ -- 147 size cuts takes border oldest rows age text
def d_law_same : Def := ⟨2, 4, false, false, (.cons (.iff (.or (.cons (.blt (.isi .bool) (.cons (.v 1) .nil)) (.cons (.blt (.isi .bool) (.cons (.v 0) .nil)) .nil))) (.cons (.ret (.and (.cons (.blt (.isi .bool) (.cons (.v 1) .nil)) (.cons (.blt (.isi .bool) (.cons (.v 0) .nil)) (.cons (.bin .eq (.v 0) (.v 1)) .nil))))) .nil) .nil) (.cons (.iff (.or (.cons (.blt (.isi .list) (.cons (.v 1) .nil)) (.cons (.blt (.isi .tuple) (.cons (.v 1) .nil)) .nil))) (.cons (.iff (.or (.cons (.bin .ne (.blt (.isi .list) (.cons (.v 1) .nil)) (.blt (.isi .list) (.cons (.v 0) .nil))) (.cons (.bin .ne (.blt (.isi .tuple) (.cons (.v 1) .nil)) (.blt (.isi .tuple) (.cons (.v 0) .nil))) .nil))) (.cons (.ret (.k (.bl false))) .nil) .nil) (.cons (.ret (.and (.cons (.bin .eq (.blt .len (.cons (.v 0) .nil)) (.blt .len (.cons (.v 1) .nil))) (.cons (.blt .all (.cons (.lc (.t2 (.v 2) (.v 3)) (.zip (.v 0) (.v 1)) .nil (.call 103 (.cons (.v 2) (.cons (.v 3) .nil)))) .nil)) .nil)))) .nil)) .nil) (.cons (.iff (.or (.cons (.bin .ne (.blt (.isi .str) (.cons (.v 1) .nil)) (.blt (.isi .str) (.cons (.v 0) .nil))) (.cons (.bin .ne (.blt (.isi .int) (.cons (.v 1) .nil)) (.blt (.isi .int) (.cons (.v 0) .nil))) .nil))) (.cons (.ret (.k (.bl false))) .nil) .nil) (.cons (.ret (.bin .eq (.v 0) (.v 1))) .nil))))⟩ -- 103 _law_found _law_due _law_one _law_other
def d_law_bars : Def := ⟨2, 6, false, false, (.cons (.set 2 0 (.call 101 (.cons (.v 0) (.cons (.k (.int 5)) .nil)))) (.cons (.iff (.bin .eq (.v 2) (.k (.int 0))) (.cons (.ret (.met .join (.k (.str [])) (.cons (.lc (.v 5) (.r1 (.v 1)) .nil (.idx (.k (.str [111, 120])) (.call 101 (.cons (.v 0) (.cons (.k (.int 2)) .nil))))) .nil))) .nil) .nil) (.cons (.iff (.bin .eq (.v 2) (.k (.int 1))) (.cons (.ret (.met .join (.k (.str [])) (.cons (.lc (.v 5) (.r1 (.v 1)) .nil (.idx (.k (.str [111, 111, 111, 111, 111, 120])) (.call 101 (.cons (.v 0) (.cons (.k (.int 6)) .nil))))) .nil))) .nil) .nil) (.cons (.iff (.bin .eq (.v 2) (.k (.int 2))) (.cons (.set 3 0 (.call 101 (.cons (.v 0) (.cons (.v 1) .nil)))) (.cons (.set 4 0 (.bin .add (.bin .add (.v 3) (.k (.int 1))) (.call 101 (.cons (.v 0) (.cons (.bin .sub (.v 1) (.v 3)) .nil))))) (.cons (.ret (.bin .add (.bin .add (.bin .mul (.k (.str [120])) (.v 3)) (.bin .mul (.k (.str [111])) (.bin .sub (.v 4) (.v 3)))) (.bin .mul (.k (.str [120])) (.bin .sub (.v 1) (.v 4))))) .nil))) .nil) (.cons (.iff (.bin .eq (.v 2) (.k (.int 3))) (.cons (.ret (.met .join (.k (.str [])) (.cons (.lc (.v 5) (.r1 (.v 1)) .nil (.idx (.k (.str [120, 120, 120, 111])) (.call 101 (.cons (.v 0) (.cons (.k (.int 4)) .nil))))) .nil))) .nil) .nil) (.cons (.ret (.bin .mul (.idx (.k (.str [111, 120])) (.call 101 (.cons (.v 0) (.cons (.k (.int 2)) .nil)))) (.v 1))) .nil))))))⟩ -- 102 _law_box_here _law_size _law_kind _law_first _law_behind _law_k
def d_law_patched : Def := ⟨4, 9, false, false, (.cons (.set 4 0 (.bin .add (.bin .add (.lst (.cons (.k (.int 0)) .nil)) (.v 2)) (.lst (.cons (.v 1) .nil)))) (.cons (.for (.v 5) (.r1 (.bin .sub (.blt .len (.cons (.v 4) .nil)) (.k (.int 1)))) (.cons (.set 6 0 (.call 101 (.cons (.v 0) (.cons (.blt .len (.cons (.v 3) .nil)) .nil)))) (.cons (.set 7 0 (.idx (.v 3) (.v 6))) (.cons (.set 8 0 (.bin .mul (.k (.str [111])) (.bin .sub (.idx (.v 4) (.bin .add (.v 5) (.k (.int 1)))) (.idx (.v 4) (.v 5))))) (.cons (.sets (.v 3) (.v 6) (.bin .add (.bin .add (.slU (.v 7) (.idx (.v 4) (.v 5))) (.v 8)) (.slL (.v 7) (.idx (.v 4) (.bin .add (.v 5) (.k (.int 1))))))) .nil))))) (.cons (.ret (.v 3)) .nil)))⟩ -- 130 _law_box_here _law_size _law_cuts_here _law_texts _law_border _law_k _law_at _law_old _law_clean
def d_law_k10 : Def := ⟨1, 10, false, false, (.cons (.set 1 0 (.cell (.call 100 (.cons (.v 0) .nil)))) (.cons (.set 2 0 (.bin .add (.k (.int 1)) (.call 101 (.cons (.v 1) (.cons (.k (.int 5)) .nil))))) (.cons (.set 3 0 (.call 122 (.cons (.v 1) (.cons (.v 2) .nil)))) (.cons (.set 4 0 (.cell (.lc (.v 8) (.r1 (.call 101 (.cons (.v 1) (.cons (.k (.int 6)) .nil)))) .nil (.call 102 (.cons (.v 1) (.cons (.v 2) .nil)))))) (.cons (.iff (.and (.cons (.bin .gt (.blt .len (.cons (.v 4) .nil)) (.k (.int 0))) (.cons (.bin .gt (.call 101 (.cons (.v 1) (.cons (.k (.int 3)) .nil))) (.k (.int 0))) .nil))) (.cons (.set 4 0 (.call 130 (.cons (.v 1) (.cons (.v 2) (.cons (.v 3) (.cons (.v 4) .nil)))))) .nil) .nil) (.cons (.set 5 0 (.lcl (.v 9) (.v 4) .nil (.tup (.cons (.v 9) (.cons (.call 101 (.cons (.v 1) (.cons (.idx (.lst (.cons (.k (.int 1)) (.cons (.k (.int 3)) (.cons (.k (.int 9)) .nil)))) (.call 101 (.cons (.v 1) (.cons (.k (.int 3)) .nil)))) .nil))) .nil))))) (.cons (.set 6 0 (.call 145 (.cons (.v 3) (.cons (.v 5) .nil)))) (.cons (.set 7 0 (.call 147 (.cons (.v 2) (.cons (.blt .list (.cons (.v 3) .nil)) (.cons (.blt .list (.cons (.v 5) .nil)) .nil))))) (.cons (.iff (.bin .notin (.bin .mul (.k (.str [111])) (.v 2)) (.v 6)) (.cons (.ret (.isn (.v 7))) .nil) .nil) (.cons (.ret (.call 103 (.cons (.v 7) (.cons (.idx (.v 6) (.bin .mul (.k (.str [111])) (.v 2))) .nil)))) .nil))))))))))⟩ -- 151 _law_script _law_box_here _law_size _law_cuts_here _law_texts _law_takes _law_known _law_found _law_k _law_text
def d_law_shelf : Def := ⟨2, 10, false, true, (.cons (.set 2 0 (.bin .add (.k (.int 1)) (.call 101 (.cons (.v 0) (.cons (.v 1) .nil))))) (.cons (.set 3 0 (.call 122 (.cons (.v 0) (.cons (.v 2) .nil)))) (.cons (.set 4 0 (.call 101 (.cons (.v 0) (.cons (.k (.int 7)) .nil)))) (.cons (.iff (.bin .eq (.call 101 (.cons (.v 0) (.cons (.k (.int 12)) .nil))) (.k (.int 0))) (.cons (.set 4 0 (.k (.int 20))) .nil) .nil) (.cons (.set 5 0 (.cell (.lc (.v 9) (.r1 (.v 4)) .nil (.call 102 (.cons (.v 0) (.cons (.v 2) .nil)))))) (.cons (.iff (.and (.cons (.bin .gt (.v 4) (.k (.int 0))) (.cons (.bin .gt (.call 101 (.cons (.v 0) (.cons (.k (.int 4)) .nil))) (.k (.int 0))) .nil))) (.cons (.set 5 0 (.call 130 (.cons (.v 0) (.cons (.v 2) (.cons (.v 3) (.cons (.v 5) .nil)))))) .nil) .nil) (.cons (.set 6 0 (.call 101 (.cons (.v 0) (.cons (.k (.int 4)) .nil)))) (.cons (.set 7 0 (.call 101 (.cons (.v 0) (.cons (.k (.int 6)) .nil)))) (.cons (.set 8 0 (.lc (.v 9) (.r1 (.v 4)) .nil (.bin .add (.v 7) (.call 101 (.cons (.v 0) (.cons (.idx (.lst (.cons (.k (.int 1)) (.cons (.k (.int 4)) (.cons (.k (.int 9)) (.cons (.k (.int 55)) .nil))))) (.v 6)) .nil)))))) (.cons (.ret (.tup (.cons (.v 2) (.cons (.v 3) (.cons (.blt .lzip (.cons (.v 5) (.cons (.v 8) .nil))) .nil))))) .nil))))))))))⟩ -- 131 _law_box_here _law_most _law_size _law_cuts_here _law_many _law_texts _law_kind _law_low _law_ages _law_k
end IL
namespace IL
structure Bx (b : Nat) (S : Store) : Prop where
  ex : ∃ (c : Nat) (ns : List Int) (i r s : Int), c ≠ b ∧ S[b]? = some (.lst [.ref c, .int i, .int r, .int s]) ∧ S[c]? = some (.lst (ns.map .int)) ∧ 0 ≤ i ∧ 0 ≤ s ∧ s < 2147483647
def BxC (b c : Nat) (S : Store) : Prop := ∃ ds, S[b]? = some (.lst (.ref c :: ds))
structure Fr (b : Nat) (S S' : Store) : Prop where
  len : S'.length = S.length
  oth : ∀ j, j ≠ b → S'[j]? = S[j]?
  bx : Bx b S'
  keep : ∀ c, BxC b c S → BxC b c S'
theorem Fr.refl {b : Nat} {S : Store} (h : Bx b S) : Fr b S S := ⟨rfl, fun _ _ => rfl, h, fun _ q => q⟩
theorem Fr.trans {b : Nat} {S S1 S2 : Store} (h : Fr b S S1) (k : Fr b S1 S2) : Fr b S S2 := ⟨k.len.trans h.len, fun j hj => (k.oth j hj).trans (h.oth j hj), k.bx, fun c q => k.keep c (h.keep c q)⟩
theorem small_of {i : Int} (h0 : 0 ≤ i) (h : i < 2147483648) : small i = true := by
  unfold small
  rw [Bool.and_eq_true, decide_eq_true_eq, decide_eq_true_eq]
  omega
theorem Bx.put {b c : Nat} {S : Store} {ns : List Int} {i r s : Int} {ds : List D} (e1 : S[b]? = some (.lst (.ref c :: ds))) (hc : c ≠ b) (e2 : S[c]? = some (.lst (ns.map .int))) (hi : 0 ≤ i) (hs : 0 ≤ s) (hs2 : s < 2147483647) : Fr b S (S.set b (.lst [.ref c, .int i, .int r, .int s])) := by
  have hbl : b < S.length := (List.getElem?_eq_some_iff.mp e1).1
  refine ⟨by simp, fun j hj => List.getElem?_set_ne (Ne.symm hj), ⟨c, ns, i, r, s, hc, by simp [hbl], ?_, hi, hs, hs2⟩, fun c' q => ?_⟩
  · rw [List.getElem?_set_ne (Ne.symm hc)]; exact e2
  · obtain ⟨ds', q⟩ := q
    rw [e1] at q
    cases q
    exact ⟨_, by rw [List.getElem?_set_self hbl]⟩
theorem emod_rng (x : Int) {m : Int} (h : 0 < m) : 0 ≤ x % m ∧ x % m < m := ⟨Int.emod_nonneg x (by omega), Int.emod_lt_of_pos x h⟩
theorem small_mul {i j : Int} (h : small i = true) : mulOk i j = true := by unfold mulOk; rw [h]; rfl
theorem small_mulR {i j : Int} (h : small j = true) : mulOk i j = true := by unfold mulOk; rw [h, Bool.or_true]; rfl
theorem wide_of {i : Int} (h0 : -18446744073709551616 < i) (h : i < 18446744073709551616) : wide i = true := by
  unfold wide
  have h1 : i.natAbs < 2 ^ 64 := by omega
  exact decide_eq_true (Nat.lt_of_lt_of_le h1 (Nat.pow_le_pow_right (by decide) (by decide)))
theorem small10 : small 10 = true := by decide
theorem take_spec {T : Tbl} {f : Nat} (hT : T.defs f = some d_law_take) {b : Nat} {S : Store} (hb : Bx b S) {m : Int} (h0 : 0 < m) (hw : wide m = true) (n : Nat) :
    ∃ r S', call T (n + 1) f [.ref b, .int m] S = .ok (.int r) S' ∧ 0 ≤ r ∧ r < m ∧ Fr b S S' := by
  obtain ⟨c, ns, i, r, s, hc, e1, e2, hi, hs, hs2⟩ := hb.ex
  have hbl : b < S.length := (List.getElem?_eq_some_iff.mp e1).1
  have g1 : ∀ o, (S.set b o)[b]? = some o := fun o => List.getElem?_set_self hbl
  have g2 : ∀ o, (S.set b o)[c]? = S[c]? := fun o => List.getElem?_set_ne (Ne.symm hc)
  by_cases hr : 0 < r
  · refine ⟨r % m, S.set b (.lst [.ref c, .int i, .int (r / m), .int s]), ?_, (emod_rng r h0).1, (emod_rng r h0).2, Bx.put e1 hc e2 hi hs hs2⟩
    rw [call_at hT rfl]
    simp only [start, xs_nil, xs_cons, evalEs, evalAnd, evalOr, evalIt, e_v, e_pk, e_k, e_g, e_bin, e_chn, e_isn, e_ntn, e_neg, e_not, e_and, e_or, e_ite, e_tup, e_lst, e_dct0, e_idx, e_slL, e_slU, e_slB, e_rev, e_call, e_blt, e_met, e_cell, x_set, x_fz, x_unp, x_aug, x_ex, x_app, x_popA, x_ins, x_setx, x_sets, x_augs, x_iff, x_ret, x_mov, x_pass, x_for, x_whl, e_lc, idxD, idxO, atI, ixN, bop, drop, done, mkSlot, E.isPk, Es.anyPk, guard, G_call, G_fr, G_con, E.alloc, bltD, lenD, augD, intOf, sliceD, rcv_join, rcv_index, rcv_find, eqv_ii, eqv_bb, eqv_ss, eqv_nn, D.scal, List.all_cons, List.all_nil, reduceCtorEq, Int.reduceEq, asg, Tg.vars, wipe, noOwn, isTy, isN, Es.len, R.nox_ok, R.of_none, R.bind_ok, R.of_some, R.toS_ok, RS.then_nx, RS.then_rt, List.map_cons, List.map_nil, List.length_cons, List.length_nil, List.length_map, List.getElem?_map, List.cons_append, List.nil_append, List.replicate, List.getElem?_cons_zero, List.getElem?_cons_succ, List.set_cons_zero, List.set_cons_succ, List.set_set, Option.bind_some, Option.map_some, reduceIte, decide_true, decide_false, Bool.and_true, Bool.true_and, Bool.or_true, Bool.true_or, Bool.or_false, Bool.false_or, Bool.not_true, Bool.not_false, Bool.and_false, Bool.false_and, Bool.false_eq_true, Nat.reduceAdd, Nat.reduceSub, Nat.reduceLT, Int.reduceLT, Int.reduceLE, Int.reduceToNat, decide_eq_true_eq, Int.cast_ofNat_Int, d_law_take, e1, hr, h0, hw]
  · have k1 : mulOk s 48271 = true := small_mulR (by decide)
    have r1 := emod_rng (s * 48271 + 7) (m := 2147483647) (by decide)
    generalize hs3 : (s * 48271 + 7) % 2147483647 = s3 at r1
    have w7 : wide 7 = true := by decide
    have one : ∀ (s : Int) (hs : 0 ≤ s) (hs2 : s < 2147483647), mulOk s s = true ∧ mulOk ((s * s + s / 7) % 1000000007) 69621 = true := fun s hs hs2 => ⟨small_mul (small_of hs (by omega)), small_mulR (by decide)⟩
    by_cases hlt : i < ns.length
    · have hnn : ns[i.toNat]? = some ns[i.toNat] := List.getElem?_eq_getElem (by omega)
      generalize ns[i.toNat] = x at hnn
      by_cases hx : 10 ^ 18 ≤ x
      · refine ⟨x % m, S.set b (.lst [.ref c, .int (i + 1), .int (x / m), .int s3]), ?_, (emod_rng x h0).1, (emod_rng x h0).2, Bx.put e1 hc e2 (by omega) r1.1 r1.2⟩
        rw [call_at hT rfl]
        simp (decide := true) only [start, xs_nil, xs_cons, evalEs, evalAnd, evalOr, evalIt, e_v, e_pk, e_k, e_g, e_bin, e_chn, e_isn, e_ntn, e_neg, e_not, e_and, e_or, e_ite, e_tup, e_lst, e_dct0, e_idx, e_slL, e_slU, e_slB, e_rev, e_call, e_blt, e_met, e_cell, x_set, x_fz, x_unp, x_aug, x_ex, x_app, x_popA, x_ins, x_setx, x_sets, x_augs, x_iff, x_ret, x_mov, x_pass, x_for, x_whl, e_lc, idxD, idxO, atI, ixN, bop, drop, done, mkSlot, E.isPk, Es.anyPk, guard, G_call, G_fr, G_con, E.alloc, bltD, lenD, augD, intOf, sliceD, rcv_join, rcv_index, rcv_find, eqv_ii, eqv_bb, eqv_ss, eqv_nn, D.scal, List.all_cons, List.all_nil, reduceCtorEq, Int.reduceEq, asg, Tg.vars, wipe, noOwn, isTy, isN, Es.len, R.nox_ok, R.of_none, R.bind_ok, R.of_some, R.toS_ok, RS.then_nx, RS.then_rt, List.map_cons, List.map_nil, List.length_cons, List.length_nil, List.length_map, List.getElem?_map, List.cons_append, List.nil_append, List.replicate, List.getElem?_cons_zero, List.getElem?_cons_succ, List.set_cons_zero, List.set_cons_succ, List.set_set, Option.bind_some, Option.map_some, reduceIte, decide_true, decide_false, Bool.and_true, Bool.true_and, Bool.or_true, Bool.true_or, Bool.or_false, Bool.false_or, Bool.not_true, Bool.not_false, Bool.and_false, Bool.false_and, Bool.false_eq_true, Nat.reduceAdd, Nat.reduceSub, Nat.reduceLT, Int.reduceLT, Int.reduceLE, Int.reduceToNat, decide_eq_true_eq, Int.cast_ofNat_Int, d_law_take, e1, e2, hr, h0, hw, k1, hs3, g1, g2, hi, hlt, hnn, hx, small10]
      · have r3 := emod_rng (s3 + x * 65537) (m := 2147483647) (by decide)
        have k2 : mulOk x 65537 = true := small_mulR (by decide)
        generalize hs4 : (s3 + x * 65537) % 2147483647 = s4 at r3
        obtain ⟨o1, o2⟩ := one s4 r3.1 r3.2
        generalize e : call T (n + 1) f [.ref b, .int m] S = res
        rw [call_at hT rfl] at e
        simp (decide := true) only [start, xs_nil, xs_cons, evalEs, evalAnd, evalOr, evalIt, e_v, e_pk, e_k, e_g, e_bin, e_chn, e_isn, e_ntn, e_neg, e_not, e_and, e_or, e_ite, e_tup, e_lst, e_dct0, e_idx, e_slL, e_slU, e_slB, e_rev, e_call, e_blt, e_met, e_cell, x_set, x_fz, x_unp, x_aug, x_ex, x_app, x_popA, x_ins, x_setx, x_sets, x_augs, x_iff, x_ret, x_mov, x_pass, x_for, x_whl, e_lc, idxD, idxO, atI, ixN, bop, drop, done, mkSlot, E.isPk, Es.anyPk, guard, G_call, G_fr, G_con, E.alloc, bltD, lenD, augD, intOf, sliceD, rcv_join, rcv_index, rcv_find, eqv_ii, eqv_bb, eqv_ss, eqv_nn, D.scal, List.all_cons, List.all_nil, reduceCtorEq, Int.reduceEq, asg, Tg.vars, wipe, noOwn, isTy, isN, Es.len, R.nox_ok, R.of_none, R.bind_ok, R.of_some, R.toS_ok, RS.then_nx, RS.then_rt, List.map_cons, List.map_nil, List.length_cons, List.length_nil, List.length_map, List.getElem?_map, List.cons_append, List.nil_append, List.replicate, List.getElem?_cons_zero, List.getElem?_cons_succ, List.set_cons_zero, List.set_cons_succ, List.set_set, Option.bind_some, Option.map_some, reduceIte, decide_true, decide_false, Bool.and_true, Bool.true_and, Bool.or_true, Bool.true_or, Bool.or_false, Bool.false_or, Bool.not_true, Bool.not_false, Bool.and_false, Bool.false_and, Bool.false_eq_true, Nat.reduceAdd, Nat.reduceSub, Nat.reduceLT, Int.reduceLT, Int.reduceLE, Int.reduceToNat, decide_eq_true_eq, Int.cast_ofNat_Int, d_law_take, e1, e2, hr, h0, hw, k1, k2, hs3, hs4, g1, g2, hi, hlt, hnn, hx, small10, w7, o1, o2] at e
        subst e
        exact ⟨_, _, rfl, (emod_rng _ h0).1, (emod_rng _ h0).2, Bx.put e1 hc e2 (by omega) r3.1 r3.2⟩
    · obtain ⟨o1, o2⟩ := one s3 r1.1 r1.2
      generalize e : call T (n + 1) f [.ref b, .int m] S = res
      rw [call_at hT rfl] at e
      simp (decide := true) only [start, xs_nil, xs_cons, evalEs, evalAnd, evalOr, evalIt, e_v, e_pk, e_k, e_g, e_bin, e_chn, e_isn, e_ntn, e_neg, e_not, e_and, e_or, e_ite, e_tup, e_lst, e_dct0, e_idx, e_slL, e_slU, e_slB, e_rev, e_call, e_blt, e_met, e_cell, x_set, x_fz, x_unp, x_aug, x_ex, x_app, x_popA, x_ins, x_setx, x_sets, x_augs, x_iff, x_ret, x_mov, x_pass, x_for, x_whl, e_lc, idxD, idxO, atI, ixN, bop, drop, done, mkSlot, E.isPk, Es.anyPk, guard, G_call, G_fr, G_con, E.alloc, bltD, lenD, augD, intOf, sliceD, rcv_join, rcv_index, rcv_find, eqv_ii, eqv_bb, eqv_ss, eqv_nn, D.scal, List.all_cons, List.all_nil, reduceCtorEq, Int.reduceEq, asg, Tg.vars, wipe, noOwn, isTy, isN, Es.len, R.nox_ok, R.of_none, R.bind_ok, R.of_some, R.toS_ok, RS.then_nx, RS.then_rt, List.map_cons, List.map_nil, List.length_cons, List.length_nil, List.length_map, List.getElem?_map, List.cons_append, List.nil_append, List.replicate, List.getElem?_cons_zero, List.getElem?_cons_succ, List.set_cons_zero, List.set_cons_succ, List.set_set, Option.bind_some, Option.map_some, reduceIte, decide_true, decide_false, Bool.and_true, Bool.true_and, Bool.or_true, Bool.true_or, Bool.or_false, Bool.false_or, Bool.not_true, Bool.not_false, Bool.and_false, Bool.false_and, Bool.false_eq_true, Nat.reduceAdd, Nat.reduceSub, Nat.reduceLT, Int.reduceLT, Int.reduceLE, Int.reduceToNat, decide_eq_true_eq, Int.cast_ofNat_Int, d_law_take, e1, e2, hr, h0, hw, k1, hs3, g1, g2, hi, hlt, small10, w7, o1, o2] at e
      subst e
      exact ⟨_, _, rfl, (emod_rng _ h0).1, (emod_rng _ h0).2, Bx.put e1 hc e2 hi r1.1 r1.2⟩
end IL
namespace IL
theorem lc_inv {f : D → Store → R (Option D)} {I : Store → Prop} {P : D → Prop} : ∀ {ds : List D} {S : Store}, I S → (∀ d ∈ ds, ∀ S, I S → ∃ y S', f d S = .ok (some y) S' ∧ P y ∧ I S') → ∃ ys S', lcLoop f ds S = .ok ys S' ∧ ys.length = ds.length ∧ (∀ y ∈ ys, P y) ∧ I S'
  | [], S, h, _ => ⟨[], S, rfl, rfl, fun _ h => (nomatch h), h⟩
  | d :: ds, S, h, k => by
    obtain ⟨y, S1, e1, p1, i1⟩ := k d List.mem_cons_self S h
    obtain ⟨ys, S2, e2, l2, p2, i2⟩ := lc_inv (ds := ds) i1 fun d hd => k d (List.mem_cons_of_mem _ hd)
    refine ⟨y :: ys, S2, ?_, by rw [List.length_cons, List.length_cons, l2], ?_, i2⟩
    · show ((f d S).bind fun o S1 => (lcLoop f ds S1).bind fun r S2 => .ok (match o with | some x => x :: r | none => r) S2) = _
      rw [e1, R.bind_ok, e2, R.bind_ok]
    · intro z hz
      rcases List.mem_cons.mp hz with e | e
      · rw [e]; exact p1
      · exact p2 z e
def sg (l : List Nat) : List D := l.map fun c => .str [c]
theorem sg_of : ∀ {ys : List D} {P : Nat → Prop}, (∀ y ∈ ys, ∃ c, y = .str [c] ∧ P c) → ∃ l : List Nat, ys = sg l ∧ ∀ c ∈ l, P c
  | [], _, _ => ⟨[], rfl, fun _ h => (nomatch h)⟩
  | y :: ys, P, h => by
    obtain ⟨c, rfl, pc⟩ := h y List.mem_cons_self
    obtain ⟨l, rfl, pl⟩ := sg_of (ys := ys) fun y hy => h y (List.mem_cons_of_mem _ hy)
    refine ⟨c :: l, rfl, fun x hx => ?_⟩
    rcases List.mem_cons.mp hx with e | e
    · rw [e]; exact pc
    · exact pl x e
theorem strs_sg : ∀ l : List Nat, strsD (sg l) = some (l.map fun c => [c])
  | [] => rfl
  | c :: l => by
    show (strsD (sg l)).map ([c] :: ·) = _
    rw [strs_sg l]; rfl
theorem joinL_nil : ∀ l : List (List Nat), joinL [] l = l.flatten
  | [] => rfl
  | [x] => by simp [joinL]
  | x :: y :: r => by
    show x ++ [] ++ joinL [] (y :: r) = _
    rw [joinL_nil (y :: r), List.append_nil]; rfl
theorem flat_one : ∀ l : List Nat, (l.map fun c => [c]).flatten = l
  | [] => rfl
  | c :: l => by rw [List.map_cons, List.flatten_cons, flat_one l]; rfl
theorem joinLen_sg : ∀ l : List Nat, joinLen [] (l.map fun c => [c]) = l.length
  | [] => rfl
  | c :: l => by
    have := joinLen_sg l
    unfold joinLen at this ⊢
    rw [List.map_cons, List.map_cons, List.sum_cons, this]
    simp; omega
theorem join_sg {l : List Nat} (h : l.length ≤ line) (S : Store) : metD S .join (.str []) [.lst (sg l)] = some (.str l, S) := by
  show ((strsD (sg l)).bind fun ls => guard (decide (joinLen [] ls ≤ line)) (some (D.str (joinL [] ls), S))) = _
  rw [strs_sg, Option.bind_some, joinLen_sg, decide_eq_true h, joinL_nil, flat_one]; rfl
theorem rangeL_length : ∀ (n : Nat) (lo : Int), (rangeL lo n).length = n
  | 0, _ => rfl
  | n + 1, lo => by
    show (rangeL (lo + 1) n).length + 1 = n + 1
    rw [rangeL_length n]
theorem i62_of {k : Int} (h0 : -(2 ^ 62) ≤ k) (h : k < 2 ^ 62) : i62 k = true := by
  unfold i62
  rw [decide_eq_true h0, decide_eq_true h]; rfl
theorem i63_of {k : Int} (h0 : -(2 ^ 63) ≤ k) (h : k < 2 ^ 63) : i63 k = true := by
  unfold i63
  rw [decide_eq_true h0, decide_eq_true h]; rfl
theorem reps_one {α : Type} (c : α) : ∀ n, reps [c] n = List.replicate n c
  | 0 => rfl
  | n + 1 => by rw [List.replicate_succ, ← reps_one c n]; rfl
theorem signs_lc {T : Tbl} (hT : T.defs 101 = some d_law_take) {b : Nat} {S : Store} (hb : Bx b S) (n : Nat) {σ : List Slot} (h0 : σ[0]? = some (.val (.ref b))) {v : Nat} (hv : v < σ.length) (hv0 : v ≠ 0) {txt : List Nat} {m : Int} (hm : m = txt.length) (h1 : 0 < txt.length) (h2 : txt.length < 100) (ds : List D) :
    ∃ l S', lcLoop (lcStep (T.G (n + 1)) σ (.v v) .nil (.idx (.k (.str txt)) (.call 101 (.cons (.v 0) (.cons (.k (.int m)) .nil))))) ds S = .ok (sg l) S' ∧ l.length = ds.length ∧ (∀ c ∈ l, c ∈ txt) ∧ Fr b S S' := by
  subst hm
  have step : ∀ d ∈ ds, ∀ S1, Fr b S S1 → ∃ y S', lcStep (T.G (n + 1)) σ (.v v) .nil (.idx (.k (.str txt)) (.call 101 (.cons (.v 0) (.cons (.k (.int txt.length)) .nil)))) d S1 = .ok (some y) S' ∧ (∃ c, y = .str [c] ∧ c ∈ txt) ∧ Fr b S S' := by
    intro d _ S1 fr
    obtain ⟨r, S2, e, r0, r1, f2⟩ := take_spec hT fr.bx (m := txt.length) (by omega) (wide_of (by omega) (by omega)) n
    have hr : r.toNat < txt.length := by omega
    refine ⟨.str [txt[r.toNat]], S2, ?_, ⟨_, rfl, List.getElem_mem hr⟩, fr.trans f2⟩
    have w0 : (σ.set v (.val d))[0]? = some (.val (.ref b)) := by rw [List.getElem?_set_ne hv0]; exact h0
    have hl : v < (σ.set v .no).length := by rw [List.length_set]; exact hv
    have gr : txt[r.toNat]? = some txt[r.toNat] := List.getElem?_eq_getElem hr
    have a2 : txt.length ≤ line := by unfold line; omega
    simp only [lcStep, start, xs_nil, xs_cons, evalEs, evalAnd, evalOr, evalIt, e_v, e_pk, e_k, e_g, e_bin, e_chn, e_isn, e_ntn, e_neg, e_not, e_and, e_or, e_ite, e_tup, e_lst, e_dct0, e_idx, e_slL, e_slU, e_slB, e_rev, e_call, e_blt, e_met, e_cell, x_set, x_fz, x_unp, x_aug, x_ex, x_app, x_popA, x_ins, x_setx, x_sets, x_augs, x_iff, x_ret, x_mov, x_pass, x_for, x_whl, e_lc, idxD, idxO, atI, ixN, bop, drop, done, mkSlot, E.isPk, Es.anyPk, guard, G_call, G_fr, G_con, E.alloc, bltD, lenD, augD, intOf, sliceD, rcv_join, rcv_index, rcv_find, eqv_ii, eqv_bb, eqv_ss, eqv_nn, D.scal, List.all_cons, List.all_nil, reduceCtorEq, Int.reduceEq, asg, Tg.vars, wipe, noOwn, isTy, isN, Es.len, R.nox_ok, R.of_none, R.bind_ok, R.of_some, R.toS_ok, RS.then_nx, RS.then_rt, List.map_cons, List.map_nil, List.length_cons, List.length_nil, List.length_map, List.getElem?_map, List.cons_append, List.nil_append, List.replicate, List.getElem?_cons_zero, List.getElem?_cons_succ, List.set_cons_zero, List.set_cons_succ, List.set_set, Option.bind_some, Option.map_some, reduceIte, decide_true, decide_false, Bool.and_true, Bool.true_and, Bool.or_true, Bool.true_or, Bool.or_false, Bool.false_or, Bool.not_true, Bool.not_false, Bool.and_false, Bool.false_and, Bool.false_eq_true, Nat.reduceAdd, Nat.reduceSub, Nat.reduceLT, Int.reduceLT, Int.reduceLE, Int.reduceToNat, decide_eq_true_eq, Int.cast_ofNat_Int, hl, w0, e, r0, r1, gr, a2]
  obtain ⟨ys, S', e1, e2, e3, e4⟩ := lc_inv (Fr.refl hb) step
  obtain ⟨l, rfl, hl⟩ := sg_of e3
  exact ⟨l, S', e1, by rw [← e2]; unfold sg; rw [List.length_map], hl, e4⟩
theorem box_spec {T : Tbl} (hT : T.defs 100 = some d_law_box) (ns : List Int) (n : Nat) : call T (n + 1) 100 [.scr (ns.map .int)] [] = .ok (.lst [.ref 0, .int 0, .int 0, .int 1]) [.lst (ns.map .int)] := by
  rw [call_at hT rfl]
  simp only [start, xs_nil, xs_cons, evalEs, evalAnd, evalOr, evalIt, e_v, e_pk, e_k, e_g, e_bin, e_chn, e_isn, e_ntn, e_neg, e_not, e_and, e_or, e_ite, e_tup, e_lst, e_dct0, e_idx, e_slL, e_slU, e_slB, e_rev, e_call, e_blt, e_met, e_cell, x_set, x_fz, x_unp, x_aug, x_ex, x_app, x_popA, x_ins, x_setx, x_sets, x_augs, x_iff, x_ret, x_mov, x_pass, x_for, x_whl, e_lc, idxD, idxO, atI, ixN, bop, drop, done, mkSlot, E.isPk, Es.anyPk, guard, G_call, G_fr, G_con, E.alloc, bltD, lenD, augD, intOf, sliceD, rcv_join, rcv_index, rcv_find, eqv_ii, eqv_bb, eqv_ss, eqv_nn, D.scal, List.all_cons, List.all_nil, reduceCtorEq, Int.reduceEq, asg, Tg.vars, wipe, noOwn, isTy, isN, Es.len, R.nox_ok, R.of_none, R.bind_ok, R.of_some, R.toS_ok, RS.then_nx, RS.then_rt, List.map_cons, List.map_nil, List.length_cons, List.length_nil, List.length_map, List.getElem?_map, List.cons_append, List.nil_append, List.replicate, List.getElem?_cons_zero, List.getElem?_cons_succ, List.set_cons_zero, List.set_cons_succ, List.set_set, Option.bind_some, Option.map_some, reduceIte, decide_true, decide_false, Bool.and_true, Bool.true_and, Bool.or_true, Bool.true_or, Bool.or_false, Bool.false_or, Bool.not_true, Bool.not_false, Bool.and_false, Bool.false_and, Bool.false_eq_true, Nat.reduceAdd, Nat.reduceSub, Nat.reduceLT, Int.reduceLT, Int.reduceLE, Int.reduceToNat, decide_eq_true_eq, Int.cast_ofNat_Int, d_law_box]
theorem bx_start (ns : List Int) : Bx 1 [.lst (ns.map .int), .lst [.ref 0, .int 0, .int 0, .int 1]] := ⟨0, ns, 0, 0, 1, by decide, rfl, rfl, by decide, by decide, by decide⟩
abbrev dI (l : List Int) : List D := l.map .int
end IL
namespace IL
mutual
def D.pl : Nat → D → Bool
  | _, .non => true
  | _, .bl _ => true
  | _, .int _ => true
  | _, .str l => decide (l.length ≤ line)
  | 0, _ => false
  | n + 1, .tup ds => decide (ds.length ≤ line) && D.pls n ds
  | n + 1, .lst ds => decide (ds.length ≤ line) && D.pls n ds
  | _, _ => false
def D.pls : Nat → List D → Bool
  | _, [] => true
  | n, d :: ds => D.pl n d && D.pls n ds
end
theorem pls_mem : ∀ {ds : List D} {n : Nat}, D.pls n ds = true → ∀ d ∈ ds, d.pl n = true
  | [], _, _, _, h => nomatch h
  | x :: ds, n, h, d, hd => by
    have h : (D.pl n x && D.pls n ds) = true := h
    rw [Bool.and_eq_true] at h
    rcases List.mem_cons.mp hd with e | e
    · rw [e]; exact h.1
    · exact pls_mem h.2 d e
theorem zip_self : ∀ ds : List D, zipL ds ds = ds.map fun d => .tup [d, d]
  | [] => rfl
  | d :: ds => by
    show .tup [d, d] :: zipL ds ds = _
    rw [zip_self ds]; rfl
end IL
namespace IL
theorem sIx_none (n d : Nat) : sIx n d none = d := rfl
theorem sIx_some {n d : Nat} {i : Int} (h : 0 ≤ i) : sIx n d (some i) = min i.toNat n := by
  show (if i < 0 then (i + n).toNat else min i.toNat n) = _
  rw [if_neg (by omega)]
theorem cut_hi {α : Type} (l : List α) {i : Int} (h0 : 0 ≤ i) : cut l none (some i) = l.take i.toNat := by
  unfold cut
  rw [sIx_none, sIx_some h0, List.drop_zero, Nat.sub_zero, List.take_eq_take_iff]
  omega
theorem cut_lo {α : Type} (l : List α) {i : Int} (h0 : 0 ≤ i) : cut l (some i) none = l.drop i.toNat := by
  unfold cut
  rw [sIx_none, sIx_some h0]
  by_cases h : i.toNat ≤ l.length
  · rw [Nat.min_eq_left h, List.take_of_length_le (by rw [List.length_drop]; omega)]
  · rw [Nat.min_eq_right (by omega), List.drop_of_length_le (Nat.le_refl _), List.drop_of_length_le (by omega)]
    simp
end IL
namespace IL
abbrev ox (l : List Nat) : Prop := ∀ c ∈ l, c = 111 ∨ c = 120
theorem ox_app {l m : List Nat} (h : ox l) (k : ox m) : ox (l ++ m) := fun c hc => (List.mem_append.mp hc).elim (h c) (k c)
theorem ox_rep {c : Nat} (h : c = 111 ∨ c = 120) (n : Nat) : ox (List.replicate n c) := fun d hd => by rw [(List.mem_replicate.mp hd).2]; exact h
theorem ox_sub {l m : List Nat} (h : ox m) (k : ∀ c ∈ l, c ∈ m) : ox l := fun c hc => h c (k c hc)
theorem ox2 : ox [111, 120] := fun c hc => by simpa using hc
theorem bars_spec {T : Tbl} (hT : T.defs 101 = some d_law_take) (hB : T.defs 102 = some d_law_bars) {b : Nat} {S : Store} (hb : Bx b S) {sz : Int} (h0 : 0 < sz) (h1 : sz < 1000) (n : Nat) :
    ∃ t S', call T (n + 2) 102 [.ref b, .int sz] S = .ok (.str t) S' ∧ (t.length : Int) = sz ∧ ox t ∧ Fr b S S' := by
  obtain ⟨k, S1, e1, k0, k1, f1⟩ := take_spec hT hb (m := 5) (by decide) (wide_of (by decide) (by decide)) n
  have i62s : i62 sz = true := i62_of (by omega) (by omega)
  have hs : sz.toNat ≤ line := by unfold line; omega
  by_cases c0 : k = 0
  · obtain ⟨l, S2, e2, l2, m2, f2⟩ := signs_lc hT f1.bx n (σ := [.val (.ref b), .val (.int sz), .val (.int k), .no, .no, .no]) rfl (v := 5) (by show 5 < 6; decide) (by decide) (txt := [111, 120]) (m := 2) rfl (by decide) (by decide) (rangeL 0 sz.toNat)
    rw [rangeL_length] at l2
    refine ⟨l, S2, ?_, by omega, ox_sub ox2 m2, f1.trans f2⟩
    rw [call_at hB rfl]
    subst c0
    simp (decide := true) only [start, xs_nil, xs_cons, evalEs, evalAnd, evalOr, evalIt, e_v, e_pk, e_k, e_g, e_bin, e_chn, e_isn, e_ntn, e_neg, e_not, e_and, e_or, e_ite, e_tup, e_lst, e_dct0, e_idx, e_slL, e_slU, e_slB, e_rev, e_call, e_blt, e_met, e_cell, x_set, x_fz, x_unp, x_aug, x_ex, x_app, x_popA, x_ins, x_setx, x_sets, x_augs, x_iff, x_ret, x_mov, x_pass, x_for, x_whl, e_lc, idxD, idxO, atI, ixN, bop, drop, done, mkSlot, E.isPk, Es.anyPk, guard, G_call, G_fr, G_con, E.alloc, bltD, lenD, augD, intOf, sliceD, rcv_join, rcv_index, rcv_find, eqv_ii, eqv_bb, eqv_ss, eqv_nn, D.scal, List.all_cons, List.all_nil, reduceCtorEq, Int.reduceEq, asg, Tg.vars, wipe, noOwn, isTy, isN, Es.len, R.nox_ok, R.of_none, R.bind_ok, R.of_some, R.toS_ok, RS.then_nx, RS.then_rt, List.map_cons, List.map_nil, List.length_cons, List.length_nil, List.length_map, List.getElem?_map, List.cons_append, List.nil_append, List.replicate, List.getElem?_cons_zero, List.getElem?_cons_succ, List.set_cons_zero, List.set_cons_succ, List.set_set, Option.bind_some, Option.map_some, reduceIte, decide_true, decide_false, Bool.and_true, Bool.true_and, Bool.or_true, Bool.true_or, Bool.or_false, Bool.false_or, Bool.not_true, Bool.not_false, Bool.and_false, Bool.false_and, Bool.false_eq_true, Nat.reduceAdd, Nat.reduceSub, Nat.reduceLT, Int.reduceLT, Int.reduceLE, Int.reduceToNat, decide_eq_true_eq, Int.cast_ofNat_Int, d_law_bars, e1, i62s, rangeL_length, hs, e2, join_sg (show l.length ≤ line by omega)]
  by_cases c1 : k = 1
  · obtain ⟨l, S2, e2, l2, m2, f2⟩ := signs_lc hT f1.bx n (σ := [.val (.ref b), .val (.int sz), .val (.int k), .no, .no, .no]) rfl (v := 5) (by show 5 < 6; decide) (by decide) (txt := [111, 111, 111, 111, 111, 120]) (m := 6) rfl (by decide) (by decide) (rangeL 0 sz.toNat)
    rw [rangeL_length] at l2
    refine ⟨l, S2, ?_, by omega, ox_sub (fun c hc => by simpa using hc) m2, f1.trans f2⟩
    rw [call_at hB rfl]
    subst c1
    simp (decide := true) only [start, xs_nil, xs_cons, evalEs, evalAnd, evalOr, evalIt, e_v, e_pk, e_k, e_g, e_bin, e_chn, e_isn, e_ntn, e_neg, e_not, e_and, e_or, e_ite, e_tup, e_lst, e_dct0, e_idx, e_slL, e_slU, e_slB, e_rev, e_call, e_blt, e_met, e_cell, x_set, x_fz, x_unp, x_aug, x_ex, x_app, x_popA, x_ins, x_setx, x_sets, x_augs, x_iff, x_ret, x_mov, x_pass, x_for, x_whl, e_lc, idxD, idxO, atI, ixN, bop, drop, done, mkSlot, E.isPk, Es.anyPk, guard, G_call, G_fr, G_con, E.alloc, bltD, lenD, augD, intOf, sliceD, rcv_join, rcv_index, rcv_find, eqv_ii, eqv_bb, eqv_ss, eqv_nn, D.scal, List.all_cons, List.all_nil, reduceCtorEq, Int.reduceEq, asg, Tg.vars, wipe, noOwn, isTy, isN, Es.len, R.nox_ok, R.of_none, R.bind_ok, R.of_some, R.toS_ok, RS.then_nx, RS.then_rt, List.map_cons, List.map_nil, List.length_cons, List.length_nil, List.length_map, List.getElem?_map, List.cons_append, List.nil_append, List.replicate, List.getElem?_cons_zero, List.getElem?_cons_succ, List.set_cons_zero, List.set_cons_succ, List.set_set, Option.bind_some, Option.map_some, reduceIte, decide_true, decide_false, Bool.and_true, Bool.true_and, Bool.or_true, Bool.true_or, Bool.or_false, Bool.false_or, Bool.not_true, Bool.not_false, Bool.and_false, Bool.false_and, Bool.false_eq_true, Nat.reduceAdd, Nat.reduceSub, Nat.reduceLT, Int.reduceLT, Int.reduceLE, Int.reduceToNat, decide_eq_true_eq, Int.cast_ofNat_Int, d_law_bars, e1, i62s, rangeL_length, hs, e2, join_sg (show l.length ≤ line by omega)]
  by_cases c2 : k = 2
  · obtain ⟨x, S2, e2, x0, x1, f2⟩ := take_spec hT f1.bx (m := sz) h0 (wide_of (by omega) (by omega)) n
    obtain ⟨y, S3, e3, y0, y1, f3⟩ := take_spec hT f2.bx (m := sz - x) (by omega) (wide_of (by omega) (by omega)) n
    have a1 : i63 x = true := i63_of (by omega) (by omega)
    have a2 : i63 (x + 1 + y - x) = true := i63_of (by omega) (by omega)
    have a3 : i63 (sz - (x + 1 + y)) = true := i63_of (by omega) (by omega)
    have b1 : 1 * x.toNat ≤ line := by unfold line; omega
    have b2 : 1 * (x + 1 + y - x).toNat ≤ line := by unfold line; omega
    have b3 : 1 * (sz - (x + 1 + y)).toNat ≤ line := by unfold line; omega
    have b4 : x.toNat + (x + 1 + y - x).toNat ≤ line := by unfold line; omega
    have b5 : x.toNat + (x + 1 + y - x).toNat + (sz - (x + 1 + y)).toNat ≤ line := by unfold line; omega
    refine ⟨List.replicate x.toNat 120 ++ List.replicate (x + 1 + y - x).toNat 111 ++ List.replicate (sz - (x + 1 + y)).toNat 120, S3, ?_, by simp only [List.length_append, List.length_replicate]; omega, ox_app (ox_app (ox_rep (.inr rfl) _) (ox_rep (.inl rfl) _)) (ox_rep (.inr rfl) _), f1.trans (f2.trans f3)⟩
    rw [call_at hB rfl]
    subst c2
    simp (decide := true) only [start, xs_nil, xs_cons, evalEs, evalAnd, evalOr, evalIt, e_v, e_pk, e_k, e_g, e_bin, e_chn, e_isn, e_ntn, e_neg, e_not, e_and, e_or, e_ite, e_tup, e_lst, e_dct0, e_idx, e_slL, e_slU, e_slB, e_rev, e_call, e_blt, e_met, e_cell, x_set, x_fz, x_unp, x_aug, x_ex, x_app, x_popA, x_ins, x_setx, x_sets, x_augs, x_iff, x_ret, x_mov, x_pass, x_for, x_whl, e_lc, idxD, idxO, atI, ixN, bop, drop, done, mkSlot, E.isPk, Es.anyPk, guard, G_call, G_fr, G_con, E.alloc, bltD, lenD, augD, intOf, sliceD, rcv_join, rcv_index, rcv_find, eqv_ii, eqv_bb, eqv_ss, eqv_nn, D.scal, List.all_cons, List.all_nil, reduceCtorEq, Int.reduceEq, asg, Tg.vars, wipe, noOwn, isTy, isN, Es.len, R.nox_ok, R.of_none, R.bind_ok, R.of_some, R.toS_ok, RS.then_nx, RS.then_rt, List.map_cons, List.map_nil, List.length_cons, List.length_nil, List.length_map, List.getElem?_map, List.cons_append, List.nil_append, List.replicate, List.getElem?_cons_zero, List.getElem?_cons_succ, List.set_cons_zero, List.set_cons_succ, List.set_set, Option.bind_some, Option.map_some, reduceIte, decide_true, decide_false, Bool.and_true, Bool.true_and, Bool.or_true, Bool.true_or, Bool.or_false, Bool.false_or, Bool.not_true, Bool.not_false, Bool.and_false, Bool.false_and, Bool.false_eq_true, Nat.reduceAdd, Nat.reduceSub, Nat.reduceLT, Int.reduceLT, Int.reduceLE, Int.reduceToNat, decide_eq_true_eq, Int.cast_ofNat_Int, d_law_bars, e1, e2, e3, reps_one, a1, a2, a3, b1, b2, b3, b4, b5, List.length_append, List.length_replicate]
  by_cases c3 : k = 3
  · obtain ⟨l, S2, e2, l2, m2, f2⟩ := signs_lc hT f1.bx n (σ := [.val (.ref b), .val (.int sz), .val (.int k), .no, .no, .no]) rfl (v := 5) (by show 5 < 6; decide) (by decide) (txt := [120, 120, 120, 111]) (m := 4) rfl (by decide) (by decide) (rangeL 0 sz.toNat)
    rw [rangeL_length] at l2
    refine ⟨l, S2, ?_, by omega, ox_sub (fun c hc => Or.symm (by simpa using hc)) m2, f1.trans f2⟩
    rw [call_at hB rfl]
    subst c3
    simp (decide := true) only [start, xs_nil, xs_cons, evalEs, evalAnd, evalOr, evalIt, e_v, e_pk, e_k, e_g, e_bin, e_chn, e_isn, e_ntn, e_neg, e_not, e_and, e_or, e_ite, e_tup, e_lst, e_dct0, e_idx, e_slL, e_slU, e_slB, e_rev, e_call, e_blt, e_met, e_cell, x_set, x_fz, x_unp, x_aug, x_ex, x_app, x_popA, x_ins, x_setx, x_sets, x_augs, x_iff, x_ret, x_mov, x_pass, x_for, x_whl, e_lc, idxD, idxO, atI, ixN, bop, drop, done, mkSlot, E.isPk, Es.anyPk, guard, G_call, G_fr, G_con, E.alloc, bltD, lenD, augD, intOf, sliceD, rcv_join, rcv_index, rcv_find, eqv_ii, eqv_bb, eqv_ss, eqv_nn, D.scal, List.all_cons, List.all_nil, reduceCtorEq, Int.reduceEq, asg, Tg.vars, wipe, noOwn, isTy, isN, Es.len, R.nox_ok, R.of_none, R.bind_ok, R.of_some, R.toS_ok, RS.then_nx, RS.then_rt, List.map_cons, List.map_nil, List.length_cons, List.length_nil, List.length_map, List.getElem?_map, List.cons_append, List.nil_append, List.replicate, List.getElem?_cons_zero, List.getElem?_cons_succ, List.set_cons_zero, List.set_cons_succ, List.set_set, Option.bind_some, Option.map_some, reduceIte, decide_true, decide_false, Bool.and_true, Bool.true_and, Bool.or_true, Bool.true_or, Bool.or_false, Bool.false_or, Bool.not_true, Bool.not_false, Bool.and_false, Bool.false_and, Bool.false_eq_true, Nat.reduceAdd, Nat.reduceSub, Nat.reduceLT, Int.reduceLT, Int.reduceLE, Int.reduceToNat, decide_eq_true_eq, Int.cast_ofNat_Int, d_law_bars, e1, i62s, rangeL_length, hs, e2, join_sg (show l.length ≤ line by omega)]
  · obtain ⟨r, S2, e2, r0, r1, f2⟩ := take_spec hT f1.bx (m := 2) (by decide) (wide_of (by decide) (by decide)) n
    have a1 : i63 sz = true := i63_of (by omega) (by omega)
    have b1 : 1 * sz.toNat ≤ line := by unfold line; omega
    have hc : r = 0 ∨ r = 1 := by omega
    rcases hc with rfl | rfl
    · refine ⟨List.replicate sz.toNat 111, S2, ?_, by simp only [List.length_replicate]; omega, ox_rep (.inl rfl) _, f1.trans f2⟩
      rw [call_at hB rfl]
      simp (decide := true) only [start, xs_nil, xs_cons, evalEs, evalAnd, evalOr, evalIt, e_v, e_pk, e_k, e_g, e_bin, e_chn, e_isn, e_ntn, e_neg, e_not, e_and, e_or, e_ite, e_tup, e_lst, e_dct0, e_idx, e_slL, e_slU, e_slB, e_rev, e_call, e_blt, e_met, e_cell, x_set, x_fz, x_unp, x_aug, x_ex, x_app, x_popA, x_ins, x_setx, x_sets, x_augs, x_iff, x_ret, x_mov, x_pass, x_for, x_whl, e_lc, idxD, idxO, atI, ixN, bop, drop, done, mkSlot, E.isPk, Es.anyPk, guard, G_call, G_fr, G_con, E.alloc, bltD, lenD, augD, intOf, sliceD, rcv_join, rcv_index, rcv_find, eqv_ii, eqv_bb, eqv_ss, eqv_nn, D.scal, List.all_cons, List.all_nil, reduceCtorEq, Int.reduceEq, asg, Tg.vars, wipe, noOwn, isTy, isN, Es.len, R.nox_ok, R.of_none, R.bind_ok, R.of_some, R.toS_ok, RS.then_nx, RS.then_rt, List.map_cons, List.map_nil, List.length_cons, List.length_nil, List.length_map, List.getElem?_map, List.cons_append, List.nil_append, List.replicate, List.getElem?_cons_zero, List.getElem?_cons_succ, List.set_cons_zero, List.set_cons_succ, List.set_set, Option.bind_some, Option.map_some, reduceIte, decide_true, decide_false, Bool.and_true, Bool.true_and, Bool.or_true, Bool.true_or, Bool.or_false, Bool.false_or, Bool.not_true, Bool.not_false, Bool.and_false, Bool.false_and, Bool.false_eq_true, Nat.reduceAdd, Nat.reduceSub, Nat.reduceLT, Int.reduceLT, Int.reduceLE, Int.reduceToNat, decide_eq_true_eq, Int.cast_ofNat_Int, d_law_bars, e1, e2, c0, c1, c2, c3, reps_one, a1, b1, Int.reduceToNat]
    · refine ⟨List.replicate sz.toNat 120, S2, ?_, by simp only [List.length_replicate]; omega, ox_rep (.inr rfl) _, f1.trans f2⟩
      rw [call_at hB rfl]
      simp (decide := true) only [start, xs_nil, xs_cons, evalEs, evalAnd, evalOr, evalIt, e_v, e_pk, e_k, e_g, e_bin, e_chn, e_isn, e_ntn, e_neg, e_not, e_and, e_or, e_ite, e_tup, e_lst, e_dct0, e_idx, e_slL, e_slU, e_slB, e_rev, e_call, e_blt, e_met, e_cell, x_set, x_fz, x_unp, x_aug, x_ex, x_app, x_popA, x_ins, x_setx, x_sets, x_augs, x_iff, x_ret, x_mov, x_pass, x_for, x_whl, e_lc, idxD, idxO, atI, ixN, bop, drop, done, mkSlot, E.isPk, Es.anyPk, guard, G_call, G_fr, G_con, E.alloc, bltD, lenD, augD, intOf, sliceD, rcv_join, rcv_index, rcv_find, eqv_ii, eqv_bb, eqv_ss, eqv_nn, D.scal, List.all_cons, List.all_nil, reduceCtorEq, Int.reduceEq, asg, Tg.vars, wipe, noOwn, isTy, isN, Es.len, R.nox_ok, R.of_none, R.bind_ok, R.of_some, R.toS_ok, RS.then_nx, RS.then_rt, List.map_cons, List.map_nil, List.length_cons, List.length_nil, List.length_map, List.getElem?_map, List.cons_append, List.nil_append, List.replicate, List.getElem?_cons_zero, List.getElem?_cons_succ, List.set_cons_zero, List.set_cons_succ, List.set_set, Option.bind_some, Option.map_some, reduceIte, decide_true, decide_false, Bool.and_true, Bool.true_and, Bool.or_true, Bool.true_or, Bool.or_false, Bool.false_or, Bool.not_true, Bool.not_false, Bool.and_false, Bool.false_and, Bool.false_eq_true, Nat.reduceAdd, Nat.reduceSub, Nat.reduceLT, Int.reduceLT, Int.reduceLE, Int.reduceToNat, decide_eq_true_eq, Int.cast_ofNat_Int, d_law_bars, e1, e2, c0, c1, c2, c3, reps_one, a1, b1, Int.reduceToNat]
end IL
namespace IL
def nxt (t : List Nat) (a : Nat) : Nat := match (t.drop a).findIdx? (· == 120) with
  | some j => a + j
  | none => t.length
theorem ox_at {t : List Nat} (ho : ox t) {k : Nat} (hk : k < t.length) : t[k]? = some 111 ∨ t[k]? = some 120 := by
  rw [List.getElem?_eq_getElem hk]
  rcases ho _ (List.getElem_mem hk) with e | e <;> rw [e] <;> simp
theorem nxt_spec {t : List Nat} (ho : ox t) {a : Nat} (ha : a ≤ t.length) : a ≤ nxt t a ∧ nxt t a ≤ t.length ∧ (∀ j, j < nxt t a - a → t[a + j]? = some 111) ∧ (nxt t a < t.length → t[nxt t a]? = some 120) := by
  unfold nxt
  cases e : (t.drop a).findIdx? (· == 120) with
  | none =>
    refine ⟨ha, Nat.le_refl _, fun j hj => ?_, fun h => absurd h (Nat.lt_irrefl _)⟩
    have hj2 : a + j < t.length := by dsimp only at hj; omega
    rcases ox_at ho hj2 with q | q
    · exact q
    · rw [List.findIdx?_eq_none_iff] at e
      have := e 120 (List.mem_of_getElem? (i := j) (by rw [List.getElem?_drop]; exact q))
      simp at this
  | some j =>
    rw [List.findIdx?_eq_some_iff_getElem] at e
    obtain ⟨h1, h2, h3⟩ := e
    rw [List.length_drop] at h1
    dsimp only
    refine ⟨by omega, by omega, fun i hi => ?_, fun _ => ?_⟩
    · have hi2 : i < j := by omega
      have h4 := h3 i hi2
      have hj2 : a + i < t.length := by omega
      rcases ox_at ho hj2 with q | q
      · exact q
      · rw [List.getElem_drop] at h4
        rw [List.getElem?_eq_getElem hj2] at q
        have := Option.some.inj q
        rw [this] at h4
        simp at h4
    · rw [List.getElem_drop] at h2
      rw [List.getElem?_eq_getElem (by omega)]
      simpa using h2
end IL
namespace IL
theorem lc_flt {f : D → Store → R (Option D)} {I : Store → Prop} : ∀ {ds : List D} {S : Store}, I S → (∀ d ∈ ds, ∀ S, I S → ∃ (b : Bool) (S' : Store), f d S = .ok (if b then some d else none) S' ∧ I S') → ∃ ys S', lcLoop f ds S = .ok ys S' ∧ ys.Sublist ds ∧ I S'
  | [], S, h, _ => ⟨[], S, rfl, List.Sublist.refl _, h⟩
  | d :: ds, S, h, k => by
    obtain ⟨b, S1, e1, i1⟩ := k d List.mem_cons_self S h
    obtain ⟨ys, S2, e2, sb, i2⟩ := lc_flt (ds := ds) i1 fun d hd => k d (List.mem_cons_of_mem _ hd)
    cases b with
    | false =>
      refine ⟨ys, S2, ?_, sb.cons d, i2⟩
      show ((f d S).bind fun o S1 => (lcLoop f ds S1).bind fun r S2 => .ok (match o with | some x => x :: r | none => r) S2) = _
      rw [e1, R.bind_ok, e2, R.bind_ok]; rfl
    | true =>
      refine ⟨d :: ys, S2, ?_, sb.cons₂ d, i2⟩
      show ((f d S).bind fun o S1 => (lcLoop f ds S1).bind fun r S2 => .ok (match o with | some x => x :: r | none => r) S2) = _
      rw [e1, R.bind_ok, e2, R.bind_ok]; rfl
structure Cuts (lo hi : Int) (cs : List Int) : Prop where
  ord : cs.Pairwise (· < ·)
  rng : ∀ c ∈ cs, lo ≤ c ∧ c < hi
  len : (cs.length : Int) ≤ hi
theorem rangeL_sub : ∀ (n : Nat) (lo : Int) {ys : List D}, ys.Sublist (rangeL lo n) → ∃ cs : List Int, ys = dI cs ∧ cs.Pairwise (· < ·) ∧ (∀ c ∈ cs, lo ≤ c ∧ c < lo + n) ∧ cs.length ≤ n
  | 0, lo, ys, h => by
    have : ys = [] := List.sublist_nil.mp h
    exact ⟨[], this, .nil, fun _ h => (nomatch h), Nat.le_refl _⟩
  | n + 1, lo, ys, h => by
    have h : ys.Sublist (.int lo :: rangeL (lo + 1) n) := h
    cases h with
    | cons _ h =>
      obtain ⟨cs, e, p, r, l⟩ := rangeL_sub n (lo + 1) h
      exact ⟨cs, e, p, fun c hc => by have := r c hc; omega, by omega⟩
    | cons_cons _ h =>
      obtain ⟨cs, e, p, r, l⟩ := rangeL_sub n (lo + 1) h
      refine ⟨lo :: cs, by rw [e]; rfl, .cons (fun c hc => by have := r c hc; omega) p, fun c hc => ?_, by rw [List.length_cons]; omega⟩
      rcases List.mem_cons.mp hc with q | q
      · omega
      · have := r c q; omega
end IL
namespace IL
def farF (e sp : Int) : List Int → Int → Int
  | [], a => a
  | o :: l, a => farF e sp l (if e ≤ o ∧ o ≤ sp then o else a)
theorem ints_dI : ∀ l : List Int, intsD (dI l) = some l
  | [] => rfl
  | i :: l => by
    show (intsD (dI l)).map (i :: ·) = _
    rw [ints_dI l]; rfl
end IL
namespace IL
structure Bord (sz : Int) (bd : List Int) : Prop where
  ord : bd.Pairwise (· < ·)
  rng : ∀ c ∈ bd, 0 ≤ c ∧ c ≤ sz
theorem bord_of {sz : Int} {cs : List Int} (h0 : 0 < sz) (h : Cuts 1 sz cs) : Bord sz ([0] ++ cs ++ [sz]) := by
  refine ⟨?_, ?_⟩
  · rw [List.pairwise_append]
    refine ⟨?_, .cons (fun _ h => (nomatch h)) .nil, ?_⟩
    · refine List.pairwise_cons.mpr ⟨fun c hc => ?_, h.ord⟩
      have := h.rng c hc; omega
    · intro a ha b hb
      rw [List.mem_singleton] at hb
      rcases List.mem_cons.mp ha with e | e
      · omega
      · have := h.rng a e; omega
  · intro c hc
    rcases List.mem_append.mp hc with e | e
    · rcases List.mem_cons.mp e with e | e
      · omega
      · have := h.rng c e; omega
    · rw [List.mem_singleton] at e; omega
theorem Bord.get {sz : Int} {bd : List Int} (B : Bord sz bd) {k : Nat} (h : k + 1 < bd.length) : ∃ x y, bd[k]? = some x ∧ bd[k + 1]? = some y ∧ 0 ≤ x ∧ x < y ∧ y ≤ sz := by
  refine ⟨bd[k], bd[k + 1], List.getElem?_eq_getElem (by omega), List.getElem?_eq_getElem h, (B.rng _ (List.getElem_mem _)).1, ?_, (B.rng _ (List.getElem_mem _)).2⟩
  exact List.pairwise_iff_getElem.mp B.ord k (k + 1) (by omega) h (by omega)
abbrev Tk := List Nat × Int
def tkD (k : Tk) : D := .tup [.str k.1, .int k.2]
end IL
namespace IL
abbrev Dc := List (List Nat × Int)
def pget : Dc → List Nat → Option Int
  | [], _ => none
  | p :: L, t => if p.1 = t then some p.2 else pget L t
def pput (L : Dc) (t : List Nat) (a : Int) : Dc := if t ∈ L.map (·.1) then L.map (fun p => if p.1 = t then (p.1, a) else p) else L ++ [(t, a)]
def mn (i j : Int) : Int := if j < i then j else i
def pmin (L : Dc) (t : List Nat) (a : Int) : Dc := pput L t (mn a ((pget L t).getD a))
def pks (L : Dc) : List Ky := L.map fun p => Ky.s p.1
def pvs (L : Dc) : List D := L.map fun p => D.int p.2
theorem mn_le (i j : Int) : mn i j ≤ i ∧ mn i j ≤ j ∧ (mn i j = i ∨ mn i j = j) := by unfold mn; split <;> omega
theorem pks_len (L : Dc) : (pks L).length = L.length := List.length_map ..
theorem kget_p (t : List Nat) : ∀ L : Dc, kget (pks L) (pvs L) (.s t) = (pget L t).map D.int
  | [] => rfl
  | p :: L => by
    show (if Ky.s p.1 = Ky.s t then some (D.int p.2) else kget (pks L) (pvs L) (.s t)) = _
    unfold pget
    by_cases c : p.1 = t
    · rw [if_pos (by rw [c]), if_pos c]; rfl
    · rw [if_neg (fun e => c (by injection e)), if_neg c, kget_p t L]
theorem pks_mem (L : Dc) (t : List Nat) : Ky.s t ∈ pks L ↔ t ∈ L.map (·.1) := by
  unfold pks
  rw [List.mem_map, List.mem_map]
  constructor
  · rintro ⟨p, h, e⟩; exact ⟨p, h, by injection e⟩
  · rintro ⟨p, h, e⟩; exact ⟨p, h, by rw [e]⟩
theorem kset_p (t : List Nat) (a : Int) : ∀ L : Dc, kset (pks L) (pvs L) (.s t) (.int a) = pvs (L.map (fun p => if p.1 = t then (p.1, a) else p))
  | [] => rfl
  | p :: L => by
    show (if Ky.s p.1 = Ky.s t then D.int a else D.int p.2) :: kset (pks L) (pvs L) (.s t) (.int a) = D.int (if p.1 = t then (p.1, a) else p).2 :: pvs (L.map _)
    rw [kset_p t a L]
    by_cases c : p.1 = t
    · rw [if_pos (by rw [c]), if_pos c]
    · rw [if_neg (fun e => c (by injection e)), if_neg c]
theorem pks_set (t : List Nat) (a : Int) (L : Dc) : pks (L.map (fun p => if p.1 = t then (p.1, a) else p)) = pks L := by
  unfold pks
  rw [List.map_map]
  refine List.map_congr_left fun p _ => ?_
  show Ky.s (if p.1 = t then (p.1, a) else p).1 = _
  split <;> rfl
theorem kput_p (L : Dc) (t : List Nat) (a : Int) : kput (pks L) (pvs L) (.s t) (.int a) = (pks (pput L t a), pvs (pput L t a)) := by
  unfold kput pput
  by_cases c : t ∈ L.map (·.1)
  · rw [if_pos ((pks_mem L t).mpr c), if_pos c, kset_p, pks_set]
  · rw [if_neg fun h => c ((pks_mem L t).mp h), if_neg c]
    unfold pks pvs
    rw [List.map_append, List.map_append]; rfl
theorem pget_mem {L : Dc} {t : List Nat} {a : Int} : pget L t = some a → (t, a) ∈ L := by
  induction L with
  | nil => intro h; cases h
  | cons p L ih =>
    intro h
    unfold pget at h
    by_cases c : p.1 = t
    · rw [if_pos c] at h
      cases h
      rw [← c]
      exact List.mem_cons_self
    · rw [if_neg c] at h
      exact List.mem_cons_of_mem _ (ih h)
theorem pget_of {L : Dc} (nd : (L.map (·.1)).Nodup) {p : List Nat × Int} (h : p ∈ L) : pget L p.1 = some p.2 := by
  induction L with
  | nil => cases h
  | cons q L ih =>
    rw [List.map_cons, List.nodup_cons] at nd
    unfold pget
    rcases List.mem_cons.mp h with e | e
    · subst e; rw [if_pos rfl]
    · rw [if_neg fun z => nd.1 (by rw [z]; exact List.mem_map_of_mem e)]
      exact ih nd.2 e
theorem pget_map (t s : List Nat) (a : Int) : ∀ L : Dc, pget (L.map (fun p => if p.1 = t then (p.1, a) else p)) s = if s = t then (pget L s).map fun _ => a else pget L s
  | [] => by rw [List.map_nil]; unfold pget; split <;> rfl
  | p :: L => by
    rw [List.map_cons]
    unfold pget
    have ih := pget_map t s a L
    by_cases c : p.1 = t
    · rw [if_pos c]
      by_cases d : p.1 = s
      · rw [if_pos d, if_pos (by rw [← d, c]), if_pos d]; rfl
      · rw [if_neg d, if_neg d, ih]
    · rw [if_neg c]
      by_cases d : p.1 = s
      · rw [if_pos d, if_neg (fun e => c (by rw [d, e])), if_pos d]
      · rw [if_neg d, if_neg d, ih]
theorem pget_app (t s : List Nat) (a : Int) : ∀ L : Dc, t ∉ L.map (·.1) → pget (L ++ [(t, a)]) s = if s = t then some a else pget L s
  | [], _ => by
    show (if t = s then some a else none) = _
    by_cases c : t = s
    · rw [if_pos c, if_pos c.symm]
    · rw [if_neg c, if_neg (Ne.symm c)]; rfl
  | p :: L, h => by
    rw [List.map_cons, List.mem_cons, not_or] at h
    rw [List.cons_append]
    unfold pget
    have ih := pget_app t s a L h.2
    by_cases d : p.1 = s
    · rw [if_pos d, if_neg (fun e => h.1 (by rw [d, e])), if_pos d]
    · rw [if_neg d, ih, if_neg d]
theorem pget_put (L : Dc) (t s : List Nat) (a : Int) : pget (pput L t a) s = if s = t then some a else pget L s := by
  unfold pput
  by_cases c : t ∈ L.map (·.1)
  · rw [if_pos c, pget_map]
    by_cases d : s = t
    · rw [if_pos d, if_pos d]
      subst d
      cases e : pget L s with
      | some x => rfl
      | none =>
        exfalso
        obtain ⟨p, hp, e2⟩ := List.mem_map.mp c
        clear c
        induction L with
        | nil => cases hp
        | cons q L ih =>
          unfold pget at e
          by_cases z : q.1 = s
          · rw [if_pos z] at e; cases e
          · rw [if_neg z] at e
            rcases List.mem_cons.mp hp with y | y
            · exact z (by rw [← y]; exact e2)
            · exact ih e y
    · rw [if_neg d, if_neg d]
  · rw [if_neg c, pget_app t s a L c]
theorem put_keys (L : Dc) (t : List Nat) (a : Int) : (pput L t a).map (·.1) = if t ∈ L.map (·.1) then L.map (·.1) else L.map (·.1) ++ [t] := by
  unfold pput
  by_cases c : t ∈ L.map (·.1)
  · rw [if_pos c, if_pos c, List.map_map]
    refine List.map_congr_left fun p _ => ?_
    show (if p.1 = t then (p.1, a) else p).1 = _
    split <;> rfl
  · rw [if_neg c, if_neg c, List.map_append]; rfl
theorem put_nodup {L : Dc} {t : List Nat} {a : Int} (nd : (L.map (·.1)).Nodup) : ((pput L t a).map (·.1)).Nodup := by
  rw [put_keys]
  by_cases c : t ∈ L.map (·.1)
  · rw [if_pos c]; exact nd
  · rw [if_neg c]
    refine List.nodup_append.mpr ⟨nd, by simp, fun x hx y hy e => ?_⟩
    rw [List.mem_singleton.mp hy] at e
    exact c (by rw [← e]; exact hx)
theorem put_mem {L : Dc} {t : List Nat} {a : Int} {p : List Nat × Int} (h : p ∈ pput L t a) : p ∈ L ∨ p = (t, a) := by
  unfold pput at h
  by_cases c : t ∈ L.map (·.1)
  · rw [if_pos c] at h
    obtain ⟨q, hq, e⟩ := List.mem_map.mp h
    by_cases d : q.1 = t
    · rw [if_pos d] at e; exact .inr (by rw [← e, d])
    · rw [if_neg d] at e; exact .inl (by rw [← e]; exact hq)
  · rw [if_neg c] at h
    rcases List.mem_append.mp h with q | q
    · exact .inl q
    · exact .inr (List.mem_singleton.mp q)
theorem min_mem {L : Dc} {t : List Nat} {a : Int} {p : List Nat × Int} (h : p ∈ pmin L t a) : p ∈ L ∨ p = (t, a) := by
  unfold pmin at h
  rcases put_mem h with q | q
  · exact .inl q
  · rcases (mn_le a ((pget L t).getD a)).2.2 with e | e
    · rw [e] at q; exact .inr q
    · rw [e] at q
      cases g : pget L t with
      | none => rw [g] at q; exact .inr q
      | some x => rw [g] at q; exact .inl (by rw [q]; exact pget_mem g)
theorem min_nodup {L : Dc} {t : List Nat} {a : Int} (nd : (L.map (·.1)).Nodup) : ((pmin L t a).map (·.1)).Nodup := put_nodup nd
theorem min_get (L : Dc) (t s : List Nat) (a : Int) : pget (pmin L t a) s = if s = t then some (mn a ((pget L t).getD a)) else pget L s := pget_put L t s _
def pfold (l L : Dc) : Dc := l.foldl (fun L p => pmin L p.1 p.2) L
theorem fold_le : ∀ (l L : Dc) (s : List Nat) (x : Int), pget L s = some x → ∃ y, y ≤ x ∧ pget (pfold l L) s = some y
  | [], L, s, x, h => ⟨x, Int.le_refl _, h⟩
  | p :: l, L, s, x, h => by
    have g := min_get L p.1 s p.2
    by_cases c : s = p.1
    · rw [if_pos c, ← c, h] at g
      obtain ⟨y, h1, h2⟩ := fold_le l (pmin L p.1 p.2) s _ (by rw [← c]; exact g)
      have := (mn_le p.2 x).2.1
      exact ⟨y, by simp only [Option.getD_some] at h1; omega, h2⟩
    · rw [if_neg c, h] at g
      exact fold_le l (pmin L p.1 p.2) s x g
theorem fold_in : ∀ (l L : Dc) (p : List Nat × Int), p ∈ l → ∃ y, y ≤ p.2 ∧ pget (pfold l L) p.1 = some y
  | q :: l, L, p, h => by
    rcases List.mem_cons.mp h with e | e
    · subst e
      have g := min_get L p.1 p.1 p.2
      rw [if_pos rfl] at g
      obtain ⟨y, h1, h2⟩ := fold_le l (pmin L p.1 p.2) p.1 _ g
      have := (mn_le p.2 ((pget L p.1).getD p.2)).1
      exact ⟨y, by omega, h2⟩
    · exact fold_in l (pmin L q.1 q.2) p e
theorem fold_mem : ∀ (l L : Dc) (p : List Nat × Int), p ∈ pfold l L → p ∈ L ∨ p ∈ l
  | [], L, p, h => .inl h
  | q :: l, L, p, h => by
    rcases fold_mem l (pmin L q.1 q.2) p h with e | e
    · rcases min_mem e with z | z
      · exact .inl z
      · exact .inr (by rw [z]; exact List.mem_cons_self)
    · exact .inr (List.mem_cons_of_mem _ e)
def allT : Nat → List (List Nat)
  | 0 => [[]]
  | n + 1 => (allT n).map (111 :: ·) ++ (allT n).map (120 :: ·)
theorem allT_len : ∀ n, (allT n).length = 2 ^ n
  | 0 => rfl
  | n + 1 => by unfold allT; rw [List.length_append, List.length_map, List.length_map, allT_len n, Nat.pow_succ]; omega
theorem allT_mem : ∀ (t : List Nat), ox t → t ∈ allT t.length
  | [], _ => List.mem_singleton.mpr rfl
  | c :: t, h => by
    have ht := allT_mem t fun x hx => h x (List.mem_cons_of_mem _ hx)
    rw [List.length_cons]
    unfold allT
    rw [List.mem_append]
    rcases h c List.mem_cons_self with e | e
    · subst e; exact .inl (List.mem_map_of_mem ht)
    · subst e; exact .inr (List.mem_map_of_mem ht)
theorem sub_len {α : Type} [BEq α] [LawfulBEq α] : ∀ (l m : List α), l.Nodup → (∀ x ∈ l, x ∈ m) → l.length ≤ m.length
  | [], _, _, _ => Nat.zero_le _
  | a :: l, m, nd, h => by
    rw [List.nodup_cons] at nd
    have ih := sub_len l (m.erase a) nd.2 fun x hx => by
      refine (List.mem_erase_of_ne fun e => nd.1 (by rw [← e]; exact hx)).mpr (h x (List.mem_cons_of_mem _ hx))
    have ha := h a List.mem_cons_self
    rw [List.length_erase_of_mem ha] at ih
    have : 0 < m.length := List.length_pos_of_mem ha
    rw [List.length_cons]; omega
structure DcOk (n : Nat) (L : Dc) : Prop where
  nd : (L.map (·.1)).Nodup
  tx : ∀ p ∈ L, ox p.1 ∧ p.1.length = n
theorem DcOk.len {n : Nat} {L : Dc} (h : DcOk n L) : L.length ≤ 2 ^ n := by
  have := sub_len (L.map (·.1)) (allT n) h.nd fun t ht => by
    obtain ⟨p, hp, e⟩ := List.mem_map.mp ht
    obtain ⟨h1, h2⟩ := h.tx p hp
    rw [← e, ← h2]
    exact allT_mem p.1 h1
  rw [List.length_map, allT_len] at this
  exact this
theorem DcOk.min {n : Nat} {L : Dc} (h : DcOk n L) {t : List Nat} (a : Int) (h1 : ox t) (h2 : t.length = n) : DcOk n (pmin L t a) :=
  ⟨min_nodup h.nd, fun p hp => by
    rcases min_mem hp with q | q
    · exact h.tx p q
    · rw [q]; exact ⟨h1, h2⟩⟩
end IL
namespace IL
def fe (bd : List Int) (t : List Nat) (e : Int) : Int := farF e (nxt t e.toNat) bd e
def ownE (bd : List Int) (ks : List Tk) (a : Int) (e : Int) : Int := (ks.filter fun k => decide (k.2 ≤ a)).foldl (fun x k => max x (fe bd k.1 e)) e
def rowE (bd : List Int) (ks : List Tk) : Nat → Int → Int
  | 0, e => ownE bd ks 0 e
  | a + 1, e => max (ownE bd ks ((a + 1 : Nat) : Int) e) (rowE bd ks a (rowE bd ks a e))
theorem farF_mem (e sp : Int) : ∀ (l : List Int) (a : Int), farF e sp l a = a ∨ farF e sp l a ∈ l
  | [], a => .inl rfl
  | o :: l, a => by
    unfold farF
    rcases farF_mem e sp l (if e ≤ o ∧ o ≤ sp then o else a) with h | h
    · rw [h]
      by_cases c : e ≤ o ∧ o ≤ sp
      · rw [if_pos c]; exact .inr List.mem_cons_self
      · rw [if_neg c]; exact .inl rfl
    · exact .inr (List.mem_cons_of_mem _ h)
theorem fe_mem {bd : List Int} {e : Int} (h : e ∈ bd) (t : List Nat) : fe bd t e ∈ bd := by
  unfold fe
  rcases farF_mem e (nxt t e.toNat) bd e with q | q
  · rw [q]; exact h
  · exact q
theorem foldl_mem {bd : List Int} {e : Int} (g : Tk → Int) : ∀ (l : List Tk) (x : Int), x ∈ bd → (∀ k ∈ l, g k ∈ bd) → l.foldl (fun x k => max x (g k)) x ∈ bd
  | [], x, h, _ => h
  | k :: l, x, h, q => by
    rw [List.foldl_cons]
    refine foldl_mem (e := e) g l _ ?_ fun y hy => q y (List.mem_cons_of_mem _ hy)
    by_cases c : x ≤ g k
    · rw [Int.max_eq_right c]; exact q k List.mem_cons_self
    · rw [Int.max_eq_left (by omega)]; exact h
theorem ownE_mem {bd : List Int} (ks : List Tk) (a : Int) {e : Int} (h : e ∈ bd) : ownE bd ks a e ∈ bd := foldl_mem (e := e) (fun k => fe bd k.1 e) _ _ h fun k _ => fe_mem h k.1
theorem rowE_mem {bd : List Int} (ks : List Tk) : ∀ (a : Nat) {e : Int}, e ∈ bd → rowE bd ks a e ∈ bd
  | 0, e, h => ownE_mem ks _ h
  | a + 1, e, h => by
    unfold rowE
    have q := rowE_mem ks a (rowE_mem ks a h)
    have p := ownE_mem ks ((a + 1 : Nat) : Int) h
    by_cases c : ownE bd ks ((a + 1 : Nat) : Int) e ≤ rowE bd ks a (rowE bd ks a e)
    · rw [Int.max_eq_right c]; exact q
    · rw [Int.max_eq_left (by omega)]; exact p
theorem lc_ints {f : D → Store → R (Option D)} {g : Int → D} {S : Store} : ∀ {l : List Int}, (∀ a ∈ l, f (.int a) S = .ok (some (g a)) S) → lcLoop f (dI l) S = .ok (l.map g) S
  | [], _ => rfl
  | a :: l, k => by
    show ((f (.int a) S).bind fun o S1 => (lcLoop f (dI l) S1).bind fun r S2 => .ok (match o with | some x => x :: r | none => r) S2) = _
    rw [k a List.mem_cons_self, R.bind_ok, lc_ints fun x hx => k x (List.mem_cons_of_mem _ hx), R.bind_ok]
    rfl
theorem lc_mapA {α : Type} {f : D → Store → R (Option D)} {g : α → D} {h : α → D} {S : Store} : ∀ {l : List α}, (∀ a ∈ l, f (g a) S = .ok (some (h a)) S) → lcLoop f (l.map g) S = .ok (l.map h) S
  | [], _ => rfl
  | a :: l, k => by
    show ((f (g a) S).bind fun o S1 => (lcLoop f (l.map g) S1).bind fun r S2 => .ok (match o with | some x => x :: r | none => r) S2) = _
    rw [k a List.mem_cons_self, R.bind_ok, lc_mapA fun x hx => k x (List.mem_cons_of_mem _ hx), R.bind_ok]
    rfl
theorem max_if (i j : Int) : (if j > i then j else i) = max i j := by
  by_cases c : j > i
  · rw [if_pos c]; omega
  · rw [if_neg c]; omega
theorem zip_dI (f g : Int → Int) : ∀ bd : List Int, zipL (dI (bd.map f)) (dI (bd.map g)) = bd.map fun e => .tup [.int (f e), .int (g e)]
  | [] => rfl
  | e :: bd => by
    show D.tup [.int (f e), .int (g e)] :: zipL (dI (bd.map f)) (dI (bd.map g)) = _
    rw [zip_dI f g bd]; rfl
theorem dI_map (f : Int → Int) (bd : List Int) : dI (bd.map f) = bd.map fun e => .int (f e) := by
  show (bd.map f).map D.int = _
  rw [List.map_map]; rfl
theorem sets_get {bd : List Int} {e : Int} (h : e ∈ bd) : bd.idxOf e < bd.length ∧ bd[bd.idxOf e]? = some e := by
  have := List.idxOf_lt_length_of_mem h
  exact ⟨this, by rw [List.getElem?_eq_getElem this, List.getElem_idxOf]⟩
end IL
namespace IL
def at_ (bd s : List Int) (x : Int) : Int := s.getD (bd.idxOf x) 0
end IL
namespace IL
abbrev dS (ts : List (List Nat)) : List D := ts.map .str
structure FrX (b : Nat) (S S' : Store) (ts : List (List Nat)) : Prop where
  len : S'.length = S.length + 1
  oth : ∀ j, j < S.length → j ≠ b → S'[j]? = S[j]?
  tx : S'[S.length]? = some (.lst (dS ts))
  bx : Bx b S'
  keep : ∀ c, BxC b c S → BxC b c S'
theorem bx_lt {b : Nat} {S : Store} (h : Bx b S) : b < S.length := by
  obtain ⟨c, ns, i, r, s, hc, e1, e2, _⟩ := h.ex
  exact (List.getElem?_eq_some_iff.mp e1).1
theorem FrX.start {b : Nat} {S : Store} (h : Bx b S) (ts : List (List Nat)) : FrX b S (S ++ [.lst (dS ts)]) ts := by
  have hb := bx_lt h
  obtain ⟨c, ns, i, r, s, hc, e1, e2, r1⟩ := h.ex
  have hcl : c < S.length := (List.getElem?_eq_some_iff.mp e2).1
  exact ⟨by simp, fun j hj _ => List.getElem?_append_left hj, by simp, ⟨c, ns, i, r, s, hc, by rw [List.getElem?_append_left hb]; exact e1, by rw [List.getElem?_append_left hcl]; exact e2, r1⟩, fun c ⟨ds, q⟩ => ⟨ds, by rw [List.getElem?_append_left hb]; exact q⟩⟩
theorem FrX.step {b : Nat} {S S1 S2 : Store} {ts : List (List Nat)} (hb : b < S.length) (f : FrX b S S1 ts) (g : Fr b S1 S2) : FrX b S S2 ts :=
  ⟨g.len.trans f.len, fun j hj hn => (g.oth j hn).trans (f.oth j hj hn), (g.oth _ (by omega)).trans f.tx, g.bx, fun c q => g.keep c (f.keep c q)⟩
theorem FrX.put {b : Nat} {S S1 : Store} {ts ts' : List (List Nat)} (h : Bx b S) (f : FrX b S S1 ts) : FrX b S (S1.set S.length (.lst (dS ts'))) ts' := by
  have hb := bx_lt h
  have hl : S.length < S1.length := by rw [f.len]; omega
  obtain ⟨c0, ns0, i0, r0, s0, hc0, e10, e20, _⟩ := h.ex
  have hcl : c0 < S.length := (List.getElem?_eq_some_iff.mp e20).1
  obtain ⟨ds, kq⟩ := f.keep c0 ⟨_, e10⟩
  obtain ⟨c, ns, i, r, s, hc, e1, e2, r1⟩ := f.bx.ex
  rw [e1] at kq
  have ec : c = c0 := by cases kq; rfl
  refine ⟨by rw [List.length_set]; exact f.len, fun j hj hn => ?_, List.getElem?_set_self hl, ⟨c, ns, i, r, s, hc, ?_, ?_, r1⟩, fun c q => ?_⟩
  · rw [List.getElem?_set_ne (by omega)]; exact f.oth j hj hn
  · rw [List.getElem?_set_ne (by omega)]; exact e1
  · rw [List.getElem?_set_ne (by omega)]; exact e2
  · obtain ⟨ds, q⟩ := f.keep c q
    exact ⟨ds, by rw [List.getElem?_set_ne (by omega)]; exact q⟩
def Txs (sz : Int) (ts : List (List Nat)) : Prop := ∀ t ∈ ts, ox t ∧ (t.length : Int) = sz
def patchB : Ss := .cons (.set 6 0 (.call 101 (.cons (.v 0) (.cons (.blt .len (.cons (.v 3) .nil)) .nil)))) (.cons (.set 7 0 (.idx (.v 3) (.v 6))) (.cons (.set 8 0 (.bin .mul (.k (.str [111])) (.bin .sub (.idx (.v 4) (.bin .add (.v 5) (.k (.int 1)))) (.idx (.v 4) (.v 5))))) (.cons (.sets (.v 3) (.v 6) (.bin .add (.bin .add (.slU (.v 7) (.idx (.v 4) (.v 5))) (.v 8)) (.slL (.v 7) (.idx (.v 4) (.bin .add (.v 5) (.k (.int 1))))))) .nil)))
theorem patch_step {T : Tbl} (hT : T.defs 101 = some d_law_take) {b : Nat} {S : Store} (hb : Bx b S) {sz : Int} (h1 : sz < 1000) {bd : List Int} (B : Bord sz bd) (hbl : bd.length ≤ 2000) (v1 v2 : Slot) (n : Nat) {k : Nat} (hk : k + 1 < bd.length) {S1 : Store} {ts : List (List Nat)} (f : FrX b S S1 ts) (h0 : 0 < ts.length) (hl : ts.length ≤ 100) (ht : Txs sz ts) (z5 z6 z7 z8 : Slot) :
    ∃ S2 ts' w6 w7 w8, forStep (T.G (n + 1)) (.v 5) patchB (.int k) [.val (.ref b), v1, v2, .val (.ref S.length), .val (.lst (dI bd)), z5, z6, z7, z8] S1 = .nx [.val (.ref b), v1, v2, .val (.ref S.length), .val (.lst (dI bd)), .val (.int k), w6, w7, w8] S2 ∧ FrX b S S2 ts' ∧ ts'.length = ts.length ∧ Txs sz ts' := by
  obtain ⟨x, y, gx, gy, x0, xy, ys⟩ := B.get hk
  obtain ⟨r, S2, e1, r0, r1, f1⟩ := take_spec hT f.bx (m := (ts.length : Int)) (by omega) (wide_of (by omega) (by omega)) n
  have f2 := f.step (bx_lt hb) f1
  have hr : r.toNat < ts.length := by omega
  have gt : ts[r.toNat]? = some ts[r.toNat] := List.getElem?_eq_getElem hr
  obtain ⟨to, tl⟩ := ht _ (List.getElem_mem hr)
  generalize ts[r.toNat] = t at gt to tl
  have i0 : (0 : Int) ≤ k := by omega
  have i1 : (k : Int) < bd.length := by omega
  have j0 : (0 : Int) ≤ (k : Int) + 1 := by omega
  have j1 : (k : Int) + 1 < bd.length := by omega
  have gx' : bd[(k : Int).toNat]? = some x := by rw [Int.toNat_natCast]; exact gx
  have gy' : bd[((k : Int) + 1).toNat]? = some y := by rw [show ((k : Int) + 1).toNat = k + 1 by omega]; exact gy
  have c1 := cut_hi t x0
  have c2 := cut_lo t (i := y) (by omega)
  have a1 : i63 (y - x) = true := i63_of (by omega) (by omega)
  have b1 : 1 * (y - x).toNat ≤ line := by unfold line; omega
  have tln : t.length ≤ line := by unfold line; omega
  have l1 : (t.take x.toNat).length = x.toNat := by rw [List.length_take]; omega
  have l2 : (t.drop y.toNat).length = t.length - y.toNat := List.length_drop
  have b2 : (t.take x.toNat).length + (y - x).toNat ≤ line := by unfold line; omega
  have b3 : (t.take x.toNat).length + (y - x).toNat + (t.drop y.toNat).length ≤ line := by unfold line; omega
  refine ⟨S2.set S.length (.lst (dS (ts.set r.toNat (t.take x.toNat ++ List.replicate (y - x).toNat 111 ++ t.drop y.toNat)))), ts.set r.toNat (t.take x.toNat ++ List.replicate (y - x).toNat 111 ++ t.drop y.toNat), .val (.int r), .val (.str t), .val (.str (List.replicate (y - x).toNat 111)), ?_, f2.put hb, List.length_set, ?_⟩
  · have q1 := f.tx
    have q2 := f2.tx
    have q3 : dS (ts.set r.toNat (t.take x.toNat ++ List.replicate (y - x).toNat 111 ++ t.drop y.toNat)) = (dS ts).set r.toNat (.str (t.take x.toNat ++ List.replicate (y - x).toNat 111 ++ t.drop y.toNat)) := List.map_set
    rw [q3]
    simp only [forStep, patchB, start, xs_nil, xs_cons, evalEs, evalAnd, evalOr, evalIt, e_v, e_pk, e_k, e_g, e_bin, e_chn, e_isn, e_ntn, e_neg, e_not, e_and, e_or, e_ite, e_tup, e_lst, e_dct0, e_idx, e_slL, e_slU, e_slB, e_rev, e_call, e_blt, e_met, e_cell, x_set, x_fz, x_unp, x_aug, x_ex, x_app, x_popA, x_ins, x_setx, x_sets, x_augs, x_iff, x_ret, x_mov, x_pass, x_for, x_whl, e_lc, idxD, idxO, atI, ixN, bop, drop, done, mkSlot, E.isPk, Es.anyPk, guard, G_call, G_fr, G_con, E.alloc, bltD, lenD, augD, intOf, sliceD, rcv_join, rcv_index, rcv_find, eqv_ii, eqv_bb, eqv_ss, eqv_nn, D.scal, List.all_cons, List.all_nil, reduceCtorEq, Int.reduceEq, asg, Tg.vars, wipe, noOwn, isTy, isN, Es.len, R.nox_ok, R.of_none, R.bind_ok, R.of_some, R.toS_ok, RS.then_nx, RS.then_rt, List.map_cons, List.map_nil, List.length_cons, List.length_nil, List.length_map, List.getElem?_map, List.cons_append, List.nil_append, List.replicate, List.getElem?_cons_zero, List.getElem?_cons_succ, List.set_cons_zero, List.set_cons_succ, List.set_set, Option.bind_some, Option.map_some, reduceIte, decide_true, decide_false, Bool.and_true, Bool.true_and, Bool.or_true, Bool.true_or, Bool.or_false, Bool.false_or, Bool.not_true, Bool.not_false, Bool.and_false, Bool.false_and, Bool.false_eq_true, Nat.reduceAdd, Nat.reduceSub, Nat.reduceLT, Int.reduceLT, Int.reduceLE, Int.reduceToNat, decide_eq_true_eq, Int.cast_ofNat_Int, q1, q2, e1, r0, r1, gt, i0, i1, j0, j1, gx', gy', reps_one, a1, b1, tln, c1, c2, b2, b3, List.length_append, List.length_replicate]
  · intro t' ht'
    rcases List.mem_or_eq_of_mem_set ht' with e | e
    · exact ht t' e
    · subst e
      refine ⟨ox_app (ox_app (ox_sub to fun c hc => List.mem_of_mem_take hc) (ox_rep (.inl rfl) _)) (ox_sub to fun c hc => List.mem_of_mem_drop hc), ?_⟩
      rw [List.length_append, List.length_append, List.length_replicate, l1, l2]
      omega
theorem patch_loop {T : Tbl} (hT : T.defs 101 = some d_law_take) {b : Nat} {S : Store} (hb : Bx b S) {sz : Int} (h1 : sz < 1000) {bd : List Int} (B : Bord sz bd) (hbl : bd.length ≤ 2000) (v1 v2 : Slot) (n : Nat) : ∀ (m k : Nat) {S1 : Store} {ts : List (List Nat)} (z5 z6 z7 z8 : Slot), k + m + 1 = bd.length → FrX b S S1 ts → 0 < ts.length → ts.length ≤ 100 → Txs sz ts →
    ∃ S2 ts' w5 w6 w7 w8, forLoop (forStep (T.G (n + 1)) (.v 5) patchB) (rangeL k m) [.val (.ref b), v1, v2, .val (.ref S.length), .val (.lst (dI bd)), z5, z6, z7, z8] S1 = .nx [.val (.ref b), v1, v2, .val (.ref S.length), .val (.lst (dI bd)), w5, w6, w7, w8] S2 ∧ FrX b S S2 ts' ∧ ts'.length = ts.length ∧ Txs sz ts'
  | 0, k, S1, ts, z5, z6, z7, z8, h, f, h0, hl, ht => ⟨S1, ts, z5, z6, z7, z8, rfl, f, rfl, ht⟩
  | m + 1, k, S1, ts, z5, z6, z7, z8, h, f, h0, hl, ht => by
    obtain ⟨S2, ts2, w6, w7, w8, e1, f2, l2, t2⟩ := patch_step hT hb h1 B hbl v1 v2 n (k := k) (by omega) f h0 hl ht z5 z6 z7 z8
    obtain ⟨S3, ts3, u5, u6, u7, u8, e2, f3, l3, t3⟩ := patch_loop hT hb h1 B hbl v1 v2 n m (k + 1) (.val (.int k)) w6 w7 w8 (by omega) f2 (by omega) (by omega) t2
    refine ⟨S3, ts3, u5, u6, u7, u8, ?_, f3, l3.trans l2, t3⟩
    show (forStep (T.G (n + 1)) (.v 5) patchB (.int k) _ S1).then (forLoop _ (rangeL ((k : Int) + 1) m)) = _
    rw [e1, RS.then_nx]
    exact e2
theorem patched_spec {T : Tbl} (hT : T.defs 101 = some d_law_take) (hP : T.defs 130 = some d_law_patched) {b : Nat} {S : Store} (hb : Bx b S) {sz : Int} (h0 : 0 < sz) (h1 : sz < 1000) {cs : List Int} (hc : Cuts 1 sz cs) {S1 : Store} {ts : List (List Nat)} (f : FrX b S S1 ts) (ht0 : 0 < ts.length) (htl : ts.length ≤ 100) (ht : Txs sz ts) (n : Nat) :
    ∃ S2 ts', call T (n + 2) 130 [.ref b, .int sz, .lst (dI cs), .ref S.length] S1 = .ok (.ref S.length) S2 ∧ FrX b S S2 ts' ∧ ts'.length = ts.length ∧ Txs sz ts' := by
  have cl := hc.len
  have p1 : 1 + cs.length ≤ line := by unfold line; omega
  have p2 : cs.length + 1 + 1 ≤ line := by unfold line; omega
  have g2 : [D.int 0] ++ dI cs ++ [.int sz] = dI ([0] ++ cs ++ [sz]) := by simp [dI]
  have B := bord_of h0 hc
  have bl : ([0] ++ cs ++ [sz]).length = cs.length + 2 := by simp
  obtain ⟨S2, ts', w5, w6, w7, w8, e, f2, l2, t2⟩ := patch_loop hT hb h1 B (by omega) (.val (.int sz)) (.val (.lst (dI cs))) n (cs.length + 1) 0 .no .no .no .no (by omega) f ht0 htl ht
  refine ⟨S2, ts', ?_, f2, l2, t2⟩
  generalize [0] ++ cs ++ [sz] = bd at g2 B bl e
  obtain ⟨L, hL⟩ : ∃ L : Int, (bd.length : Int) = L := ⟨_, rfl⟩
  have hn : (L - 1).toNat = cs.length + 1 := by omega
  have a1 : i62 (L - 1) = true := i62_of (by omega) (by omega)
  unfold patchB at e
  rw [call_at hP rfl]
  have g3 : (D.int 0 :: (dI cs ++ [.int sz])) = dI bd := g2
  have e : forLoop (forStep (T.G (n + 1)) (.v 5) _) (rangeL 0 (cs.length + 1)) _ S1 = _ := e
  simp (decide := true) only [start, xs_nil, xs_cons, evalEs, evalAnd, evalOr, evalIt, e_v, e_pk, e_k, e_g, e_bin, e_chn, e_isn, e_ntn, e_neg, e_not, e_and, e_or, e_ite, e_tup, e_lst, e_dct0, e_idx, e_slL, e_slU, e_slB, e_rev, e_call, e_blt, e_met, e_cell, x_set, x_fz, x_unp, x_aug, x_ex, x_app, x_popA, x_ins, x_setx, x_sets, x_augs, x_iff, x_ret, x_mov, x_pass, x_for, x_whl, e_lc, idxD, idxO, atI, ixN, bop, drop, done, mkSlot, E.isPk, Es.anyPk, guard, G_call, G_fr, G_con, E.alloc, bltD, lenD, augD, intOf, sliceD, rcv_join, rcv_index, rcv_find, eqv_ii, eqv_bb, eqv_ss, eqv_nn, D.scal, List.all_cons, List.all_nil, reduceCtorEq, Int.reduceEq, asg, Tg.vars, wipe, noOwn, isTy, isN, Es.len, R.nox_ok, R.of_none, R.bind_ok, R.of_some, R.toS_ok, RS.then_nx, RS.then_rt, List.map_cons, List.map_nil, List.length_cons, List.length_nil, List.length_map, List.getElem?_map, List.cons_append, List.nil_append, List.replicate, List.getElem?_cons_zero, List.getElem?_cons_succ, List.set_cons_zero, List.set_cons_succ, List.set_set, Option.bind_some, Option.map_some, reduceIte, decide_true, decide_false, Bool.and_true, Bool.true_and, Bool.or_true, Bool.true_or, Bool.or_false, Bool.false_or, Bool.not_true, Bool.not_false, Bool.and_false, Bool.false_and, Bool.false_eq_true, Nat.reduceAdd, Nat.reduceSub, Nat.reduceLT, Int.reduceLT, Int.reduceLE, Int.reduceToNat, decide_eq_true_eq, Int.cast_ofNat_Int, d_law_patched, p1, p2, g3, hL, a1, hn, e, List.length_append]
structure Shelf (sz : Int) (cs : List Int) (ks : List Tk) : Prop where
  pos : 0 < sz
  cuts : Cuts 1 sz cs
  len : ks.length ≤ 20
  ok : ∀ k ∈ ks, ox k.1 ∧ (k.1.length : Int) = sz ∧ 0 ≤ k.2 ∧ k.2 ≤ 60
theorem strs_of {P : List Nat → Prop} : ∀ {ys : List D}, (∀ y ∈ ys, ∃ t, y = .str t ∧ P t) → ∃ ts : List (List Nat), ys = dS ts ∧ ∀ t ∈ ts, P t
  | [], _ => ⟨[], rfl, fun _ h => (nomatch h)⟩
  | y :: ys, h => by
    obtain ⟨c, rfl, pc⟩ := h y List.mem_cons_self
    obtain ⟨l, rfl, pl⟩ := strs_of (ys := ys) fun y hy => h y (List.mem_cons_of_mem _ hy)
    refine ⟨c :: l, rfl, fun x hx => ?_⟩
    rcases List.mem_cons.mp hx with e | e
    · rw [e]; exact pc
    · exact pl x e
end IL
namespace IL
section
variable {G : G} {σ : List Slot} {S : Store}
theorem ev_bin {o : Bop} {a b : E} {x y d : D} (h1 : evalE G σ a S = .ok x S) (h2 : evalE G σ b S = .ok y S) (h3 : bop o x y S = some d) : evalE G σ (.bin o a b) S = .ok d S := by rw [e_bin, h1, R.bind_ok, h2, R.bind_ok, h3]; rfl
theorem ev_idx {a b : E} {x y d : D} (h1 : evalE G σ a S = .ok x S) (h2 : evalE G σ b S = .ok y S) (h3 : idxD S x y = some d) : evalE G σ (.idx a b) S = .ok d S := by rw [e_idx, h1, R.bind_ok, h2, R.bind_ok, h3]; rfl
theorem ev_v {i : Nat} {d : D} (h : σ[i]? = some (.val d)) : evalE G σ (.v i) S = .ok d S := by rw [e_v, h]
theorem ev_k (d : D) : evalE G σ (.k d) S = .ok d S := rfl
end
end IL
namespace IL
theorem nxt_ge {t : List Nat} (ho : ox t) {x y : Nat} (hxy : x ≤ y) (hy : y ≤ t.length) : y ≤ nxt t x ↔ (t.drop x).take (y - x) = List.replicate (y - x) 111 := by
  obtain ⟨n1, n2, n3, n4⟩ := nxt_spec ho (a := x) (by omega)
  constructor
  · intro h
    refine List.ext_getElem? fun j => ?_
    by_cases hj : j < y - x
    · rw [List.getElem?_take_of_lt hj, List.getElem?_drop, n3 j (by omega), List.getElem?_replicate, if_pos hj]
    · rw [List.getElem?_eq_none (by rw [List.length_take, List.length_drop]; omega), List.getElem?_eq_none (by rw [List.length_replicate]; omega)]
  · intro h
    rcases Nat.lt_or_ge (nxt t x) y with q | q
    · have e := congrArg (fun l => l[nxt t x - x]?) h
      rw [List.getElem?_take_of_lt (by omega), List.getElem?_drop, show x + (nxt t x - x) = nxt t x by omega, n4 (by omega), List.getElem?_replicate, if_pos (by omega)] at e
      cases e
    · exact q
def cleanIn (ks : List Tk) (x y : Nat) : Bool := ks.any fun k => decide (y ≤ nxt k.1 x)
def barF (bd : List Int) (ks : List Tk) : Nat → Nat → Option (Int × Int)
  | _, 0 => none
  | k, m + 1 => if cleanIn ks (bd.getD k 0).toNat (bd.getD (k + 1) 0).toNat then barF bd ks (k + 1) m else some (bd.getD k 0, bd.getD (k + 1) 0)
def barD : Option (Int × Int) → D
  | none => .non
  | some p => .tup [.int p.1, .int p.2]
theorem getD_of {bd : List Int} {k : Nat} {x : Int} (h : bd[k]? = some x) : bd.getD k 0 = x := by rw [List.getD_eq_getElem?_getD, h]; rfl
end IL
namespace IL
structure Bd (sz : Int) (bd : List Int) : Prop where
  bord : Bord sz bd
  two : 2 ≤ bd.length
  fst : bd[0]? = some 0
  lst : bd[bd.length - 1]? = some sz
theorem bd_of {sz : Int} {cs : List Int} (h0 : 0 < sz) (h : Cuts 1 sz cs) : Bd sz ([0] ++ cs ++ [sz]) := by
  refine ⟨bord_of h0 h, by simp, rfl, ?_⟩
  have l : ([0] ++ cs ++ [sz]).length - 1 = ([0] ++ cs).length := by simp
  rw [l, List.getElem?_append_right (Nat.le_refl _), Nat.sub_self]; rfl
theorem barF_none {bd : List Int} {ks : List Tk} : ∀ (m k : Nat), barF bd ks k m = none → ∀ j, k ≤ j → j < k + m → cleanIn ks (bd.getD j 0).toNat (bd.getD (j + 1) 0).toNat = true
  | 0, k, _, j, h1, h2 => by omega
  | m + 1, k, h, j, h1, h2 => by
    have h : (if cleanIn ks (bd.getD k 0).toNat (bd.getD (k + 1) 0).toNat then barF bd ks (k + 1) m else some (bd.getD k 0, bd.getD (k + 1) 0)) = none := h
    split at h
    · by_cases e : j = k
      · rw [e]; assumption
      · exact barF_none m (k + 1) h j (by omega) (by omega)
    · cases h
theorem farF_ge (e sp y : Int) : ∀ (l : List Int) (a : Int), l.Pairwise (· < ·) → y ∈ l → e ≤ y → y ≤ sp → y ≤ farF e sp l a
  | [], _, _, h, _, _ => nomatch h
  | o :: l, a, p, h, h1, h2 => by
    have p2 := List.pairwise_cons.mp p
    unfold farF
    rcases List.mem_cons.mp h with q | q
    · subst q
      rw [if_pos ⟨h1, h2⟩]
      rcases farF_mem e sp l y with q | q
      · rw [q]; exact Int.le_refl _
      · have := p2.1 _ q; omega
    · exact farF_ge e sp y l _ p2.2 q h1 h2
theorem foldl_max_ge {α : Type} (g : α → Int) : ∀ (l : List α) (x : Int), x ≤ l.foldl (fun x k => max x (g k)) x
  | [], x => Int.le_refl _
  | k :: l, x => by rw [List.foldl_cons]; have := foldl_max_ge g l (max x (g k)); omega
theorem foldl_max_mem {α : Type} (g : α → Int) : ∀ (l : List α) (x : Int) (k : α), k ∈ l → g k ≤ l.foldl (fun x k => max x (g k)) x
  | k :: l, x, j, h => by
    rw [List.foldl_cons]
    rcases List.mem_cons.mp h with q | q
    · subst q; have := foldl_max_ge g l (max x (g j)); omega
    · exact foldl_max_mem g l _ j q
theorem ownE_ge (bd : List Int) (ks : List Tk) (a e : Int) : e ≤ ownE bd ks a e := foldl_max_ge _ _ _
theorem rowE_own (bd : List Int) (ks : List Tk) : ∀ (a : Nat) (e : Int), ownE bd ks a e ≤ rowE bd ks a e
  | 0, e => Int.le_refl _
  | a + 1, e => by unfold rowE; omega
theorem rowE_ge (bd : List Int) (ks : List Tk) (a : Nat) (e : Int) : e ≤ rowE bd ks a e := Int.le_trans (ownE_ge bd ks a e) (rowE_own bd ks a e)
theorem Bord.mono {sz : Int} {bd : List Int} (B : Bord sz bd) {i j : Nat} {x y : Int} (hij : i ≤ j) (hx : bd[i]? = some x) (hy : bd[j]? = some y) : x ≤ y := by
  obtain ⟨h1, e1⟩ := List.getElem?_eq_some_iff.mp hx
  obtain ⟨h2, e2⟩ := List.getElem?_eq_some_iff.mp hy
  by_cases c : i = j
  · subst c; omega
  · have := List.pairwise_iff_getElem.mp B.ord i j h1 h2 (by omega)
    omega
theorem own_piece {sz : Int} {bd : List Int} (B : Bord sz bd) {ks : List Tk} {M : Int} (hM : ∀ k ∈ ks, k.2 ≤ M) {i : Nat} (hi : i + 1 < bd.length) (hc : cleanIn ks (bd.getD i 0).toNat (bd.getD (i + 1) 0).toNat = true) {x y : Int} (gx : bd[i]? = some x) (gy : bd[i + 1]? = some y) : y ≤ ownE bd ks M x := by
  rw [getD_of gx, getD_of gy] at hc
  unfold cleanIn at hc
  obtain ⟨k, hk, h⟩ := List.any_eq_true.mp hc
  rw [decide_eq_true_eq] at h
  have hx : x ∈ bd := List.mem_of_getElem? gx
  have hy : y ∈ bd := List.mem_of_getElem? gy
  have xy := B.mono (Nat.le_succ i) gx gy
  have rx := B.rng x hx
  have f : y ≤ fe bd k.1 x := farF_ge x _ y bd x B.ord hy xy (by omega)
  have : k ∈ ks.filter fun k => decide (k.2 ≤ M) := List.mem_filter.mpr ⟨hk, decide_eq_true (hM k hk)⟩
  exact Int.le_trans f (foldl_max_mem (fun k : Tk => fe bd k.1 x) _ x k this)
theorem doubling {sz : Int} {bd : List Int} (B : Bord sz bd) {ks : List Tk} {M : Nat} (hM : ∀ k ∈ ks, k.2 ≤ (M : Int)) (hc : ∀ i, i + 1 < bd.length → cleanIn ks (bd.getD i 0).toNat (bd.getD (i + 1) 0).toNat = true) : ∀ (j i : Nat) (x y : Int), bd[i]? = some x → bd[min (i + 2 ^ j) (bd.length - 1)]? = some y → y ≤ rowE bd ks (M + j) x
  | 0, i, x, y, hx, hy => by
    have hi := (List.getElem?_eq_some_iff.mp hx).1
    rw [Nat.pow_zero] at hy
    rw [Nat.add_zero]
    by_cases c : i + 1 < bd.length
    · rw [show min (i + 1) (bd.length - 1) = i + 1 by omega] at hy
      exact Int.le_trans (own_piece B hM c (hc i c) hx hy) (rowE_own bd ks M x)
    · rw [show min (i + 1) (bd.length - 1) = i by omega, hx] at hy
      cases hy
      exact rowE_ge bd ks M x
  | j + 1, i, x, y, hx, hy => by
    have hi := (List.getElem?_eq_some_iff.mp hx).1
    have hm : rowE bd ks (M + j) x ∈ bd := rowE_mem ks (M + j) (List.mem_of_getElem? hx)
    obtain ⟨i2, h2, e2⟩ := List.getElem_of_mem hm
    have g2 : bd[i2]? = some (rowE bd ks (M + j) x) := by rw [List.getElem?_eq_getElem h2, e2]
    have l1 : min (i + 2 ^ j) (bd.length - 1) < bd.length := by omega
    have r1 := doubling B hM hc j i x _ hx (List.getElem?_eq_getElem l1)
    -- the first step leads at least so far
    have hle : min (i + 2 ^ j) (bd.length - 1) ≤ i2 := by
      rcases Nat.lt_or_ge i2 (min (i + 2 ^ j) (bd.length - 1)) with q | q
      · have := List.pairwise_iff_getElem.mp B.ord i2 _ h2 l1 q
        omega
      · exact q
    have l2 : min (i2 + 2 ^ j) (bd.length - 1) < bd.length := by omega
    have r2 := doubling B hM hc j i2 _ _ g2 (List.getElem?_eq_getElem l2)
    have hy2 : y ≤ bd[min (i2 + 2 ^ j) (bd.length - 1)] := by
      refine B.mono ?_ hy (List.getElem?_eq_getElem l2)
      rw [Nat.pow_succ]
      omega
    have r3 : rowE bd ks (M + j) (rowE bd ks (M + j) x) ≤ rowE bd ks (M + (j + 1)) x := by
      show _ ≤ max _ (rowE bd ks (M + j) (rowE bd ks (M + j) x))
      omega
    omega
theorem exists_min {p : Nat → Prop} (hd : ∀ a, p a ∨ ¬ p a) : ∀ (n : Nat), (∃ a, a ≤ n ∧ p a) → ∃ A, A ≤ n ∧ p A ∧ ∀ a, a < A → ¬ p a
  | 0, ⟨a, h, q⟩ => ⟨0, Nat.le_refl _, by rw [show 0 = a by omega]; exact q, fun a h => by omega⟩
  | n + 1, ⟨a, h, q⟩ => by
    by_cases c : ∃ a, a ≤ n ∧ p a
    · obtain ⟨A, h1, h2, h3⟩ := exists_min hd n c
      exact ⟨A, by omega, h2, h3⟩
    · have e : a = n + 1 := by
        rcases Nat.lt_or_ge n a with z | z
        · omega
        · exact absurd ⟨a, z, q⟩ c
      exact ⟨n + 1, Nat.le_refl _, e ▸ q, fun b hb pb => c ⟨b, by omega, pb⟩⟩
theorem least_ex {sz : Int} {bd : List Int} (B : Bd sz bd) (hl : bd.length ≤ 129) {ks : List Tk} {M : Nat} (hM : ∀ k ∈ ks, k.2 ≤ (M : Int)) (hc : ∀ i, i + 1 < bd.length → cleanIn ks (bd.getD i 0).toNat (bd.getD (i + 1) 0).toNat = true) :
    ∃ A, A ≤ M + 7 ∧ A ≤ M + (bd.length - 1) ∧ rowE bd ks A 0 = sz ∧ (∀ a, a < A → rowE bd ks a 0 < sz) := by
  have m0 : (0 : Int) ∈ bd := List.mem_of_getElem? B.fst
  have top : ∀ a, rowE bd ks a 0 ≤ sz := fun a => (B.bord.rng _ (rowE_mem ks a m0)).2
  have at_ : ∀ j, bd.length - 1 ≤ 2 ^ j → rowE bd ks (M + j) 0 = sz := fun j hj => by
    have := doubling B.bord hM hc j 0 0 sz B.fst (by rw [Nat.zero_add, Nat.min_eq_right hj]; exact B.lst)
    have := top (M + j)
    omega
  have h7 := at_ 7 (by show _ ≤ 128; omega)
  have hP := at_ (bd.length - 1) (Nat.le_of_lt Nat.lt_two_pow_self)
  obtain ⟨A, h1, h2, h3⟩ := exists_min (p := fun a => rowE bd ks a 0 = sz) (fun a => Classical.em _) (M + 7) ⟨_, Nat.le_refl _, h7⟩
  refine ⟨A, h1, ?_, h2, fun a ha => ?_⟩
  · rcases Nat.lt_or_ge (M + (bd.length - 1)) A with q | q
    · exact absurd hP (h3 _ q)
    · exact q
  · have := h3 a ha; have := top a; omega
end IL
namespace IL
def sumsF (L : Nat → Nat → Int) (i j : Nat) (l : List Nat) : List Int := (l.filter fun k => decide (0 < L i k) && decide (0 < L k j)).map fun k => L i k + L k j
def between (i j : Nat) : List Nat := (List.range (j - (i + 1))).map fun k => i + 1 + k
def lsV (L : Nat → Nat → Int) (i j : Nat) : Int := (minL (sumsF L i j (between i j))).getD 0
def fewV (bd : List Int) (ks : List Tk) : Nat → Nat → Nat → Int
  | 0, i, j => if i < j then (if bd.getD j 0 ≤ ownE bd ks 0 (bd.getD i 0) then 1 else 0) else 0
  | a + 1, i, j => if i < j then (if bd.getD j 0 ≤ ownE bd ks ((a + 1 : Nat) : Int) (bd.getD i 0) then 1 else lsV (fewV bd ks a) i j) else 0
theorem between_mem {i j k : Nat} (h : k ∈ between i j) : i < k ∧ k < j := by
  obtain ⟨q, hq, rfl⟩ := List.mem_map.mp h
  have := List.mem_range.mp hq
  omega
theorem foldl_min_mem : ∀ (r : List Int) (x : Int), r.foldl min x = x ∨ r.foldl min x ∈ r
  | [], x => .inl rfl
  | y :: r, x => by
    rw [List.foldl_cons]
    rcases foldl_min_mem r (min x y) with h | h
    · rw [h]
      by_cases c : x ≤ y
      · rw [Int.min_eq_left c]; exact .inl rfl
      · rw [Int.min_eq_right (by omega)]; exact .inr List.mem_cons_self
    · exact .inr (List.mem_cons_of_mem _ h)
theorem minL_mem {l : List Int} {x : Int} (h : minL l = some x) : x ∈ l := by
  cases l with
  | nil => cases h
  | cons y r =>
    have h : some (r.foldl min y) = some x := h
    cases h
    rcases foldl_min_mem r y with e | e
    · rw [e]; exact List.mem_cons_self
    · exact List.mem_cons_of_mem _ e
theorem lsV_rng {L : Nat → Nat → Int} {i j : Nat} (hij : i < j) (hL : ∀ a b, a < b → 0 ≤ L a b ∧ L a b ≤ (b : Int) - a) : 0 ≤ lsV L i j ∧ lsV L i j ≤ (j : Int) - i := by
  unfold lsV
  cases h : minL (sumsF L i j (between i j)) with
  | none => show 0 ≤ (0 : Int) ∧ (0 : Int) ≤ _; omega
  | some x =>
    have hx := minL_mem h
    unfold sumsF at hx
    obtain ⟨k, hk, rfl⟩ := List.mem_map.mp hx
    have hb := between_mem (List.mem_filter.mp hk).1
    have h1 := hL i k hb.1
    have h2 := hL k j hb.2
    show 0 ≤ L i k + L k j ∧ L i k + L k j ≤ _
    omega
theorem fewV_rng (bd : List Int) (ks : List Tk) : ∀ (a i j : Nat), i < j → 0 ≤ fewV bd ks a i j ∧ fewV bd ks a i j ≤ (j : Int) - i
  | 0, i, j, h => by
    unfold fewV
    rw [if_pos h]
    split <;> omega
  | a + 1, i, j, h => by
    unfold fewV
    rw [if_pos h]
    split
    · omega
    · exact lsV_rng h fun x y hxy => fewV_rng bd ks a x y hxy
theorem fewV_not (bd : List Int) (ks : List Tk) (a : Nat) {i j : Nat} (h : ¬ i < j) : fewV bd ks a i j = 0 := by
  cases a <;> (unfold fewV; rw [if_neg h])
def rowT (N : Nat) (g : Nat → Int) : List D := (List.range N).map fun j => .int (g j)
def tblD (N : Nat) (f : Nat → Nat → Int) : List D := (List.range N).map fun i => .lst (rowT N (f i))
end IL
namespace IL
structure FitL (sz : Int) (bd : List Int) (ks : List Tk) : Prop where
  bord : Bord sz bd
  le : sz ≤ 1000
  bl : bd.length ≤ 1100
  kl : ks.length ≤ 1000
  ok : ∀ k ∈ ks, ox k.1 ∧ (k.1.length : Int) = sz
end IL
namespace IL
structure Up (bd : List Int) (f : Int → Int) : Prop where
  mem : ∀ x ∈ bd, f x ∈ bd
  ge : ∀ x ∈ bd, x ≤ f x
  up : ∀ x ∈ bd, ∀ y ∈ bd, x ≤ y → f x ≤ f y
theorem Up.max {bd : List Int} {f g : Int → Int} (F : Up bd f) (H : Up bd g) : Up bd fun x => Max.max (f x) (g x) := by
  refine ⟨fun x hx => ?_, fun x hx => ?_, fun x hx y hy h => ?_⟩
  · show Max.max (f x) (g x) ∈ bd
    by_cases c : f x ≤ g x
    · rw [Int.max_eq_right c]; exact H.mem x hx
    · rw [Int.max_eq_left (by omega)]; exact F.mem x hx
  · have := F.ge x hx; show x ≤ Max.max (f x) (g x); omega
  · have := F.up x hx y hy h; have := H.up x hx y hy h; show Max.max (f x) (g x) ≤ Max.max (f y) (g y); omega
theorem Up.comp {bd : List Int} {f g : Int → Int} (F : Up bd f) (H : Up bd g) : Up bd fun x => f (g x) :=
  ⟨fun x hx => F.mem _ (H.mem x hx), fun x hx => Int.le_trans (H.ge x hx) (F.ge _ (H.mem x hx)), fun x hx y hy h => F.up _ (H.mem x hx) _ (H.mem y hy) (H.up x hx y hy h)⟩
theorem nxt_mono {t : List Nat} (ho : ox t) {a b : Nat} (h : a ≤ b) (hb : b ≤ t.length) : nxt t a ≤ nxt t b := by
  obtain ⟨a1, a2, a3, a4⟩ := nxt_spec ho (a := a) (by omega)
  obtain ⟨b1, b2, b3, b4⟩ := nxt_spec ho hb
  by_cases c : nxt t a ≤ nxt t b
  · exact c
  · have e1 := b4 (by omega)
    have e2 := a3 (nxt t b - a) (by omega)
    rw [show a + (nxt t b - a) = nxt t b by omega, e1] at e2
    cases e2
theorem farF_rng (e sp : Int) : ∀ (l : List Int) (a : Int), farF e sp l a = a ∨ (farF e sp l a ∈ l ∧ farF e sp l a ≤ sp)
  | [], a => .inl rfl
  | o :: l, a => by
    unfold farF
    by_cases c : e ≤ o ∧ o ≤ sp
    · rw [if_pos c]
      rcases farF_rng e sp l o with q | q
      · rw [q]; exact .inr ⟨List.mem_cons_self, c.2⟩
      · exact .inr ⟨List.mem_cons_of_mem _ q.1, q.2⟩
    · rw [if_neg c]
      rcases farF_rng e sp l a with q | q
      · exact .inl q
      · exact .inr ⟨List.mem_cons_of_mem _ q.1, q.2⟩
theorem fe_ge {sz : Int} {bd : List Int} (B : Bord sz bd) {t : List Nat} (ho : ox t) (hl : (t.length : Int) = sz) {x : Int} (hx : x ∈ bd) : x ≤ fe bd t x := by
  obtain ⟨r1, r2⟩ := B.rng x hx
  obtain ⟨a1, _⟩ := nxt_spec ho (a := x.toNat) (by omega)
  exact farF_ge _ _ x bd x B.ord hx (Int.le_refl _) (by omega)
theorem fe_up {sz : Int} {bd : List Int} (B : Bord sz bd) {t : List Nat} (ho : ox t) (hl : (t.length : Int) = sz) {x y : Int} (hx : x ∈ bd) (hy : y ∈ bd) (h : x ≤ y) : fe bd t x ≤ fe bd t y := by
  obtain ⟨r1, r2⟩ := B.rng x hx
  obtain ⟨s1, s2⟩ := B.rng y hy
  have gy := fe_ge B ho hl hy
  rcases farF_rng x (nxt t x.toNat) bd x with q | q
  · have : fe bd t x = x := q
    omega
  · have q : fe bd t x ∈ bd ∧ fe bd t x ≤ nxt t x.toNat := q
    by_cases c : fe bd t x ≤ y
    · omega
    · have m := nxt_mono ho (a := x.toNat) (b := y.toNat) (by omega) (by omega)
      exact farF_ge y _ (fe bd t x) bd y B.ord q.1 (by omega) (by omega)
theorem foldl_max_up {α : Type} (g h : α → Int) : ∀ (l : List α) (x y : Int), x ≤ y → (∀ k ∈ l, g k ≤ h k) → l.foldl (fun x k => Max.max x (g k)) x ≤ l.foldl (fun x k => Max.max x (h k)) y
  | [], x, y, e, _ => e
  | k :: l, x, y, e, hk => by
    rw [List.foldl_cons, List.foldl_cons]
    have := hk k List.mem_cons_self
    exact foldl_max_up g h l _ _ (by omega) fun j hj => hk j (List.mem_cons_of_mem _ hj)
theorem own_up {sz : Int} {bd : List Int} {ks : List Tk} (F : FitL sz bd ks) (a : Int) : Up bd (ownE bd ks a) := by
  refine ⟨fun x hx => ownE_mem ks a hx, fun x hx => ownE_ge bd ks a x, fun x hx y hy h => ?_⟩
  refine foldl_max_up _ _ _ x y h fun k hk => ?_
  have hk := (List.mem_filter.mp hk).1
  obtain ⟨o1, o2⟩ := F.ok k hk
  exact fe_up F.bord o1 o2 hx hy h
theorem own_fe {bd : List Int} {ks : List Tk} {a : Int} {k : Tk} (hk : k ∈ ks) (ha : k.2 ≤ a) (x : Int) : fe bd k.1 x ≤ ownE bd ks a x :=
  foldl_max_mem (fun k : Tk => fe bd k.1 x) _ x k (List.mem_filter.mpr ⟨hk, decide_eq_true ha⟩)
end IL
namespace IL
def leastO (sz : Int) (bd : List Int) (ks : List Tk) : Option Nat := match barF bd ks 0 (bd.length - 1) with
  | none => (List.range 200).find? fun a => decide (rowE bd ks a 0 = sz)
  | some _ => none
def leastD : Option Nat → D
  | none => .non
  | some a => .int a
theorem ages_max {ks : List Tk} (hk : ks ≠ []) (h : ∀ k ∈ ks, 0 ≤ k.2 ∧ k.2 ≤ 60) : ∃ M : Nat, M ≤ 60 ∧ maxL (ks.map (·.2)) = some (M : Int) ∧ ∀ k ∈ ks, k.2 ≤ (M : Int) := by
  match ks, hk with
  | k :: ks, _ =>
    have e : maxL ((k :: ks).map (·.2)) = some (ks.foldl (fun x k => max x k.2) k.2) := by
      show some ((ks.map (·.2)).foldl max k.2) = _
      rw [List.foldl_map]
    have up : ∀ (l : List Tk) (x : Int), (∀ k ∈ l, k.2 ≤ 60) → x ≤ 60 → l.foldl (fun x k => max x k.2) x ≤ 60 := by
      intro l
      induction l with
      | nil => intro x _ hx; exact hx
      | cons a l ih => intro x hl hx; rw [List.foldl_cons]; exact ih _ (fun k hk => hl k (List.mem_cons_of_mem _ hk)) (by have := hl a List.mem_cons_self; omega)
    have h0 := h k List.mem_cons_self
    have u := up ks k.2 (fun q hq => (h q (List.mem_cons_of_mem _ hq)).2) h0.2
    have l0 := foldl_max_ge (fun k : Tk => k.2) ks k.2
    refine ⟨(ks.foldl (fun x k => max x k.2) k.2).toNat, by omega, by rw [e]; congr 1; omega, fun q hq => ?_⟩
    rcases List.mem_cons.mp hq with z | z
    · subst z; omega
    · have := foldl_max_mem (fun k : Tk => k.2) ks k.2 q z; omega
theorem least_some {sz : Int} {bd : List Int} (B : Bd sz bd) (hl : bd.length ≤ 129) {ks : List Tk} (ha : ∀ k ∈ ks, 0 ≤ k.2 ∧ k.2 ≤ 60) (hb : barF bd ks 0 (bd.length - 1) = none) :
    ∃ (M A : Nat), M ≤ 60 ∧ maxL (ks.map (·.2)) = some (M : Int) ∧ A ≤ M + 7 ∧ A ≤ M + (bd.length - 1) ∧ rowE bd ks A 0 = sz ∧ (∀ a, a < A → rowE bd ks a 0 < sz) ∧ leastO sz bd ks = some A := by
  have two := B.two
  have hc : ∀ i, i + 1 < bd.length → cleanIn ks (bd.getD i 0).toNat (bd.getD (i + 1) 0).toNat = true := fun i hi => barF_none _ _ hb i (Nat.zero_le _) (by omega)
  have hk : ks ≠ [] := by
    intro e
    have := hc 0 (by omega)
    rw [e] at this
    cases this
  obtain ⟨M, m1, m2, m3⟩ := ages_max hk ha
  obtain ⟨A, a1, a2, a3, a4⟩ := least_ex B hl m3 hc
  refine ⟨M, A, m1, m2, a1, a2, a3, a4, ?_⟩
  unfold leastO
  rw [hb]
  dsimp only
  rw [List.find?_range_eq_some]
  refine ⟨decide_eq_true a3, List.mem_range.mpr (by omega), fun j hj => ?_⟩
  have := a4 j hj
  simp; omega
end IL
namespace IL
theorem foldl_max_le {α : Type} (g : α → Int) {M : Int} : ∀ (l : List α) (x : Int), x ≤ M → (∀ k ∈ l, g k ≤ M) → l.foldl (fun x k => Max.max x (g k)) x ≤ M
  | [], x, h, _ => h
  | k :: l, x, h, q => by
    rw [List.foldl_cons]
    have := q k List.mem_cons_self
    exact foldl_max_le g l _ (by omega) fun j hj => q j (List.mem_cons_of_mem _ hj)
variable {sz : Int} {bd bd' : List Int} {ks ks' : List Tk}
theorem row_up (F : FitL sz bd ks) : ∀ a : Nat, Up bd (rowE bd ks a)
  | 0 => own_up F 0
  | a + 1 => (own_up F ((a + 1 : Nat) : Int)).max ((row_up F a).comp (row_up F a))
theorem get_at {bd : List Int} {i : Nat} (h : i < bd.length) : bd[i]? = some (bd.getD i 0) := by rw [List.getD_eq_getElem?_getD, List.getElem?_eq_getElem h]; rfl
theorem Bord.lt {sz : Int} {bd : List Int} (B : Bord sz bd) {i j : Nat} (h : i < j) (hj : j < bd.length) : bd.getD i 0 < bd.getD j 0 := by
  have := List.pairwise_iff_getElem.mp B.ord i j (by omega) hj h
  rw [List.getD_eq_getElem?_getD, List.getD_eq_getElem?_getD, List.getElem?_eq_getElem hj, List.getElem?_eq_getElem (by omega : i < bd.length)]
  exact this
theorem Bord.inj {sz : Int} {bd : List Int} (B : Bord sz bd) {i j : Nat} (hi : i < bd.length) (hj : j < bd.length) (h : bd.getD i 0 < bd.getD j 0) : i < j := by
  by_cases c : i < j
  · exact c
  · by_cases e : i = j
    · subst e; omega
    · have := B.lt (show j < i by omega) hi; omega
theorem foldl_min_le (r : List Int) : ∀ (x : Int), r.foldl min x ≤ x ∧ ∀ y ∈ r, r.foldl min x ≤ y := by
  induction r with
  | nil => intro x; exact ⟨Int.le_refl _, fun _ h => nomatch h⟩
  | cons z r ih =>
    intro x
    rw [List.foldl_cons]
    obtain ⟨i1, i2⟩ := ih (min x z)
    refine ⟨by omega, fun y hy => ?_⟩
    rcases List.mem_cons.mp hy with q | q
    · subst q; omega
    · exact i2 y q
theorem minL_le {l : List Int} {y : Int} (h : y ∈ l) : ∃ x, minL l = some x ∧ x ≤ y := by
  match l, h with
  | z :: r, h =>
    obtain ⟨i1, i2⟩ := foldl_min_le r z
    refine ⟨_, rfl, ?_⟩
    rcases List.mem_cons.mp h with q | q
    · subst q; exact i1
    · exact i2 y q
theorem lsV_le {L : Nat → Nat → Int} {i j k : Nat} (h1 : i < k) (h2 : k < j) (p : 0 < L i k) (q : 0 < L k j) : 0 < lsV L i j ∧ lsV L i j ≤ L i k + L k j := by
  have m : L i k + L k j ∈ sumsF L i j (between i j) := by
    refine List.mem_map.mpr ⟨k, List.mem_filter.mpr ⟨List.mem_map.mpr ⟨k - (i + 1), List.mem_range.mpr (by omega), by omega⟩, ?_⟩, rfl⟩
    rw [decide_eq_true p, decide_eq_true q]; rfl
  obtain ⟨x, e, hx⟩ := minL_le m
  unfold lsV
  rw [e]
  refine ⟨?_, hx⟩
  obtain ⟨k2, hk2, e2⟩ := List.mem_map.mp (minL_mem e)
  have f := (List.mem_filter.mp hk2).2
  rw [Bool.and_eq_true, decide_eq_true_eq, decide_eq_true_eq] at f
  show 0 < x
  omega
theorem own_age (a : Int) {b : Int} (h : a ≤ b) (bd : List Int) (ks : List Tk) (x : Int) : ownE bd ks a x ≤ ownE bd ks b x := by
  refine foldl_max_le _ _ _ (ownE_ge _ _ _ _) fun k hk => ?_
  obtain ⟨hk, ha⟩ := List.mem_filter.mp hk
  have ha := of_decide_eq_true ha
  exact own_fe hk (by omega) x
theorem few_step (B : Bd sz bd) (F : FitL sz bd ks) : ∀ (a i j : Nat), 0 < fewV bd ks a i j → 0 < fewV bd ks (a + 1) i j := by
  intro a
  induction a with
  | zero =>
    intro i j h
    by_cases hij : i < j
    · have u : fewV bd ks 0 i j = if i < j then (if bd.getD j 0 ≤ ownE bd ks 0 (bd.getD i 0) then 1 else 0) else 0 := rfl
      have u' : fewV bd ks (0 + 1) i j = if i < j then (if bd.getD j 0 ≤ ownE bd ks ((0 + 1 : Nat) : Int) (bd.getD i 0) then 1 else lsV (fewV bd ks 0) i j) else 0 := rfl
      rw [u, if_pos hij] at h
      have o := own_age 0 (b := ((0 + 1 : Nat) : Int)) (by decide) bd ks (bd.getD i 0)
      by_cases c : bd.getD j 0 ≤ ownE bd ks 0 (bd.getD i 0)
      · rw [u', if_pos hij, if_pos (by omega)]; decide
      · rw [if_neg c] at h; omega
    · rw [fewV_not bd ks 0 hij] at h; omega
  | succ a ih =>
    intro i j h
    by_cases hij : i < j
    · have u : fewV bd ks (a + 1) i j = if i < j then (if bd.getD j 0 ≤ ownE bd ks ((a + 1 : Nat) : Int) (bd.getD i 0) then 1 else lsV (fewV bd ks a) i j) else 0 := rfl
      have u' : fewV bd ks (a + 1 + 1) i j = if i < j then (if bd.getD j 0 ≤ ownE bd ks ((a + 1 + 1 : Nat) : Int) (bd.getD i 0) then 1 else lsV (fewV bd ks (a + 1)) i j) else 0 := rfl
      rw [u, if_pos hij] at h
      rw [u', if_pos hij]
      have o := own_age ((a + 1 : Nat) : Int) (b := ((a + 1 + 1 : Nat) : Int)) (by omega) bd ks (bd.getD i 0)
      by_cases c2 : bd.getD j 0 ≤ ownE bd ks ((a + 1 + 1 : Nat) : Int) (bd.getD i 0)
      · rw [if_pos c2]; decide
      · rw [if_neg c2]
        rw [if_neg (by omega)] at h
        unfold lsV at h
        cases hm : minL (sumsF (fewV bd ks a) i j (between i j)) with
        | none => rw [hm] at h; exact absurd h (by decide)
        | some s =>
          obtain ⟨k, hk, rfl⟩ := List.mem_map.mp (minL_mem hm)
          obtain ⟨hb, hk⟩ := List.mem_filter.mp hk
          rw [Bool.and_eq_true, decide_eq_true_eq, decide_eq_true_eq] at hk
          obtain ⟨k1, k2⟩ := between_mem hb
          exact (lsV_le k1 k2 (ih i k hk.1) (ih k j hk.2)).1
    · rw [fewV_not bd ks _ hij] at h; omega
theorem few_lt {a i j : Nat} (h : 0 < fewV bd ks (a + 1) i j) (hij : i < j) (c : ¬ bd.getD j 0 ≤ ownE bd ks ((a + 1 : Nat) : Int) (bd.getD i 0)) : 0 < lsV (fewV bd ks a) i j := by
  have u : fewV bd ks (a + 1) i j = if i < j then (if bd.getD j 0 ≤ ownE bd ks ((a + 1 : Nat) : Int) (bd.getD i 0) then 1 else lsV (fewV bd ks a) i j) else 0 := rfl
  rw [u, if_pos hij, if_neg c] at h
  exact h
theorem few_pos (B : Bd sz bd) (F : FitL sz bd ks) : ∀ (a i j : Nat), i < j → j < bd.length → bd.getD j 0 ≤ rowE bd ks a (bd.getD i 0) → 0 < fewV bd ks a i j := by
  intro a
  induction a with
  | zero =>
    intro i j hij hj h
    have u : fewV bd ks 0 i j = if i < j then (if bd.getD j 0 ≤ ownE bd ks 0 (bd.getD i 0) then 1 else 0) else 0 := rfl
    have h : bd.getD j 0 ≤ ownE bd ks 0 (bd.getD i 0) := h
    rw [u, if_pos hij, if_pos h]; decide
  | succ a ih =>
    intro i j hij hj h
    have u : fewV bd ks (a + 1) i j = if i < j then (if bd.getD j 0 ≤ ownE bd ks ((a + 1 : Nat) : Int) (bd.getD i 0) then 1 else lsV (fewV bd ks a) i j) else 0 := rfl
    rw [u, if_pos hij]
    by_cases c : bd.getD j 0 ≤ ownE bd ks ((a + 1 : Nat) : Int) (bd.getD i 0)
    · rw [if_pos c]; decide
    · rw [if_neg c]
      have h : bd.getD j 0 ≤ max (ownE bd ks ((a + 1 : Nat) : Int) (bd.getD i 0)) (rowE bd ks a (rowE bd ks a (bd.getD i 0))) := h
      have mi : bd.getD i 0 ∈ bd := List.mem_of_getElem? (get_at (by omega : i < bd.length))
      have mz := rowE_mem ks a mi
      obtain ⟨w, hw1, hw⟩ := List.getElem_of_mem mz
      have hw : bd.getD w 0 = rowE bd ks a (bd.getD i 0) := by rw [← hw, List.getD_eq_getElem?_getD, List.getElem?_eq_getElem hw1]; rfl
      have ge := rowE_ge bd ks a (bd.getD i 0)
      have iw : i ≤ w := by
        by_cases q : i ≤ w
        · exact q
        · have := B.bord.lt (show w < i by omega) (by omega); omega
      by_cases e1 : w = i
      · subst e1
        have := rowE_ge bd ks a (bd.getD w 0)
        rw [← hw] at h
        rw [← hw] at h
        have := B.bord.lt hij hj
        omega
      · by_cases e2 : w < j
        · have p1 := ih i w (by omega) hw1 (by omega)
          have p2 := ih w j e2 hj (by rw [hw]; omega)
          exact (lsV_le (by omega) e2 p1 p2).1
        · have : bd.getD j 0 ≤ rowE bd ks a (bd.getD i 0) := by
            rw [← hw]
            by_cases e3 : j = w
            · subst e3; exact Int.le_refl _
            · have := B.bord.lt (show j < w by omega) hw1; omega
          exact few_lt (few_step B F a i j (ih i j hij hj this)) hij c
end IL
namespace IL
def fitN (bd : List Int) (ks : List Tk) (a : Int) (i j : Nat) : Int := (((ks.filter fun k => decide (k.2 ≤ a)).filter fun k => decide (bd.getD j 0 ≤ fe bd k.1 (bd.getD i 0))).length : Nat)
def meetP (L : Nat → Nat → Int) (m : Int) (i j k : Nat) : Bool := decide (0 < L i k) && (decide (0 < L k j) && decide (L i k + L k j = m))
def waysV (bd : List Int) (ks : List Tk) : Nat → Nat → Nat → Int
  | 0, i, j => if i < j then (if fewV bd ks 0 i j = 0 then 0 else fitN bd ks 0 i j) else 0
  | a + 1, i, j => if i < j then (if fewV bd ks (a + 1) i j = 0 then 0 else if fewV bd ks (a + 1) i j = 1 then fitN bd ks ((a + 1 : Nat) : Int) i j
      else (((between i j).filter (meetP (fewV bd ks a) (fewV bd ks (a + 1) i j) i j)).map fun k => waysV bd ks a i k * waysV bd ks a k j).sum) else 0
theorem few0_le (bd : List Int) (ks : List Tk) (i j : Nat) : fewV bd ks 0 i j ≤ 1 := by
  unfold fewV
  split
  · split <;> decide
  · decide
theorem few_nn (bd : List Int) (ks : List Tk) (a i j : Nat) : 0 ≤ fewV bd ks a i j := by
  by_cases h : i < j
  · exact (fewV_rng bd ks a i j h).1
  · rw [fewV_not bd ks a h]; exact Int.le_refl _
theorem fit_le {bd : List Int} {ks : List Tk} {a : Int} {i j : Nat} (h : ks.length ≤ 32) : 0 ≤ fitN bd ks a i j ∧ fitN bd ks a i j ≤ 32 := by
  unfold fitN
  have h1 := List.length_filter_le (fun k : Tk => decide (bd.getD j 0 ≤ fe bd k.1 (bd.getD i 0))) (ks.filter fun k => decide (k.2 ≤ a))
  have h2 := List.length_filter_le (fun k : Tk => decide (k.2 ≤ a)) ks
  omega
theorem sum_le : ∀ (l : List Int) (c : Int), (∀ x ∈ l, 0 ≤ x ∧ x ≤ c) → 0 ≤ l.sum ∧ l.sum ≤ l.length * c
  | [], c, _ => ⟨Int.le_refl _, by simp⟩
  | x :: l, c, h => by
    obtain ⟨i1, i2⟩ := sum_le l c fun y hy => h y (List.mem_cons_of_mem _ hy)
    obtain ⟨j1, j2⟩ := h x List.mem_cons_self
    rw [List.sum_cons, List.length_cons]
    refine ⟨by omega, ?_⟩
    have e : ((l.length + 1 : Nat) : Int) * c = (l.length : Int) * c + c := by
      rw [Int.natCast_add, Int.add_mul]; simp
    omega
theorem ways_le {bd : List Int} {ks : List Tk} (hk : ks.length ≤ 32) : ∀ (a i j : Nat), j ≤ 32 → 0 ≤ waysV bd ks a i j ∧ (i < j → waysV bd ks a i j ≤ ((2 ^ (10 * (j - i) - 5) : Nat) : Int))
  | 0, i, j, hj => by
    unfold waysV
    by_cases h : i < j
    · rw [if_pos h]
      have p : (2 : Nat) ^ 5 ≤ 2 ^ (10 * (j - i) - 5) := Nat.pow_le_pow_right (by decide) (by omega)
      have p5 : (2 : Nat) ^ 5 = 32 := by decide
      have f := fit_le (bd := bd) (a := 0) (i := i) (j := j) hk
      split
      · exact ⟨Int.le_refl _, fun _ => by omega⟩
      · exact ⟨f.1, fun _ => by omega⟩
    · rw [if_neg h]; exact ⟨Int.le_refl _, fun z => absurd z h⟩
  | a + 1, i, j, hj => by
    unfold waysV
    by_cases h : i < j
    · rw [if_pos h]
      have p : (2 : Nat) ^ 5 ≤ 2 ^ (10 * (j - i) - 5) := Nat.pow_le_pow_right (by decide) (by omega)
      have p5 : (2 : Nat) ^ 5 = 32 := by decide
      have f := fit_le (bd := bd) (a := ((a + 1 : Nat) : Int)) (i := i) (j := j) hk
      split
      · exact ⟨Int.le_refl _, fun _ => by omega⟩
      · split
        · exact ⟨f.1, fun _ => by omega⟩
        · by_cases h2 : j - i ≤ 1
          · have : between i j = [] := by
              unfold between
              rw [show j - (i + 1) = 0 by omega]; rfl
            rw [this]
            show 0 ≤ (0 : Int) ∧ _
            exact ⟨Int.le_refl _, fun _ => by show (0 : Int) ≤ _; omega⟩
          · have bnd : ∀ x ∈ ((between i j).filter (meetP (fewV bd ks a) (fewV bd ks (a + 1) i j) i j)).map (fun k => waysV bd ks a i k * waysV bd ks a k j), 0 ≤ x ∧ x ≤ ((2 ^ (10 * (j - i) - 10) : Nat) : Int) := by
              intro x hx
              obtain ⟨k, hk', rfl⟩ := List.mem_map.mp hx
              obtain ⟨k1, k2⟩ := between_mem (List.mem_filter.mp hk').1
              obtain ⟨a1, a2⟩ := ways_le hk a i k (by omega)
              obtain ⟨b1, b2⟩ := ways_le hk a k j hj
              refine ⟨Int.mul_nonneg a1 b1, ?_⟩
              have m := Int.mul_le_mul (a2 k1) (b2 k2) b1 (by omega)
              have e : ((2 ^ (10 * (k - i) - 5) : Nat) : Int) * ((2 ^ (10 * (j - k) - 5) : Nat) : Int) = ((2 ^ (10 * (j - i) - 10) : Nat) : Int) := by
                rw [← Int.natCast_mul, ← Nat.pow_add, show 10 * (k - i) - 5 + (10 * (j - k) - 5) = 10 * (j - i) - 10 by omega]
              rw [e] at m
              exact m
            obtain ⟨s1, s2⟩ := sum_le _ _ bnd
            refine ⟨s1, fun _ => ?_⟩
            have ll : (((between i j).filter (meetP (fewV bd ks a) (fewV bd ks (a + 1) i j) i j)).map (fun k => waysV bd ks a i k * waysV bd ks a k j)).length ≤ 32 := by
              rw [List.length_map]
              have q1 := List.length_filter_le (meetP (fewV bd ks a) (fewV bd ks (a + 1) i j) i j) (between i j)
              have q2 : (between i j).length = j - (i + 1) := by unfold between; rw [List.length_map, List.length_range]
              omega
            have e : ((2 ^ (10 * (j - i) - 5) : Nat) : Int) = 32 * ((2 ^ (10 * (j - i) - 10) : Nat) : Int) := by
              have : 2 ^ (10 * (j - i) - 5) = 32 * 2 ^ (10 * (j - i) - 10) := by
                rw [show 10 * (j - i) - 5 = 5 + (10 * (j - i) - 10) by omega, Nat.pow_add, p5]
              rw [this]; rfl
            rw [e]
            have pos : 0 ≤ ((2 ^ (10 * (j - i) - 10) : Nat) : Int) := by omega
            exact Int.le_trans s2 (Int.mul_le_mul_of_nonneg_right (by omega) pos)
    · rw [if_neg h]; exact ⟨Int.le_refl _, fun z => absurd z h⟩
end IL
namespace IL
theorem first_spec {T : Tbl} (hf : T.defs 111 = some d_first_spoilt) (c1 : T.con 1 = some (.str [120])) {t : List Nat} (ht : t.length ≤ 1000) {a : Nat} (ha : a ≤ t.length) (S : Store) (n : Nat) : call T (n + 1) 111 [.str t, .int a] S = .ok (.int (nxt t a)) S := by
  have la : t.length ≤ line := by unfold line; omega
  have a0 : (0 : Int) ≤ a := by omega
  have a1 : (a : Int) ≤ line := by have : (1000 : Int) ≤ line := by decide
                                   omega
  have an : (a : Int).toNat = a := by omega
  have em : metD S .find (.str t) [.str [120], .int a] = some (.int (findS 120 t a), S) := by
    show guard (decide ((0 : Int) ≤ a) && decide ((a : Int) ≤ line) && decide (t.length ≤ line)) (some (D.int (findS 120 t (a : Int).toNat), S)) = _
    rw [an, decide_eq_true a0, decide_eq_true a1, decide_eq_true la]; rfl
  rw [call_at hf rfl]
  unfold nxt
  cases e : (t.drop a).findIdx? (· == 120) with
  | none =>
    have ef : findS 120 t a = -1 := by unfold findS; rw [e]
    rw [ef] at em
    simp only [start, xs_nil, xs_cons, evalEs, evalAnd, evalOr, evalIt, e_v, e_pk, e_k, e_g, e_bin, e_chn, e_isn, e_ntn, e_neg, e_not, e_and, e_or, e_ite, e_tup, e_lst, e_dct0, e_idx, e_slL, e_slU, e_slB, e_rev, e_call, e_blt, e_met, e_cell, x_set, x_fz, x_unp, x_aug, x_ex, x_app, x_popA, x_ins, x_setx, x_sets, x_augs, x_iff, x_ret, x_mov, x_pass, x_for, x_whl, e_lc, idxD, idxO, atI, ixN, bop, drop, done, mkSlot, E.isPk, Es.anyPk, guard, G_call, G_fr, G_con, E.alloc, bltD, lenD, augD, intOf, sliceD, rcv_join, rcv_index, rcv_find, eqv_ii, eqv_bb, eqv_ss, eqv_nn, D.scal, List.all_cons, List.all_nil, reduceCtorEq, Int.reduceEq, asg, Tg.vars, wipe, noOwn, isTy, isN, Es.len, R.nox_ok, R.of_none, R.bind_ok, R.of_some, R.toS_ok, RS.then_nx, RS.then_rt, List.map_cons, List.map_nil, List.length_cons, List.length_nil, List.length_map, List.getElem?_map, List.cons_append, List.nil_append, List.replicate, List.getElem?_cons_zero, List.getElem?_cons_succ, List.set_cons_zero, List.set_cons_succ, List.set_set, Option.bind_some, Option.map_some, reduceIte, decide_true, decide_false, Bool.and_true, Bool.true_and, Bool.or_true, Bool.true_or, Bool.or_false, Bool.false_or, Bool.not_true, Bool.not_false, Bool.and_false, Bool.false_and, Bool.false_eq_true, Nat.reduceAdd, Nat.reduceSub, Nat.reduceLT, Int.reduceLT, Int.reduceLE, Int.reduceToNat, decide_eq_true_eq, Int.cast_ofNat_Int, d_first_spoilt, c1, em, la, Int.reduceNeg]
  | some j =>
    have ef : findS 120 t a = ((a + j : Nat) : Int) := by unfold findS; rw [e]
    rw [ef] at em
    obtain ⟨A, hA⟩ : ∃ A : Int, ((a + j : Nat) : Int) = A := ⟨_, rfl⟩
    have hn : ¬ A = -1 := by omega
    rw [hA] at em
    show _ = R.ok (D.int ((a + j : Nat) : Int)) S
    rw [hA]
    simp only [start, xs_nil, xs_cons, evalEs, evalAnd, evalOr, evalIt, e_v, e_pk, e_k, e_g, e_bin, e_chn, e_isn, e_ntn, e_neg, e_not, e_and, e_or, e_ite, e_tup, e_lst, e_dct0, e_idx, e_slL, e_slU, e_slB, e_rev, e_call, e_blt, e_met, e_cell, x_set, x_fz, x_unp, x_aug, x_ex, x_app, x_popA, x_ins, x_setx, x_sets, x_augs, x_iff, x_ret, x_mov, x_pass, x_for, x_whl, e_lc, idxD, idxO, atI, ixN, bop, drop, done, mkSlot, E.isPk, Es.anyPk, guard, G_call, G_fr, G_con, E.alloc, bltD, lenD, augD, intOf, sliceD, rcv_join, rcv_index, rcv_find, eqv_ii, eqv_bb, eqv_ss, eqv_nn, D.scal, List.all_cons, List.all_nil, reduceCtorEq, Int.reduceEq, asg, Tg.vars, wipe, noOwn, isTy, isN, Es.len, R.nox_ok, R.of_none, R.bind_ok, R.of_some, R.toS_ok, RS.then_nx, RS.then_rt, List.map_cons, List.map_nil, List.length_cons, List.length_nil, List.length_map, List.getElem?_map, List.cons_append, List.nil_append, List.replicate, List.getElem?_cons_zero, List.getElem?_cons_succ, List.set_cons_zero, List.set_cons_succ, List.set_set, Option.bind_some, Option.map_some, reduceIte, decide_true, decide_false, Bool.and_true, Bool.true_and, Bool.or_true, Bool.true_or, Bool.or_false, Bool.false_or, Bool.not_true, Bool.not_false, Bool.and_false, Bool.false_and, Bool.false_eq_true, Nat.reduceAdd, Nat.reduceSub, Nat.reduceLT, Int.reduceLT, Int.reduceLE, Int.reduceToNat, decide_eq_true_eq, Int.cast_ofNat_Int, d_first_spoilt, c1, em, la, hn, Int.reduceNeg]
end IL
namespace IL
theorem far_loop {G : G} (v0 v1 : D) (e sp : Int) (S : Store) : ∀ (l : List Int) (a : Int) (z : Slot), ∃ z', forLoop (forStep G (.v 5) (.cons (.iff (.chn (.v 2) (.v 5) (.v 3)) (.cons (.set 4 0 (.v 5)) .nil) .nil) .nil)) (dI l) [.val v0, .val v1, .val (.int e), .val (.int sp), .val (.int a), z] S = .nx [.val v0, .val v1, .val (.int e), .val (.int sp), .val (.int (farF e sp l a)), z'] S
  | [], a, z => ⟨z, rfl⟩
  | o :: l, a, z => by
    obtain ⟨z', ih⟩ := far_loop (G := G) v0 v1 e sp S l (if e ≤ o ∧ o ≤ sp then o else a) (.val (.int o))
    refine ⟨z', ?_⟩
    show (forStep G (.v 5) _ (.int o) _ S).then (forLoop _ (dI l)) = _
    unfold farF
    rw [← ih]
    congr 1
    by_cases h1 : e ≤ o
    · by_cases h2 : o ≤ sp
      · rw [if_pos ⟨h1, h2⟩]
        simp (decide := true) only [forStep, start, xs_nil, xs_cons, evalEs, evalAnd, evalOr, evalIt, e_v, e_pk, e_k, e_g, e_bin, e_chn, e_isn, e_ntn, e_neg, e_not, e_and, e_or, e_ite, e_tup, e_lst, e_dct0, e_idx, e_slL, e_slU, e_slB, e_rev, e_call, e_blt, e_met, e_cell, x_set, x_fz, x_unp, x_aug, x_ex, x_app, x_popA, x_ins, x_setx, x_sets, x_augs, x_iff, x_ret, x_mov, x_pass, x_for, x_whl, e_lc, idxD, idxO, atI, ixN, bop, drop, done, mkSlot, E.isPk, Es.anyPk, guard, G_call, G_fr, G_con, E.alloc, bltD, lenD, augD, intOf, sliceD, rcv_join, rcv_index, rcv_find, eqv_ii, eqv_bb, eqv_ss, eqv_nn, D.scal, List.all_cons, List.all_nil, reduceCtorEq, Int.reduceEq, asg, Tg.vars, wipe, noOwn, isTy, isN, Es.len, R.nox_ok, R.of_none, R.bind_ok, R.of_some, R.toS_ok, RS.then_nx, RS.then_rt, List.map_cons, List.map_nil, List.length_cons, List.length_nil, List.length_map, List.getElem?_map, List.cons_append, List.nil_append, List.replicate, List.getElem?_cons_zero, List.getElem?_cons_succ, List.set_cons_zero, List.set_cons_succ, List.set_set, Option.bind_some, Option.map_some, reduceIte, decide_true, decide_false, Bool.and_true, Bool.true_and, Bool.or_true, Bool.true_or, Bool.or_false, Bool.false_or, Bool.not_true, Bool.not_false, Bool.and_false, Bool.false_and, Bool.false_eq_true, Nat.reduceAdd, Nat.reduceSub, Nat.reduceLT, Int.reduceLT, Int.reduceLE, Int.reduceToNat, decide_eq_true_eq, Int.cast_ofNat_Int, h1, h2]
      · rw [if_neg fun z => h2 z.2]
        simp (decide := true) only [forStep, start, xs_nil, xs_cons, evalEs, evalAnd, evalOr, evalIt, e_v, e_pk, e_k, e_g, e_bin, e_chn, e_isn, e_ntn, e_neg, e_not, e_and, e_or, e_ite, e_tup, e_lst, e_dct0, e_idx, e_slL, e_slU, e_slB, e_rev, e_call, e_blt, e_met, e_cell, x_set, x_fz, x_unp, x_aug, x_ex, x_app, x_popA, x_ins, x_setx, x_sets, x_augs, x_iff, x_ret, x_mov, x_pass, x_for, x_whl, e_lc, idxD, idxO, atI, ixN, bop, drop, done, mkSlot, E.isPk, Es.anyPk, guard, G_call, G_fr, G_con, E.alloc, bltD, lenD, augD, intOf, sliceD, rcv_join, rcv_index, rcv_find, eqv_ii, eqv_bb, eqv_ss, eqv_nn, D.scal, List.all_cons, List.all_nil, reduceCtorEq, Int.reduceEq, asg, Tg.vars, wipe, noOwn, isTy, isN, Es.len, R.nox_ok, R.of_none, R.bind_ok, R.of_some, R.toS_ok, RS.then_nx, RS.then_rt, List.map_cons, List.map_nil, List.length_cons, List.length_nil, List.length_map, List.getElem?_map, List.cons_append, List.nil_append, List.replicate, List.getElem?_cons_zero, List.getElem?_cons_succ, List.set_cons_zero, List.set_cons_succ, List.set_set, Option.bind_some, Option.map_some, reduceIte, decide_true, decide_false, Bool.and_true, Bool.true_and, Bool.or_true, Bool.true_or, Bool.or_false, Bool.false_or, Bool.not_true, Bool.not_false, Bool.and_false, Bool.false_and, Bool.false_eq_true, Nat.reduceAdd, Nat.reduceSub, Nat.reduceLT, Int.reduceLT, Int.reduceLE, Int.reduceToNat, decide_eq_true_eq, Int.cast_ofNat_Int, h1, h2]
    · rw [if_neg fun z => h1 z.1]
      simp (decide := true) only [forStep, start, xs_nil, xs_cons, evalEs, evalAnd, evalOr, evalIt, e_v, e_pk, e_k, e_g, e_bin, e_chn, e_isn, e_ntn, e_neg, e_not, e_and, e_or, e_ite, e_tup, e_lst, e_dct0, e_idx, e_slL, e_slU, e_slB, e_rev, e_call, e_blt, e_met, e_cell, x_set, x_fz, x_unp, x_aug, x_ex, x_app, x_popA, x_ins, x_setx, x_sets, x_augs, x_iff, x_ret, x_mov, x_pass, x_for, x_whl, e_lc, idxD, idxO, atI, ixN, bop, drop, done, mkSlot, E.isPk, Es.anyPk, guard, G_call, G_fr, G_con, E.alloc, bltD, lenD, augD, intOf, sliceD, rcv_join, rcv_index, rcv_find, eqv_ii, eqv_bb, eqv_ss, eqv_nn, D.scal, List.all_cons, List.all_nil, reduceCtorEq, Int.reduceEq, asg, Tg.vars, wipe, noOwn, isTy, isN, Es.len, R.nox_ok, R.of_none, R.bind_ok, R.of_some, R.toS_ok, RS.then_nx, RS.then_rt, List.map_cons, List.map_nil, List.length_cons, List.length_nil, List.length_map, List.getElem?_map, List.cons_append, List.nil_append, List.replicate, List.getElem?_cons_zero, List.getElem?_cons_succ, List.set_cons_zero, List.set_cons_succ, List.set_set, Option.bind_some, Option.map_some, reduceIte, decide_true, decide_false, Bool.and_true, Bool.true_and, Bool.or_true, Bool.true_or, Bool.or_false, Bool.false_or, Bool.not_true, Bool.not_false, Bool.and_false, Bool.false_and, Bool.false_eq_true, Nat.reduceAdd, Nat.reduceSub, Nat.reduceLT, Int.reduceLT, Int.reduceLE, Int.reduceToNat, decide_eq_true_eq, Int.cast_ofNat_Int, h1]
theorem far_in_spec {T : Tbl} (hf : T.defs 111 = some d_first_spoilt) (hB : T.defs 125 = some d_far_in) (c1 : T.con 1 = some (.str [120])) {t : List Nat} (ht : t.length ≤ 1000) (l : List Int) {e : Nat} (he : e ≤ t.length) (S : Store) (n : Nat) :
    call T (n + 2) 125 [.lst (dI l), .str t, .int e] S = .ok (.int (farF e (nxt t e) l e)) S := by
  obtain ⟨z', q⟩ := far_loop (G := T.G (n + 1)) (.lst (dI l)) (.str t) e (nxt t e) S l e .no
  have e1 := first_spec hf c1 ht he S n
  rw [call_at hB rfl]
  simp (decide := true) only [start, xs_nil, xs_cons, evalEs, evalAnd, evalOr, evalIt, e_v, e_pk, e_k, e_g, e_bin, e_chn, e_isn, e_ntn, e_neg, e_not, e_and, e_or, e_ite, e_tup, e_lst, e_dct0, e_idx, e_slL, e_slU, e_slB, e_rev, e_call, e_blt, e_met, e_cell, x_set, x_fz, x_unp, x_aug, x_ex, x_app, x_popA, x_ins, x_setx, x_sets, x_augs, x_iff, x_ret, x_mov, x_pass, x_for, x_whl, e_lc, idxD, idxO, atI, ixN, bop, drop, done, mkSlot, E.isPk, Es.anyPk, guard, G_call, G_fr, G_con, E.alloc, bltD, lenD, augD, intOf, sliceD, rcv_join, rcv_index, rcv_find, eqv_ii, eqv_bb, eqv_ss, eqv_nn, D.scal, List.all_cons, List.all_nil, reduceCtorEq, Int.reduceEq, asg, Tg.vars, wipe, noOwn, isTy, isN, Es.len, R.nox_ok, R.of_none, R.bind_ok, R.of_some, R.toS_ok, RS.then_nx, RS.then_rt, List.map_cons, List.map_nil, List.length_cons, List.length_nil, List.length_map, List.getElem?_map, List.cons_append, List.nil_append, List.replicate, List.getElem?_cons_zero, List.getElem?_cons_succ, List.set_cons_zero, List.set_cons_succ, List.set_set, Option.bind_some, Option.map_some, reduceIte, decide_true, decide_false, Bool.and_true, Bool.true_and, Bool.or_true, Bool.true_or, Bool.or_false, Bool.false_or, Bool.not_true, Bool.not_false, Bool.and_false, Bool.false_and, Bool.false_eq_true, Nat.reduceAdd, Nat.reduceSub, Nat.reduceLT, Int.reduceLT, Int.reduceLE, Int.reduceToNat, decide_eq_true_eq, Int.cast_ofNat_Int, d_far_in, e1, seqIt, q]
end IL
namespace IL
structure Fit (sz : Int) (bd : List Int) (ks : List Tk) : Prop where
  bord : Bord sz bd
  le : sz ≤ 1000
  bl : bd.length ≤ 1100
  kl : ks.length ≤ 1000
  ok : ∀ k ∈ ks, ox k.1 ∧ (k.1.length : Int) = sz
theorem Fit.txt {sz : Int} {bd : List Int} {ks : List Tk} (F : Fit sz bd ks) {k : Tk} (h : k ∈ ks) : k.1.length ≤ 1000 := by
  have := (F.ok k h).2; have := F.le; omega
theorem Fit.bln {sz : Int} {bd : List Int} {ks : List Tk} (F : Fit sz bd ks) : bd.length ≤ line := by have := F.bl; unfold line; omega
theorem Fit.kln {sz : Int} {bd : List Int} {ks : List Tk} (F : Fit sz bd ks) : ks.length ≤ line := by have := F.kl; unfold line; omega
def farD (bd : List Int) (k : Tk) : D := .tup [.int k.2, .lst (dI (bd.map (fe bd k.1)))]
theorem far_in_fe {T : Tbl} (hf : T.defs 111 = some d_first_spoilt) (hB : T.defs 125 = some d_far_in) (c1 : T.con 1 = some (.str [120])) {sz : Int} {bd : List Int} {ks : List Tk} (F : Fit sz bd ks) {k : Tk} (hk : k ∈ ks) {e : Int} (he : e ∈ bd) (S : Store) (n : Nat) :
    call T (n + 2) 125 [.lst (dI bd), .str k.1, .int e] S = .ok (.int (fe bd k.1 e)) S := by
  obtain ⟨b1, b2⟩ := F.bord.rng e he
  have := F.le
  have := (F.ok k hk).2
  have h := far_in_spec hf hB c1 (F.txt hk) bd (e := e.toNat) (by omega) S n
  rw [show ((e.toNat : Nat) : Int) = e by omega] at h
  exact h
theorem far_rows_spec {T : Tbl} (hf : T.defs 111 = some d_first_spoilt) (hF : T.defs 125 = some d_far_in) (hR : T.defs 138 = some d_far_rows) (c1 : T.con 1 = some (.str [120])) {sz : Int} {bd : List Int} {ks : List Tk} (F : Fit sz bd ks) (S : Store) (n : Nat) :
    call T (n + 3) 138 [.lst (dI bd), .lst (ks.map tkD)] S = .ok (.lst (ks.map (farD bd))) S := by
  have bl := F.bln
  have kl := F.kln
  have one : ∀ k ∈ ks, lcStep (T.G (n + 2)) [.val (.lst (dI bd)), .val (.lst (ks.map tkD)), .no, .no, .no] (.t2 (.v 2) (.v 3)) .nil (.tup (.cons (.v 3) (.cons (.lc (.v 4) (.of (.v 0)) .nil (.call 125 (.cons (.v 0) (.cons (.v 2) (.cons (.v 4) .nil))))) .nil))) (tkD k) S = .ok (some (farD bd k)) S := by
    intro k hk
    have two : ∀ e ∈ bd, lcStep (T.G (n + 2)) [.val (.lst (dI bd)), .val (.lst (ks.map tkD)), .val (.str k.1), .val (.int k.2), .no] (.v 4) .nil (.call 125 (.cons (.v 0) (.cons (.v 2) (.cons (.v 4) .nil)))) (.int e) S = .ok (some (.int (fe bd k.1 e))) S := by
      intro e he
      have q := far_in_fe hf hF c1 F hk he S n
      simp (decide := true) only [lcStep, start, xs_nil, xs_cons, evalEs, evalAnd, evalOr, evalIt, e_v, e_pk, e_k, e_g, e_bin, e_chn, e_isn, e_ntn, e_neg, e_not, e_and, e_or, e_ite, e_tup, e_lst, e_dct0, e_idx, e_slL, e_slU, e_slB, e_rev, e_call, e_blt, e_met, e_cell, x_set, x_fz, x_unp, x_aug, x_ex, x_app, x_popA, x_ins, x_setx, x_sets, x_augs, x_iff, x_ret, x_mov, x_pass, x_for, x_whl, e_lc, idxD, idxO, atI, ixN, bop, drop, done, mkSlot, E.isPk, Es.anyPk, guard, G_call, G_fr, G_con, E.alloc, bltD, lenD, augD, intOf, sliceD, rcv_join, rcv_index, rcv_find, eqv_ii, eqv_bb, eqv_ss, eqv_nn, D.scal, List.all_cons, List.all_nil, reduceCtorEq, Int.reduceEq, asg, Tg.vars, wipe, noOwn, isTy, isN, Es.len, R.nox_ok, R.of_none, R.bind_ok, R.of_some, R.toS_ok, RS.then_nx, RS.then_rt, List.map_cons, List.map_nil, List.length_cons, List.length_nil, List.length_map, List.getElem?_map, List.cons_append, List.nil_append, List.replicate, List.getElem?_cons_zero, List.getElem?_cons_succ, List.set_cons_zero, List.set_cons_succ, List.set_set, Option.bind_some, Option.map_some, reduceIte, decide_true, decide_false, Bool.and_true, Bool.true_and, Bool.or_true, Bool.true_or, Bool.or_false, Bool.false_or, Bool.not_true, Bool.not_false, Bool.and_false, Bool.false_and, Bool.false_eq_true, Nat.reduceAdd, Nat.reduceSub, Nat.reduceLT, Int.reduceLT, Int.reduceLE, Int.reduceToNat, decide_eq_true_eq, Int.cast_ofNat_Int, q]
    have l2 := lc_ints two
    have w := dI_map (fe bd k.1) bd
    simp (decide := true) only [lcStep, tkD, farD, start, xs_nil, xs_cons, evalEs, evalAnd, evalOr, evalIt, e_v, e_pk, e_k, e_g, e_bin, e_chn, e_isn, e_ntn, e_neg, e_not, e_and, e_or, e_ite, e_tup, e_lst, e_dct0, e_idx, e_slL, e_slU, e_slB, e_rev, e_call, e_blt, e_met, e_cell, x_set, x_fz, x_unp, x_aug, x_ex, x_app, x_popA, x_ins, x_setx, x_sets, x_augs, x_iff, x_ret, x_mov, x_pass, x_for, x_whl, e_lc, idxD, idxO, atI, ixN, bop, drop, done, mkSlot, E.isPk, Es.anyPk, guard, G_call, G_fr, G_con, E.alloc, bltD, lenD, augD, intOf, sliceD, rcv_join, rcv_index, rcv_find, eqv_ii, eqv_bb, eqv_ss, eqv_nn, D.scal, List.all_cons, List.all_nil, reduceCtorEq, Int.reduceEq, asg, Tg.vars, wipe, noOwn, isTy, isN, Es.len, R.nox_ok, R.of_none, R.bind_ok, R.of_some, R.toS_ok, RS.then_nx, RS.then_rt, List.map_cons, List.map_nil, List.length_cons, List.length_nil, List.length_map, List.getElem?_map, List.cons_append, List.nil_append, List.replicate, List.getElem?_cons_zero, List.getElem?_cons_succ, List.set_cons_zero, List.set_cons_succ, List.set_set, Option.bind_some, Option.map_some, reduceIte, decide_true, decide_false, Bool.and_true, Bool.true_and, Bool.or_true, Bool.true_or, Bool.or_false, Bool.false_or, Bool.not_true, Bool.not_false, Bool.and_false, Bool.false_and, Bool.false_eq_true, Nat.reduceAdd, Nat.reduceSub, Nat.reduceLT, Int.reduceLT, Int.reduceLE, Int.reduceToNat, decide_eq_true_eq, Int.cast_ofNat_Int, seqIt, bl, l2, w]
  have l1 := lc_mapA one
  rw [call_at hR rfl]
  simp (decide := true) only [start, xs_nil, xs_cons, evalEs, evalAnd, evalOr, evalIt, e_v, e_pk, e_k, e_g, e_bin, e_chn, e_isn, e_ntn, e_neg, e_not, e_and, e_or, e_ite, e_tup, e_lst, e_dct0, e_idx, e_slL, e_slU, e_slB, e_rev, e_call, e_blt, e_met, e_cell, x_set, x_fz, x_unp, x_aug, x_ex, x_app, x_popA, x_ins, x_setx, x_sets, x_augs, x_iff, x_ret, x_mov, x_pass, x_for, x_whl, e_lc, idxD, idxO, atI, ixN, bop, drop, done, mkSlot, E.isPk, Es.anyPk, guard, G_call, G_fr, G_con, E.alloc, bltD, lenD, augD, intOf, sliceD, rcv_join, rcv_index, rcv_find, eqv_ii, eqv_bb, eqv_ss, eqv_nn, D.scal, List.all_cons, List.all_nil, reduceCtorEq, Int.reduceEq, asg, Tg.vars, wipe, noOwn, isTy, isN, Es.len, R.nox_ok, R.of_none, R.bind_ok, R.of_some, R.toS_ok, RS.then_nx, RS.then_rt, List.map_cons, List.map_nil, List.length_cons, List.length_nil, List.length_map, List.getElem?_map, List.cons_append, List.nil_append, List.replicate, List.getElem?_cons_zero, List.getElem?_cons_succ, List.set_cons_zero, List.set_cons_succ, List.set_set, Option.bind_some, Option.map_some, reduceIte, decide_true, decide_false, Bool.and_true, Bool.true_and, Bool.or_true, Bool.true_or, Bool.or_false, Bool.false_or, Bool.not_true, Bool.not_false, Bool.and_false, Bool.false_and, Bool.false_eq_true, Nat.reduceAdd, Nat.reduceSub, Nat.reduceLT, Int.reduceLT, Int.reduceLE, Int.reduceToNat, decide_eq_true_eq, Int.cast_ofNat_Int, d_far_rows, seqIt, kl, l1]
end IL
namespace IL
theorem own_loop {T : Tbl} (n : Nat) {bd : List Int} (bl : bd.length ≤ line) (a : Int) (v0 v1 : Slot) (S : Store) : ∀ (ks : List Tk) (f : Int → Int) (z4 z5 : Slot),
    ∃ w4 w5, forLoop (forStep (T.G n) (.t2 (.v 4) (.v 5)) (.cons (.iff (.bin .le (.v 4) (.v 2)) (.cons (.fz 3) (.cons (.set 3 1 (.lc (.t2 (.v 6) (.v 7)) (.zip (.v 3) (.v 5)) .nil (.blt .max2 (.cons (.v 6) (.cons (.v 7) .nil))))) .nil)) .nil) .nil)) (ks.map (farD bd)) [v0, v1, .val (.int a), .own (.lst (dI (bd.map f))), z4, z5, .no, .no] S
      = .nx [v0, v1, .val (.int a), .own (.lst (dI (bd.map fun e => (ks.filter fun k => decide (k.2 ≤ a)).foldl (fun x k => max x (fe bd k.1 e)) (f e)))), w4, w5, .no, .no] S
  | [], f, z4, z5 => ⟨z4, z5, rfl⟩
  | k :: ks, f, z4, z5 => by
    by_cases c : k.2 ≤ a
    · obtain ⟨w4, w5, ih⟩ := own_loop (T := T) n bl a v0 v1 S ks (fun e => max (f e) (fe bd k.1 e)) (.val (.int k.2)) (.val (.lst (dI (bd.map (fe bd k.1)))))
      refine ⟨w4, w5, ?_⟩
      show (forStep _ _ _ (farD bd k) _ S).then (forLoop _ (ks.map (farD bd))) = _
      have hfil : (k :: ks).filter (fun k => decide (k.2 ≤ a)) = k :: ks.filter (fun k => decide (k.2 ≤ a)) := List.filter_cons_of_pos (by simpa using c)
      rw [hfil]
      show _ = RS.nx [v0, v1, .val (.int a), .own (.lst (dI (bd.map fun e => (ks.filter fun k => decide (k.2 ≤ a)).foldl (fun x k => max x (fe bd k.1 e)) (max (f e) (fe bd k.1 e))))), w4, w5, .no, .no] S
      rw [← ih]
      have one : ∀ e ∈ bd, lcStep (T.G n) [v0, v1, .val (.int a), .val (.lst (dI (bd.map f))), .val (.int k.2), .val (.lst (dI (bd.map (fe bd k.1)))), .no, .no] (.t2 (.v 6) (.v 7)) .nil (.blt .max2 (.cons (.v 6) (.cons (.v 7) .nil))) (.tup [.int (f e), .int (fe bd k.1 e)]) S = .ok (some (.int (max (f e) (fe bd k.1 e)))) S := by
        intro e _
        simp (decide := true) only [lcStep, start, xs_nil, xs_cons, evalEs, evalAnd, evalOr, evalIt, e_v, e_pk, e_k, e_g, e_bin, e_chn, e_isn, e_ntn, e_neg, e_not, e_and, e_or, e_ite, e_tup, e_lst, e_dct0, e_idx, e_slL, e_slU, e_slB, e_rev, e_call, e_blt, e_met, e_cell, x_set, x_fz, x_unp, x_aug, x_ex, x_app, x_popA, x_ins, x_setx, x_sets, x_augs, x_iff, x_ret, x_mov, x_pass, x_for, x_whl, e_lc, idxD, idxO, atI, ixN, bop, drop, done, mkSlot, E.isPk, Es.anyPk, guard, G_call, G_fr, G_con, E.alloc, bltD, lenD, augD, intOf, sliceD, rcv_join, rcv_index, rcv_find, eqv_ii, eqv_bb, eqv_ss, eqv_nn, D.scal, List.all_cons, List.all_nil, reduceCtorEq, Int.reduceEq, asg, Tg.vars, wipe, noOwn, isTy, isN, Es.len, R.nox_ok, R.of_none, R.bind_ok, R.of_some, R.toS_ok, RS.then_nx, RS.then_rt, List.map_cons, List.map_nil, List.length_cons, List.length_nil, List.length_map, List.getElem?_map, List.cons_append, List.nil_append, List.replicate, List.getElem?_cons_zero, List.getElem?_cons_succ, List.set_cons_zero, List.set_cons_succ, List.set_set, Option.bind_some, Option.map_some, reduceIte, decide_true, decide_false, Bool.and_true, Bool.true_and, Bool.or_true, Bool.true_or, Bool.or_false, Bool.false_or, Bool.not_true, Bool.not_false, Bool.and_false, Bool.false_and, Bool.false_eq_true, Nat.reduceAdd, Nat.reduceSub, Nat.reduceLT, Int.reduceLT, Int.reduceLE, Int.reduceToNat, decide_eq_true_eq, Int.cast_ofNat_Int, max_if]
      have l1 := lc_mapA one
      have z := zip_dI f (fe bd k.1) bd
      have w := dI_map (fun e => max (f e) (fe bd k.1 e)) bd
      congr 1
      rw [w]
      simp (decide := true) only [forStep, farD, start, xs_nil, xs_cons, evalEs, evalAnd, evalOr, evalIt, e_v, e_pk, e_k, e_g, e_bin, e_chn, e_isn, e_ntn, e_neg, e_not, e_and, e_or, e_ite, e_tup, e_lst, e_dct0, e_idx, e_slL, e_slU, e_slB, e_rev, e_call, e_blt, e_met, e_cell, x_set, x_fz, x_unp, x_aug, x_ex, x_app, x_popA, x_ins, x_setx, x_sets, x_augs, x_iff, x_ret, x_mov, x_pass, x_for, x_whl, e_lc, idxD, idxO, atI, ixN, bop, drop, done, mkSlot, E.isPk, Es.anyPk, guard, G_call, G_fr, G_con, E.alloc, bltD, lenD, augD, intOf, sliceD, rcv_join, rcv_index, rcv_find, eqv_ii, eqv_bb, eqv_ss, eqv_nn, D.scal, List.all_cons, List.all_nil, reduceCtorEq, Int.reduceEq, asg, Tg.vars, wipe, noOwn, isTy, isN, Es.len, R.nox_ok, R.of_none, R.bind_ok, R.of_some, R.toS_ok, RS.then_nx, RS.then_rt, List.map_cons, List.map_nil, List.length_cons, List.length_nil, List.length_map, List.getElem?_map, List.cons_append, List.nil_append, List.replicate, List.getElem?_cons_zero, List.getElem?_cons_succ, List.set_cons_zero, List.set_cons_succ, List.set_set, Option.bind_some, Option.map_some, reduceIte, decide_true, decide_false, Bool.and_true, Bool.true_and, Bool.or_true, Bool.true_or, Bool.or_false, Bool.false_or, Bool.not_true, Bool.not_false, Bool.and_false, Bool.false_and, Bool.false_eq_true, Nat.reduceAdd, Nat.reduceSub, Nat.reduceLT, Int.reduceLT, Int.reduceLE, Int.reduceToNat, decide_eq_true_eq, Int.cast_ofNat_Int, c, z, bl, l1, D.isNode]
    · obtain ⟨w4, w5, ih⟩ := own_loop (T := T) n bl a v0 v1 S ks f (.val (.int k.2)) (.val (.lst (dI (bd.map (fe bd k.1)))))
      refine ⟨w4, w5, ?_⟩
      show (forStep _ _ _ (farD bd k) _ S).then (forLoop _ (ks.map (farD bd))) = _
      have hfil : (k :: ks).filter (fun k => decide (k.2 ≤ a)) = ks.filter (fun k => decide (k.2 ≤ a)) := List.filter_cons_of_neg (by simpa using c)
      rw [hfil, ← ih]
      congr 1
      simp (decide := true) only [forStep, farD, start, xs_nil, xs_cons, evalEs, evalAnd, evalOr, evalIt, e_v, e_pk, e_k, e_g, e_bin, e_chn, e_isn, e_ntn, e_neg, e_not, e_and, e_or, e_ite, e_tup, e_lst, e_dct0, e_idx, e_slL, e_slU, e_slB, e_rev, e_call, e_blt, e_met, e_cell, x_set, x_fz, x_unp, x_aug, x_ex, x_app, x_popA, x_ins, x_setx, x_sets, x_augs, x_iff, x_ret, x_mov, x_pass, x_for, x_whl, e_lc, idxD, idxO, atI, ixN, bop, drop, done, mkSlot, E.isPk, Es.anyPk, guard, G_call, G_fr, G_con, E.alloc, bltD, lenD, augD, intOf, sliceD, rcv_join, rcv_index, rcv_find, eqv_ii, eqv_bb, eqv_ss, eqv_nn, D.scal, List.all_cons, List.all_nil, reduceCtorEq, Int.reduceEq, asg, Tg.vars, wipe, noOwn, isTy, isN, Es.len, R.nox_ok, R.of_none, R.bind_ok, R.of_some, R.toS_ok, RS.then_nx, RS.then_rt, List.map_cons, List.map_nil, List.length_cons, List.length_nil, List.length_map, List.getElem?_map, List.cons_append, List.nil_append, List.replicate, List.getElem?_cons_zero, List.getElem?_cons_succ, List.set_cons_zero, List.set_cons_succ, List.set_set, Option.bind_some, Option.map_some, reduceIte, decide_true, decide_false, Bool.and_true, Bool.true_and, Bool.or_true, Bool.true_or, Bool.or_false, Bool.false_or, Bool.not_true, Bool.not_false, Bool.and_false, Bool.false_and, Bool.false_eq_true, Nat.reduceAdd, Nat.reduceSub, Nat.reduceLT, Int.reduceLT, Int.reduceLE, Int.reduceToNat, decide_eq_true_eq, Int.cast_ofNat_Int, c]
theorem own_row_spec {T : Tbl} (hO : T.defs 139 = some d_own_row) {sz : Int} {bd : List Int} {ks : List Tk} (F : Fit sz bd ks) (a : Int) (S : Store) (n : Nat) :
    call T (n + 1) 139 [.lst (dI bd), .lst (ks.map (farD bd)), .int a] S = .ok (.lst (dI (bd.map (ownE bd ks a)))) S := by
  obtain ⟨w4, w5, e⟩ := own_loop (T := T) n F.bln a (.val (.lst (dI bd))) (.val (.lst (ks.map (farD bd)))) S ks (fun e => e) .no .no
  have hm : bd.map (fun e => e) = bd := List.map_id' bd
  rw [hm] at e
  rw [call_at hO rfl]
  have w : (bd.map fun e => (ks.filter fun k => decide (k.2 ≤ a)).foldl (fun x k => max x (fe bd k.1 e)) e) = bd.map (ownE bd ks a) := rfl
  rw [w] at e
  simp (decide := true) only [start, xs_nil, xs_cons, evalEs, evalAnd, evalOr, evalIt, e_v, e_pk, e_k, e_g, e_bin, e_chn, e_isn, e_ntn, e_neg, e_not, e_and, e_or, e_ite, e_tup, e_lst, e_dct0, e_idx, e_slL, e_slU, e_slB, e_rev, e_call, e_blt, e_met, e_cell, x_set, x_fz, x_unp, x_aug, x_ex, x_app, x_popA, x_ins, x_setx, x_sets, x_augs, x_iff, x_ret, x_mov, x_pass, x_for, x_whl, e_lc, idxD, idxO, atI, ixN, bop, drop, done, mkSlot, E.isPk, Es.anyPk, guard, G_call, G_fr, G_con, E.alloc, bltD, lenD, augD, intOf, sliceD, rcv_join, rcv_index, rcv_find, eqv_ii, eqv_bb, eqv_ss, eqv_nn, D.scal, List.all_cons, List.all_nil, reduceCtorEq, Int.reduceEq, asg, Tg.vars, wipe, noOwn, isTy, isN, Es.len, R.nox_ok, R.of_none, R.bind_ok, R.of_some, R.toS_ok, RS.then_nx, RS.then_rt, List.map_cons, List.map_nil, List.length_cons, List.length_nil, List.length_map, List.getElem?_map, List.cons_append, List.nil_append, List.replicate, List.getElem?_cons_zero, List.getElem?_cons_succ, List.set_cons_zero, List.set_cons_succ, List.set_set, Option.bind_some, Option.map_some, reduceIte, decide_true, decide_false, Bool.and_true, Bool.true_and, Bool.or_true, Bool.true_or, Bool.or_false, Bool.false_or, Bool.not_true, Bool.not_false, Bool.and_false, Bool.false_and, Bool.false_eq_true, Nat.reduceAdd, Nat.reduceSub, Nat.reduceLT, Int.reduceLT, Int.reduceLE, Int.reduceToNat, decide_eq_true_eq, Int.cast_ofNat_Int, d_own_row, D.isNode, seqIt, e]
end IL
namespace IL
theorem ends_spec {T : Tbl} (hB : T.defs 123 = some d_ends) {cs : List Int} (h : cs.length ≤ 2000) (sz : Int) (S : Store) (n : Nat) : call T (n + 1) 123 [.int sz, .lst (dI cs)] S = .ok (.lst (dI ([0] ++ cs ++ [sz]))) S := by
  have h1 : 1 + cs.length ≤ line := by unfold line; omega
  have h2 : cs.length + 1 + 1 ≤ line := by unfold line; omega
  have e : dI ([0] ++ cs ++ [sz]) = [.int 0] ++ dI cs ++ [.int sz] := by simp [dI]
  rw [e, call_at hB rfl]
  simp (decide := true) only [start, xs_nil, xs_cons, evalEs, evalAnd, evalOr, evalIt, e_v, e_pk, e_k, e_g, e_bin, e_chn, e_isn, e_ntn, e_neg, e_not, e_and, e_or, e_ite, e_tup, e_lst, e_dct0, e_idx, e_slL, e_slU, e_slB, e_rev, e_call, e_blt, e_met, e_cell, x_set, x_fz, x_unp, x_aug, x_ex, x_app, x_popA, x_ins, x_setx, x_sets, x_augs, x_iff, x_ret, x_mov, x_pass, x_for, x_whl, e_lc, idxD, idxO, atI, ixN, bop, drop, done, mkSlot, E.isPk, Es.anyPk, guard, G_call, G_fr, G_con, E.alloc, bltD, lenD, augD, intOf, sliceD, rcv_join, rcv_index, rcv_find, eqv_ii, eqv_bb, eqv_ss, eqv_nn, D.scal, List.all_cons, List.all_nil, reduceCtorEq, Int.reduceEq, asg, Tg.vars, wipe, noOwn, isTy, isN, Es.len, R.nox_ok, R.of_none, R.bind_ok, R.of_some, R.toS_ok, RS.then_nx, RS.then_rt, List.map_cons, List.map_nil, List.length_cons, List.length_nil, List.length_map, List.getElem?_map, List.cons_append, List.nil_append, List.replicate, List.getElem?_cons_zero, List.getElem?_cons_succ, List.set_cons_zero, List.set_cons_succ, List.set_set, Option.bind_some, Option.map_some, reduceIte, decide_true, decide_false, Bool.and_true, Bool.true_and, Bool.or_true, Bool.true_or, Bool.or_false, Bool.false_or, Bool.not_true, Bool.not_false, Bool.and_false, Bool.false_and, Bool.false_eq_true, Nat.reduceAdd, Nat.reduceSub, Nat.reduceLT, Int.reduceLT, Int.reduceLE, Int.reduceToNat, decide_eq_true_eq, Int.cast_ofNat_Int, d_ends, D.isNode, h1, h2, List.length_append]
end IL
namespace IL
def tabsD (bd : List Int) (ks : List Tk) (m : Nat) : List D := (List.range m).map fun a => .lst (tblD bd.length (fewV bd ks a))
end IL
namespace IL
def waysL (bd : List Int) (ks : List Tk) (m : Nat) : List D := (List.range m).map fun b => .lst (tblD bd.length (waysV bd ks b))
def lotF (bd : List Int) (ks : List Tk) (a w : Nat) : List (Nat × D) := [(0, .lst (dI bd)), (1, .lst (ks.map (farD bd))), (2, .lst (tabsD bd ks (a + 1))), (3, .ref w)]
structure Lot (bd : List Int) (ks : List Tk) (a m w q : Nat) (S : Store) : Prop where
  me : S[m]? = some (.ins 0 (lotF bd ks a w))
  ways : S[w]? = some (.lst (waysL bd ks q))
section
variable {bd : List Int} {ks : List Tk} {a m w q : Nat} {S : Store} (L : Lot bd ks a m w q S)
include L
theorem Lot.ins : insD S 0 (.ref m) = some (lotF bd ks a w) := by
  show (match S[m]? with
    | some (.ins k fs) => if k = 0 then some fs else none
    | _ => none) = _
  rw [L.me]; rfl
end
end IL
namespace IL
section
variable {G : G} {σ : List Slot} {S : Store}
end
def fitL (bd : List Int) (a : Int) (i j : Nat) : Nat → List Tk → List Nat
  | _, [] => []
  | n, k :: ks => if decide (k.2 ≤ a) && decide (bd.getD j 0 ≤ fe bd k.1 (bd.getD i 0)) then n :: fitL bd a i j (n + 1) ks else fitL bd a i j (n + 1) ks
theorem fitL_cons (bd : List Int) (a : Int) (i j n : Nat) (k : Tk) (ks : List Tk) : fitL bd a i j n (k :: ks) = if decide (k.2 ≤ a) && decide (bd.getD j 0 ≤ fe bd k.1 (bd.getD i 0)) then n :: fitL bd a i j (n + 1) ks else fitL bd a i j (n + 1) ks := rfl
theorem fit_len (bd : List Int) (a : Int) (i j : Nat) : ∀ (ks : List Tk) (n : Nat), ((fitL bd a i j n ks).length : Int) = fitN bd ks a i j
  | [], _ => rfl
  | k :: ks, n => by
    have ih := fit_len bd a i j ks (n + 1)
    unfold fitN at ih ⊢
    unfold fitL
    by_cases c : decide (k.2 ≤ a) = true
    · rw [List.filter_cons_of_pos (p := fun k : Tk => decide (k.2 ≤ a)) c, c, Bool.true_and]
      by_cases d : decide (bd.getD j 0 ≤ fe bd k.1 (bd.getD i 0)) = true
      · rw [List.filter_cons_of_pos (p := fun k : Tk => decide (bd.getD j 0 ≤ fe bd k.1 (bd.getD i 0))) d, if_pos d, List.length_cons, List.length_cons]; omega
      · rw [List.filter_cons_of_neg (p := fun k : Tk => decide (bd.getD j 0 ≤ fe bd k.1 (bd.getD i 0))) d, if_neg d]; exact ih
    · rw [List.filter_cons_of_neg (p := fun k : Tk => decide (k.2 ≤ a)) c, if_neg (by intro z; rw [Bool.and_eq_true] at z; exact c z.1)]; exact ih
end IL
namespace IL
theorem kget_pl {e : Int} : ∀ (bd : List Int) (lo : Nat), e ∈ bd → kget (bd.map .i) (rangeL lo bd.length) (.i e) = some (.int ((lo + bd.idxOf e : Nat) : Int))
  | [], _, h => (nomatch h)
  | o :: bd, lo, h => by
    show (if Ky.i o = Ky.i e then some (D.int lo) else kget (bd.map .i) (rangeL ((lo : Int) + 1) bd.length) (.i e)) = _
    rw [List.idxOf_cons]
    by_cases c : o = e
    · rw [if_pos (by rw [c]), c]; simp
    · have hm : e ∈ bd := (List.mem_cons.mp h).resolve_left fun z => c z.symm
      rw [if_neg (fun z => c (by cases z; rfl)), show (lo : Int) + 1 = ((lo + 1 : Nat) : Int) by omega, kget_pl bd (lo + 1) hm]
      have : (o == e) = false := by simpa using c
      rw [this, cond_false]
      congr 2
      omega
theorem rangeL_snoc : ∀ (m : Nat) (lo : Int), rangeL lo (m + 1) = rangeL lo m ++ [.int (lo + m)]
  | 0, lo => by show [D.int lo] = _; simp [rangeL]
  | m + 1, lo => by
    show D.int lo :: rangeL (lo + 1) (m + 1) = D.int lo :: (rangeL (lo + 1) m ++ [.int (lo + ((m + 1 : Nat) : Int))])
    rw [rangeL_snoc m (lo + 1), show lo + ((m + 1 : Nat) : Int) = lo + 1 + (m : Int) by omega]
theorem places_loop {G : G} (v0 : Slot) (S : Store) : ∀ (bd dn : List Int) (z2 z3 : Slot), (∀ e ∈ bd, e ∉ dn) → bd.Nodup → bd.length + dn.length ≤ 2000 →
    ∃ w2 w3, forLoop (forStep G (.t2 (.v 2) (.v 3)) (.cons (.setx 1 (.v 3) (.v 2)) .nil)) (enumL dn.length (dI bd)) [v0, .own (.dct (dn.map .i) (rangeL 0 dn.length)), z2, z3] S = .nx [v0, .own (.dct ((dn ++ bd).map .i) (rangeL 0 (dn ++ bd).length)), w2, w3] S
  | [], dn, z2, z3, _, _, _ => ⟨z2, z3, by rw [List.append_nil]; rfl⟩
  | e :: bd, dn, z2, z3, h, nd, hl => by
    have nd2 := List.nodup_cons.mp nd
    obtain ⟨w2, w3, ih⟩ := places_loop (G := G) v0 S bd (dn ++ [e]) (.val (.int dn.length)) (.val (.int e)) (fun x hx => by
      have := h x (List.mem_cons_of_mem _ hx)
      intro q
      rcases List.mem_append.mp q with q | q
      · exact this q
      · rw [List.mem_singleton] at q; rw [q] at hx; exact nd2.1 hx) nd2.2 (by rw [List.length_append, List.length_singleton]; rw [List.length_cons] at hl; omega)
    refine ⟨w2, w3, ?_⟩
    have e1 : dn ++ [e] ++ bd = dn ++ e :: bd := by simp
    rw [e1] at ih
    rw [← ih]
    show (forStep _ _ _ (.tup [.int dn.length, .int e]) _ S).then (forLoop _ (enumL (dn.length + 1) (dI bd))) = _
    have hn : Ky.i e ∉ dn.map .i := by
      intro q
      obtain ⟨x, hx, q⟩ := List.mem_map.mp q
      cases q
      exact h e List.mem_cons_self hx
    have kp : kput (dn.map .i) (rangeL 0 dn.length) (.i e) (.int dn.length) = (dn.map .i ++ [.i e], rangeL 0 dn.length ++ [.int dn.length]) := by unfold kput; rw [if_neg hn]
    have kl : (dn.map Ky.i).length < line := by rw [List.length_map]; rw [List.length_cons] at hl; unfold line; omega
    have kl2 : dn.length < line := by rw [List.length_cons] at hl; unfold line; omega
    have l1 : (dn ++ [e]).length = dn.length + 1 := by simp
    have r1 := rangeL_snoc dn.length 0
    rw [Int.zero_add] at r1
    rw [l1, r1, List.map_append]
    congr 1
    simp (decide := true) only [forStep, start, xs_nil, xs_cons, evalEs, evalAnd, evalOr, evalIt, e_v, e_pk, e_k, e_g, e_bin, e_chn, e_isn, e_ntn, e_neg, e_not, e_and, e_or, e_ite, e_tup, e_lst, e_dct0, e_idx, e_slL, e_slU, e_slB, e_rev, e_call, e_blt, e_met, e_cell, x_set, x_fz, x_unp, x_aug, x_ex, x_app, x_popA, x_ins, x_setx, x_sets, x_augs, x_iff, x_ret, x_mov, x_pass, x_for, x_whl, e_lc, idxD, idxO, atI, ixN, bop, drop, done, mkSlot, E.isPk, Es.anyPk, guard, G_call, G_fr, G_con, E.alloc, bltD, lenD, augD, intOf, sliceD, rcv_join, rcv_index, rcv_find, eqv_ii, eqv_bb, eqv_ss, eqv_nn, D.scal, List.all_cons, List.all_nil, reduceCtorEq, Int.reduceEq, asg, Tg.vars, wipe, noOwn, isTy, isN, Es.len, R.nox_ok, R.of_none, R.bind_ok, R.of_some, R.toS_ok, RS.then_nx, RS.then_rt, List.map_cons, List.map_nil, List.length_cons, List.length_nil, List.length_map, List.getElem?_map, List.cons_append, List.nil_append, List.replicate, List.getElem?_cons_zero, List.getElem?_cons_succ, List.set_cons_zero, List.set_cons_succ, List.set_set, Option.bind_some, Option.map_some, reduceIte, decide_true, decide_false, Bool.and_true, Bool.true_and, Bool.or_true, Bool.true_or, Bool.or_false, Bool.false_or, Bool.not_true, Bool.not_false, Bool.and_false, Bool.false_and, Bool.false_eq_true, Nat.reduceAdd, Nat.reduceSub, Nat.reduceLT, Int.reduceLT, Int.reduceLE, Int.reduceToNat, decide_eq_true_eq, Int.cast_ofNat_Int, D.ky, kp, kl2]
theorem places_spec {T : Tbl} (hP : T.defs 137 = some d_places_in) {sz : Int} {bd : List Int} (B : Bord sz bd) (hl : bd.length ≤ 2000) (S : Store) (n : Nat) :
    call T (n + 1) 137 [.lst (dI bd)] S = .ok (.dct (bd.map .i) (rangeL 0 bd.length)) S := by
  have nd : bd.Nodup := List.Pairwise.imp (fun h => by omega) B.ord
  obtain ⟨w2, w3, e⟩ := places_loop (G := T.G n) (.val (.lst (dI bd))) S bd [] .no .no (fun _ _ q => (nomatch q)) nd (by simpa using hl)
  rw [List.nil_append] at e
  have e : forLoop (forStep (T.G n) (.t2 (.v 2) (.v 3)) _) (enumL 0 (dI bd)) [.val (.lst (dI bd)), .own (.dct [] []), .no, .no] S = _ := e
  rw [call_at hP rfl]
  simp (decide := true) only [start, xs_nil, xs_cons, evalEs, evalAnd, evalOr, evalIt, e_v, e_pk, e_k, e_g, e_bin, e_chn, e_isn, e_ntn, e_neg, e_not, e_and, e_or, e_ite, e_tup, e_lst, e_dct0, e_idx, e_slL, e_slU, e_slB, e_rev, e_call, e_blt, e_met, e_cell, x_set, x_fz, x_unp, x_aug, x_ex, x_app, x_popA, x_ins, x_setx, x_sets, x_augs, x_iff, x_ret, x_mov, x_pass, x_for, x_whl, e_lc, idxD, idxO, atI, ixN, bop, drop, done, mkSlot, E.isPk, Es.anyPk, guard, G_call, G_fr, G_con, E.alloc, bltD, lenD, augD, intOf, sliceD, rcv_join, rcv_index, rcv_find, eqv_ii, eqv_bb, eqv_ss, eqv_nn, D.scal, List.all_cons, List.all_nil, reduceCtorEq, Int.reduceEq, asg, Tg.vars, wipe, noOwn, isTy, isN, Es.len, R.nox_ok, R.of_none, R.bind_ok, R.of_some, R.toS_ok, RS.then_nx, RS.then_rt, List.map_cons, List.map_nil, List.length_cons, List.length_nil, List.length_map, List.getElem?_map, List.cons_append, List.nil_append, List.replicate, List.getElem?_cons_zero, List.getElem?_cons_succ, List.set_cons_zero, List.set_cons_succ, List.set_set, Option.bind_some, Option.map_some, reduceIte, decide_true, decide_false, Bool.and_true, Bool.true_and, Bool.or_true, Bool.true_or, Bool.or_false, Bool.false_or, Bool.not_true, Bool.not_false, Bool.and_false, Bool.false_and, Bool.false_eq_true, Nat.reduceAdd, Nat.reduceSub, Nat.reduceLT, Int.reduceLT, Int.reduceLE, Int.reduceToNat, decide_eq_true_eq, Int.cast_ofNat_Int, d_places_in, D.isNode, e]
end IL
namespace IL
theorem row_of_two_spec {T : Tbl} (hR : T.defs 141 = some d_row_of_two) {bd : List Int} (hl : bd.length ≤ 2000) {f g : Int → Int} (hf : ∀ e ∈ bd, f e ∈ bd) (S : Store) (n : Nat) :
    call T (n + 1) 141 [.lst (dI (bd.map f)), .lst (dI (bd.map g)), .dct (bd.map .i) (rangeL 0 bd.length)] S = .ok (.lst (dI (bd.map fun e => g (f e)))) S := by
  have bl : bd.length ≤ line := by unfold line; omega
  have one : ∀ x ∈ bd.map f, lcStep (T.G n) [.val (.lst (dI (bd.map f))), .val (.lst (dI (bd.map g))), .val (.dct (bd.map .i) (rangeL 0 bd.length)), .no] (.v 3) .nil (.idx (.v 1) (.idx (.v 2) (.v 3))) (.int x) S = .ok (some (.int (g x))) S := by
    intro x hx
    obtain ⟨e, he, rfl⟩ := List.mem_map.mp hx
    obtain ⟨g1, g2⟩ := sets_get (hf e he)
    have k1 := kget_pl bd 0 (hf e he)
    rw [Nat.zero_add] at k1
    have k1 : kget (bd.map .i) (rangeL 0 bd.length) (.i (f e)) = some (.int ((bd.idxOf (f e) : Nat) : Int)) := k1
    obtain ⟨j, hj⟩ : ∃ j, bd.idxOf (f e) = j := ⟨_, rfl⟩
    rw [hj] at g1 g2 k1
    have j0 : (0 : Int) ≤ j := by omega
    have j1 : (j : Int) < bd.length := by omega
    have gg : (bd.map g)[(j : Int).toNat]? = some (g (f e)) := by rw [Int.toNat_natCast, List.getElem?_map, g2]; rfl
    have g3 : bd[(j : Int).toNat]? = some (f e) := by rw [Int.toNat_natCast]; exact g2
    simp (decide := true) only [lcStep, start, xs_nil, xs_cons, evalEs, evalAnd, evalOr, evalIt, e_v, e_pk, e_k, e_g, e_bin, e_chn, e_isn, e_ntn, e_neg, e_not, e_and, e_or, e_ite, e_tup, e_lst, e_dct0, e_idx, e_slL, e_slU, e_slB, e_rev, e_call, e_blt, e_met, e_cell, x_set, x_fz, x_unp, x_aug, x_ex, x_app, x_popA, x_ins, x_setx, x_sets, x_augs, x_iff, x_ret, x_mov, x_pass, x_for, x_whl, e_lc, idxD, idxO, atI, ixN, bop, drop, done, mkSlot, E.isPk, Es.anyPk, guard, G_call, G_fr, G_con, E.alloc, bltD, lenD, augD, intOf, sliceD, rcv_join, rcv_index, rcv_find, eqv_ii, eqv_bb, eqv_ss, eqv_nn, D.scal, List.all_cons, List.all_nil, reduceCtorEq, Int.reduceEq, asg, Tg.vars, wipe, noOwn, isTy, isN, Es.len, R.nox_ok, R.of_none, R.bind_ok, R.of_some, R.toS_ok, RS.then_nx, RS.then_rt, List.map_cons, List.map_nil, List.length_cons, List.length_nil, List.length_map, List.getElem?_map, List.cons_append, List.nil_append, List.replicate, List.getElem?_cons_zero, List.getElem?_cons_succ, List.set_cons_zero, List.set_cons_succ, List.set_set, Option.bind_some, Option.map_some, reduceIte, decide_true, decide_false, Bool.and_true, Bool.true_and, Bool.or_true, Bool.true_or, Bool.or_false, Bool.false_or, Bool.not_true, Bool.not_false, Bool.and_false, Bool.false_and, Bool.false_eq_true, Nat.reduceAdd, Nat.reduceSub, Nat.reduceLT, Int.reduceLT, Int.reduceLE, Int.reduceToNat, decide_eq_true_eq, Int.cast_ofNat_Int, D.ky, k1, j0, j1, g3]
  have l1 := lc_ints (g := fun x => .int (g x)) one
  rw [call_at hR rfl]
  have w := dI_map (fun e => g (f e)) bd
  have w2 : (bd.map f).map (fun x => D.int (g x)) = bd.map fun e => .int (g (f e)) := by rw [List.map_map]; rfl
  rw [w2] at l1
  rw [w]
  simp (decide := true) only [start, xs_nil, xs_cons, evalEs, evalAnd, evalOr, evalIt, e_v, e_pk, e_k, e_g, e_bin, e_chn, e_isn, e_ntn, e_neg, e_not, e_and, e_or, e_ite, e_tup, e_lst, e_dct0, e_idx, e_slL, e_slU, e_slB, e_rev, e_call, e_blt, e_met, e_cell, x_set, x_fz, x_unp, x_aug, x_ex, x_app, x_popA, x_ins, x_setx, x_sets, x_augs, x_iff, x_ret, x_mov, x_pass, x_for, x_whl, e_lc, idxD, idxO, atI, ixN, bop, drop, done, mkSlot, E.isPk, Es.anyPk, guard, G_call, G_fr, G_con, E.alloc, bltD, lenD, augD, intOf, sliceD, rcv_join, rcv_index, rcv_find, eqv_ii, eqv_bb, eqv_ss, eqv_nn, D.scal, List.all_cons, List.all_nil, reduceCtorEq, Int.reduceEq, asg, Tg.vars, wipe, noOwn, isTy, isN, Es.len, R.nox_ok, R.of_none, R.bind_ok, R.of_some, R.toS_ok, RS.then_nx, RS.then_rt, List.map_cons, List.map_nil, List.length_cons, List.length_nil, List.length_map, List.getElem?_map, List.cons_append, List.nil_append, List.replicate, List.getElem?_cons_zero, List.getElem?_cons_succ, List.set_cons_zero, List.set_cons_succ, List.set_set, Option.bind_some, Option.map_some, reduceIte, decide_true, decide_false, Bool.and_true, Bool.true_and, Bool.or_true, Bool.true_or, Bool.or_false, Bool.false_or, Bool.not_true, Bool.not_false, Bool.and_false, Bool.false_and, Bool.false_eq_true, Nat.reduceAdd, Nat.reduceSub, Nat.reduceLT, Int.reduceLT, Int.reduceLE, Int.reduceToNat, decide_eq_true_eq, Int.cast_ofNat_Int, d_row_of_two, seqIt, bl, l1]
theorem greater_row_spec {T : Tbl} (hR : T.defs 140 = some d_greater_row) {bd : List Int} (hl : bd.length ≤ 2000) (f g : Int → Int) (S : Store) (n : Nat) :
    call T (n + 1) 140 [.lst (dI (bd.map f)), .lst (dI (bd.map g))] S = .ok (.lst (dI (bd.map fun e => max (f e) (g e)))) S := by
  have bl : bd.length ≤ line := by unfold line; omega
  have one : ∀ e ∈ bd, lcStep (T.G n) [.val (.lst (dI (bd.map f))), .val (.lst (dI (bd.map g))), .no, .no] (.t2 (.v 2) (.v 3)) .nil (.blt .max2 (.cons (.v 2) (.cons (.v 3) .nil))) (.tup [.int (f e), .int (g e)]) S = .ok (some (.int (max (f e) (g e)))) S := by
    intro e _
    simp (decide := true) only [lcStep, start, xs_nil, xs_cons, evalEs, evalAnd, evalOr, evalIt, e_v, e_pk, e_k, e_g, e_bin, e_chn, e_isn, e_ntn, e_neg, e_not, e_and, e_or, e_ite, e_tup, e_lst, e_dct0, e_idx, e_slL, e_slU, e_slB, e_rev, e_call, e_blt, e_met, e_cell, x_set, x_fz, x_unp, x_aug, x_ex, x_app, x_popA, x_ins, x_setx, x_sets, x_augs, x_iff, x_ret, x_mov, x_pass, x_for, x_whl, e_lc, idxD, idxO, atI, ixN, bop, drop, done, mkSlot, E.isPk, Es.anyPk, guard, G_call, G_fr, G_con, E.alloc, bltD, lenD, augD, intOf, sliceD, rcv_join, rcv_index, rcv_find, eqv_ii, eqv_bb, eqv_ss, eqv_nn, D.scal, List.all_cons, List.all_nil, reduceCtorEq, Int.reduceEq, asg, Tg.vars, wipe, noOwn, isTy, isN, Es.len, R.nox_ok, R.of_none, R.bind_ok, R.of_some, R.toS_ok, RS.then_nx, RS.then_rt, List.map_cons, List.map_nil, List.length_cons, List.length_nil, List.length_map, List.getElem?_map, List.cons_append, List.nil_append, List.replicate, List.getElem?_cons_zero, List.getElem?_cons_succ, List.set_cons_zero, List.set_cons_succ, List.set_set, Option.bind_some, Option.map_some, reduceIte, decide_true, decide_false, Bool.and_true, Bool.true_and, Bool.or_true, Bool.true_or, Bool.or_false, Bool.false_or, Bool.not_true, Bool.not_false, Bool.and_false, Bool.false_and, Bool.false_eq_true, Nat.reduceAdd, Nat.reduceSub, Nat.reduceLT, Int.reduceLT, Int.reduceLE, Int.reduceToNat, decide_eq_true_eq, Int.cast_ofNat_Int, max_if]
  have l1 := lc_mapA one
  have z := zip_dI f g bd
  have w := dI_map (fun e => max (f e) (g e)) bd
  rw [call_at hR rfl, w]
  simp (decide := true) only [start, xs_nil, xs_cons, evalEs, evalAnd, evalOr, evalIt, e_v, e_pk, e_k, e_g, e_bin, e_chn, e_isn, e_ntn, e_neg, e_not, e_and, e_or, e_ite, e_tup, e_lst, e_dct0, e_idx, e_slL, e_slU, e_slB, e_rev, e_call, e_blt, e_met, e_cell, x_set, x_fz, x_unp, x_aug, x_ex, x_app, x_popA, x_ins, x_setx, x_sets, x_augs, x_iff, x_ret, x_mov, x_pass, x_for, x_whl, e_lc, idxD, idxO, atI, ixN, bop, drop, done, mkSlot, E.isPk, Es.anyPk, guard, G_call, G_fr, G_con, E.alloc, bltD, lenD, augD, intOf, sliceD, rcv_join, rcv_index, rcv_find, eqv_ii, eqv_bb, eqv_ss, eqv_nn, D.scal, List.all_cons, List.all_nil, reduceCtorEq, Int.reduceEq, asg, Tg.vars, wipe, noOwn, isTy, isN, Es.len, R.nox_ok, R.of_none, R.bind_ok, R.of_some, R.toS_ok, RS.then_nx, RS.then_rt, List.map_cons, List.map_nil, List.length_cons, List.length_nil, List.length_map, List.getElem?_map, List.cons_append, List.nil_append, List.replicate, List.getElem?_cons_zero, List.getElem?_cons_succ, List.set_cons_zero, List.set_cons_succ, List.set_set, Option.bind_some, Option.map_some, reduceIte, decide_true, decide_false, Bool.and_true, Bool.true_and, Bool.or_true, Bool.true_or, Bool.or_false, Bool.false_or, Bool.not_true, Bool.not_false, Bool.and_false, Bool.false_and, Bool.false_eq_true, Nat.reduceAdd, Nat.reduceSub, Nat.reduceLT, Int.reduceLT, Int.reduceLE, Int.reduceToNat, decide_eq_true_eq, Int.cast_ofNat_Int, d_greater_row, z, bl, l1]
def rowsD (bd : List Int) (ks : List Tk) (m : Nat) : List D := (List.range m).map fun a => .lst (dI (bd.map (rowE bd ks a)))
theorem rowsD_s (bd : List Int) (ks : List Tk) (m : Nat) : rowsD bd ks (m + 1) = rowsD bd ks m ++ [.lst (dI (bd.map (rowE bd ks m)))] := by unfold rowsD; rw [List.range_succ, List.map_append]; rfl
theorem rowsD_len (bd : List Int) (ks : List Tk) (m : Nat) : (rowsD bd ks m).length = m := by unfold rowsD; rw [List.length_map, List.length_range]
theorem rowsD_get (bd : List Int) (ks : List Tk) {m a : Nat} (h : a < m) : (rowsD bd ks m)[a]? = some (.lst (dI (bd.map (rowE bd ks a)))) := by unfold rowsD; rw [List.getElem?_map, List.getElem?_range h]; rfl
def rrB : Ss := .cons (.set 7 0 (.call 139 (.cons (.v 0) (.cons (.v 4) (.cons (.v 6) .nil))))) (.cons (.iff (.bin .gt (.v 6) (.k (.int 0))) (.cons (.set 7 0 (.call 140 (.cons (.v 7) (.cons (.call 141 (.cons (.idx (.pk 5) (.neg (.k (.int 1)))) (.cons (.idx (.pk 5) (.neg (.k (.int 1)))) (.cons (.v 3) .nil)))) .nil)))) .nil) .nil) (.cons (.app 5 (.v 7)) .nil))
theorem reach_loop {T : Tbl} (hO : T.defs 139 = some d_own_row) (hG : T.defs 140 = some d_greater_row) (hW : T.defs 141 = some d_row_of_two) {sz : Int} {bd : List Int} {ks : List Tk} (F : Fit sz bd ks) (v1 v2 : Slot) (S : Store) (n : Nat) : ∀ (m k : Nat) (z6 z7 : Slot), k + m ≤ 5000 →
    ∃ w6 w7, forLoop (forStep (T.G (n + 1)) (.v 6) rrB) (rangeL k m) [.val (.lst (dI bd)), v1, v2, .val (.dct (bd.map .i) (rangeL 0 bd.length)), .val (.lst (ks.map (farD bd))), .own (.lst (rowsD bd ks k)), z6, z7] S
      = .nx [.val (.lst (dI bd)), v1, v2, .val (.dct (bd.map .i) (rangeL 0 bd.length)), .val (.lst (ks.map (farD bd))), .own (.lst (rowsD bd ks (k + m))), w6, w7] S
  | 0, k, z6, z7, _ => ⟨z6, z7, rfl⟩
  | m + 1, k, z6, z7, hk => by
    obtain ⟨w6, w7, ih⟩ := reach_loop hO hG hW F v1 v2 S n m (k + 1) (.val (.int k)) (.val (.lst (dI (bd.map (rowE bd ks k))))) (by omega)
    refine ⟨w6, w7, ?_⟩
    show (forStep _ _ _ (.int k) _ S).then (forLoop _ (rangeL ((k : Int) + 1) m)) = _
    rw [show k + (m + 1) = k + 1 + m by omega, ← ih, show ((k + 1 : Nat) : Int) = (k : Int) + 1 by omega]
    have e1 := own_row_spec hO F (k : Int) S n
    have ll : (rowsD bd ks k).length < line := by rw [rowsD_len]; unfold line; omega
    rw [rowsD_s]
    congr 1
    have bl2 : bd.length ≤ 2000 := by have := F.bl; omega
    match k, e1, ll with
    | 0, e1, ll =>
      have r0 : bd.map (rowE bd ks 0) = bd.map (ownE bd ks ((0 : Nat) : Int)) := rfl
      rw [r0]
      have z0 : ((0 : Nat) : Int) = 0 := rfl
      rw [z0] at e1 ⊢
      simp (decide := true) only [forStep, rrB, start, xs_nil, xs_cons, evalEs, evalAnd, evalOr, evalIt, e_v, e_pk, e_k, e_g, e_bin, e_chn, e_isn, e_ntn, e_neg, e_not, e_and, e_or, e_ite, e_tup, e_lst, e_dct0, e_idx, e_slL, e_slU, e_slB, e_rev, e_call, e_blt, e_met, e_cell, x_set, x_fz, x_unp, x_aug, x_ex, x_app, x_popA, x_ins, x_setx, x_sets, x_augs, x_iff, x_ret, x_mov, x_pass, x_for, x_whl, e_lc, idxD, idxO, atI, ixN, bop, drop, done, mkSlot, E.isPk, Es.anyPk, guard, G_call, G_fr, G_con, E.alloc, bltD, lenD, augD, intOf, sliceD, rcv_join, rcv_index, rcv_find, eqv_ii, eqv_bb, eqv_ss, eqv_nn, D.scal, List.all_cons, List.all_nil, reduceCtorEq, Int.reduceEq, asg, Tg.vars, wipe, noOwn, isTy, isN, Es.len, R.nox_ok, R.of_none, R.bind_ok, R.of_some, R.toS_ok, RS.then_nx, RS.then_rt, List.map_cons, List.map_nil, List.length_cons, List.length_nil, List.length_map, List.getElem?_map, List.cons_append, List.nil_append, List.replicate, List.getElem?_cons_zero, List.getElem?_cons_succ, List.set_cons_zero, List.set_cons_succ, List.set_set, Option.bind_some, Option.map_some, reduceIte, decide_true, decide_false, Bool.and_true, Bool.true_and, Bool.or_true, Bool.true_or, Bool.or_false, Bool.false_or, Bool.not_true, Bool.not_false, Bool.and_false, Bool.false_and, Bool.false_eq_true, Nat.reduceAdd, Nat.reduceSub, Nat.reduceLT, Int.reduceLT, Int.reduceLE, Int.reduceToNat, decide_eq_true_eq, Int.cast_ofNat_Int, e1, ll]
    | k + 1, e1, ll =>
      have e2 := row_of_two_spec hW bl2 (f := rowE bd ks k) (g := rowE bd ks k) (fun e he => rowE_mem ks k he) S n
      have e3 := greater_row_spec hG bl2 (ownE bd ks ((k + 1 : Nat) : Int)) (fun e => rowE bd ks k (rowE bd ks k e)) S n
      have r0 : (fun e => max (ownE bd ks ((k + 1 : Nat) : Int) e) (rowE bd ks k (rowE bd ks k e))) = rowE bd ks (k + 1) := rfl
      rw [r0] at e3
      obtain ⟨K, hK⟩ : ∃ K : Int, ((k + 1 : Nat) : Int) = K := ⟨_, rfl⟩
      have k0 : 0 < K := by omega
      rw [hK] at e1 e3 ⊢
      have rl := rowsD_len bd ks (k + 1)
      have h1 : -((rowsD bd ks (k + 1)).length : Int) ≤ -1 := by omega
      have hg : (rowsD bd ks (k + 1))[(-1 + ((rowsD bd ks (k + 1)).length : Int)).toNat]? = some (.lst (dI (bd.map (rowE bd ks k)))) := by
        rw [show (-1 + ((rowsD bd ks (k + 1)).length : Int)).toNat = k by omega]; exact rowsD_get bd ks (by omega)
      generalize rowsD bd ks (k + 1) = RD at *
      simp (decide := true) only [forStep, rrB, start, xs_nil, xs_cons, evalEs, evalAnd, evalOr, evalIt, e_v, e_pk, e_k, e_g, e_bin, e_chn, e_isn, e_ntn, e_neg, e_not, e_and, e_or, e_ite, e_tup, e_lst, e_dct0, e_idx, e_slL, e_slU, e_slB, e_rev, e_call, e_blt, e_met, e_cell, x_set, x_fz, x_unp, x_aug, x_ex, x_app, x_popA, x_ins, x_setx, x_sets, x_augs, x_iff, x_ret, x_mov, x_pass, x_for, x_whl, e_lc, idxD, idxO, atI, ixN, bop, drop, done, mkSlot, E.isPk, Es.anyPk, guard, G_call, G_fr, G_con, E.alloc, bltD, lenD, augD, intOf, sliceD, rcv_join, rcv_index, rcv_find, eqv_ii, eqv_bb, eqv_ss, eqv_nn, D.scal, List.all_cons, List.all_nil, reduceCtorEq, Int.reduceEq, asg, Tg.vars, wipe, noOwn, isTy, isN, Es.len, R.nox_ok, R.of_none, R.bind_ok, R.of_some, R.toS_ok, RS.then_nx, RS.then_rt, List.map_cons, List.map_nil, List.length_cons, List.length_nil, List.length_map, List.getElem?_map, List.cons_append, List.nil_append, List.replicate, List.getElem?_cons_zero, List.getElem?_cons_succ, List.set_cons_zero, List.set_cons_succ, List.set_set, Option.bind_some, Option.map_some, reduceIte, decide_true, decide_false, Bool.and_true, Bool.true_and, Bool.or_true, Bool.true_or, Bool.or_false, Bool.false_or, Bool.not_true, Bool.not_false, Bool.and_false, Bool.false_and, Bool.false_eq_true, Nat.reduceAdd, Nat.reduceSub, Nat.reduceLT, Int.reduceLT, Int.reduceLE, Int.reduceToNat, decide_eq_true_eq, Int.cast_ofNat_Int, e1, k0, h1, hg, e2, e3, ll, Int.reduceNeg]
theorem reach_rows_spec {T : Tbl} (hf : T.defs 111 = some d_first_spoilt) (hF : T.defs 125 = some d_far_in) (hP : T.defs 137 = some d_places_in) (hR : T.defs 138 = some d_far_rows) (hO : T.defs 139 = some d_own_row) (hG : T.defs 140 = some d_greater_row) (hW : T.defs 141 = some d_row_of_two) (hRR : T.defs 142 = some d_reach_rows) (c1 : T.con 1 = some (.str [120])) {sz : Int} {bd : List Int} {ks : List Tk} (F : Fit sz bd ks) {m : Int} (hm0 : 0 ≤ m) (hm : m ≤ 5000) (S : Store) (n : Nat) :
    call T (n + 4) 142 [.lst (dI bd), .lst (ks.map tkD), .int m] S = .ok (.lst (rowsD bd ks m.toNat)) S := by
  have e1 := places_spec hP F.bord (by have := F.bl; omega) S (n + 2)
  have e2 := far_rows_spec hf hF hR c1 F S n
  obtain ⟨w6, w7, e⟩ := reach_loop hO hG hW F (.val (.lst (ks.map tkD))) (.val (.int m)) S (n + 2) m.toNat 0 .no .no (by omega)
  rw [Nat.zero_add] at e
  unfold rrB at e
  have e : forLoop (forStep (T.G (n + 3)) (.v 6) _) (rangeL 0 m.toNat) [.val (.lst (dI bd)), .val (.lst (ks.map tkD)), .val (.int m), .val (.dct (bd.map .i) (rangeL 0 bd.length)), .val (.lst (ks.map (farD bd))), .own (.lst []), .no, .no] S = _ := e
  rw [call_at hRR rfl]
  have a1 : i62 m = true := i62_of (by omega) (by omega)
  simp (decide := true) only [start, xs_nil, xs_cons, evalEs, evalAnd, evalOr, evalIt, e_v, e_pk, e_k, e_g, e_bin, e_chn, e_isn, e_ntn, e_neg, e_not, e_and, e_or, e_ite, e_tup, e_lst, e_dct0, e_idx, e_slL, e_slU, e_slB, e_rev, e_call, e_blt, e_met, e_cell, x_set, x_fz, x_unp, x_aug, x_ex, x_app, x_popA, x_ins, x_setx, x_sets, x_augs, x_iff, x_ret, x_mov, x_pass, x_for, x_whl, e_lc, idxD, idxO, atI, ixN, bop, drop, done, mkSlot, E.isPk, Es.anyPk, guard, G_call, G_fr, G_con, E.alloc, bltD, lenD, augD, intOf, sliceD, rcv_join, rcv_index, rcv_find, eqv_ii, eqv_bb, eqv_ss, eqv_nn, D.scal, List.all_cons, List.all_nil, reduceCtorEq, Int.reduceEq, asg, Tg.vars, wipe, noOwn, isTy, isN, Es.len, R.nox_ok, R.of_none, R.bind_ok, R.of_some, R.toS_ok, RS.then_nx, RS.then_rt, List.map_cons, List.map_nil, List.length_cons, List.length_nil, List.length_map, List.getElem?_map, List.cons_append, List.nil_append, List.replicate, List.getElem?_cons_zero, List.getElem?_cons_succ, List.set_cons_zero, List.set_cons_succ, List.set_set, Option.bind_some, Option.map_some, reduceIte, decide_true, decide_false, Bool.and_true, Bool.true_and, Bool.or_true, Bool.true_or, Bool.or_false, Bool.false_or, Bool.not_true, Bool.not_false, Bool.and_false, Bool.false_and, Bool.false_eq_true, Nat.reduceAdd, Nat.reduceSub, Nat.reduceLT, Int.reduceLT, Int.reduceLE, Int.reduceToNat, decide_eq_true_eq, Int.cast_ofNat_Int, d_reach_rows, e1, e2, a1, D.isNode, e]
end IL
namespace IL
theorem fit_of {sz : Int} {cs : List Int} {ks : List Tk} (sh : Shelf sz cs ks) (h1 : sz ≤ 900) : Fit sz ([0] ++ cs ++ [sz]) ks := by
  have cl := sh.cuts.len
  refine ⟨bord_of sh.pos sh.cuts, by omega, by simp only [List.length_append, List.length_cons, List.length_nil]; omega, by have := sh.len; omega, fun k hk => ⟨(sh.ok k hk).1, (sh.ok k hk).2.1⟩⟩
theorem fitL_of {sz : Int} {cs : List Int} {ks : List Tk} (sh : Shelf sz cs ks) (h1 : sz ≤ 900) : FitL sz ([0] ++ cs ++ [sz]) ks := by
  have cl := sh.cuts.len
  refine ⟨bord_of sh.pos sh.cuts, by omega, by simp only [List.length_append, List.length_cons, List.length_nil]; omega, by have := sh.len; omega, fun k hk => ⟨(sh.ok k hk).1, (sh.ok k hk).2.1⟩⟩
end IL
namespace IL
theorem hc_loop {T : Tbl} (hf : T.defs 111 = some d_first_spoilt) (c1 : T.con 1 = some (.str [120])) (n : Nat) (v0 : Slot) {x : Nat} (y : Nat) (S : Store) : ∀ (ks : List Tk) (z3 z4 : Slot), (∀ k ∈ ks, k.1.length ≤ 1000 ∧ x ≤ k.1.length) →
    ∃ w3 w4, forLoop (forStep (T.G (n + 1)) (.t2 (.v 3) (.v 4)) (.cons (.iff (.bin .ge (.call 111 (.cons (.v 3) (.cons (.v 1) .nil))) (.v 2)) (.cons (.ret (.k (.bl true))) .nil) .nil) .nil)) (ks.map tkD) [v0, .val (.int x), .val (.int y), z3, z4] S = if cleanIn ks x y then .rt (.bl true) false S else .nx [v0, .val (.int x), .val (.int y), w3, w4] S
  | [], z3, z4, _ => ⟨z3, z4, rfl⟩
  | k :: ks, z3, z4, h => by
    obtain ⟨w3, w4, ih⟩ := hc_loop hf c1 n v0 y S ks (.val (.str k.1)) (.val (.int k.2)) fun q hq => h q (List.mem_cons_of_mem _ hq)
    obtain ⟨h1, h2⟩ := h k List.mem_cons_self
    have e1 := first_spec hf c1 h1 h2 S n
    refine ⟨w3, w4, ?_⟩
    show (forStep _ _ _ (tkD k) _ S).then (forLoop _ (ks.map tkD)) = _
    by_cases q : y ≤ nxt k.1 x
    · have q' : (y : Int) ≤ (nxt k.1 x : Int) := by omega
      have c : cleanIn (k :: ks) x y = true := by unfold cleanIn; rw [List.any_cons, decide_eq_true q]; rfl
      rw [c]
      simp (decide := true) only [forStep, tkD, start, xs_nil, xs_cons, evalEs, evalAnd, evalOr, evalIt, e_v, e_pk, e_k, e_g, e_bin, e_chn, e_isn, e_ntn, e_neg, e_not, e_and, e_or, e_ite, e_tup, e_lst, e_dct0, e_idx, e_slL, e_slU, e_slB, e_rev, e_call, e_blt, e_met, e_cell, x_set, x_fz, x_unp, x_aug, x_ex, x_app, x_popA, x_ins, x_setx, x_sets, x_augs, x_iff, x_ret, x_mov, x_pass, x_for, x_whl, e_lc, idxD, idxO, atI, ixN, bop, drop, done, mkSlot, E.isPk, Es.anyPk, guard, G_call, G_fr, G_con, E.alloc, bltD, lenD, augD, intOf, sliceD, rcv_join, rcv_index, rcv_find, eqv_ii, eqv_bb, eqv_ss, eqv_nn, D.scal, List.all_cons, List.all_nil, reduceCtorEq, Int.reduceEq, asg, Tg.vars, wipe, noOwn, isTy, isN, Es.len, R.nox_ok, R.of_none, R.bind_ok, R.of_some, R.toS_ok, RS.then_nx, RS.then_rt, List.map_cons, List.map_nil, List.length_cons, List.length_nil, List.length_map, List.getElem?_map, List.cons_append, List.nil_append, List.replicate, List.getElem?_cons_zero, List.getElem?_cons_succ, List.set_cons_zero, List.set_cons_succ, List.set_set, Option.bind_some, Option.map_some, reduceIte, decide_true, decide_false, Bool.and_true, Bool.true_and, Bool.or_true, Bool.true_or, Bool.or_false, Bool.false_or, Bool.not_true, Bool.not_false, Bool.and_false, Bool.false_and, Bool.false_eq_true, Nat.reduceAdd, Nat.reduceSub, Nat.reduceLT, Int.reduceLT, Int.reduceLE, Int.reduceToNat, decide_eq_true_eq, Int.cast_ofNat_Int, e1, q']
    · have q' : ¬ (y : Int) ≤ (nxt k.1 x : Int) := by omega
      have c : cleanIn (k :: ks) x y = cleanIn ks x y := by unfold cleanIn; rw [List.any_cons, decide_eq_false q]; rfl
      rw [c, ← ih]
      congr 1
      simp (decide := true) only [forStep, tkD, start, xs_nil, xs_cons, evalEs, evalAnd, evalOr, evalIt, e_v, e_pk, e_k, e_g, e_bin, e_chn, e_isn, e_ntn, e_neg, e_not, e_and, e_or, e_ite, e_tup, e_lst, e_dct0, e_idx, e_slL, e_slU, e_slB, e_rev, e_call, e_blt, e_met, e_cell, x_set, x_fz, x_unp, x_aug, x_ex, x_app, x_popA, x_ins, x_setx, x_sets, x_augs, x_iff, x_ret, x_mov, x_pass, x_for, x_whl, e_lc, idxD, idxO, atI, ixN, bop, drop, done, mkSlot, E.isPk, Es.anyPk, guard, G_call, G_fr, G_con, E.alloc, bltD, lenD, augD, intOf, sliceD, rcv_join, rcv_index, rcv_find, eqv_ii, eqv_bb, eqv_ss, eqv_nn, D.scal, List.all_cons, List.all_nil, reduceCtorEq, Int.reduceEq, asg, Tg.vars, wipe, noOwn, isTy, isN, Es.len, R.nox_ok, R.of_none, R.bind_ok, R.of_some, R.toS_ok, RS.then_nx, RS.then_rt, List.map_cons, List.map_nil, List.length_cons, List.length_nil, List.length_map, List.getElem?_map, List.cons_append, List.nil_append, List.replicate, List.getElem?_cons_zero, List.getElem?_cons_succ, List.set_cons_zero, List.set_cons_succ, List.set_set, Option.bind_some, Option.map_some, reduceIte, decide_true, decide_false, Bool.and_true, Bool.true_and, Bool.or_true, Bool.true_or, Bool.or_false, Bool.false_or, Bool.not_true, Bool.not_false, Bool.and_false, Bool.false_and, Bool.false_eq_true, Nat.reduceAdd, Nat.reduceSub, Nat.reduceLT, Int.reduceLT, Int.reduceLE, Int.reduceToNat, decide_eq_true_eq, Int.cast_ofNat_Int, e1, q']
theorem has_clean_spec {T : Tbl} (hf : T.defs 111 = some d_first_spoilt) (hH : T.defs 132 = some d_has_clean) (c1 : T.con 1 = some (.str [120])) (n : Nat) {ks : List Tk} {x : Nat} (y : Nat) (h : ∀ k ∈ ks, k.1.length ≤ 1000 ∧ x ≤ k.1.length) (S : Store) :
    call T (n + 2) 132 [.lst (ks.map tkD), .int x, .int y] S = .ok (.bl (cleanIn ks x y)) S := by
  obtain ⟨w3, w4, e⟩ := hc_loop hf c1 n (.val (.lst (ks.map tkD))) y S ks .no .no h
  rw [call_at hH rfl]
  cases c : cleanIn ks x y with
  | true =>
    rw [c, if_pos rfl] at e
    simp (decide := true) only [start, xs_nil, xs_cons, evalEs, evalAnd, evalOr, evalIt, e_v, e_pk, e_k, e_g, e_bin, e_chn, e_isn, e_ntn, e_neg, e_not, e_and, e_or, e_ite, e_tup, e_lst, e_dct0, e_idx, e_slL, e_slU, e_slB, e_rev, e_call, e_blt, e_met, e_cell, x_set, x_fz, x_unp, x_aug, x_ex, x_app, x_popA, x_ins, x_setx, x_sets, x_augs, x_iff, x_ret, x_mov, x_pass, x_for, x_whl, e_lc, idxD, idxO, atI, ixN, bop, drop, done, mkSlot, E.isPk, Es.anyPk, guard, G_call, G_fr, G_con, E.alloc, bltD, lenD, augD, intOf, sliceD, rcv_join, rcv_index, rcv_find, eqv_ii, eqv_bb, eqv_ss, eqv_nn, D.scal, List.all_cons, List.all_nil, reduceCtorEq, Int.reduceEq, asg, Tg.vars, wipe, noOwn, isTy, isN, Es.len, R.nox_ok, R.of_none, R.bind_ok, R.of_some, R.toS_ok, RS.then_nx, RS.then_rt, List.map_cons, List.map_nil, List.length_cons, List.length_nil, List.length_map, List.getElem?_map, List.cons_append, List.nil_append, List.replicate, List.getElem?_cons_zero, List.getElem?_cons_succ, List.set_cons_zero, List.set_cons_succ, List.set_set, Option.bind_some, Option.map_some, reduceIte, decide_true, decide_false, Bool.and_true, Bool.true_and, Bool.or_true, Bool.true_or, Bool.or_false, Bool.false_or, Bool.not_true, Bool.not_false, Bool.and_false, Bool.false_and, Bool.false_eq_true, Nat.reduceAdd, Nat.reduceSub, Nat.reduceLT, Int.reduceLT, Int.reduceLE, Int.reduceToNat, decide_eq_true_eq, Int.cast_ofNat_Int, d_has_clean, seqIt, e]
  | false =>
    rw [c, if_neg Bool.false_ne_true] at e
    simp (decide := true) only [start, xs_nil, xs_cons, evalEs, evalAnd, evalOr, evalIt, e_v, e_pk, e_k, e_g, e_bin, e_chn, e_isn, e_ntn, e_neg, e_not, e_and, e_or, e_ite, e_tup, e_lst, e_dct0, e_idx, e_slL, e_slU, e_slB, e_rev, e_call, e_blt, e_met, e_cell, x_set, x_fz, x_unp, x_aug, x_ex, x_app, x_popA, x_ins, x_setx, x_sets, x_augs, x_iff, x_ret, x_mov, x_pass, x_for, x_whl, e_lc, idxD, idxO, atI, ixN, bop, drop, done, mkSlot, E.isPk, Es.anyPk, guard, G_call, G_fr, G_con, E.alloc, bltD, lenD, augD, intOf, sliceD, rcv_join, rcv_index, rcv_find, eqv_ii, eqv_bb, eqv_ss, eqv_nn, D.scal, List.all_cons, List.all_nil, reduceCtorEq, Int.reduceEq, asg, Tg.vars, wipe, noOwn, isTy, isN, Es.len, R.nox_ok, R.of_none, R.bind_ok, R.of_some, R.toS_ok, RS.then_nx, RS.then_rt, List.map_cons, List.map_nil, List.length_cons, List.length_nil, List.length_map, List.getElem?_map, List.cons_append, List.nil_append, List.replicate, List.getElem?_cons_zero, List.getElem?_cons_succ, List.set_cons_zero, List.set_cons_succ, List.set_set, Option.bind_some, Option.map_some, reduceIte, decide_true, decide_false, Bool.and_true, Bool.true_and, Bool.or_true, Bool.true_or, Bool.or_false, Bool.false_or, Bool.not_true, Bool.not_false, Bool.and_false, Bool.false_and, Bool.false_eq_true, Nat.reduceAdd, Nat.reduceSub, Nat.reduceLT, Int.reduceLT, Int.reduceLE, Int.reduceToNat, decide_eq_true_eq, Int.cast_ofNat_Int, d_has_clean, seqIt, e]
def barB : Ss := .cons (.iff (.not (.call 132 (.cons (.v 2) (.cons (.idx (.v 3) (.v 4)) (.cons (.idx (.v 3) (.bin .add (.v 4) (.k (.int 1)))) .nil))))) (.cons (.ret (.tup (.cons (.idx (.v 3) (.v 4)) (.cons (.idx (.v 3) (.bin .add (.v 4) (.k (.int 1)))) .nil)))) .nil) .nil) .nil
theorem bar_loop {T : Tbl} (hf : T.defs 111 = some d_first_spoilt) (hH : T.defs 132 = some d_has_clean) (c1 : T.con 1 = some (.str [120])) (n : Nat) {sz : Int} {bd : List Int} (B : Bord sz bd) {ks : List Tk} (h : ∀ k ∈ ks, k.1.length ≤ 1000 ∧ (k.1.length : Int) = sz) (v0 v1 : Slot) (S : Store) : ∀ (m k : Nat) (z : Slot), k + m + 1 ≤ bd.length →
    ∃ w, forLoop (forStep (T.G (n + 2)) (.v 4) barB) (rangeL k m) [v0, v1, .val (.lst (ks.map tkD)), .val (.lst (dI bd)), z] S = match barF bd ks k m with
      | none => .nx [v0, v1, .val (.lst (ks.map tkD)), .val (.lst (dI bd)), w] S
      | some p => .rt (.tup [.int p.1, .int p.2]) false S
  | 0, k, z, _ => ⟨z, rfl⟩
  | m + 1, k, z, hk => by
    obtain ⟨w, ih⟩ := bar_loop hf hH c1 n B h v0 v1 S m (k + 1) (.val (.int k)) (by omega)
    refine ⟨w, ?_⟩
    show (forStep _ _ _ (.int k) _ S).then (forLoop _ (rangeL ((k : Int) + 1) m)) = _
    obtain ⟨x, y, gx, gy, x0, xy, ys⟩ := B.get (k := k) (by omega)
    have i0 : (0 : Int) ≤ k := by omega
    have i1 : (k : Int) < bd.length := by omega
    have j0 : (0 : Int) ≤ (k : Int) + 1 := by omega
    have j1 : (k : Int) + 1 < bd.length := by omega
    have gx' : bd[(k : Int).toNat]? = some x := by rw [Int.toNat_natCast]; exact gx
    have gy' : bd[((k : Int) + 1).toNat]? = some y := by rw [show ((k : Int) + 1).toNat = k + 1 by omega]; exact gy
    have e1 := has_clean_spec hf hH c1 n (ks := ks) (x := x.toNat) y.toNat (fun q hq => ⟨(h q hq).1, by have := (h q hq).2; omega⟩) S
    rw [show ((x.toNat : Nat) : Int) = x by omega, show ((y.toNat : Nat) : Int) = y by omega] at e1
    have u : barF bd ks k (m + 1) = if cleanIn ks x.toNat y.toNat then barF bd ks (k + 1) m else some (x, y) := by
      show (if cleanIn ks (bd.getD k 0).toNat (bd.getD (k + 1) 0).toNat then barF bd ks (k + 1) m else some (bd.getD k 0, bd.getD (k + 1) 0)) = _
      rw [getD_of gx, getD_of gy]
    rw [u]
    cases c : cleanIn ks x.toNat y.toNat with
    | true =>
      rw [c] at e1
      rw [if_pos rfl, ← ih]
      rw [show ((k + 1 : Nat) : Int) = (k : Int) + 1 by omega]
      congr 1
      simp (decide := true) only [forStep, barB, start, xs_nil, xs_cons, evalEs, evalAnd, evalOr, evalIt, e_v, e_pk, e_k, e_g, e_bin, e_chn, e_isn, e_ntn, e_neg, e_not, e_and, e_or, e_ite, e_tup, e_lst, e_dct0, e_idx, e_slL, e_slU, e_slB, e_rev, e_call, e_blt, e_met, e_cell, x_set, x_fz, x_unp, x_aug, x_ex, x_app, x_popA, x_ins, x_setx, x_sets, x_augs, x_iff, x_ret, x_mov, x_pass, x_for, x_whl, e_lc, idxD, idxO, atI, ixN, bop, drop, done, mkSlot, E.isPk, Es.anyPk, guard, G_call, G_fr, G_con, E.alloc, bltD, lenD, augD, intOf, sliceD, rcv_join, rcv_index, rcv_find, eqv_ii, eqv_bb, eqv_ss, eqv_nn, D.scal, List.all_cons, List.all_nil, reduceCtorEq, Int.reduceEq, asg, Tg.vars, wipe, noOwn, isTy, isN, Es.len, R.nox_ok, R.of_none, R.bind_ok, R.of_some, R.toS_ok, RS.then_nx, RS.then_rt, List.map_cons, List.map_nil, List.length_cons, List.length_nil, List.length_map, List.getElem?_map, List.cons_append, List.nil_append, List.replicate, List.getElem?_cons_zero, List.getElem?_cons_succ, List.set_cons_zero, List.set_cons_succ, List.set_set, Option.bind_some, Option.map_some, reduceIte, decide_true, decide_false, Bool.and_true, Bool.true_and, Bool.or_true, Bool.true_or, Bool.or_false, Bool.false_or, Bool.not_true, Bool.not_false, Bool.and_false, Bool.false_and, Bool.false_eq_true, Nat.reduceAdd, Nat.reduceSub, Nat.reduceLT, Int.reduceLT, Int.reduceLE, Int.reduceToNat, decide_eq_true_eq, Int.cast_ofNat_Int, i0, i1, j0, j1, gx', gy', e1]
    | false =>
      rw [c] at e1
      rw [if_neg Bool.false_ne_true]
      simp (decide := true) only [forStep, barB, start, xs_nil, xs_cons, evalEs, evalAnd, evalOr, evalIt, e_v, e_pk, e_k, e_g, e_bin, e_chn, e_isn, e_ntn, e_neg, e_not, e_and, e_or, e_ite, e_tup, e_lst, e_dct0, e_idx, e_slL, e_slU, e_slB, e_rev, e_call, e_blt, e_met, e_cell, x_set, x_fz, x_unp, x_aug, x_ex, x_app, x_popA, x_ins, x_setx, x_sets, x_augs, x_iff, x_ret, x_mov, x_pass, x_for, x_whl, e_lc, idxD, idxO, atI, ixN, bop, drop, done, mkSlot, E.isPk, Es.anyPk, guard, G_call, G_fr, G_con, E.alloc, bltD, lenD, augD, intOf, sliceD, rcv_join, rcv_index, rcv_find, eqv_ii, eqv_bb, eqv_ss, eqv_nn, D.scal, List.all_cons, List.all_nil, reduceCtorEq, Int.reduceEq, asg, Tg.vars, wipe, noOwn, isTy, isN, Es.len, R.nox_ok, R.of_none, R.bind_ok, R.of_some, R.toS_ok, RS.then_nx, RS.then_rt, List.map_cons, List.map_nil, List.length_cons, List.length_nil, List.length_map, List.getElem?_map, List.cons_append, List.nil_append, List.replicate, List.getElem?_cons_zero, List.getElem?_cons_succ, List.set_cons_zero, List.set_cons_succ, List.set_set, Option.bind_some, Option.map_some, reduceIte, decide_true, decide_false, Bool.and_true, Bool.true_and, Bool.or_true, Bool.true_or, Bool.or_false, Bool.false_or, Bool.not_true, Bool.not_false, Bool.and_false, Bool.false_and, Bool.false_eq_true, Nat.reduceAdd, Nat.reduceSub, Nat.reduceLT, Int.reduceLT, Int.reduceLE, Int.reduceToNat, decide_eq_true_eq, Int.cast_ofNat_Int, i0, i1, j0, j1, gx', gy', e1]
theorem bar_of_spec {T : Tbl} (hf : T.defs 111 = some d_first_spoilt) (hE : T.defs 123 = some d_ends) (hH : T.defs 132 = some d_has_clean) (hB : T.defs 133 = some d_bar_of) (c1 : T.con 1 = some (.str [120])) (n : Nat) {sz : Int} {cs : List Int} {ks : List Tk} (sh : Shelf sz cs ks) (h1 : sz ≤ 900) (S : Store) :
    call T (n + 3) 133 [.int sz, .lst (dI cs), .lst (ks.map tkD)] S = .ok (barD (barF ([0] ++ cs ++ [sz]) ks 0 (cs.length + 1))) S := by
  have cl := sh.cuts.len
  have e1 := ends_spec hE (cs := cs) (by omega) sz S (n + 1)
  have B := bord_of sh.pos sh.cuts
  have bl : ([0] ++ cs ++ [sz]).length = cs.length + 2 := by simp
  obtain ⟨w, e⟩ := bar_loop hf hH c1 n B (ks := ks) (fun k hk => ⟨by have := (sh.ok k hk).2.1; omega, (sh.ok k hk).2.1⟩) (.val (.int sz)) (.val (.lst (dI cs))) S (cs.length + 1) 0 .no (by omega)
  generalize [0] ++ cs ++ [sz] = bd at e1 e bl
  obtain ⟨L, hL⟩ : ∃ L : Int, (bd.length : Int) = L := ⟨_, rfl⟩
  have hn : (L - 1).toNat = cs.length + 1 := by omega
  have a1 : i62 (L - 1) = true := i62_of (by omega) (by omega)
  unfold barB at e
  have e : forLoop (forStep (T.G (n + 2)) (.v 4) _) (rangeL 0 (cs.length + 1)) _ S = _ := e
  rw [call_at hB rfl]
  cases c : barF bd ks 0 (cs.length + 1) with
  | none =>
    rw [c] at e
    dsimp only at e
    simp (decide := true) only [start, xs_nil, xs_cons, evalEs, evalAnd, evalOr, evalIt, e_v, e_pk, e_k, e_g, e_bin, e_chn, e_isn, e_ntn, e_neg, e_not, e_and, e_or, e_ite, e_tup, e_lst, e_dct0, e_idx, e_slL, e_slU, e_slB, e_rev, e_call, e_blt, e_met, e_cell, x_set, x_fz, x_unp, x_aug, x_ex, x_app, x_popA, x_ins, x_setx, x_sets, x_augs, x_iff, x_ret, x_mov, x_pass, x_for, x_whl, e_lc, idxD, idxO, atI, ixN, bop, drop, done, mkSlot, E.isPk, Es.anyPk, guard, G_call, G_fr, G_con, E.alloc, bltD, lenD, augD, intOf, sliceD, rcv_join, rcv_index, rcv_find, eqv_ii, eqv_bb, eqv_ss, eqv_nn, D.scal, List.all_cons, List.all_nil, reduceCtorEq, Int.reduceEq, asg, Tg.vars, wipe, noOwn, isTy, isN, Es.len, R.nox_ok, R.of_none, R.bind_ok, R.of_some, R.toS_ok, RS.then_nx, RS.then_rt, List.map_cons, List.map_nil, List.length_cons, List.length_nil, List.length_map, List.getElem?_map, List.cons_append, List.nil_append, List.replicate, List.getElem?_cons_zero, List.getElem?_cons_succ, List.set_cons_zero, List.set_cons_succ, List.set_set, Option.bind_some, Option.map_some, reduceIte, decide_true, decide_false, Bool.and_true, Bool.true_and, Bool.or_true, Bool.true_or, Bool.or_false, Bool.false_or, Bool.not_true, Bool.not_false, Bool.and_false, Bool.false_and, Bool.false_eq_true, Nat.reduceAdd, Nat.reduceSub, Nat.reduceLT, Int.reduceLT, Int.reduceLE, Int.reduceToNat, decide_eq_true_eq, Int.cast_ofNat_Int, d_bar_of, e1, D.isNode, hL, a1, hn, e, barD]
  | some p =>
    rw [c] at e
    dsimp only at e
    simp (decide := true) only [start, xs_nil, xs_cons, evalEs, evalAnd, evalOr, evalIt, e_v, e_pk, e_k, e_g, e_bin, e_chn, e_isn, e_ntn, e_neg, e_not, e_and, e_or, e_ite, e_tup, e_lst, e_dct0, e_idx, e_slL, e_slU, e_slB, e_rev, e_call, e_blt, e_met, e_cell, x_set, x_fz, x_unp, x_aug, x_ex, x_app, x_popA, x_ins, x_setx, x_sets, x_augs, x_iff, x_ret, x_mov, x_pass, x_for, x_whl, e_lc, idxD, idxO, atI, ixN, bop, drop, done, mkSlot, E.isPk, Es.anyPk, guard, G_call, G_fr, G_con, E.alloc, bltD, lenD, augD, intOf, sliceD, rcv_join, rcv_index, rcv_find, eqv_ii, eqv_bb, eqv_ss, eqv_nn, D.scal, List.all_cons, List.all_nil, reduceCtorEq, Int.reduceEq, asg, Tg.vars, wipe, noOwn, isTy, isN, Es.len, R.nox_ok, R.of_none, R.bind_ok, R.of_some, R.toS_ok, RS.then_nx, RS.then_rt, List.map_cons, List.map_nil, List.length_cons, List.length_nil, List.length_map, List.getElem?_map, List.cons_append, List.nil_append, List.replicate, List.getElem?_cons_zero, List.getElem?_cons_succ, List.set_cons_zero, List.set_cons_succ, List.set_set, Option.bind_some, Option.map_some, reduceIte, decide_true, decide_false, Bool.and_true, Bool.true_and, Bool.or_true, Bool.true_or, Bool.or_false, Bool.false_or, Bool.not_true, Bool.not_false, Bool.and_false, Bool.false_and, Bool.false_eq_true, Nat.reduceAdd, Nat.reduceSub, Nat.reduceLT, Int.reduceLT, Int.reduceLE, Int.reduceToNat, decide_eq_true_eq, Int.cast_ofNat_Int, d_bar_of, e1, D.isNode, hL, a1, hn, e, barD]
end IL
namespace IL
theorem dI_map' (ks : List Tk) : (ks.map fun k => D.int k.2) = dI (ks.map (·.2)) := by show _ = (ks.map _).map D.int; rw [List.map_map]; rfl
theorem while_least {G : G} (v1 v2 v3 v4 v7 : Slot) {sz : Int} {bd : List Int} (B : Bd sz bd) {ks : List Tk} {m A : Nat} (hA : A < m) (h1 : rowE bd ks A 0 = sz) (h2 : ∀ a, a < A → rowE bd ks a 0 < sz) (S : Store) : ∀ (f a : Nat), A + 1 ≤ f + a → a ≤ A →
    whlLoop (whC G (.bin .lt (.idx (.idx (.v 5) (.v 6)) (.k (.int 0))) (.v 0))) (execs G (.cons (.aug 6 .add (.k (.int 1))) .nil)) f [.val (.int sz), v1, v2, v3, v4, .val (.lst (rowsD bd ks m)), .val (.int a), v7] S = .nx [.val (.int sz), v1, v2, v3, v4, .val (.lst (rowsD bd ks m)), .val (.int A), v7] S
  | 0, a, h, h3 => by omega
  | f + 1, a, h, h3 => by
    have two := B.two
    have fst := B.fst
    have b0 : (0 : Int) < bd.length := by omega
    have a0 : (0 : Int) ≤ (a : Int) := by omega
    have rl := rowsD_len bd ks m
    have a1 : (a : Int) < (rowsD bd ks m).length := by omega
    have ga : (rowsD bd ks m)[(a : Int).toNat]? = some (.lst (dI (bd.map (rowE bd ks a)))) := by rw [Int.toNat_natCast]; exact rowsD_get bd ks (by omega)
    have hc : whC G (.bin .lt (.idx (.idx (.v 5) (.v 6)) (.k (.int 0))) (.v 0)) [.val (.int sz), v1, v2, v3, v4, .val (.lst (rowsD bd ks m)), .val (.int a), v7] S = .ok (.bl (decide (rowE bd ks a 0 < sz))) S := by
      unfold whC
      simp (decide := true) only [start, xs_nil, xs_cons, evalEs, evalAnd, evalOr, evalIt, e_v, e_pk, e_k, e_g, e_bin, e_chn, e_isn, e_ntn, e_neg, e_not, e_and, e_or, e_ite, e_tup, e_lst, e_dct0, e_idx, e_slL, e_slU, e_slB, e_rev, e_call, e_blt, e_met, e_cell, x_set, x_fz, x_unp, x_aug, x_ex, x_app, x_popA, x_ins, x_setx, x_sets, x_augs, x_iff, x_ret, x_mov, x_pass, x_for, x_whl, e_lc, idxD, idxO, atI, ixN, bop, drop, done, mkSlot, E.isPk, Es.anyPk, guard, G_call, G_fr, G_con, E.alloc, bltD, lenD, augD, intOf, sliceD, rcv_join, rcv_index, rcv_find, eqv_ii, eqv_bb, eqv_ss, eqv_nn, D.scal, List.all_cons, List.all_nil, reduceCtorEq, Int.reduceEq, asg, Tg.vars, wipe, noOwn, isTy, isN, Es.len, R.nox_ok, R.of_none, R.bind_ok, R.of_some, R.toS_ok, RS.then_nx, RS.then_rt, List.map_cons, List.map_nil, List.length_cons, List.length_nil, List.length_map, List.getElem?_map, List.cons_append, List.nil_append, List.replicate, List.getElem?_cons_zero, List.getElem?_cons_succ, List.set_cons_zero, List.set_cons_succ, List.set_set, Option.bind_some, Option.map_some, reduceIte, decide_true, decide_false, Bool.and_true, Bool.true_and, Bool.or_true, Bool.true_or, Bool.or_false, Bool.false_or, Bool.not_true, Bool.not_false, Bool.and_false, Bool.false_and, Bool.false_eq_true, Nat.reduceAdd, Nat.reduceSub, Nat.reduceLT, Int.reduceLT, Int.reduceLE, Int.reduceToNat, decide_eq_true_eq, Int.cast_ofNat_Int, a0, a1, ga, b0, fst]
    show ((whC G _ _ S).toS _ fun b S1 => (match b with
        | .bl true => (execs G _ _ S1).then (whlLoop _ (execs G _) f)
        | .bl false => .nx _ S1
        | _ => .bad)) = _
    rw [hc, R.toS_ok]
    by_cases q : a = A
    · subst q
      rw [decide_eq_false (by omega)]
    · rw [decide_eq_true (h2 a (by omega))]
      dsimp only
      have hb : execs G (.cons (.aug 6 .add (.k (.int 1))) .nil) [.val (.int sz), v1, v2, v3, v4, .val (.lst (rowsD bd ks m)), .val (.int a), v7] S = .nx [.val (.int sz), v1, v2, v3, v4, .val (.lst (rowsD bd ks m)), .val (.int ((a + 1 : Nat) : Int)), v7] S := by
        have ci : ((a + 1 : Nat) : Int) = (a : Int) + 1 := by omega
        rw [ci]
        simp (decide := true) only [start, xs_nil, xs_cons, evalEs, evalAnd, evalOr, evalIt, e_v, e_pk, e_k, e_g, e_bin, e_chn, e_isn, e_ntn, e_neg, e_not, e_and, e_or, e_ite, e_tup, e_lst, e_dct0, e_idx, e_slL, e_slU, e_slB, e_rev, e_call, e_blt, e_met, e_cell, x_set, x_fz, x_unp, x_aug, x_ex, x_app, x_popA, x_ins, x_setx, x_sets, x_augs, x_iff, x_ret, x_mov, x_pass, x_for, x_whl, e_lc, idxD, idxO, atI, ixN, bop, drop, done, mkSlot, E.isPk, Es.anyPk, guard, G_call, G_fr, G_con, E.alloc, bltD, lenD, augD, intOf, sliceD, rcv_join, rcv_index, rcv_find, eqv_ii, eqv_bb, eqv_ss, eqv_nn, D.scal, List.all_cons, List.all_nil, reduceCtorEq, Int.reduceEq, asg, Tg.vars, wipe, noOwn, isTy, isN, Es.len, R.nox_ok, R.of_none, R.bind_ok, R.of_some, R.toS_ok, RS.then_nx, RS.then_rt, List.map_cons, List.map_nil, List.length_cons, List.length_nil, List.length_map, List.getElem?_map, List.cons_append, List.nil_append, List.replicate, List.getElem?_cons_zero, List.getElem?_cons_succ, List.set_cons_zero, List.set_cons_succ, List.set_set, Option.bind_some, Option.map_some, reduceIte, decide_true, decide_false, Bool.and_true, Bool.true_and, Bool.or_true, Bool.true_or, Bool.or_false, Bool.false_or, Bool.not_true, Bool.not_false, Bool.and_false, Bool.false_and, Bool.false_eq_true, Nat.reduceAdd, Nat.reduceSub, Nat.reduceLT, Int.reduceLT, Int.reduceLE, Int.reduceToNat, decide_eq_true_eq, Int.cast_ofNat_Int]
      rw [hb, RS.then_nx]
      exact while_least (G := G) v1 v2 v3 v4 v7 B hA h1 h2 S f (a + 1) (by omega) (by omega)
theorem least_age_spec {T : Tbl} (hf : T.defs 111 = some d_first_spoilt) (hE : T.defs 123 = some d_ends) (hF : T.defs 125 = some d_far_in) (hH : T.defs 132 = some d_has_clean) (hB : T.defs 133 = some d_bar_of) (hP : T.defs 137 = some d_places_in) (hR : T.defs 138 = some d_far_rows) (hO : T.defs 139 = some d_own_row) (hG : T.defs 140 = some d_greater_row) (hW : T.defs 141 = some d_row_of_two) (hRR : T.defs 142 = some d_reach_rows) (hL : T.defs 147 = some d_least_age) (c1 : T.con 1 = some (.str [120]))
    {sz : Int} {cs : List Int} {ks : List Tk} (sh : Shelf sz cs ks) (h1 : sz ≤ 100) (S : Store) (n : Nat) :
    call T (n + 5) 147 [.int sz, .lst (dI cs), .lst (ks.map tkD)] S = .ok (leastD (leastO sz ([0] ++ cs ++ [sz]) ks)) S := by
  have cl := sh.cuts.len
  have kl := sh.len
  have F := fit_of sh (by omega)
  have B := bd_of sh.pos sh.cuts
  have bl : ([0] ++ cs ++ [sz]).length = cs.length + 2 := by simp
  have e1 := bar_of_spec hf hE hH hB c1 (n + 1) sh (by omega) S
  have e2 := ends_spec hE (cs := cs) (by omega) sz S (n + 3)
  generalize [0] ++ cs ++ [sz] = bd at *
  rw [call_at hL rfl]
  cases hb : barF bd ks 0 (cs.length + 1) with
  | some p =>
    rw [hb] at e1
    have : leastO sz bd ks = none := by unfold leastO; rw [show bd.length - 1 = cs.length + 1 by omega, hb]
    rw [this]
    simp only [barD] at e1
    simp (decide := true) only [start, xs_nil, xs_cons, evalEs, evalAnd, evalOr, evalIt, e_v, e_pk, e_k, e_g, e_bin, e_chn, e_isn, e_ntn, e_neg, e_not, e_and, e_or, e_ite, e_tup, e_lst, e_dct0, e_idx, e_slL, e_slU, e_slB, e_rev, e_call, e_blt, e_met, e_cell, x_set, x_fz, x_unp, x_aug, x_ex, x_app, x_popA, x_ins, x_setx, x_sets, x_augs, x_iff, x_ret, x_mov, x_pass, x_for, x_whl, e_lc, idxD, idxO, atI, ixN, bop, drop, done, mkSlot, E.isPk, Es.anyPk, guard, G_call, G_fr, G_con, E.alloc, bltD, lenD, augD, intOf, sliceD, rcv_join, rcv_index, rcv_find, eqv_ii, eqv_bb, eqv_ss, eqv_nn, D.scal, List.all_cons, List.all_nil, reduceCtorEq, Int.reduceEq, asg, Tg.vars, wipe, noOwn, isTy, isN, Es.len, R.nox_ok, R.of_none, R.bind_ok, R.of_some, R.toS_ok, RS.then_nx, RS.then_rt, List.map_cons, List.map_nil, List.length_cons, List.length_nil, List.length_map, List.getElem?_map, List.cons_append, List.nil_append, List.replicate, List.getElem?_cons_zero, List.getElem?_cons_succ, List.set_cons_zero, List.set_cons_succ, List.set_set, Option.bind_some, Option.map_some, reduceIte, decide_true, decide_false, Bool.and_true, Bool.true_and, Bool.or_true, Bool.true_or, Bool.or_false, Bool.false_or, Bool.not_true, Bool.not_false, Bool.and_false, Bool.false_and, Bool.false_eq_true, Nat.reduceAdd, Nat.reduceSub, Nat.reduceLT, Int.reduceLT, Int.reduceLE, Int.reduceToNat, decide_eq_true_eq, Int.cast_ofNat_Int, d_least_age, e1, leastD]
  | none =>
    rw [hb] at e1
    obtain ⟨M, A, m1, m2, a1, a2, a3, a4, a5⟩ := least_some B (by omega) (fun k hk => (sh.ok k hk).2.2) (by rw [show bd.length - 1 = cs.length + 1 by omega]; exact hb)
    rw [a5]
    have one : ∀ k ∈ ks, lcStep (T.G (n + 4)) [.val (.int sz), .val (.lst (dI cs)), .val (.lst (ks.map tkD)), .val (.lst (dI bd)), .no, .no, .no, .no] (.t2 (.v 7) (.v 6)) .nil (.v 6) (tkD k) S = .ok (some (.int k.2)) S := by
      intro k _
      simp (decide := true) only [lcStep, tkD, start, xs_nil, xs_cons, evalEs, evalAnd, evalOr, evalIt, e_v, e_pk, e_k, e_g, e_bin, e_chn, e_isn, e_ntn, e_neg, e_not, e_and, e_or, e_ite, e_tup, e_lst, e_dct0, e_idx, e_slL, e_slU, e_slB, e_rev, e_call, e_blt, e_met, e_cell, x_set, x_fz, x_unp, x_aug, x_ex, x_app, x_popA, x_ins, x_setx, x_sets, x_augs, x_iff, x_ret, x_mov, x_pass, x_for, x_whl, e_lc, idxD, idxO, atI, ixN, bop, drop, done, mkSlot, E.isPk, Es.anyPk, guard, G_call, G_fr, G_con, E.alloc, bltD, lenD, augD, intOf, sliceD, rcv_join, rcv_index, rcv_find, eqv_ii, eqv_bb, eqv_ss, eqv_nn, D.scal, List.all_cons, List.all_nil, reduceCtorEq, Int.reduceEq, asg, Tg.vars, wipe, noOwn, isTy, isN, Es.len, R.nox_ok, R.of_none, R.bind_ok, R.of_some, R.toS_ok, RS.then_nx, RS.then_rt, List.map_cons, List.map_nil, List.length_cons, List.length_nil, List.length_map, List.getElem?_map, List.cons_append, List.nil_append, List.replicate, List.getElem?_cons_zero, List.getElem?_cons_succ, List.set_cons_zero, List.set_cons_succ, List.set_set, Option.bind_some, Option.map_some, reduceIte, decide_true, decide_false, Bool.and_true, Bool.true_and, Bool.or_true, Bool.true_or, Bool.or_false, Bool.false_or, Bool.not_true, Bool.not_false, Bool.and_false, Bool.false_and, Bool.false_eq_true, Nat.reduceAdd, Nat.reduceSub, Nat.reduceLT, Int.reduceLT, Int.reduceLE, Int.reduceToNat, decide_eq_true_eq, Int.cast_ofNat_Int]
    have l1 := lc_mapA one
    have w := dI_map' ks
    rw [w] at l1
    have il := ints_dI (ks.map (·.2))
    have kll : ks.length ≤ line := by unfold line; omega
    have e3 := reach_rows_spec hf hF hP hR hO hG hW hRR c1 F (m := (M : Int) + (bd.length : Int)) (by omega) (by omega) S n
    have tn : ((M : Int) + (bd.length : Int)).toNat = M + bd.length := by omega
    rw [tn] at e3
    have wl := while_least (G := T.G (n + 4)) (.val (.lst (dI cs))) (.val (.lst (ks.map tkD))) (.val (.lst (dI bd))) (.val (.int M)) .no B (ks := ks) (m := M + bd.length) (A := A) (by omega) a3 a4 S 4096 0 (by omega) (by omega)
    have wl : whlLoop (whC (T.G (n + 4)) _) (execs (T.G (n + 4)) _) 4096 [.val (.int sz), .val (.lst (dI cs)), .val (.lst (ks.map tkD)), .val (.lst (dI bd)), .val (.int M), .val (.lst (rowsD bd ks (M + bd.length))), .val (.int 0), .no] S = _ := wl
    simp only [barD] at e1
    generalize rowsD bd ks (M + bd.length) = RD at e3 wl
    simp (decide := true) only [start, xs_nil, xs_cons, evalEs, evalAnd, evalOr, evalIt, e_v, e_pk, e_k, e_g, e_bin, e_chn, e_isn, e_ntn, e_neg, e_not, e_and, e_or, e_ite, e_tup, e_lst, e_dct0, e_idx, e_slL, e_slU, e_slB, e_rev, e_call, e_blt, e_met, e_cell, x_set, x_fz, x_unp, x_aug, x_ex, x_app, x_popA, x_ins, x_setx, x_sets, x_augs, x_iff, x_ret, x_mov, x_pass, x_for, x_whl, e_lc, idxD, idxO, atI, ixN, bop, drop, done, mkSlot, E.isPk, Es.anyPk, guard, G_call, G_fr, G_con, E.alloc, bltD, lenD, augD, intOf, sliceD, rcv_join, rcv_index, rcv_find, eqv_ii, eqv_bb, eqv_ss, eqv_nn, D.scal, List.all_cons, List.all_nil, reduceCtorEq, Int.reduceEq, asg, Tg.vars, wipe, noOwn, isTy, isN, Es.len, R.nox_ok, R.of_none, R.bind_ok, R.of_some, R.toS_ok, RS.then_nx, RS.then_rt, List.map_cons, List.map_nil, List.length_cons, List.length_nil, List.length_map, List.getElem?_map, List.cons_append, List.nil_append, List.replicate, List.getElem?_cons_zero, List.getElem?_cons_succ, List.set_cons_zero, List.set_cons_succ, List.set_set, Option.bind_some, Option.map_some, reduceIte, decide_true, decide_false, Bool.and_true, Bool.true_and, Bool.or_true, Bool.true_or, Bool.or_false, Bool.false_or, Bool.not_true, Bool.not_false, Bool.and_false, Bool.false_and, Bool.false_eq_true, Nat.reduceAdd, Nat.reduceSub, Nat.reduceLT, Int.reduceLT, Int.reduceLE, Int.reduceToNat, decide_eq_true_eq, Int.cast_ofNat_Int, d_least_age, e1, e2, D.isNode, seqIt, kll, l1, il, m2, e3, wl, leastD]
end IL
namespace IL
theorem least_le {sz : Int} {bd : List Int} (B : Bd sz bd) (hl : bd.length ≤ 129) {ks : List Tk} (ha : ∀ k ∈ ks, 0 ≤ k.2 ∧ k.2 ≤ 60) {A : Nat} (h : leastO sz bd ks = some A) : A ≤ 67 ∧ barF bd ks 0 (bd.length - 1) = none := by
  have hb : barF bd ks 0 (bd.length - 1) = none := by
    unfold leastO at h
    split at h
    · assumption
    · cases h
  obtain ⟨M, A1, m1, _, m3, _, m5, m6, m7⟩ := least_some B hl ha hb
  rw [h] at m7
  cases m7
  exact ⟨by omega, hb⟩
end IL
namespace IL
inductive Mk where
  | lf (i : Int) | nd (p : Int) (l r : Mk)
def Mk.dep : Mk → Nat
  | .lf _ => 0
  | .nd _ l r => max l.dep r.dep + 1
def Mk.cnt : Mk → Int
  | .lf _ => 1
  | .nd _ l r => l.cnt + r.cnt
def Mk.ok (many : Int) (cs : List Int) : Mk → Prop
  | .lf i => 0 ≤ i ∧ i < many
  | .nd p l r => p ∈ cs ∧ l.ok many cs ∧ r.ok many cs
theorem Mk.cnt_pos : ∀ m : Mk, 1 ≤ m.cnt
  | .lf _ => Int.le_refl 1
  | .nd _ l r => by have := l.cnt_pos; have := r.cnt_pos; show 1 ≤ l.cnt + r.cnt; omega
end IL
namespace IL
def meetsOf (bd : List Int) (ks : List Tk) (b i j : Nat) : List Nat := (between i j).filter (meetP (fewV bd ks b) (fewV bd ks (b + 1) i j) i j)
def pickW (W : Nat → Nat → Int) (i j : Nat) : List Nat → Int → Option (Nat × Int)
  | [], _ => none
  | k :: l, q => if q < W i k * W k j then some (k, q) else pickW W i j l (q - W i k * W k j)
def leafV (bd : List Int) (ks : List Tk) (a i j : Nat) (q : Int) : Mk := .lf (((fitL bd (a : Int) i j 0 ks).getD q.toNat 0 : Nat) : Int)
def makeV (bd : List Int) (ks : List Tk) : Nat → Nat → Nat → Int → Mk
  | 0, i, j, q => leafV bd ks 0 i j q
  | b + 1, i, j, q => if fewV bd ks (b + 1) i j = 1 then leafV bd ks (b + 1) i j q else match pickW (waysV bd ks b) i j (meetsOf bd ks b i j) q with
    | some (k, r) => .nd (bd.getD k 0) (makeV bd ks b i k (r / waysV bd ks b k j)) (makeV bd ks b k j (r % waysV bd ks b k j))
    | none => .lf 0
def Good (bd : List Int) (ks : List Tk) : Mk → Nat → Nat → Nat → Prop
  | .lf n, a, i, j => fewV bd ks a i j = 1 ∧ ∃ x ∈ fitL bd (a : Int) i j 0 ks, n = (x : Int)
  | .nd p l r, a, i, j => fewV bd ks a i j ≠ 0 ∧ fewV bd ks a i j ≠ 1 ∧ ∃ b k, a = b + 1 ∧ k ∈ meetsOf bd ks b i j ∧ p = bd.getD k 0 ∧ Good bd ks l b i k ∧ Good bd ks r b k j
def sumW (W : Nat → Nat → Int) (i j : Nat) (l : List Nat) : Int := (l.map fun k => W i k * W k j).sum
theorem sumW_cons (W : Nat → Nat → Int) (i j k : Nat) (l : List Nat) : sumW W i j (k :: l) = W i k * W k j + sumW W i j l := by unfold sumW; rw [List.map_cons, List.sum_cons]
theorem sumW_nn {W : Nat → Nat → Int} {i j : Nat} : ∀ (l : List Nat), (∀ k ∈ l, 0 ≤ W i k * W k j) → 0 ≤ sumW W i j l
  | [], _ => Int.le_refl _
  | k :: l, h => by
    rw [sumW_cons]
    have := h k List.mem_cons_self
    have := sumW_nn l fun x hx => h x (List.mem_cons_of_mem _ hx)
    omega
theorem pick_some {W : Nat → Nat → Int} {i j : Nat} : ∀ {l : List Nat} {q : Int}, 0 ≤ q → q < sumW W i j l → ∃ k r, pickW W i j l q = some (k, r) ∧ k ∈ l ∧ 0 ≤ r ∧ r < W i k * W k j
  | [], q, q0, q1 => by have q1 : q < 0 := q1; omega
  | u :: l, q, q0, q1 => by
    unfold pickW
    by_cases c : q < W i u * W u j
    · rw [if_pos c]; exact ⟨u, q, rfl, List.mem_cons_self, q0, c⟩
    · rw [if_neg c]
      rw [sumW_cons] at q1
      obtain ⟨k, r, e, hk, r0, r1⟩ := pick_some (W := W) (i := i) (j := j) (l := l) (q := q - W i u * W u j) (by omega) (by omega)
      exact ⟨k, r, e, List.mem_cons_of_mem _ hk, r0, r1⟩
section
variable {bd : List Int} {ks : List Tk}
theorem meets_mem {b i j k : Nat} (h : k ∈ meetsOf bd ks b i j) : i < k ∧ k < j := between_mem (List.mem_filter.mp h).1
theorem ways_sum {b i j : Nat} (h0 : fewV bd ks (b + 1) i j ≠ 0) (h1 : fewV bd ks (b + 1) i j ≠ 1) (hij : i < j) : waysV bd ks (b + 1) i j = sumW (waysV bd ks b) i j (meetsOf bd ks b i j) := by
  show (if i < j then _ else _) = _
  rw [if_pos hij, if_neg h0, if_neg h1]; rfl
theorem make_leaf {a i j : Nat} (h : fewV bd ks a i j = 1) (q : Int) : makeV bd ks a i j q = leafV bd ks a i j q := by
  cases a with
  | zero => rfl
  | succ b => unfold makeV; rw [if_pos h]
theorem leaf_ways {a i j : Nat} (h : fewV bd ks a i j = 1) (hij : i < j) : waysV bd ks a i j = ((fitL bd (a : Int) i j 0 ks).length : Int) := by
  rw [fit_len]
  cases a with
  | zero => unfold waysV; rw [if_pos hij, if_neg (by omega)]; simp
  | succ b => unfold waysV; rw [if_pos hij, if_neg (by omega), if_pos h]
theorem div_rng {q x y : Int} (q0 : 0 ≤ q) (h : q < x * y) (x0 : 0 ≤ x) (y0 : 0 ≤ y) : 0 < x ∧ 0 < y ∧ 0 ≤ q / y ∧ q / y < x ∧ 0 ≤ q % y ∧ q % y < y := by
  have yp : 0 < y := by
    rcases Int.lt_or_le 0 y with c | c
    · exact c
    · have : y = 0 := by omega
      rw [this, Int.mul_zero] at h; omega
  have d := Int.ediv_lt_of_lt_mul yp h
  have d0 := Int.ediv_nonneg q0 y0
  exact ⟨by omega, yp, d0, d, Int.emod_nonneg _ (by omega), Int.emod_lt_of_pos _ yp⟩
theorem good_make (hk : ks.length ≤ 32) : ∀ (a i j : Nat) (q : Int), i < j → j ≤ 32 → 0 ≤ q → q < waysV bd ks a i j → Good bd ks (makeV bd ks a i j q) a i j := by
  intro a
  have leaf : ∀ (a i j : Nat) (q : Int), i < j → 0 ≤ q → q < waysV bd ks a i j → fewV bd ks a i j = 1 → Good bd ks (leafV bd ks a i j q) a i j := by
    intro a i j q hij q0 q1 h1
    rw [leaf_ways h1 hij] at q1
    refine ⟨h1, (fitL bd (a : Int) i j 0 ks).getD q.toNat 0, ?_, rfl⟩
    rw [List.getD_eq_getElem?_getD, List.getElem?_eq_getElem (show q.toNat < (fitL bd (a : Int) i j 0 ks).length by omega)]
    exact List.getElem_mem _
  induction a with
  | zero =>
    intro i j q hij hj q0 q1
    have l1 := few0_le bd ks i j
    have l0 := few_nn bd ks 0 i j
    by_cases h : fewV bd ks 0 i j = 1
    · exact leaf 0 i j q hij q0 q1 h
    · exfalso
      unfold waysV at q1
      rw [if_pos hij, if_pos (by omega)] at q1
      omega
  | succ b ih =>
    intro i j q hij hj q0 q1
    by_cases h1 : fewV bd ks (b + 1) i j = 1
    · rw [make_leaf h1]; exact leaf (b + 1) i j q hij q0 q1 h1
    · have h0 : fewV bd ks (b + 1) i j ≠ 0 := by
        intro z
        unfold waysV at q1
        rw [if_pos hij, if_pos z] at q1
        omega
      rw [ways_sum h0 h1 hij] at q1
      obtain ⟨k, r, e, hm, r0, r1⟩ := pick_some q0 q1
      obtain ⟨k1, k2⟩ := meets_mem hm
      obtain ⟨_, _, d0, d1, m0, m1⟩ := div_rng r0 r1 (ways_le hk b i k (by omega)).1 (ways_le hk b k j hj).1
      unfold makeV
      rw [if_neg h1, e]
      exact ⟨h0, h1, b, k, rfl, hm, rfl, ih i k _ k1 (by omega) d0 d1, ih k j _ k2 hj m0 m1⟩
theorem good_dep : ∀ (M : Mk) (a i j : Nat), i < j → Good bd ks M a i j → M.dep < j - i
  | .lf n, a, i, j, hij, _ => by show 0 < j - i; omega
  | .nd p l r, a, i, j, hij, ⟨_, _, b, k, _, hm, _, gl, gr⟩ => by
    obtain ⟨k1, k2⟩ := meets_mem hm
    have := good_dep l b i k k1 gl
    have := good_dep r b k j k2 gr
    show max l.dep r.dep + 1 < j - i
    omega
end
end IL
namespace IL
section
variable {sz : Int} {bd : List Int} {ks : List Tk}
theorem fe_iff (B : Bord sz bd) {t : List Nat} (ho : ox t) (hl : (t.length : Int) = sz) {i j : Nat} (hij : i < j) (hj : j < bd.length) : bd.getD j 0 ≤ fe bd t (bd.getD i 0) ↔ (bd.getD j 0).toNat ≤ nxt t (bd.getD i 0).toNat := by
  have mi : bd.getD i 0 ∈ bd := List.mem_of_getElem? (get_at (by omega))
  have mj : bd.getD j 0 ∈ bd := List.mem_of_getElem? (get_at hj)
  have l := B.lt hij hj
  have ri := B.rng _ mi
  have rj := B.rng _ mj
  unfold fe
  constructor
  · intro h
    rcases farF_rng (bd.getD i 0) (nxt t (bd.getD i 0).toNat) bd (bd.getD i 0) with q | ⟨_, q⟩
    · rw [q] at h; omega
    · omega
  · intro h
    exact farF_ge _ _ _ bd _ B.ord mj (by omega) (by omega)
theorem own_iff (B : Bd sz bd) (a : Int) {i j : Nat} (hij : i < j) (hj : j < bd.length) : bd.getD j 0 ≤ ownE bd ks a (bd.getD i 0) ↔ ∃ k ∈ ks, k.2 ≤ a ∧ bd.getD j 0 ≤ fe bd k.1 (bd.getD i 0) := by
  have l := B.bord.lt hij hj
  constructor
  · intro h
    apply Classical.byContradiction
    intro c
    have : ownE bd ks a (bd.getD i 0) ≤ bd.getD j 0 - 1 := by
      refine foldl_max_le _ _ _ (by omega) fun k hk => ?_
      obtain ⟨hk, ha⟩ := List.mem_filter.mp hk
      have : ¬ bd.getD j 0 ≤ fe bd k.1 (bd.getD i 0) := fun z => c ⟨k, hk, of_decide_eq_true ha, z⟩
      omega
    omega
  · rintro ⟨k, hk, ha, h⟩
    exact Int.le_trans h (own_fe hk ha _)
theorem few_row (B : Bd sz bd) (F : FitL sz bd ks) : ∀ (a i j : Nat), i < j → j < bd.length → 0 < fewV bd ks a i j → bd.getD j 0 ≤ rowE bd ks a (bd.getD i 0)
  | 0, i, j, hij, hj, h => by
    unfold fewV at h
    rw [if_pos hij] at h
    by_cases q : bd.getD j 0 ≤ ownE bd ks 0 (bd.getD i 0)
    · exact q
    · rw [if_neg q] at h; omega
  | a + 1, i, j, hij, hj, h => by
    have mi : bd.getD i 0 ∈ bd := List.mem_of_getElem? (get_at (by omega))
    show bd.getD j 0 ≤ max (ownE bd ks ((a + 1 : Nat) : Int) (bd.getD i 0)) (rowE bd ks a (rowE bd ks a (bd.getD i 0)))
    by_cases q : bd.getD j 0 ≤ ownE bd ks ((a + 1 : Nat) : Int) (bd.getD i 0)
    · omega
    · have h := few_lt h hij q
      unfold lsV at h
      cases e : minL (sumsF (fewV bd ks a) i j (between i j)) with
      | none =>
        rw [e] at h
        have h : (0 : Int) < 0 := h
        omega
      | some x =>
        obtain ⟨k, hk, _⟩ := List.mem_map.mp (minL_mem e)
        obtain ⟨hb, hp⟩ := List.mem_filter.mp hk
        rw [Bool.and_eq_true, decide_eq_true_eq, decide_eq_true_eq] at hp
        obtain ⟨k1, k2⟩ := between_mem hb
        have r1 := few_row B F a i k k1 (by omega) hp.1
        have r2 := few_row B F a k j k2 hj hp.2
        have mk : bd.getD k 0 ∈ bd := List.mem_of_getElem? (get_at (by omega))
        have r3 := (row_up F a).up _ mk _ (rowE_mem ks a mi) r1
        omega
theorem ends_at (B : Bd sz bd) : bd.getD 0 0 = 0 ∧ bd.getD (bd.length - 1) 0 = sz := by
  refine ⟨?_, ?_⟩
  · rw [List.getD_eq_getElem?_getD, B.fst]; rfl
  · rw [List.getD_eq_getElem?_getD, B.lst]; rfl
theorem row_iff (B : Bd sz bd) (F : FitL sz bd ks) (a : Nat) : rowE bd ks a 0 = sz ↔ 0 < fewV bd ks a 0 (bd.length - 1) := by
  obtain ⟨z, l⟩ := ends_at B
  have two := B.two
  have z0 : (0 : Int) ∈ bd := List.mem_of_getElem? B.fst
  constructor
  · intro h
    exact few_pos B F a 0 (bd.length - 1) (by omega) (by omega) (by rw [l, z, h]; exact Int.le_refl _)
  · intro h
    have r := few_row B F a 0 (bd.length - 1) (by omega) (by omega) h
    rw [l, z] at r
    have := (B.bord.rng _ (rowE_mem ks a z0)).2
    omega
end
end IL
namespace IL
def madeK (ks : List Tk) : Mk → Tk
  | .lf i => ks.getD i.toNat ([], 0)
  | .nd p l r => ((madeK ks l).1.take p.toNat ++ (madeK ks r).1.drop p.toNat, max (madeK ks l).2 (madeK ks r).2 + 1)
theorem made_len {sz : Int} {cs : List Int} {ks : List Tk} (sh : Shelf sz cs ks) : ∀ (m : Mk), m.ok ks.length cs → ((madeK ks m).1.length : Int) = sz
  | .lf i, h => by
    have hi : i.toNat < ks.length := by have := h.2; have := h.1; omega
    show ((ks.getD i.toNat ([], 0)).1.length : Int) = sz
    rw [List.getD_eq_getElem?_getD, List.getElem?_eq_getElem hi]
    exact (sh.ok _ (List.getElem_mem hi)).2.1
  | .nd p l r, h => by
    have h1 := made_len sh l h.2.1
    have h2 := made_len sh r h.2.2
    have hp := sh.cuts.rng p h.1
    show (((madeK ks l).1.take p.toNat ++ (madeK ks r).1.drop p.toNat).length : Int) = sz
    rw [List.length_append, List.length_take, List.length_drop]
    omega
theorem tk_get {ks : List Tk} {i : Int} (h0 : 0 ≤ i) (h : i < ks.length) : ks[i.toNat]? = some (madeK ks (.lf i)) := by
  have hi : i.toNat < ks.length := by omega
  show _ = some (ks.getD i.toNat ([], 0))
  rw [List.getD_eq_getElem?_getD, List.getElem?_eq_getElem hi]; rfl
end IL
namespace IL
def Cln (t : List Nat) (a b : Nat) : Prop := ∀ j, a ≤ j → j < b → t[j]? = some 111
end IL
namespace IL
section
variable {sz : Int} {bd : List Int} {ks : List Tk}
theorem fit_get' {a : Int} {i j : Nat} : ∀ (ks : List Tk) (n x : Nat), x ∈ fitL bd a i j n ks → n ≤ x ∧ ∃ k, ks[x - n]? = some k ∧ k.2 ≤ a ∧ bd.getD j 0 ≤ fe bd k.1 (bd.getD i 0)
  | [], n, x, h => nomatch h
  | k :: ks, n, x, h => by
    have rest : x ∈ fitL bd a i j (n + 1) ks → n ≤ x ∧ ∃ k', (k :: ks)[x - n]? = some k' ∧ k'.2 ≤ a ∧ bd.getD j 0 ≤ fe bd k'.1 (bd.getD i 0) := fun h => by
      obtain ⟨h1, k', e, h2⟩ := fit_get' ks (n + 1) x h
      exact ⟨by omega, k', by rw [show x - n = x - (n + 1) + 1 by omega, List.getElem?_cons_succ]; exact e, h2⟩
    rw [fitL_cons] at h
    split at h
    · rename_i c
      rw [Bool.and_eq_true, decide_eq_true_eq, decide_eq_true_eq] at c
      rcases List.mem_cons.mp h with e | h
      · subst e
        exact ⟨Nat.le_refl _, k, by rw [Nat.sub_self]; rfl, c.1, c.2⟩
      · exact rest h
    · exact rest h
end
theorem bd_mid {sz : Int} {cs : List Int} {k : Nat} (h1 : 0 < k) (h2 : k < cs.length + 1) : ([0] ++ cs ++ [sz]).getD k 0 ∈ cs := by
  rw [List.getD_eq_getElem?_getD, List.append_assoc, List.getElem?_append_right (by simp; omega), List.getElem?_append_left (by simp; omega)]
  simp only [List.length_cons, List.length_nil]
  rw [List.getElem?_eq_getElem (by omega)]
  exact List.getElem_mem _
theorem good_okM {sz : Int} {cs : List Int} {ks : List Tk} : ∀ (M : Mk) (a i j : Nat), i < j → j < cs.length + 2 → Good ([0] ++ cs ++ [sz]) ks M a i j → M.ok ks.length cs
  | .lf n, a, i, j, hij, hj, ⟨_, x, hx, e⟩ => by
    obtain ⟨_, k, g, _⟩ := fit_get' ks 0 x hx
    have := (List.getElem?_eq_some_iff.mp g).1
    subst e
    exact ⟨by omega, by omega⟩
  | .nd p l r, a, i, j, hij, hj, ⟨_, _, b, k, ea, hm, ep, gl, gr⟩ => by
    obtain ⟨k1, k2⟩ := meets_mem hm
    exact ⟨by rw [ep]; exact bd_mid (by omega) (by omega), good_okM l b i k k1 (by omega) gl, good_okM r b k j k2 hj gr⟩
theorem good_made {sz : Int} {cs : List Int} {ks : List Tk} (sh : Shelf sz cs ks) (h1 : sz ≤ 900) : ∀ (M : Mk) (a i j : Nat), i < j → j < cs.length + 2 → Good ([0] ++ cs ++ [sz]) ks M a i j →
    Cln (madeK ks M).1 (([0] ++ cs ++ [sz]).getD i 0).toNat (([0] ++ cs ++ [sz]).getD j 0).toNat ∧ 0 ≤ (madeK ks M).2 ∧ (madeK ks M).2 ≤ a ∧ ([0] ++ cs ++ [sz]).getD j 0 ≤ rowE ([0] ++ cs ++ [sz]) ks (madeK ks M).2.toNat (([0] ++ cs ++ [sz]).getD i 0)
  | .lf n, a, i, j, hij, hj, ⟨_, x, hx, e⟩ => by
    have B := bd_of sh.pos sh.cuts
    have bl : ([0] ++ cs ++ [sz]).length = cs.length + 2 := by simp
    generalize [0] ++ cs ++ [sz] = bd at *
    obtain ⟨_, k, g, h2, h3⟩ := fit_get' ks 0 x hx
    have hk := List.mem_of_getElem? g
    rw [Nat.sub_zero] at g
    have em : madeK ks (.lf n) = k := by
      show ks.getD n.toNat ([], 0) = k
      rw [e, Int.toNat_natCast, List.getD_eq_getElem?_getD, g]; rfl
    obtain ⟨o1, o2, o3, o4⟩ := sh.ok k hk
    rw [em]
    have c := (fe_iff B.bord o1 o2 hij (by omega)).mp h3
    refine ⟨fun t t1 t2 => ?_, o3, h2, ?_⟩
    · have mi : bd.getD i 0 ∈ bd := List.mem_of_getElem? (get_at (by omega))
      have r := B.bord.rng _ mi
      obtain ⟨_, _, n3, _⟩ := nxt_spec o1 (a := (bd.getD i 0).toNat) (by omega)
      have := n3 (t - (bd.getD i 0).toNat) (by omega)
      rw [show (bd.getD i 0).toNat + (t - (bd.getD i 0).toNat) = t by omega] at this
      exact this
    · have f := own_fe (bd := bd) (a := ((k.2.toNat : Nat) : Int)) hk (by omega) (bd.getD i 0)
      have := rowE_own bd ks k.2.toNat (bd.getD i 0)
      omega
  | .nd p l r, a, i, j, hij, hj, ⟨_, _, b, k, ea, hm, ep, gl, gr⟩ => by
    obtain ⟨k1, k2⟩ := meets_mem hm
    obtain ⟨c1, x1, x2, x3⟩ := good_made sh h1 l b i k k1 (by omega) gl
    obtain ⟨c2, y1, y2, y3⟩ := good_made sh h1 r b k j k2 hj gr
    have ol := good_okM l b i k k1 (by omega) gl
    have l1 := made_len sh l ol
    have B := bd_of sh.pos sh.cuts
    have F := fitL_of sh h1
    have bl : ([0] ++ cs ++ [sz]).length = cs.length + 2 := by simp
    generalize [0] ++ cs ++ [sz] = bd at *
    have mi : bd.getD i 0 ∈ bd := List.mem_of_getElem? (get_at (by omega))
    have mk : bd.getD k 0 ∈ bd := List.mem_of_getElem? (get_at (by omega))
    have ri := B.bord.rng _ mi
    have rk := B.bord.rng _ mk
    have bik := B.bord.lt k1 (by omega)
    rw [← ep] at *
    have z1 : (madeK ks (.nd p l r)).1 = (madeK ks l).1.take p.toNat ++ (madeK ks r).1.drop p.toNat := rfl
    have z2 : (madeK ks (.nd p l r)).2 = max (madeK ks l).2 (madeK ks r).2 + 1 := rfl
    rw [z1, z2]
    refine ⟨fun t t1 t2 => ?_, by omega, by omega, ?_⟩
    · by_cases c : t < p.toNat
      · rw [List.getElem?_append_left (by rw [List.length_take]; omega), List.getElem?_take_of_lt c]
        exact c1 t t1 c
      · rw [List.getElem?_append_right (by rw [List.length_take]; omega), List.length_take, List.getElem?_drop, show p.toNat + (t - min p.toNat (madeK ks l).1.length) = t by omega]
        exact c2 t (by omega) t2
    · have mono : ∀ (d u : Nat) (x : Int), rowE bd ks u x ≤ rowE bd ks (u + d) x := by
        intro d
        induction d with
        | zero => intro u x; exact Int.le_refl _
        | succ d ih =>
          intro u x
          have h1 := ih u x
          have h2 := rowE_ge bd ks (u + d) (rowE bd ks (u + d) x)
          have h3 : rowE bd ks (u + (d + 1)) x = max (ownE bd ks ((u + d + 1 : Nat) : Int) x) (rowE bd ks (u + d) (rowE bd ks (u + d) x)) := rfl
          omega
      have e : (max (madeK ks l).2 (madeK ks r).2 + 1).toNat = (max (madeK ks l).2 (madeK ks r).2).toNat + 1 := by omega
      have m1 := mono ((max (madeK ks l).2 (madeK ks r).2).toNat - (madeK ks l).2.toNat) (madeK ks l).2.toNat (bd.getD i 0)
      have m2 := mono ((max (madeK ks l).2 (madeK ks r).2).toNat - (madeK ks r).2.toNat) (madeK ks r).2.toNat p
      rw [show (madeK ks l).2.toNat + ((max (madeK ks l).2 (madeK ks r).2).toNat - (madeK ks l).2.toNat) = (max (madeK ks l).2 (madeK ks r).2).toNat by omega] at m1
      rw [show (madeK ks r).2.toNat + ((max (madeK ks l).2 (madeK ks r).2).toNat - (madeK ks r).2.toNat) = (max (madeK ks l).2 (madeK ks r).2).toNat by omega] at m2
      rw [e]
      generalize (max (madeK ks l).2 (madeK ks r).2).toNat = u at *
      have up := (row_up F u).up p mk (rowE bd ks u (bd.getD i 0)) (rowE_mem ks u mi) (by omega)
      have h3 : rowE bd ks (u + 1) (bd.getD i 0) = max (ownE bd ks ((u + 1 : Nat) : Int) (bd.getD i 0)) (rowE bd ks u (rowE bd ks u (bd.getD i 0))) := rfl
      omega
theorem good_best {sz : Int} {cs : List Int} {ks : List Tk} (sh : Shelf sz cs ks) (h1 : sz ≤ 100) {A : Nat} (hA : leastO sz ([0] ++ cs ++ [sz]) ks = some A) {M : Mk} (g : Good ([0] ++ cs ++ [sz]) ks M A 0 (cs.length + 1)) : madeK ks M = (List.replicate sz.toNat 111, (A : Int)) := by
  obtain ⟨c, x1, x2, x3⟩ := good_made sh (by omega) M A 0 (cs.length + 1) (by omega) (by omega) g
  have ok := good_okM M A 0 (cs.length + 1) (by omega) (by omega) g
  have l1 := made_len sh M ok
  have cl := sh.cuts.len
  have B := bd_of sh.pos sh.cuts
  have bl : ([0] ++ cs ++ [sz]).length = cs.length + 2 := by simp
  generalize [0] ++ cs ++ [sz] = bd at *
  obtain ⟨e0, e1⟩ := ends_at B
  rw [bl, show cs.length + 2 - 1 = cs.length + 1 by omega] at e1
  rw [e0, e1] at c x3
  obtain ⟨_, hb⟩ := least_le B (by omega) (fun k hk => (sh.ok k hk).2.2) hA
  obtain ⟨_, A1, _, _, _, _, hr, hl, m7⟩ := least_some B (by omega) (fun k hk => (sh.ok k hk).2.2) hb
  rw [hA] at m7
  cases m7
  have ge : A ≤ (madeK ks M).2.toNat := by
    rcases Nat.lt_or_ge (madeK ks M).2.toNat A with q | q
    · have := hl _ q; omega
    · exact q
  refine Prod.ext (List.ext_getElem? fun t => ?_) (by show (madeK ks M).2 = (A : Int); omega)
  by_cases ht : t < sz.toNat
  · rw [c t (by omega) ht, List.getElem?_replicate, if_pos ht]
  · rw [List.getElem?_eq_none (by omega), List.getElem?_eq_none (by rw [List.length_replicate]; omega)]
end IL
namespace IL
section
variable {sz : Int} {bd : List Int} {ks : List Tk}
theorem ls_two {L : Nat → Nat → Int} {i j : Nat} (h : 0 < lsV L i j) : ∃ k, k ∈ between i j ∧ 0 < L i k ∧ 0 < L k j ∧ L i k + L k j = lsV L i j := by
  unfold lsV at h ⊢
  cases e : minL (sumsF L i j (between i j)) with
  | none =>
    rw [e] at h
    have h : (0 : Int) < 0 := h
    omega
  | some x =>
    obtain ⟨k, hk, e2⟩ := List.mem_map.mp (minL_mem e)
    obtain ⟨hb, hp⟩ := List.mem_filter.mp hk
    rw [Bool.and_eq_true, decide_eq_true_eq, decide_eq_true_eq] at hp
    exact ⟨k, hb, hp.1, hp.2, e2⟩
theorem sumW_ge {W : Nat → Nat → Int} {i j : Nat} : ∀ {l : List Nat}, (∀ k ∈ l, 0 ≤ W i k * W k j) → ∀ {k : Nat}, k ∈ l → W i k * W k j ≤ sumW W i j l
  | u :: l, h, k, hk => by
    rw [sumW_cons]
    have hl : ∀ x ∈ l, 0 ≤ W i x * W x j := fun x hx => h x (List.mem_cons_of_mem _ hx)
    have hu := h u List.mem_cons_self
    have s0 := sumW_nn l hl
    rcases List.mem_cons.mp hk with q | q
    · subst q; omega
    · have := sumW_ge hl q; omega
theorem ways_pos (B : Bd sz bd) (hk : ks.length ≤ 32) (hN : bd.length ≤ 33) : ∀ (a i j : Nat), i < j → j < bd.length → 0 < fewV bd ks a i j → 0 < waysV bd ks a i j := by
  have leaf : ∀ (a i j : Nat), i < j → j < bd.length → bd.getD j 0 ≤ ownE bd ks (a : Int) (bd.getD i 0) → 0 < fitN bd ks (a : Int) i j := by
    intro a i j hij hj h
    obtain ⟨k, hkm, ha, hf⟩ := (own_iff B (a : Int) hij hj).mp h
    unfold fitN
    have : 0 < ((ks.filter fun k => decide (k.2 ≤ (a : Int))).filter fun k => decide (bd.getD j 0 ≤ fe bd k.1 (bd.getD i 0))).length :=
      List.length_pos_of_mem (List.mem_filter.mpr ⟨List.mem_filter.mpr ⟨hkm, decide_eq_true ha⟩, decide_eq_true hf⟩)
    omega
  intro a
  induction a with
  | zero =>
    intro i j hij hj h
    have l := leaf 0 i j hij hj
    unfold waysV
    rw [if_pos hij, if_neg (by omega)]
    unfold fewV at h
    rw [if_pos hij] at h
    by_cases c : bd.getD j 0 ≤ ownE bd ks 0 (bd.getD i 0)
    · exact l c
    · rw [if_neg c] at h; omega
  | succ b ih =>
    intro i j hij hj h
    have u : fewV bd ks (b + 1) i j = if i < j then (if bd.getD j 0 ≤ ownE bd ks ((b + 1 : Nat) : Int) (bd.getD i 0) then 1 else lsV (fewV bd ks b) i j) else 0 := rfl
    by_cases c : bd.getD j 0 ≤ ownE bd ks ((b + 1 : Nat) : Int) (bd.getD i 0)
    · have h1 : fewV bd ks (b + 1) i j = 1 := by rw [u, if_pos hij, if_pos c]
      have l := leaf (b + 1) i j hij hj c
      unfold waysV
      rw [if_pos hij, if_neg (by omega), if_pos h1]
      exact l
    · have h2 : fewV bd ks (b + 1) i j = lsV (fewV bd ks b) i j := by rw [u, if_pos hij, if_neg c]
      rw [h2] at h
      obtain ⟨k, hb, p1, p2, e⟩ := ls_two h
      obtain ⟨k1, k2⟩ := between_mem hb
      have w1 := ih i k k1 (by omega) p1
      have w2 := ih k j k2 hj p2
      rw [ways_sum (by omega) (by omega) hij]
      have nn : ∀ x ∈ meetsOf bd ks b i j, 0 ≤ waysV bd ks b i x * waysV bd ks b x j := fun x hx => by
        obtain ⟨x1, x2⟩ := meets_mem hx
        exact Int.mul_nonneg (ways_le hk b i x (by omega)).1 (ways_le hk b x j (by omega)).1
      have hm : k ∈ meetsOf bd ks b i j := List.mem_filter.mpr ⟨hb, by
        unfold meetP
        rw [decide_eq_true p1, decide_eq_true p2, decide_eq_true (by rw [e, h2])]; rfl⟩
      have g := sumW_ge nn hm
      have p := Int.mul_pos w1 w2
      omega
end
end IL
namespace IL
theorem call_run {T : Tbl} {f n : Nat} {d : Def} {ds : List D} {S : Store} {r : RS} {R0 : R D} (h : T.defs f = some d) (hl : ds.length = d.np) (k : execs (T.G n) d.body (start d.nl ds) S = r) (e : drop d.dr S.length (done d.fr r) = R0) : call T (n + 1) f ds S = R0 := by
  rw [call_at h hl, k]; exact e
theorem st_nx {G : G} {s : S} {ss : Ss} {σ σ' : List Slot} {S S' : Store} (h : exec G s σ S = .nx σ' S') : execs G (.cons s ss) σ S = execs G ss σ' S' := by rw [xs_cons, h]; rfl
theorem st_rt {G : G} {s : S} {ss : Ss} {σ : List Slot} {S S' : Store} {d : D} {o : Bool} (h : exec G s σ S = .rt d o S') : execs G (.cons s ss) σ S = .rt d o S' := by rw [xs_cons, h]; rfl
theorem st_ifT {G : G} {c : E} {t e : Ss} {σ : List Slot} {S S1 : Store} {r : RS} (h : evalE G σ c S = .ok (.bl true) S1) (k : execs G t σ S1 = r) : exec G (.iff c t e) σ S = r := by rw [iffT h]; exact k
theorem st_ifF {G : G} {c : E} {t e : Ss} {σ : List Slot} {S S1 : Store} {r : RS} (h : evalE G σ c S = .ok (.bl false) S1) (k : execs G e σ S1 = r) : exec G (.iff c t e) σ S = r := by rw [iffF h]; exact k
theorem st_for {G : G} {tg : Tg} {it : It} {b : Ss} {σ : List Slot} {S S1 : Store} {ds : List D} {r : RS} (h : evalIt G σ it S = .ok ds S1) (k : forLoop (forStep G tg b) ds σ S1 = r) : exec G (.for tg it b) σ S = r := by rw [x_for, h]; exact k
theorem for_cons {f : D → List Slot → Store → RS} {d : D} {ds : List D} {σ σ' : List Slot} {S S' : Store} (h : f d σ S = .nx σ' S') : forLoop f (d :: ds) σ S = forLoop f ds σ' S' := by
  show (f d σ S).then _ = _
  rw [h]; rfl
theorem it_ofS {G : G} {σ : List Slot} {a : E} {d : D} {ds : List D} {S S1 : Store} (hp : a.isPk = false) (h : evalE G σ a S = .ok d S1) (hs : seqIt d = some ds) : evalIt G σ (.of a) S = .ok ds S1 := by
  show (if a.isPk then R.bad else _) = _
  rw [hp, if_neg Bool.false_ne_true, h, R.bind_ok, hs]; rfl
theorem ev_isn {G : G} {σ : List Slot} {a : E} {x : D} {S S1 : Store} (h : evalE G σ a S = .ok x S1) : evalE G σ (.isn a) S = .ok (.bl (isN x)) S1 := by rw [e_isn, h]; rfl
end IL
namespace IL
def madeO (cs : List Int) (ks : List Tk) : Mk → Option Tk
  | .lf i => if 0 ≤ i ∧ i < ks.length then some (madeK ks (.lf i)) else none
  | .nd p l r => if p ∈ cs then (madeO cs ks l).bind fun a => (madeO cs ks r).map fun b => (a.1.take p.toNat ++ b.1.drop p.toNat, max a.2 b.2 + 1) else none
theorem madeO_len {sz : Int} {cs : List Int} {ks : List Tk} (sh : Shelf sz cs ks) : ∀ (m : Mk) (k : Tk), madeO cs ks m = some k → (k.1.length : Int) = sz
  | .lf i, k, h => by
    unfold madeO at h
    by_cases c : 0 ≤ i ∧ i < ks.length
    · rw [if_pos c] at h
      cases h
      exact made_len sh (.lf i) c
    · rw [if_neg c] at h; cases h
  | .nd p l r, k, h => by
    unfold madeO at h
    by_cases c : p ∈ cs
    · rw [if_pos c] at h
      cases hl : madeO cs ks l with
      | none => rw [hl] at h; cases h
      | some a =>
        cases hr : madeO cs ks r with
        | none => rw [hl, hr] at h; cases h
        | some b =>
          rw [hl, hr] at h
          have h : some (a.1.take p.toNat ++ b.1.drop p.toNat, max a.2 b.2 + 1) = some k := h
          cases h
          have h1 := madeO_len sh l a hl
          have h2 := madeO_len sh r b hr
          have hp := sh.cuts.rng p c
          show (((a.1.take p.toNat ++ b.1.drop p.toNat).length : Nat) : Int) = sz
          rw [List.length_append, List.length_take, List.length_drop]
          omega
    · rw [if_neg c] at h; cases h
end IL
namespace IL
theorem few_mono {sz : Int} {bd : List Int} {ks : List Tk} (B : Bd sz bd) (F : FitL sz bd ks) : ∀ (a i j : Nat), i < j → j < bd.length → 0 < fewV bd ks a i j → fewV bd ks (a + 1) i j ≤ fewV bd ks a i j
  | 0, i, j, hij, hj, h => by
    have u : fewV bd ks 0 i j = if i < j then (if bd.getD j 0 ≤ ownE bd ks 0 (bd.getD i 0) then 1 else 0) else 0 := rfl
    have u' : fewV bd ks (0 + 1) i j = if i < j then (if bd.getD j 0 ≤ ownE bd ks ((0 + 1 : Nat) : Int) (bd.getD i 0) then 1 else lsV (fewV bd ks 0) i j) else 0 := rfl
    have o := own_age 0 (b := ((0 + 1 : Nat) : Int)) (by decide) bd ks (bd.getD i 0)
    rw [u, if_pos hij] at h
    by_cases c : bd.getD j 0 ≤ ownE bd ks 0 (bd.getD i 0)
    · rw [u', if_pos hij, if_pos (by omega), u, if_pos hij, if_pos c]
      exact Int.le_refl _
    · rw [if_neg c] at h; omega
  | a + 1, i, j, hij, hj, h => by
    have u : fewV bd ks (a + 1) i j = if i < j then (if bd.getD j 0 ≤ ownE bd ks ((a + 1 : Nat) : Int) (bd.getD i 0) then 1 else lsV (fewV bd ks a) i j) else 0 := rfl
    have u' : fewV bd ks (a + 1 + 1) i j = if i < j then (if bd.getD j 0 ≤ ownE bd ks ((a + 1 + 1 : Nat) : Int) (bd.getD i 0) then 1 else lsV (fewV bd ks (a + 1)) i j) else 0 := rfl
    have o := own_age ((a + 1 : Nat) : Int) (b := ((a + 1 + 1 : Nat) : Int)) (by omega) bd ks (bd.getD i 0)
    rw [u', if_pos hij]
    by_cases c2 : bd.getD j 0 ≤ ownE bd ks ((a + 1 + 1 : Nat) : Int) (bd.getD i 0)
    · rw [if_pos c2]; omega
    · rw [if_neg c2]
      rw [u, if_pos hij, if_neg (by omega)] at h ⊢
      obtain ⟨k, hb, p1, p2, e⟩ := ls_two h
      obtain ⟨k1, k2⟩ := between_mem hb
      have m1 := few_mono B F a i k k1 (by omega) p1
      have m2 := few_mono B F a k j k2 hj p2
      have l := (lsV_le k1 k2 (few_step B F a i k p1) (few_step B F a k j p2)).2
      omega
theorem cln_fe {sz : Int} {bd : List Int} (B : Bord sz bd) {t : List Nat} (ho : ox t) (hl : (t.length : Int) = sz) {i j : Nat} (hij : i < j) (hj : j < bd.length) (c : Cln t (bd.getD i 0).toNat (bd.getD j 0).toNat) : bd.getD j 0 ≤ fe bd t (bd.getD i 0) := by
  have mi : bd.getD i 0 ∈ bd := List.mem_of_getElem? (get_at (by omega))
  have mj : bd.getD j 0 ∈ bd := List.mem_of_getElem? (get_at hj)
  have l := B.lt hij hj
  have ri := B.rng _ mi
  have rj := B.rng _ mj
  rw [fe_iff B ho hl hij hj, nxt_ge ho (by omega) (by omega)]
  refine List.ext_getElem? fun k => ?_
  by_cases h : k < (bd.getD j 0).toNat - (bd.getD i 0).toNat
  · rw [List.getElem?_take_of_lt h, List.getElem?_drop, c _ (by omega) (by omega), List.getElem?_replicate, if_pos h]
  · rw [List.getElem?_eq_none (by rw [List.length_take]; omega), List.getElem?_eq_none (by rw [List.length_replicate]; omega)]
theorem fit_in {bd : List Int} {a : Int} {i j : Nat} {k : Tk} (h1 : k.2 ≤ a) (h2 : bd.getD j 0 ≤ fe bd k.1 (bd.getD i 0)) : ∀ (ks : List Tk) (n x : Nat), ks[x]? = some k → n + x ∈ fitL bd a i j n ks
  | [], n, x, h => by cases h
  | q :: ks, n, 0, h => by
    cases h
    rw [fitL_cons, decide_eq_true h1, decide_eq_true h2]
    exact List.mem_cons_self
  | q :: ks, n, x + 1, h => by
    have ih := fit_in h1 h2 ks (n + 1) x h
    rw [show n + 1 + x = n + (x + 1) by omega] at ih
    rw [fitL_cons]
    by_cases c : (decide (q.2 ≤ a) && decide (bd.getD j 0 ≤ fe bd q.1 (bd.getD i 0))) = true
    · rw [if_pos c]; exact List.mem_cons_of_mem _ ih
    · rw [if_neg c]; exact ih
theorem few_own {bd : List Int} {ks : List Tk} {a i j : Nat} (hij : i < j) (h : bd.getD j 0 ≤ ownE bd ks (a : Int) (bd.getD i 0)) : fewV bd ks a i j = 1 := by
  cases a with
  | zero =>
    have h : bd.getD j 0 ≤ ownE bd ks 0 (bd.getD i 0) := h
    show (if i < j then (if bd.getD j 0 ≤ ownE bd ks 0 (bd.getD i 0) then 1 else 0) else 0) = (1 : Int)
    rw [if_pos hij, if_pos h]
  | succ a =>
    show (if i < j then (if bd.getD j 0 ≤ ownE bd ks ((a + 1 : Nat) : Int) (bd.getD i 0) then 1 else lsV (fewV bd ks a) i j) else 0) = (1 : Int)
    rw [if_pos hij, if_pos h]
theorem bd_at {sz p : Int} {cs : List Int} (h : p ∈ cs) : ∃ k, 0 < k ∧ k < cs.length + 1 ∧ ([0] ++ cs ++ [sz]).getD k 0 = p := by
  obtain ⟨q, hq, e⟩ := List.getElem_of_mem h
  refine ⟨q + 1, by omega, by omega, ?_⟩
  rw [List.getD_eq_getElem?_getD, List.append_assoc]
  show ((cs ++ [sz])[q]?).getD 0 = p
  rw [List.getElem?_append_left hq, List.getElem?_eq_getElem hq, e]; rfl
theorem madeO_age {sz : Int} {cs : List Int} {ks : List Tk} (sh : Shelf sz cs ks) : ∀ (m : Mk) (k : Tk), madeO cs ks m = some k → 0 ≤ k.2
  | .lf i, k, h => by
    unfold madeO at h
    by_cases c : 0 ≤ i ∧ i < ks.length
    · rw [if_pos c] at h
      cases h
      have g := tk_get c.1 c.2
      exact (sh.ok _ (List.mem_of_getElem? g)).2.2.1
    · rw [if_neg c] at h; cases h
  | .nd p l r, k, h => by
    unfold madeO at h
    by_cases c : p ∈ cs
    · rw [if_pos c] at h
      cases hl : madeO cs ks l with
      | none => rw [hl] at h; cases h
      | some a =>
        cases hr : madeO cs ks r with
        | none => rw [hl, hr] at h; cases h
        | some b =>
          rw [hl, hr] at h
          have h : some (a.1.take p.toNat ++ b.1.drop p.toNat, max a.2 b.2 + 1) = some k := h
          cases h
          have h1 := madeO_age sh l a hl
          show 0 ≤ max a.2 b.2 + 1
          omega
    · rw [if_neg c] at h; cases h
theorem clean_few {sz : Int} {cs : List Int} {ks : List Tk} (sh : Shelf sz cs ks) (h1 : sz ≤ 900) : ∀ (M : Mk) (k : Tk) (b i j : Nat), madeO cs ks M = some k → i < j → j < cs.length + 2 → k.2 ≤ b → Cln k.1 (([0] ++ cs ++ [sz]).getD i 0).toNat (([0] ++ cs ++ [sz]).getD j 0).toNat →
    0 < fewV ([0] ++ cs ++ [sz]) ks b i j ∧ fewV ([0] ++ cs ++ [sz]) ks b i j ≤ M.cnt ∧ (M.cnt = fewV ([0] ++ cs ++ [sz]) ks b i j → Good ([0] ++ cs ++ [sz]) ks M b i j)
  | .lf x, k, b, i, j, h, hij, hj, hb, c => by
    have B := bd_of sh.pos sh.cuts
    have bl : ([0] ++ cs ++ [sz]).length = cs.length + 2 := by simp
    generalize [0] ++ cs ++ [sz] = bd at *
    unfold madeO at h
    by_cases cx : 0 ≤ x ∧ x < ks.length
    · rw [if_pos cx] at h
      have g := tk_get cx.1 cx.2
      cases h
      generalize madeK ks (.lf x) = k at *
      obtain ⟨o1, o2, o3, o4⟩ := sh.ok k (List.mem_of_getElem? g)
      have f := cln_fe B.bord o1 o2 hij (by omega) c
      have f1 := few_own (ks := ks) (a := b) hij ((own_iff B (b : Int) hij (by omega)).mpr ⟨k, List.mem_of_getElem? g, hb, f⟩)
      refine ⟨by omega, by rw [f1]; exact Int.le_refl 1, fun _ => ⟨f1, x.toNat, ?_, by omega⟩⟩
      have := fit_in (a := (b : Int)) hb f ks 0 x.toNat g
      rw [Nat.zero_add] at this
      exact this
    · rw [if_neg cx] at h; cases h
  | .nd p l r, k, b, i, j, h, hij, hj, hb, c => by
    have cl := l.cnt_pos
    have cr := r.cnt_pos
    have ec : (Mk.nd p l r).cnt = l.cnt + r.cnt := rfl
    unfold madeO at h
    by_cases cp : p ∈ cs
    · rw [if_pos cp] at h
      cases hl : madeO cs ks l with
      | none => rw [hl] at h; cases h
      | some u =>
        cases hr : madeO cs ks r with
        | none => rw [hl, hr] at h; cases h
        | some v =>
          rw [hl, hr] at h
          have h : some (u.1.take p.toNat ++ v.1.drop p.toNat, max u.2 v.2 + 1) = some k := h
          cases h
          have a1 := madeO_age sh l u hl
          have a2 := madeO_age sh r v hr
          have l1 := madeO_len sh l u hl
          have l2 := madeO_len sh r v hr
          have hb : max u.2 v.2 + 1 ≤ (b : Int) := hb
          have c : Cln (u.1.take p.toNat ++ v.1.drop p.toNat) _ _ := c
          obtain ⟨b, rfl⟩ : ∃ q, b = q + 1 := ⟨b - 1, by omega⟩
          have pr := sh.cuts.rng p cp
          have gl : ∀ t, t < p.toNat → (u.1.take p.toNat ++ v.1.drop p.toNat)[t]? = u.1[t]? := fun t ht => by
            rw [List.getElem?_append_left (by rw [List.length_take]; omega), List.getElem?_take_of_lt ht]
          have gr : ∀ t, p.toNat ≤ t → (u.1.take p.toNat ++ v.1.drop p.toNat)[t]? = v.1[t]? := fun t ht => by
            rw [List.getElem?_append_right (by rw [List.length_take]; omega), List.length_take, List.getElem?_drop, show p.toNat + (t - min p.toNat u.1.length) = t by omega]
          have B := bd_of sh.pos sh.cuts
          have F := fitL_of sh h1
          have bl : ([0] ++ cs ++ [sz]).length = cs.length + 2 := by simp
          obtain ⟨q, q0, q1, eq⟩ := bd_at (sz := sz) cp
          have IL := clean_few sh h1 l u
          have IR := clean_few sh h1 r v
          generalize [0] ++ cs ++ [sz] = bd at *
          have mi : bd.getD i 0 ∈ bd := List.mem_of_getElem? (get_at (by omega))
          have ri := B.bord.rng _ mi
          by_cases c1 : p ≤ bd.getD i 0
          · obtain ⟨i1, i2, _⟩ := IR b i j hr hij hj (by omega) fun t t1 t2 => by rw [← gr t (by omega)]; exact c t t1 t2
            have m := few_mono B F b i j hij (by omega) i1
            have s := few_step B F b i j i1
            exact ⟨s, by omega, fun e => by omega⟩
          · by_cases c2 : bd.getD j 0 ≤ p
            · obtain ⟨i1, i2, _⟩ := IL b i j hl hij hj (by omega) fun t t1 t2 => by rw [← gl t (by omega)]; exact c t t1 t2
              have m := few_mono B F b i j hij (by omega) i1
              have s := few_step B F b i j i1
              exact ⟨s, by omega, fun e => by omega⟩
            · have k1 : i < q := by
                rcases Nat.lt_or_ge i q with z | z
                · exact z
                · rcases Nat.eq_or_lt_of_le z with z | z
                  · subst z; omega
                  · have := B.bord.lt z (by omega); omega
              have k2 : q < j := by
                rcases Nat.lt_or_ge q j with z | z
                · exact z
                · rcases Nat.eq_or_lt_of_le z with z | z
                  · subst z; omega
                  · have := B.bord.lt z (by omega); omega
              obtain ⟨i1, i2, i3⟩ := IL b i q hl k1 (by omega) (by omega) fun t t1 t2 => by rw [eq] at t2; rw [← gl t (by omega)]; exact c t t1 (by omega)
              obtain ⟨j1, j2, j3⟩ := IR b q j hr k2 hj (by omega) fun t t1 t2 => by rw [eq] at t1; rw [← gr t (by omega)]; exact c t (by omega) t2
              have ls := lsV_le k1 k2 i1 j1
              have uf : fewV bd ks (b + 1) i j = if i < j then (if bd.getD j 0 ≤ ownE bd ks ((b + 1 : Nat) : Int) (bd.getD i 0) then 1 else lsV (fewV bd ks b) i j) else 0 := rfl
              rw [if_pos hij] at uf
              have fb : 0 < fewV bd ks (b + 1) i j ∧ fewV bd ks (b + 1) i j ≤ fewV bd ks b i q + fewV bd ks b q j := by
                rw [uf]
                by_cases co : bd.getD j 0 ≤ ownE bd ks ((b + 1 : Nat) : Int) (bd.getD i 0)
                · rw [if_pos co]; omega
                · rw [if_neg co]; exact ls
              refine ⟨fb.1, by omega, fun e => ?_⟩
              refine ⟨by omega, by omega, b, q, rfl, ?_, eq.symm, i3 (by omega), j3 (by omega)⟩
              refine List.mem_filter.mpr ⟨List.mem_map.mpr ⟨q - (i + 1), List.mem_range.mpr (by omega), by omega⟩, ?_⟩
              unfold meetP
              rw [decide_eq_true i1, decide_eq_true j1, decide_eq_true (by omega)]; rfl
    · rw [if_neg cp] at h; cases h
theorem madeO_ok {cs : List Int} {ks : List Tk} : ∀ (m : Mk), m.ok ks.length cs → madeO cs ks m = some (madeK ks m)
  | .lf i, h => by
    have h : 0 ≤ i ∧ i < ks.length := h
    unfold madeO
    rw [if_pos h]
  | .nd p l r, h => by
    unfold madeO
    rw [if_pos h.1, madeO_ok l h.2.1, madeO_ok r h.2.2]; rfl
end IL
namespace IL
def jn (o q : List Nat × Int) (p : Int) : List Nat × Int := (o.1.take p.toNat ++ q.1.drop p.toNat, max o.2 q.2 + 1)
def cands (cs : List Int) (L : Dc) : Dc := L.flatMap fun o => L.flatMap fun q => cs.map fun p => jn o q p
def rnd (cs : List Int) (L : Dc) : Dc := pfold (cands cs L) L
def rnds (cs : List Int) (L : Dc) : Nat → Dc
  | 0 => L
  | n + 1 => rnd cs (rnds cs L n)
def youngL (cs : List Int) (ks : List Tk) : Dc := rnds cs (pfold ks []) 7
theorem cands_mem {cs : List Int} {L : Dc} {x : List Nat × Int} (h : x ∈ cands cs L) : ∃ o ∈ L, ∃ q ∈ L, ∃ p ∈ cs, x = jn o q p := by
  obtain ⟨o, ho, h⟩ := List.mem_flatMap.mp h
  obtain ⟨q, hq, h⟩ := List.mem_flatMap.mp h
  obtain ⟨p, hp, e⟩ := List.mem_map.mp h
  exact ⟨o, ho, q, hq, p, hp, e.symm⟩
def Snd (cs : List Int) (ks : List Tk) (L : Dc) : Prop := ∀ x ∈ L, ∃ M, madeO cs ks M = some x
theorem jn_ok {sz : Int} {cs : List Int} {ks : List Tk} (sh : Shelf sz cs ks) {o q : List Nat × Int} {p : Int} (h1 : ox o.1 ∧ o.1.length = sz.toNat) (h2 : ox q.1 ∧ q.1.length = sz.toNat) (hp : p ∈ cs) : ox (jn o q p).1 ∧ (jn o q p).1.length = sz.toNat := by
  have := sh.cuts.rng p hp
  refine ⟨fun c hc => ?_, ?_⟩
  · rcases List.mem_append.mp hc with z | z
    · exact h1.1 c (List.mem_of_mem_take z)
    · exact h2.1 c (List.mem_of_mem_drop z)
  · show (o.1.take p.toNat ++ q.1.drop p.toNat).length = _
    rw [List.length_append, List.length_take, List.length_drop]
    omega
theorem pfold_ok {n : Nat} : ∀ (l : Dc) {L : Dc}, DcOk n L → (∀ x ∈ l, ox x.1 ∧ x.1.length = n) → DcOk n (pfold l L)
  | [], L, h, _ => h
  | x :: l, L, h, hl => pfold_ok l (h.min x.2 (hl x List.mem_cons_self).1 (hl x List.mem_cons_self).2) fun y hy => hl y (List.mem_cons_of_mem _ hy)
theorem cands_ok {sz : Int} {cs : List Int} {ks : List Tk} (sh : Shelf sz cs ks) {L : Dc} (h : DcOk sz.toNat L) : ∀ x ∈ cands cs L, ox x.1 ∧ x.1.length = sz.toNat := fun x hx => by
  obtain ⟨o, ho, q, hq, p, hp, e⟩ := cands_mem hx
  rw [e]
  exact jn_ok sh (h.tx o ho) (h.tx q hq) hp
theorem rnd_ok {sz : Int} {cs : List Int} {ks : List Tk} (sh : Shelf sz cs ks) {L : Dc} (h : DcOk sz.toNat L) : DcOk sz.toNat (rnd cs L) := pfold_ok _ h (cands_ok sh h)
theorem rnd_snd {cs : List Int} {ks : List Tk} {L : Dc} (h : Snd cs ks L) : Snd cs ks (rnd cs L) := fun x hx => by
  rcases fold_mem _ _ x hx with z | z
  · exact h x z
  · obtain ⟨o, ho, q, hq, p, hp, e⟩ := cands_mem z
    obtain ⟨M, hM⟩ := h o ho
    obtain ⟨N, hN⟩ := h q hq
    refine ⟨.nd p M N, ?_⟩
    unfold madeO
    rw [if_pos hp, hM, hN, e]; rfl
theorem ks_ok {sz : Int} {cs : List Int} {ks : List Tk} (sh : Shelf sz cs ks) : ∀ x ∈ ks, ox x.1 ∧ x.1.length = sz.toNat := fun x hx => by
  obtain ⟨h1, h2, _, _⟩ := sh.ok x hx
  exact ⟨h1, by omega⟩
theorem nil_ok {n : Nat} : DcOk n [] := ⟨List.nodup_nil, fun p h => nomatch h⟩
theorem first_ok {sz : Int} {cs : List Int} {ks : List Tk} (sh : Shelf sz cs ks) : DcOk sz.toNat (pfold ks []) := pfold_ok ks nil_ok (ks_ok sh)
theorem first_snd {cs : List Int} {ks : List Tk} : Snd cs ks (pfold ks []) := fun x hx => by
  rcases fold_mem ks [] x hx with z | z
  · cases z
  · obtain ⟨i, hi, e⟩ := List.getElem_of_mem z
    have g : ks[((i : Nat) : Int).toNat]? = some (madeK ks (.lf (i : Nat))) := tk_get (by omega) (by omega)
    have g2 : ks[i]? = some x := by rw [List.getElem?_eq_getElem hi, e]
    have g : ks[i]? = some (madeK ks (.lf (i : Nat))) := g
    rw [g2] at g
    refine ⟨.lf (i : Nat), ?_⟩
    unfold madeO
    rw [if_pos ⟨by omega, by omega⟩]
    exact g.symm
theorem rnds_ok {sz : Int} {cs : List Int} {ks : List Tk} (sh : Shelf sz cs ks) {L : Dc} (h : DcOk sz.toNat L) : ∀ n, DcOk sz.toNat (rnds cs L n)
  | 0 => h
  | n + 1 => rnd_ok sh (rnds_ok sh h n)
theorem rnds_snd {cs : List Int} {ks : List Tk} {L : Dc} (h : Snd cs ks L) : ∀ n, Snd cs ks (rnds cs L n)
  | 0 => h
  | n + 1 => rnd_snd (rnds_snd h n)
theorem rnds_all {cs : List Int} {ks : List Tk} : ∀ (n : Nat) (M : Mk) (k : Tk), madeO cs ks M = some k → M.dep ≤ n → ∃ a, a ≤ k.2 ∧ pget (rnds cs (pfold ks []) n) k.1 = some a
  | 0, .lf i, k, h, _ => by
    unfold madeO at h
    by_cases c : 0 ≤ i ∧ i < ks.length
    · rw [if_pos c] at h
      cases h
      have g := tk_get c.1 c.2
      exact fold_in ks [] _ (List.mem_of_getElem? g)
    · rw [if_neg c] at h; cases h
  | 0, .nd p l r, k, h, d => by
    have d : max l.dep r.dep + 1 ≤ 0 := d
    omega
  | n + 1, .lf i, k, h, _ => by
    obtain ⟨a, h1, h2⟩ := rnds_all n (.lf i) k h (Nat.zero_le _)
    obtain ⟨y, h3, h4⟩ := fold_le (cands cs (rnds cs (pfold ks []) n)) (rnds cs (pfold ks []) n) k.1 a h2
    exact ⟨y, by omega, h4⟩
  | n + 1, .nd p l r, k, h, d => by
    have d : max l.dep r.dep + 1 ≤ n + 1 := d
    unfold madeO at h
    by_cases c : p ∈ cs
    · rw [if_pos c] at h
      cases hl : madeO cs ks l with
      | none => rw [hl] at h; cases h
      | some u =>
        cases hr : madeO cs ks r with
        | none => rw [hl, hr] at h; cases h
        | some v =>
          rw [hl, hr] at h
          have h : some (u.1.take p.toNat ++ v.1.drop p.toNat, max u.2 v.2 + 1) = some k := h
          cases h
          obtain ⟨a, a1, a2⟩ := rnds_all n l u hl (by omega)
          obtain ⟨b, b1, b2⟩ := rnds_all n r v hr (by omega)
          have m : jn (u.1, a) (v.1, b) p ∈ cands cs (rnds cs (pfold ks []) n) :=
            List.mem_flatMap.mpr ⟨_, pget_mem a2, List.mem_flatMap.mpr ⟨_, pget_mem b2, List.mem_map.mpr ⟨p, c, rfl⟩⟩⟩
          obtain ⟨y, h1, h2⟩ := fold_in _ (rnds cs (pfold ks []) n) _ m
          have h1 : y ≤ max a b + 1 := h1
          exact ⟨y, by show y ≤ max u.2 v.2 + 1; omega, h2⟩
    · rw [if_neg c] at h; cases h
theorem young_snd {cs : List Int} {ks : List Tk} : Snd cs ks (youngL cs ks) := rnds_snd first_snd 7
theorem yng_all {cs : List Int} {ks : List Tk} (M : Mk) (k : Tk) (h : madeO cs ks M = some k) (d : M.dep ≤ 7) : ∃ a, a ≤ k.2 ∧ pget (youngL cs ks) k.1 = some a := rnds_all 7 M k h d
section
variable {sz : Int} {cs : List Int} {ks : List Tk}
theorem made_piece (sh : Shelf sz cs ks) {i : Nat} (hi : i + 1 < cs.length + 2) : ∀ (M : Mk) (k : Tk), madeO cs ks M = some k → Cln k.1 (([0] ++ cs ++ [sz]).getD i 0).toNat (([0] ++ cs ++ [sz]).getD (i + 1) 0).toNat →
    ∃ t ∈ ks, Cln t.1 (([0] ++ cs ++ [sz]).getD i 0).toNat (([0] ++ cs ++ [sz]).getD (i + 1) 0).toNat
  | .lf x, k, h, c => by
    unfold madeO at h
    by_cases cx : 0 ≤ x ∧ x < ks.length
    · rw [if_pos cx] at h
      cases h
      exact ⟨_, List.mem_of_getElem? (tk_get cx.1 cx.2), c⟩
    · rw [if_neg cx] at h; cases h
  | .nd p l r, k, h, c => by
    unfold madeO at h
    by_cases cp : p ∈ cs
    · rw [if_pos cp] at h
      cases hl : madeO cs ks l with
      | none => rw [hl] at h; cases h
      | some u =>
        cases hr : madeO cs ks r with
        | none => rw [hl, hr] at h; cases h
        | some v =>
          rw [hl, hr] at h
          have h : some (u.1.take p.toNat ++ v.1.drop p.toNat, max u.2 v.2 + 1) = some k := h
          cases h
          have l1 := madeO_len sh l u hl
          have l2 := madeO_len sh r v hr
          have c : Cln (u.1.take p.toNat ++ v.1.drop p.toNat) _ _ := c
          have pr := sh.cuts.rng p cp
          have gl : ∀ t, t < p.toNat → (u.1.take p.toNat ++ v.1.drop p.toNat)[t]? = u.1[t]? := fun t ht => by
            rw [List.getElem?_append_left (by rw [List.length_take]; omega), List.getElem?_take_of_lt ht]
          have gr : ∀ t, p.toNat ≤ t → (u.1.take p.toNat ++ v.1.drop p.toNat)[t]? = v.1[t]? := fun t ht => by
            rw [List.getElem?_append_right (by rw [List.length_take]; omega), List.length_take, List.getElem?_drop, show p.toNat + (t - min p.toNat u.1.length) = t by omega]
          have B := bd_of sh.pos sh.cuts
          obtain ⟨q, q0, q1, eq⟩ := bd_at (sz := sz) cp
          have IL := made_piece sh hi l u hl
          have IR := made_piece sh hi r v hr
          have bl : ([0] ++ cs ++ [sz]).length = cs.length + 2 := by simp
          generalize [0] ++ cs ++ [sz] = bd at *
          by_cases c1 : q ≤ i
          · refine IR fun t t1 t2 => ?_
            have : p ≤ bd.getD i 0 := by
              rcases Nat.eq_or_lt_of_le c1 with z | z
              · rw [← z, eq]; exact Int.le_refl _
              · have := B.bord.lt z (by omega); omega
            rw [← gr t (by omega)]; exact c t t1 t2
          · refine IL fun t t1 t2 => ?_
            have : bd.getD (i + 1) 0 ≤ p := by
              rcases Nat.eq_or_lt_of_le (show i + 1 ≤ q by omega) with z | z
              · rw [z, eq]; exact Int.le_refl _
              · have := B.bord.lt z (by omega); omega
            rw [← gl t (by omega)]; exact c t t1 t2
    · rw [if_neg cp] at h; cases h
theorem barF_all {bd : List Int} : ∀ (n i : Nat), (∀ j, i ≤ j → j < i + n → cleanIn ks (bd.getD j 0).toNat (bd.getD (j + 1) 0).toNat = true) → barF bd ks i n = none
  | 0, i, _ => rfl
  | n + 1, i, h => by
    unfold barF
    rw [h i (Nat.le_refl _) (by omega)]
    exact barF_all n (i + 1) fun j j1 j2 => h j (by omega) (by omega)
theorem young_least (sh : Shelf sz cs ks) (h5 : sz ≤ 5) : pget (youngL cs ks) (List.replicate sz.toNat 111) = (leastO sz ([0] ++ cs ++ [sz]) ks).map fun A => (A : Int) := by
  have B := bd_of sh.pos sh.cuts
  have F := fitL_of sh (by omega)
  have cl := sh.cuts.len
  have kl := sh.len
  have ps := sh.pos
  have bl : ([0] ++ cs ++ [sz]).length = cs.length + 2 := by simp
  have CF := fun M k b i j => clean_few sh (by omega) M k b i j
  have GB := fun (A : Nat) (hA : leastO sz ([0] ++ cs ++ [sz]) ks = some A) (M : Mk) => good_best sh (by omega) hA (M := M)
  have GO := fun M a i j => good_okM (sz := sz) (cs := cs) (ks := ks) M a i j
  have MP := fun (i : Nat) (hi : i + 1 < cs.length + 2) => made_piece sh hi
  have ys := young_snd (cs := cs) (ks := ks)
  have ya := yng_all (cs := cs) (ks := ks)
  have ag := madeO_age sh
  have ok := fun k hk => sh.ok k hk
  generalize [0] ++ cs ++ [sz] = bd at *
  obtain ⟨e0, e1⟩ := ends_at B
  rw [bl, show cs.length + 2 - 1 = cs.length + 1 by omega] at e1
  -- an entry: the row reaches, no piece is barred
  have ent : ∀ x, pget (youngL cs ks) (List.replicate sz.toNat 111) = some x → 0 ≤ x ∧ rowE bd ks x.toNat 0 = sz ∧ barF bd ks 0 (bd.length - 1) = none := by
    intro x hx
    obtain ⟨M, hM⟩ := ys _ (pget_mem hx)
    have x0 := ag M _ hM
    have x0 : 0 ≤ x := x0
    have call : ∀ i j, i < j → j < cs.length + 2 → Cln (List.replicate sz.toNat 111) (bd.getD i 0).toNat (bd.getD j 0).toNat := fun i j _ hj t _ t2 => by
      have mj : bd.getD j 0 ∈ bd := List.mem_of_getElem? (get_at (by omega))
      have := (B.bord.rng _ mj).2
      rw [List.getElem?_replicate, if_pos (by omega)]
    have f := (CF M _ x.toNat 0 (cs.length + 1) hM (by omega) (by omega) (by show x ≤ _; omega) (call _ _ (by omega) (by omega))).1
    refine ⟨x0, (row_iff B F x.toNat).mpr (by rw [bl]; exact f), barF_all _ _ fun j _ hj => ?_⟩
    obtain ⟨t, ht, c⟩ := MP j (by omega) M _ hM (call j (j + 1) (by omega) (by omega))
    obtain ⟨o1, o2, _, _⟩ := ok t ht
    unfold cleanIn
    rw [List.any_eq_true]
    refine ⟨t, ht, decide_eq_true ?_⟩
    exact (fe_iff B.bord o1 o2 (Nat.lt_succ_self j) (by omega)).mp (cln_fe B.bord o1 o2 (Nat.lt_succ_self j) (by omega) c)
  cases hA : leastO sz bd ks with
  | none =>
    cases hx : pget (youngL cs ks) (List.replicate sz.toNat 111) with
    | none => rfl
    | some x =>
      exfalso
      obtain ⟨_, _, hb⟩ := ent x hx
      obtain ⟨_, A, _, _, _, _, _, _, h7⟩ := least_some B (by omega) (fun k hk => (ok k hk).2.2) hb
      rw [hA] at h7; cases h7
  | some A =>
    obtain ⟨_, hb⟩ := least_le B (by omega) (fun k hk => (ok k hk).2.2) hA
    obtain ⟨_, A', _, _, _, _, hr, hm, h7⟩ := least_some B (by omega) (fun k hk => (ok k hk).2.2) hb
    rw [hA] at h7
    cases h7
    have fp : 0 < fewV bd ks A 0 (cs.length + 1) := by have := (row_iff B F A).mp hr; rw [bl] at this; exact this
    have wp := ways_pos B (by omega) (by omega) A 0 (cs.length + 1) (by omega) (by omega) fp
    have g := good_make (ks := ks) (by omega) A 0 (cs.length + 1) 0 (by omega) (by omega) (Int.le_refl _) wp
    have dp := good_dep _ A 0 (cs.length + 1) (by omega) g
    have okM := GO _ A 0 (cs.length + 1) (by omega) (by omega) g
    have gb := GB A hA _ g
    generalize makeV bd ks A 0 (cs.length + 1) 0 = M at *
    obtain ⟨x, x1, x2⟩ := ya M _ (madeO_ok M okM) (by omega)
    rw [gb] at x1 x2
    have x1 : x ≤ (A : Int) := x1
    obtain ⟨x0, xr, _⟩ := ent x x2
    have : A ≤ x.toNat := by
      rcases Nat.lt_or_ge x.toNat A with q | q
      · have := hm _ q; omega
      · exact q
    have e : x = (A : Int) := by omega
    rw [e] at x2
    exact x2
end
end IL
namespace IL
theorem get_at_p {G : G} {σ : List Slot} {S : Store} {L : Dc} {n : Nat} {i j k : Nat} {t : List Nat} {a : Int} (hi : σ[i]? = some (.val (.ref n))) (hj : σ[j]? = some (.val (.str t))) (hk : σ[k]? = some (.val (.int a))) (hs : S[n]? = some (.dct (pks L) (pvs L))) :
    evalE G σ (.met .get (.v i) (.cons (.v j) (.cons (.v k) .nil))) S = .ok (.int ((pget L t).getD a)) S := by
  rw [e_met, if_neg (by show ¬(false = true); decide), ev_v hi, R.bind_ok]
  have r : rcv .get (.ref n) S = true := by
    show (match S[n]? with | some (.dct _ _) => true | some (.dcl _ _) => true | _ => false) = true
    rw [hs]
  rw [r, if_pos rfl]
  have e : evalEs G σ (.cons (.v j) (.cons (.v k) .nil)) S = .ok [.str t, .int a] S := by
    show (evalE G σ (.v j) S).bind _ = _
    rw [ev_v hj, R.bind_ok]
    show ((evalE G σ (.v k) S).bind _).bind _ = _
    rw [ev_v hk, R.bind_ok]; rfl
  rw [e, R.bind_ok]
  have m : metD S .get (.ref n) [.str t, .int a] = some (.int ((pget L t).getD a), S) := by
    show (match S[n]? with
      | some (.dct ks ds) => (D.str t).ky.map fun k => ((kget ks ds k).getD (.int a), S)
      | some (.dcl ks ds) => (D.str t).ky.map fun k => ((kget ks ds k).getD (.int a), S)
      | _ => none) = _
    rw [hs]
    show some ((kget (pks L) (pvs L) (.s t)).getD (.int a), S) = _
    rw [kget_p]
    cases pget L t <;> rfl
  rw [m]
theorem setd_min {G : G} {σ : List Slot} {S : Store} {L : Dc} {n : Nat} {i j k : Nat} {t : List Nat} {a : Int} (hi : σ[i]? = some (.val (.ref n))) (hj : σ[j]? = some (.val (.str t))) (hk : σ[k]? = some (.val (.int a))) (hs : S[n]? = some (.dct (pks L) (pvs L))) (hl : L.length < line) :
    exec G (.setd (.v i) (.v j) (.blt .min2 (.cons (.v k) (.cons (.met .get (.v i) (.cons (.v j) (.cons (.v k) .nil))) .nil)))) σ S = .nx σ (S.set n (.dct (pks (pmin L t a)) (pvs (pmin L t a)))) := by
  rw [x_setd, if_neg (by show ¬(false = true); decide)]
  have e : evalE G σ (.blt .min2 (.cons (.v k) (.cons (.met .get (.v i) (.cons (.v j) (.cons (.v k) .nil))) .nil))) S = .ok (.int (mn a ((pget L t).getD a))) S := by
    rw [e_blt]
    show ((evalE G σ (.v k) S).bind _).bind _ = _
    rw [ev_v hk, R.bind_ok]
    show (((evalE G σ (.met .get (.v i) (.cons (.v j) (.cons (.v k) .nil))) S).bind _).bind _).bind _ = _
    rw [get_at_p hi hj hk hs, R.bind_ok]
    rfl
  rw [e, R.toS_ok, ev_v hi, R.toS_ok, ev_v hj, R.toS_ok]
  dsimp only
  rw [hs]
  show (if (pks L).length < line then RS.nx σ (S.set n (.dct (kput (pks L) (pvs L) (.s t) (.int (mn a ((pget L t).getD a)))).1 (kput (pks L) (pvs L) (.s t) (.int (mn a ((pget L t).getD a)))).2)) else .bad) = _
  rw [if_pos (by rw [pks_len]; exact hl), kput_p]
  rfl
theorem app_at {A : Store} {x : Obj} : (A ++ [x])[A.length]? = some x := by rw [List.getElem?_append_right (Nat.le_refl _), Nat.sub_self]; rfl
theorem app_set {A : Store} {x y : Obj} : (A ++ [x]).set A.length y = A ++ [y] := by rw [List.set_append_right _ _ (Nat.le_refl _), Nat.sub_self]; rfl
theorem line_big {n : Nat} (h : n ≤ 2 ^ 5) : n < line := by unfold line; omega
section
variable {G : G} {sz : Int} {cs : List Int} {ks : List Tk}
abbrev gmin (i : Nat) : S := .setd (.v i) (.v 4) (.blt .min2 (.cons (.v 5) (.cons (.met .get (.v i) (.cons (.v 4) (.cons (.v 5) .nil))) .nil)))
theorem first_loop {N : Nat} (hN : N ≤ 5) (CD KD : D) (A : Store) (v3 v6 v7 v8 v9 : Slot) : ∀ (l : List Tk) (L : Dc) (z4 z5 : Slot), DcOk N L → (∀ x ∈ l, ox x.1 ∧ x.1.length = N) →
    ∃ w4 w5, forLoop (forStep G (.t2 (.v 4) (.v 5)) (.cons (gmin 2) .nil)) (l.map tkD) [.val CD, .val KD, .val (.ref A.length), v3, z4, z5, v6, v7, v8, v9] (A ++ [.dct (pks L) (pvs L)]) = .nx [.val CD, .val KD, .val (.ref A.length), v3, w4, w5, v6, v7, v8, v9] (A ++ [.dct (pks (pfold l L)) (pvs (pfold l L))])
  | [], L, z4, z5, _, _ => ⟨z4, z5, rfl⟩
  | x :: l, L, z4, z5, hL, hl => by
    obtain ⟨h1, h2⟩ := hl x List.mem_cons_self
    obtain ⟨w4, w5, ih⟩ := first_loop hN CD KD A v3 v6 v7 v8 v9 l (pmin L x.1 x.2) (.val (.str x.1)) (.val (.int x.2)) (hL.min x.2 h1 h2) fun y hy => hl y (List.mem_cons_of_mem _ hy)
    refine ⟨w4, w5, ?_⟩
    rw [List.map_cons]
    have len := hL.len
    have hp : 2 ^ N ≤ 2 ^ 5 := Nat.pow_le_pow_right (by decide) hN
    refine (for_cons (σ' := [.val CD, .val KD, .val (.ref A.length), v3, .val (.str x.1), .val (.int x.2), v6, v7, v8, v9]) (S' := A ++ [.dct (pks (pmin L x.1 x.2)) (pvs (pmin L x.1 x.2))]) ?_).trans ih
    show execs G (.cons (gmin 2) .nil) [.val CD, .val KD, .val (.ref A.length), v3, .val (.str x.1), .val (.int x.2), v6, v7, v8, v9] (A ++ [.dct (pks L) (pvs L)]) = _
    refine (st_nx (setd_min (t := x.1) (a := x.2) rfl rfl rfl app_at (line_big (by omega)))).trans ?_
    rw [app_set]; rfl
theorem place_loop {N : Nat} (hN : N ≤ 5) (CD KD : D) (A : Store) (r2 : Nat) (v3 : Slot) {o q : List Nat × Int} (ho : ox o.1 ∧ o.1.length = N) (hq : ox q.1 ∧ q.1.length = N) : ∀ (l : List Int) (L : Dc) (z4 z9 : Slot), DcOk N L → (∀ p ∈ l, 1 ≤ p ∧ p < N) →
    ∃ w4 w9, forLoop (forStep G (.v 9) (.cons (.set 4 0 (.bin .add (.slU (.v 7) (.v 9)) (.slL (.v 8) (.v 9)))) (.cons (gmin 6) .nil))) (dI l) [.val CD, .val KD, .val (.ref r2), v3, z4, .val (.int (max o.2 q.2 + 1)), .val (.ref A.length), .val (.str o.1), .val (.str q.1), z9] (A ++ [.dct (pks L) (pvs L)])
      = .nx [.val CD, .val KD, .val (.ref r2), v3, w4, .val (.int (max o.2 q.2 + 1)), .val (.ref A.length), .val (.str o.1), .val (.str q.1), w9] (A ++ [.dct (pks (pfold (l.map fun p => jn o q p) L)) (pvs (pfold (l.map fun p => jn o q p) L))])
  | [], L, z4, z9, _, _ => ⟨z4, z9, rfl⟩
  | p :: l, L, z4, z9, hL, hl => by
    obtain ⟨p1, p2⟩ := hl p List.mem_cons_self
    have jo : ox (jn o q p).1 ∧ (jn o q p).1.length = N := by
      refine ⟨fun c hc => ?_, ?_⟩
      · rcases List.mem_append.mp hc with z | z
        · exact ho.1 c (List.mem_of_mem_take z)
        · exact hq.1 c (List.mem_of_mem_drop z)
      · show (o.1.take p.toNat ++ q.1.drop p.toNat).length = _
        rw [List.length_append, List.length_take, List.length_drop]
        omega
    obtain ⟨w4, w9, ih⟩ := place_loop hN CD KD A r2 v3 ho hq l (pmin L (jn o q p).1 (jn o q p).2) (.val (.str (jn o q p).1)) (.val (.int p)) (hL.min _ jo.1 jo.2) fun y hy => hl y (List.mem_cons_of_mem _ hy)
    refine ⟨w4, w9, ?_⟩
    have len := hL.len
    have hp : 2 ^ N ≤ 2 ^ 5 := Nat.pow_le_pow_right (by decide) hN
    refine (for_cons (σ' := [.val CD, .val KD, .val (.ref r2), v3, .val (.str (jn o q p).1), .val (.int (max o.2 q.2 + 1)), .val (.ref A.length), .val (.str o.1), .val (.str q.1), .val (.int p)]) (S' := A ++ [.dct (pks (pmin L (jn o q p).1 (jn o q p).2)) (pvs (pmin L (jn o q p).1 (jn o q p).2))]) ?_).trans ih
    show execs G (.cons (.set 4 0 (.bin .add (.slU (.v 7) (.v 9)) (.slL (.v 8) (.v 9)))) (.cons (gmin 6) .nil)) [.val CD, .val KD, .val (.ref r2), v3, z4, .val (.int (max o.2 q.2 + 1)), .val (.ref A.length), .val (.str o.1), .val (.str q.1), .val (.int p)] (A ++ [.dct (pks L) (pvs L)]) = _
    have c1 := cut_hi o.1 (i := p) (by omega)
    have c2 := cut_lo q.1 (i := p) (by omega)
    have l1 : o.1.length ≤ line := by unfold line; omega
    have l2 : q.1.length ≤ line := by unfold line; omega
    have l3 : (o.1.take p.toNat).length + (q.1.drop p.toNat).length ≤ line := by rw [List.length_take, List.length_drop]; unfold line; omega
    refine (st_nx (σ' := [.val CD, .val KD, .val (.ref r2), v3, .val (.str (jn o q p).1), .val (.int (max o.2 q.2 + 1)), .val (.ref A.length), .val (.str o.1), .val (.str q.1), .val (.int p)]) (S' := A ++ [.dct (pks L) (pvs L)]) (by
      unfold jn
      simp (decide := true) only [start, xs_nil, xs_cons, evalEs, evalAnd, evalOr, evalIt, e_v, e_pk, e_k, e_g, e_bin, e_chn, e_isn, e_ntn, e_neg, e_not, e_and, e_or, e_ite, e_tup, e_lst, e_dct0, e_idx, e_slL, e_slU, e_slB, e_rev, e_call, e_blt, e_met, e_cell, x_set, x_fz, x_unp, x_aug, x_ex, x_app, x_popA, x_ins, x_setx, x_sets, x_augs, x_iff, x_ret, x_mov, x_pass, x_for, x_whl, e_lc, idxD, idxO, atI, ixN, bop, drop, done, mkSlot, E.isPk, Es.anyPk, guard, G_call, G_fr, G_con, E.alloc, bltD, lenD, augD, intOf, sliceD, rcv_join, rcv_index, rcv_find, eqv_ii, eqv_bb, eqv_ss, eqv_nn, D.scal, List.all_cons, List.all_nil, reduceCtorEq, Int.reduceEq, asg, Tg.vars, wipe, noOwn, isTy, isN, Es.len, R.nox_ok, R.of_none, R.bind_ok, R.of_some, R.toS_ok, RS.then_nx, RS.then_rt, List.map_cons, List.map_nil, List.length_cons, List.length_nil, List.length_map, List.getElem?_map, List.cons_append, List.nil_append, List.replicate, List.getElem?_cons_zero, List.getElem?_cons_succ, List.set_cons_zero, List.set_cons_succ, List.set_set, Option.bind_some, Option.map_some, reduceIte, decide_true, decide_false, Bool.and_true, Bool.true_and, Bool.or_true, Bool.true_or, Bool.or_false, Bool.false_or, Bool.not_true, Bool.not_false, Bool.and_false, Bool.false_and, Bool.false_eq_true, Nat.reduceAdd, Nat.reduceSub, Nat.reduceLT, Int.reduceLT, Int.reduceLE, Int.reduceToNat, decide_eq_true_eq, Int.cast_ofNat_Int, c1, c2, l1, l2, l3])).trans ?_
    refine (st_nx (setd_min (t := (jn o q p).1) (a := (jn o q p).2) rfl rfl rfl app_at (line_big (by omega)))).trans ?_
    rw [app_set]; rfl
abbrev placeB : Ss := .cons (.set 4 0 (.bin .add (.slU (.v 7) (.v 9)) (.slL (.v 8) (.v 9)))) (.cons (gmin 6) .nil)
abbrev otherB : Ss := .cons (.set 5 0 (.bin .add (.blt .max2 (.cons (.idx (.v 2) (.v 7)) (.cons (.idx (.v 2) (.v 8)) .nil))) (.k (.int 1)))) (.cons (.for (.v 9) (.of (.v 0)) placeB) .nil)
theorem idx_known {S : Store} {K : Dc} {r : Nat} (hs : S[r]? = some (.dcl (pks K) (pvs K))) (nd : (K.map (·.1)).Nodup) {x : List Nat × Int} (hx : x ∈ K) : idxD S (.ref r) (.str x.1) = some (.int x.2) := by
  show (S[r]?).bind (fun o => idxO o (.str x.1)) = _
  rw [hs]
  show (D.str x.1).ky.bind (kget (pks K) (pvs K)) = _
  show kget (pks K) (pvs K) (.s x.1) = _
  rw [kget_p, pget_of nd hx]; rfl
theorem mx_ite (i j : Int) : (if j > i then j else i) = max i j := by split <;> omega
theorem pfold_app (l m L : Dc) : pfold (l ++ m) L = pfold m (pfold l L) := by unfold pfold; rw [List.foldl_append]
theorem other_loop {N : Nat} (hN : N ≤ 5) {cs : List Int} (hc : ∀ p ∈ cs, 1 ≤ p ∧ p < N) (KD : D) (A : Store) {K : Dc} {r2 : Nat} (hr : r2 < A.length) (hs : A[r2]? = some (.dcl (pks K) (pvs K))) (hK : DcOk N K) (v3 : Slot) {o : List Nat × Int} (ho : o ∈ K) : ∀ (l : Dc) (L : Dc) (z4 z5 z8 z9 : Slot), DcOk N L → (∀ x ∈ l, x ∈ K) →
    ∃ w4 w5 w8 w9, forLoop (forStep G (.v 8) otherB) (l.map fun x => D.str x.1) [.val (.lst (dI cs)), .val KD, .val (.ref r2), v3, z4, z5, .val (.ref A.length), .val (.str o.1), z8, z9] (A ++ [.dct (pks L) (pvs L)])
      = .nx [.val (.lst (dI cs)), .val KD, .val (.ref r2), v3, w4, w5, .val (.ref A.length), .val (.str o.1), w8, w9] (A ++ [.dct (pks (pfold (l.flatMap fun q => cs.map fun p => jn o q p) L)) (pvs (pfold (l.flatMap fun q => cs.map fun p => jn o q p) L))])
  | [], L, z4, z5, z8, z9, _, _ => ⟨z4, z5, z8, z9, rfl⟩
  | q :: l, L, z4, z5, z8, z9, hL, hl => by
    have hq := hl q List.mem_cons_self
    obtain ⟨w4, w9, pl⟩ := place_loop (G := G) hN (.lst (dI cs)) KD A r2 v3 (hK.tx o ho) (hK.tx q hq) cs L z4 z9 hL hc
    have okL : DcOk N (pfold (cs.map fun p => jn o q p) L) := pfold_ok _ hL fun x hx => by
      obtain ⟨p, hp, e⟩ := List.mem_map.mp hx
      obtain ⟨p1, p2⟩ := hc p hp
      rw [← e]
      refine ⟨fun c hc => ?_, ?_⟩
      · rcases List.mem_append.mp hc with z | z
        · exact (hK.tx o ho).1 c (List.mem_of_mem_take z)
        · exact (hK.tx q hq).1 c (List.mem_of_mem_drop z)
      · show (o.1.take p.toNat ++ q.1.drop p.toNat).length = _
        have := (hK.tx o ho).2
        have := (hK.tx q hq).2
        rw [List.length_append, List.length_take, List.length_drop]
        omega
    obtain ⟨x4, x5, x8, x9, ih⟩ := other_loop hN hc KD A hr hs hK v3 ho l (pfold (cs.map fun p => jn o q p) L) w4 (.val (.int (max o.2 q.2 + 1))) (.val (.str q.1)) w9 okL fun x hx => hl x (List.mem_cons_of_mem _ hx)
    refine ⟨x4, x5, x8, x9, ?_⟩
    rw [List.map_cons]
    have e : ((q :: l).flatMap fun q => cs.map fun p => jn o q p) = (cs.map fun p => jn o q p) ++ l.flatMap fun q => cs.map fun p => jn o q p := by rw [List.flatMap_cons]
    rw [e, pfold_app]
    refine (for_cons (σ' := [.val (.lst (dI cs)), .val KD, .val (.ref r2), v3, w4, .val (.int (max o.2 q.2 + 1)), .val (.ref A.length), .val (.str o.1), .val (.str q.1), w9]) (S' := A ++ [.dct (pks (pfold (cs.map fun p => jn o q p) L)) (pvs (pfold (cs.map fun p => jn o q p) L))]) ?_).trans ih
    show execs G otherB [.val (.lst (dI cs)), .val KD, .val (.ref r2), v3, z4, z5, .val (.ref A.length), .val (.str o.1), .val (.str q.1), z9] (A ++ [.dct (pks L) (pvs L)]) = _
    have hs' : (A ++ [Obj.dct (pks L) (pvs L)])[r2]? = some (.dcl (pks K) (pvs K)) := by rw [List.getElem?_append_left hr]; exact hs
    have i1 := idx_known hs' hK.nd ho
    have i2 := idx_known hs' hK.nd hq
    have y1 : exec G (.set 5 0 (.bin .add (.blt .max2 (.cons (.idx (.v 2) (.v 7)) (.cons (.idx (.v 2) (.v 8)) .nil))) (.k (.int 1)))) [.val (.lst (dI cs)), .val KD, .val (.ref r2), v3, z4, z5, .val (.ref A.length), .val (.str o.1), .val (.str q.1), z9] (A ++ [.dct (pks L) (pvs L)]) = .nx [.val (.lst (dI cs)), .val KD, .val (.ref r2), v3, z4, .val (.int (max o.2 q.2 + 1)), .val (.ref A.length), .val (.str o.1), .val (.str q.1), z9] (A ++ [.dct (pks L) (pvs L)]) := by
      have ev : evalE G [.val (.lst (dI cs)), .val KD, .val (.ref r2), v3, z4, z5, .val (.ref A.length), .val (.str o.1), .val (.str q.1), z9] (.bin .add (.blt .max2 (.cons (.idx (.v 2) (.v 7)) (.cons (.idx (.v 2) (.v 8)) .nil))) (.k (.int 1))) (A ++ [.dct (pks L) (pvs L)]) = .ok (.int (max o.2 q.2 + 1)) (A ++ [.dct (pks L) (pvs L)]) := by
        refine ev_bin (x := .int (max o.2 q.2)) (y := .int 1) ?_ (ev_k _) rfl
        rw [e_blt]
        have es : evalEs G [.val (.lst (dI cs)), .val KD, .val (.ref r2), v3, z4, z5, .val (.ref A.length), .val (.str o.1), .val (.str q.1), z9] (.cons (.idx (.v 2) (.v 7)) (.cons (.idx (.v 2) (.v 8)) .nil)) (A ++ [.dct (pks L) (pvs L)]) = .ok [.int o.2, .int q.2] (A ++ [.dct (pks L) (pvs L)]) := by
          show (evalE G _ (.idx (.v 2) (.v 7)) _).bind _ = _
          rw [ev_idx (x := .ref r2) (y := .str o.1) (ev_v rfl) (ev_v rfl) i1, R.bind_ok]
          show ((evalE G _ (.idx (.v 2) (.v 8)) _).bind _).bind _ = _
          rw [ev_idx (x := .ref r2) (y := .str q.1) (ev_v rfl) (ev_v rfl) i2, R.bind_ok]; rfl
        rw [es, R.bind_ok]
        show R.of (some (D.int (if q.2 > o.2 then q.2 else o.2))) _ = _
        rw [mx_ite]; rfl
      rw [x_set, if_neg (by decide), ev, R.toS_ok]; rfl
    refine (st_nx y1).trans ?_
    refine (st_nx (σ' := [.val (.lst (dI cs)), .val KD, .val (.ref r2), v3, w4, .val (.int (max o.2 q.2 + 1)), .val (.ref A.length), .val (.str o.1), .val (.str q.1), w9]) (S' := A ++ [.dct (pks (pfold (cs.map fun p => jn o q p) L)) (pvs (pfold (cs.map fun p => jn o q p) L))]) ?_).trans ?_
    · exact st_for (it_ofS rfl (ev_v rfl) rfl) pl
    · rfl
abbrev oneB : Ss := .cons (.ford (.v 8) 0 (.v 2) otherB) .nil
theorem wlk_p (K : Dc) : wlk 0 (pks K) (pvs K) = K.map fun x => D.str x.1 := by
  show (pks K).map kyD = _
  unfold pks
  rw [List.map_map]; rfl
theorem one_loop {N : Nat} (hN : N ≤ 5) {cs : List Int} (hc : ∀ p ∈ cs, 1 ≤ p ∧ p < N) (KD : D) (A : Store) {K : Dc} {r2 : Nat} (hr : r2 < A.length) (hs : A[r2]? = some (.dcl (pks K) (pvs K))) (hK : DcOk N K) (v3 : Slot) : ∀ (l : Dc) (L : Dc) (z4 z5 z7 z8 z9 : Slot), DcOk N L → (∀ x ∈ l, x ∈ K) →
    ∃ w4 w5 w7 w8 w9, forLoop (forStep G (.v 7) oneB) (l.map fun x => D.str x.1) [.val (.lst (dI cs)), .val KD, .val (.ref r2), v3, z4, z5, .val (.ref A.length), z7, z8, z9] (A ++ [.dct (pks L) (pvs L)])
      = .nx [.val (.lst (dI cs)), .val KD, .val (.ref r2), v3, w4, w5, .val (.ref A.length), w7, w8, w9] (A ++ [.dct (pks (pfold (l.flatMap fun o => K.flatMap fun q => cs.map fun p => jn o q p) L)) (pvs (pfold (l.flatMap fun o => K.flatMap fun q => cs.map fun p => jn o q p) L))])
  | [], L, z4, z5, z7, z8, z9, _, _ => ⟨z4, z5, z7, z8, z9, rfl⟩
  | o :: l, L, z4, z5, z7, z8, z9, hL, hl => by
    have ho := hl o List.mem_cons_self
    obtain ⟨w4, w5, w8, w9, ol⟩ := other_loop (G := G) hN hc KD A hr hs hK v3 ho K L z4 z5 z8 z9 hL fun _ h => h
    have okL : DcOk N (pfold (K.flatMap fun q => cs.map fun p => jn o q p) L) := pfold_ok _ hL fun x hx => by
      obtain ⟨q, hq, hx⟩ := List.mem_flatMap.mp hx
      obtain ⟨p, hp, e⟩ := List.mem_map.mp hx
      obtain ⟨p1, p2⟩ := hc p hp
      rw [← e]
      refine ⟨fun c hc => ?_, ?_⟩
      · rcases List.mem_append.mp hc with z | z
        · exact (hK.tx o ho).1 c (List.mem_of_mem_take z)
        · exact (hK.tx q hq).1 c (List.mem_of_mem_drop z)
      · show (o.1.take p.toNat ++ q.1.drop p.toNat).length = _
        have := (hK.tx o ho).2
        have := (hK.tx q hq).2
        rw [List.length_append, List.length_take, List.length_drop]
        omega
    obtain ⟨x4, x5, x7, x8, x9, ih⟩ := one_loop hN hc KD A hr hs hK v3 l (pfold (K.flatMap fun q => cs.map fun p => jn o q p) L) w4 w5 (.val (.str o.1)) w8 w9 okL fun x hx => hl x (List.mem_cons_of_mem _ hx)
    refine ⟨x4, x5, x7, x8, x9, ?_⟩
    rw [List.map_cons, List.flatMap_cons, pfold_app]
    refine (for_cons (σ' := [.val (.lst (dI cs)), .val KD, .val (.ref r2), v3, w4, w5, .val (.ref A.length), .val (.str o.1), w8, w9]) (S' := A ++ [.dct (pks (pfold (K.flatMap fun q => cs.map fun p => jn o q p) L)) (pvs (pfold (K.flatMap fun q => cs.map fun p => jn o q p) L))]) ?_).trans ih
    show execs G oneB [.val (.lst (dI cs)), .val KD, .val (.ref r2), v3, z4, z5, .val (.ref A.length), .val (.str o.1), z8, z9] (A ++ [.dct (pks L) (pvs L)]) = _
    have hs' : (A ++ [Obj.dct (pks L) (pvs L)])[r2]? = some (.dcl (pks K) (pvs K)) := by rw [List.getElem?_append_left hr]; exact hs
    refine (st_nx (σ' := [.val (.lst (dI cs)), .val KD, .val (.ref r2), v3, w4, w5, .val (.ref A.length), .val (.str o.1), w8, w9]) (S' := A ++ [.dct (pks (pfold (K.flatMap fun q => cs.map fun p => jn o q p) L)) (pvs (pfold (K.flatMap fun q => cs.map fun p => jn o q p) L))]) ?_).trans rfl
    rw [ford_dcl (n := r2) rfl hs', wlk_p]
    exact ol
abbrev turnB : Ss := .cons (.set 6 0 (.cell (.blt .dict (.cons (.v 2) .nil)))) (.cons (.ford (.v 7) 0 (.v 2) oneB) (.cons (.set 2 0 (.v 6)) .nil))
theorem turn_young {N : Nat} (hN : N ≤ 5) {cs : List Int} (hc : ∀ p ∈ cs, 1 ≤ p ∧ p < N) (KD : D) (A : Store) {K : Dc} {r2 : Nat} (hr : r2 < A.length) (hs : A[r2]? = some (.dct (pks K) (pvs K))) (hK : DcOk N K) (z3 z4 z5 z6 z7 z8 z9 : Slot) (d : D) :
    ∃ w4 w5 w7 w8 w9, forStep G (.v 3) turnB d [.val (.lst (dI cs)), .val KD, .val (.ref r2), z3, z4, z5, z6, z7, z8, z9] A
      = .nx [.val (.lst (dI cs)), .val KD, .val (.ref A.length), .val d, w4, w5, .val (.ref A.length), w7, w8, w9] (A ++ [.dct (pks (rnd cs K)) (pvs (rnd cs K))]) := by
  have hs2 : (A.set r2 (.dcl (pks K) (pvs K)))[r2]? = some (.dcl (pks K) (pvs K)) := List.getElem?_set_self hr
  obtain ⟨w4, w5, w7, w8, w9, ol⟩ := one_loop (G := G) hN hc KD (A.set r2 (.dcl (pks K) (pvs K))) (K := K) (r2 := r2) (by rw [List.length_set]; exact hr) hs2 hK (.val d) K K z4 z5 z7 z8 z9 hK fun _ h => h
  rw [List.length_set] at ol
  refine ⟨w4, w5, w7, w8, w9, ?_⟩
  show execs G turnB [.val (.lst (dI cs)), .val KD, .val (.ref r2), .val d, z4, z5, z6, z7, z8, z9] A = _
  have y1 : exec G (.set 6 0 (.cell (.blt .dict (.cons (.v 2) .nil)))) [.val (.lst (dI cs)), .val KD, .val (.ref r2), .val d, z4, z5, z6, z7, z8, z9] A = .nx [.val (.lst (dI cs)), .val KD, .val (.ref r2), .val d, z4, z5, .val (.ref A.length), z7, z8, z9] (A ++ [.dct (pks K) (pvs K)]) := by
    have ev : evalE G [.val (.lst (dI cs)), .val KD, .val (.ref r2), .val d, z4, z5, z6, z7, z8, z9] (.blt .dict (.cons (.v 2) .nil)) A = .ok (.dct (pks K) (pvs K)) A := by
      rw [e_blt]
      show ((evalE G _ (.v 2) A).bind _).bind _ = _
      rw [ev_v (d := .ref r2) rfl, R.bind_ok]
      show R.of (match A[r2]? with
        | some (.dct ks ds) => some (D.dct ks ds)
        | some (.dcl ks ds) => some (D.dct ks ds)
        | _ => none) A = _
      rw [hs]; rfl
    rw [x_set, if_neg (by decide), e_cell, if_neg (by show ¬(false = true); decide), ev]
    rfl
  refine (st_nx y1).trans ?_
  refine (st_nx (σ' := [.val (.lst (dI cs)), .val KD, .val (.ref r2), .val d, w4, w5, .val (.ref A.length), w7, w8, w9]) (S' := A ++ [.dct (pks (rnd cs K)) (pvs (rnd cs K))]) ?_).trans ?_
  · have hs3 : (A ++ [Obj.dct (pks K) (pvs K)])[r2]? = some (.dct (pks K) (pvs K)) := by rw [List.getElem?_append_left hr]; exact hs
    rw [ford_dct (n := r2) rfl hs3, wlk_p, List.set_append_left _ _ hr, ol]
    have hs4 : (A.set r2 (Obj.dcl (pks K) (pvs K)) ++ [Obj.dct (pks (pfold (K.flatMap fun o => K.flatMap fun q => cs.map fun p => jn o q p) K)) (pvs (pfold (K.flatMap fun o => K.flatMap fun q => cs.map fun p => jn o q p) K))])[r2]? = some (.dcl (pks K) (pvs K)) := by
      rw [List.getElem?_append_left (by rw [List.length_set]; exact hr)]; exact hs2
    rw [unl_nx hs4, List.set_append_left _ _ (by rw [List.length_set]; exact hr), List.set_set]
    have e : A.set r2 (.dct (pks K) (pvs K)) = A := by
      refine List.ext_getElem? fun i => ?_
      by_cases c : r2 = i
      · subst c; rw [List.getElem?_set_self hr, hs]
      · rw [List.getElem?_set_ne c]
    rw [e]; rfl
  · refine (st_nx (σ' := [.val (.lst (dI cs)), .val KD, .val (.ref A.length), .val d, w4, w5, .val (.ref A.length), w7, w8, w9]) (S' := A ++ [.dct (pks (rnd cs K)) (pvs (rnd cs K))]) ?_).trans rfl
    rw [x_set, if_neg (by decide), ev_v (d := .ref A.length) rfl, R.toS_ok]; rfl
theorem turns_young {sz : Int} {cs : List Int} {ks : List Tk} (sh : Shelf sz cs ks) (h5 : sz ≤ 5) (KD : D) {L0 : Dc} (hL : DcOk sz.toNat L0) : ∀ (ds : List D) (j : Nat) (A : Store) (r2 : Nat) (hr : r2 < A.length) (hs : A[r2]? = some (.dct (pks (rnds cs L0 j)) (pvs (rnds cs L0 j)))) (z3 z4 z5 z6 z7 z8 z9 : Slot),
    ∃ X r w3 w4 w5 w6 w7 w8 w9, forLoop (forStep G (.v 3) turnB) ds [.val (.lst (dI cs)), .val KD, .val (.ref r2), z3, z4, z5, z6, z7, z8, z9] A = .nx [.val (.lst (dI cs)), .val KD, .val (.ref r), w3, w4, w5, w6, w7, w8, w9] (A ++ X) ∧ r < (A ++ X).length ∧ (A ++ X)[r]? = some (.dct (pks (rnds cs L0 (j + ds.length))) (pvs (rnds cs L0 (j + ds.length))))
  | [], j, A, r2, hr, hs, z3, z4, z5, z6, z7, z8, z9 => ⟨[], r2, z3, z4, z5, z6, z7, z8, z9, by rw [List.append_nil]; rfl, by rw [List.append_nil]; exact hr, by rw [List.append_nil]; exact hs⟩
  | d :: ds, j, A, r2, hr, hs, z3, z4, z5, z6, z7, z8, z9 => by
    have hc : ∀ p ∈ cs, 1 ≤ p ∧ p < (sz.toNat : Int) := fun p hp => by have := sh.cuts.rng p hp; omega
    obtain ⟨w4, w5, w7, w8, w9, e⟩ := turn_young (G := G) (N := sz.toNat) (by omega) hc KD A hr hs (rnds_ok sh hL j) z3 z4 z5 z6 z7 z8 z9 d
    obtain ⟨X, r, x3, x4, x5, x6, x7, x8, x9, e2, hr2, hs2⟩ := turns_young sh h5 KD hL ds (j + 1) (A ++ [.dct (pks (rnd cs (rnds cs L0 j))) (pvs (rnd cs (rnds cs L0 j)))]) A.length (by rw [List.length_append]; exact Nat.lt_succ_self _) app_at (.val d) w4 w5 (.val (.ref A.length)) w7 w8 w9
    refine ⟨.dct (pks (rnd cs (rnds cs L0 j))) (pvs (rnd cs (rnds cs L0 j))) :: X, r, x3, x4, x5, x6, x7, x8, x9, ?_, ?_, ?_⟩
    · rw [for_cons e, e2, List.append_assoc]; rfl
    · rw [List.append_assoc] at hr2; exact hr2
    · rw [List.append_assoc] at hs2
      rw [List.length_cons, show j + (ds.length + 1) = j + 1 + ds.length by omega]
      exact hs2
end
theorem young_spec {T : Tbl} (hD : T.defs 145 = some d_law_young) {sz : Int} {cs : List Int} {ks : List Tk} (sh : Shelf sz cs ks) (h5 : sz ≤ 5) (S : Store) (n : Nat) :
    ∃ X r, call T (n + 1) 145 [.lst (dI cs), .lst (ks.map tkD)] S = .ok (.ref r) (S ++ X) ∧ r < (S ++ X).length ∧ (S ++ X)[r]? = some (.dct (pks (youngL cs ks)) (pvs (youngL cs ks))) := by
  obtain ⟨w4, w5, f⟩ := first_loop (G := T.G n) (N := sz.toNat) (by omega) (.lst (dI cs)) (.lst (ks.map tkD)) S .no .no .no .no .no ks [] .no .no nil_ok (ks_ok sh)
  obtain ⟨X, r, x3, x4, x5, x6, x7, x8, x9, e2, hr2, hs2⟩ := turns_young (G := T.G n) sh h5 (.lst (ks.map tkD)) (first_ok sh) (rangeL 0 7) 0 (S ++ [.dct (pks (pfold ks [])) (pvs (pfold ks []))]) S.length (by rw [List.length_append]; exact Nat.lt_succ_self _) app_at .no w4 w5 .no .no .no .no
  rw [List.append_assoc] at e2 hr2 hs2
  refine ⟨_, r, ?_, hr2, hs2⟩
  refine call_run hD rfl (r := .rt (.ref r) false (S ++ ([Obj.dct (pks (pfold ks [])) (pvs (pfold ks []))] ++ X))) ?_ rfl
  unfold d_law_young
  dsimp only
  show execs (T.G n) _ [.val (.lst (dI cs)), .val (.lst (ks.map tkD)), .no, .no, .no, .no, .no, .no, .no, .no] S = _
  refine (st_nx (σ' := [.val (.lst (dI cs)), .val (.lst (ks.map tkD)), .val (.ref S.length), .no, .no, .no, .no, .no, .no, .no]) (S' := S ++ [.dct [] []]) (by
    rw [x_set, if_neg (by decide), e_cell, if_neg (by show ¬(false = true); decide)]; rfl)).trans ?_
  refine (st_nx (st_for (it_ofS rfl (ev_v rfl) rfl) f)).trans ?_
  refine (st_nx (st_for (ds := rangeL 0 7) (S1 := S ++ [.dct (pks (pfold ks [])) (pvs (pfold ks []))]) rfl e2)).trans ?_
  exact st_rt (by rw [x_ret, if_neg (by decide), ev_v (d := .ref r) rfl, R.toS_ok]; rfl)
end IL
namespace IL
theorem cuts_spec {T : Tbl} (hT : T.defs 101 = some d_law_take) (hB : T.defs 122 = some d_law_cuts) {b : Nat} {S : Store} (hb : Bx b S) {sz : Int} (h0 : 0 < sz) (h1 : sz < 1000) (n : Nat) : ∃ cs S', call T (n + 2) 122 [.ref b, .int sz] S = .ok (.lst (dI cs)) S' ∧ Cuts 1 sz cs ∧ Fr b S S' := by
  obtain ⟨k, S1, e1, k0, k1, f1⟩ := take_spec hT hb (m := 5) (by decide) (wide_of (by decide) (by decide)) n
  have a1 : i62 1 = true := i62_of (by decide) (by decide)
  have a2 : i62 sz = true := i62_of (by omega) (by omega)
  have ln : (rangeL 1 (sz - 1).toNat).length ≤ line := by rw [rangeL_length]; unfold line; omega
  by_cases c0 : k = 0
  · refine ⟨[], S1, ?_, ⟨.nil, fun _ h => (nomatch h), by show (0 : Int) ≤ sz; omega⟩, f1⟩
    subst c0
    rw [call_at hB rfl]
    simp (decide := true) only [start, xs_nil, xs_cons, evalEs, evalAnd, evalOr, evalIt, e_v, e_pk, e_k, e_g, e_bin, e_chn, e_isn, e_ntn, e_neg, e_not, e_and, e_or, e_ite, e_tup, e_lst, e_dct0, e_idx, e_slL, e_slU, e_slB, e_rev, e_call, e_blt, e_met, e_cell, x_set, x_fz, x_unp, x_aug, x_ex, x_app, x_popA, x_ins, x_setx, x_sets, x_augs, x_iff, x_ret, x_mov, x_pass, x_for, x_whl, e_lc, idxD, idxO, atI, ixN, bop, drop, done, mkSlot, E.isPk, Es.anyPk, guard, G_call, G_fr, G_con, E.alloc, bltD, lenD, augD, intOf, sliceD, rcv_join, rcv_index, rcv_find, eqv_ii, eqv_bb, eqv_ss, eqv_nn, D.scal, List.all_cons, List.all_nil, reduceCtorEq, Int.reduceEq, asg, Tg.vars, wipe, noOwn, isTy, isN, Es.len, R.nox_ok, R.of_none, R.bind_ok, R.of_some, R.toS_ok, RS.then_nx, RS.then_rt, List.map_cons, List.map_nil, List.length_cons, List.length_nil, List.length_map, List.getElem?_map, List.cons_append, List.nil_append, List.replicate, List.getElem?_cons_zero, List.getElem?_cons_succ, List.set_cons_zero, List.set_cons_succ, List.set_set, Option.bind_some, Option.map_some, reduceIte, decide_true, decide_false, Bool.and_true, Bool.true_and, Bool.or_true, Bool.true_or, Bool.or_false, Bool.false_or, Bool.not_true, Bool.not_false, Bool.and_false, Bool.false_and, Bool.false_eq_true, Nat.reduceAdd, Nat.reduceSub, Nat.reduceLT, Int.reduceLT, Int.reduceLE, Int.reduceToNat, decide_eq_true_eq, Int.cast_ofNat_Int, d_law_cuts, e1, D.isNode, List.map_nil]
  have mk : ∀ {ys : List D}, ys.Sublist (rangeL 1 (sz - 1).toNat) → ∃ cs : List Int, ys = dI cs ∧ Cuts 1 sz cs := fun h => by
    obtain ⟨cs, e, p, r, l⟩ := rangeL_sub _ _ h
    exact ⟨cs, e, p, fun c hc => by have := r c hc; omega, by omega⟩
  by_cases c1 : k = 1
  · have st : ∀ d ∈ rangeL 1 (sz - 1).toNat, ∀ S, Fr b S1 S → ∃ (q : Bool) (S' : Store), lcStep (T.G (n + 1)) [.val (.ref b), .val (.int sz), .val (.int 1), .no] (.v 3) .nil (.v 3) d S = .ok (if q then some d else none) S' ∧ Fr b S1 S' := by
      intro d _ S2 fr
      refine ⟨true, S2, ?_, fr⟩
      simp only [lcStep, start, xs_nil, xs_cons, evalEs, evalAnd, evalOr, evalIt, e_v, e_pk, e_k, e_g, e_bin, e_chn, e_isn, e_ntn, e_neg, e_not, e_and, e_or, e_ite, e_tup, e_lst, e_dct0, e_idx, e_slL, e_slU, e_slB, e_rev, e_call, e_blt, e_met, e_cell, x_set, x_fz, x_unp, x_aug, x_ex, x_app, x_popA, x_ins, x_setx, x_sets, x_augs, x_iff, x_ret, x_mov, x_pass, x_for, x_whl, e_lc, idxD, idxO, atI, ixN, bop, drop, done, mkSlot, E.isPk, Es.anyPk, guard, G_call, G_fr, G_con, E.alloc, bltD, lenD, augD, intOf, sliceD, rcv_join, rcv_index, rcv_find, eqv_ii, eqv_bb, eqv_ss, eqv_nn, D.scal, List.all_cons, List.all_nil, reduceCtorEq, Int.reduceEq, asg, Tg.vars, wipe, noOwn, isTy, isN, Es.len, R.nox_ok, R.of_none, R.bind_ok, R.of_some, R.toS_ok, RS.then_nx, RS.then_rt, List.map_cons, List.map_nil, List.length_cons, List.length_nil, List.length_map, List.getElem?_map, List.cons_append, List.nil_append, List.replicate, List.getElem?_cons_zero, List.getElem?_cons_succ, List.set_cons_zero, List.set_cons_succ, List.set_set, Option.bind_some, Option.map_some, reduceIte, decide_true, decide_false, Bool.and_true, Bool.true_and, Bool.or_true, Bool.true_or, Bool.or_false, Bool.false_or, Bool.not_true, Bool.not_false, Bool.and_false, Bool.false_and, Bool.false_eq_true, Nat.reduceAdd, Nat.reduceSub, Nat.reduceLT, Int.reduceLT, Int.reduceLE, Int.reduceToNat, decide_eq_true_eq, Int.cast_ofNat_Int]
    obtain ⟨ys, S2, e2, sb, f2⟩ := lc_flt (Fr.refl f1.bx) st
    obtain ⟨cs, rfl, hc⟩ := mk sb
    refine ⟨cs, S2, ?_, hc, f1.trans f2⟩
    subst c1
    rw [call_at hB rfl]
    simp (decide := true) only [start, xs_nil, xs_cons, evalEs, evalAnd, evalOr, evalIt, e_v, e_pk, e_k, e_g, e_bin, e_chn, e_isn, e_ntn, e_neg, e_not, e_and, e_or, e_ite, e_tup, e_lst, e_dct0, e_idx, e_slL, e_slU, e_slB, e_rev, e_call, e_blt, e_met, e_cell, x_set, x_fz, x_unp, x_aug, x_ex, x_app, x_popA, x_ins, x_setx, x_sets, x_augs, x_iff, x_ret, x_mov, x_pass, x_for, x_whl, e_lc, idxD, idxO, atI, ixN, bop, drop, done, mkSlot, E.isPk, Es.anyPk, guard, G_call, G_fr, G_con, E.alloc, bltD, lenD, augD, intOf, sliceD, rcv_join, rcv_index, rcv_find, eqv_ii, eqv_bb, eqv_ss, eqv_nn, D.scal, List.all_cons, List.all_nil, reduceCtorEq, Int.reduceEq, asg, Tg.vars, wipe, noOwn, isTy, isN, Es.len, R.nox_ok, R.of_none, R.bind_ok, R.of_some, R.toS_ok, RS.then_nx, RS.then_rt, List.map_cons, List.map_nil, List.length_cons, List.length_nil, List.length_map, List.getElem?_map, List.cons_append, List.nil_append, List.replicate, List.getElem?_cons_zero, List.getElem?_cons_succ, List.set_cons_zero, List.set_cons_succ, List.set_set, Option.bind_some, Option.map_some, reduceIte, decide_true, decide_false, Bool.and_true, Bool.true_and, Bool.or_true, Bool.true_or, Bool.or_false, Bool.false_or, Bool.not_true, Bool.not_false, Bool.and_false, Bool.false_and, Bool.false_eq_true, Nat.reduceAdd, Nat.reduceSub, Nat.reduceLT, Int.reduceLT, Int.reduceLE, Int.reduceToNat, decide_eq_true_eq, Int.cast_ofNat_Int, d_law_cuts, e1, D.isNode, a1, a2, ln, e2]
  · have st : ∀ d ∈ rangeL 1 (sz - 1).toNat, ∀ S, Fr b S1 S → ∃ (q : Bool) (S' : Store), lcStep (T.G (n + 1)) [.val (.ref b), .val (.int sz), .val (.int k), .no] (.v 3) (.cons (.bin .gt (.call 101 (.cons (.v 0) (.cons (.k (.int 3)) .nil))) (.k (.int 0))) .nil) (.v 3) d S = .ok (if q then some d else none) S' ∧ Fr b S1 S' := by
      intro d _ S2 fr
      obtain ⟨r, S3, e3, r0, r1, f3⟩ := take_spec hT fr.bx (m := 3) (by decide) (wide_of (by decide) (by decide)) n
      refine ⟨decide (0 < r), S3, ?_, fr.trans f3⟩
      by_cases hr : 0 < r <;> simp only [lcStep, start, xs_nil, xs_cons, evalEs, evalAnd, evalOr, evalIt, e_v, e_pk, e_k, e_g, e_bin, e_chn, e_isn, e_ntn, e_neg, e_not, e_and, e_or, e_ite, e_tup, e_lst, e_dct0, e_idx, e_slL, e_slU, e_slB, e_rev, e_call, e_blt, e_met, e_cell, x_set, x_fz, x_unp, x_aug, x_ex, x_app, x_popA, x_ins, x_setx, x_sets, x_augs, x_iff, x_ret, x_mov, x_pass, x_for, x_whl, e_lc, idxD, idxO, atI, ixN, bop, drop, done, mkSlot, E.isPk, Es.anyPk, guard, G_call, G_fr, G_con, E.alloc, bltD, lenD, augD, intOf, sliceD, rcv_join, rcv_index, rcv_find, eqv_ii, eqv_bb, eqv_ss, eqv_nn, D.scal, List.all_cons, List.all_nil, reduceCtorEq, Int.reduceEq, asg, Tg.vars, wipe, noOwn, isTy, isN, Es.len, R.nox_ok, R.of_none, R.bind_ok, R.of_some, R.toS_ok, RS.then_nx, RS.then_rt, List.map_cons, List.map_nil, List.length_cons, List.length_nil, List.length_map, List.getElem?_map, List.cons_append, List.nil_append, List.replicate, List.getElem?_cons_zero, List.getElem?_cons_succ, List.set_cons_zero, List.set_cons_succ, List.set_set, Option.bind_some, Option.map_some, reduceIte, decide_true, decide_false, Bool.and_true, Bool.true_and, Bool.or_true, Bool.true_or, Bool.or_false, Bool.false_or, Bool.not_true, Bool.not_false, Bool.and_false, Bool.false_and, Bool.false_eq_true, Nat.reduceAdd, Nat.reduceSub, Nat.reduceLT, Int.reduceLT, Int.reduceLE, Int.reduceToNat, decide_eq_true_eq, Int.cast_ofNat_Int, e3, hr]
    obtain ⟨ys, S2, e2, sb, f2⟩ := lc_flt (Fr.refl f1.bx) st
    obtain ⟨cs, rfl, hc⟩ := mk sb
    refine ⟨cs, S2, ?_, hc, f1.trans f2⟩
    rw [call_at hB rfl]
    simp (decide := true) only [start, xs_nil, xs_cons, evalEs, evalAnd, evalOr, evalIt, e_v, e_pk, e_k, e_g, e_bin, e_chn, e_isn, e_ntn, e_neg, e_not, e_and, e_or, e_ite, e_tup, e_lst, e_dct0, e_idx, e_slL, e_slU, e_slB, e_rev, e_call, e_blt, e_met, e_cell, x_set, x_fz, x_unp, x_aug, x_ex, x_app, x_popA, x_ins, x_setx, x_sets, x_augs, x_iff, x_ret, x_mov, x_pass, x_for, x_whl, e_lc, idxD, idxO, atI, ixN, bop, drop, done, mkSlot, E.isPk, Es.anyPk, guard, G_call, G_fr, G_con, E.alloc, bltD, lenD, augD, intOf, sliceD, rcv_join, rcv_index, rcv_find, eqv_ii, eqv_bb, eqv_ss, eqv_nn, D.scal, List.all_cons, List.all_nil, reduceCtorEq, Int.reduceEq, asg, Tg.vars, wipe, noOwn, isTy, isN, Es.len, R.nox_ok, R.of_none, R.bind_ok, R.of_some, R.toS_ok, RS.then_nx, RS.then_rt, List.map_cons, List.map_nil, List.length_cons, List.length_nil, List.length_map, List.getElem?_map, List.cons_append, List.nil_append, List.replicate, List.getElem?_cons_zero, List.getElem?_cons_succ, List.set_cons_zero, List.set_cons_succ, List.set_set, Option.bind_some, Option.map_some, reduceIte, decide_true, decide_false, Bool.and_true, Bool.true_and, Bool.or_true, Bool.true_or, Bool.or_false, Bool.false_or, Bool.not_true, Bool.not_false, Bool.and_false, Bool.false_and, Bool.false_eq_true, Nat.reduceAdd, Nat.reduceSub, Nat.reduceLT, Int.reduceLT, Int.reduceLE, Int.reduceToNat, decide_eq_true_eq, Int.cast_ofNat_Int, d_law_cuts, e1, D.isNode, a1, a2, ln, e2, c0, c1]
end IL
namespace IL
theorem same_bl {T : Tbl} (hB : T.defs 103 = some d_law_same) (a b : Bool) (S : Store) (n : Nat) : call T (n + 1) 103 [.bl a, .bl b] S = .ok (.bl (decide (a = b))) S := by
  rw [call_at hB rfl]
  cases a <;> cases b <;> simp (decide := true) only [start, xs_nil, xs_cons, evalEs, evalAnd, evalOr, evalIt, e_v, e_pk, e_k, e_g, e_bin, e_chn, e_isn, e_ntn, e_neg, e_not, e_and, e_or, e_ite, e_tup, e_lst, e_dct0, e_idx, e_slL, e_slU, e_slB, e_rev, e_call, e_blt, e_met, e_cell, x_set, x_fz, x_unp, x_aug, x_ex, x_app, x_popA, x_ins, x_setx, x_sets, x_augs, x_iff, x_ret, x_mov, x_pass, x_for, x_whl, e_lc, idxD, idxO, atI, ixN, bop, drop, done, mkSlot, E.isPk, Es.anyPk, guard, G_call, G_fr, G_con, E.alloc, bltD, lenD, augD, intOf, sliceD, rcv_join, rcv_index, rcv_find, eqv_ii, eqv_bb, eqv_ss, eqv_nn, D.scal, List.all_cons, List.all_nil, reduceCtorEq, Int.reduceEq, asg, Tg.vars, wipe, noOwn, isTy, isN, Es.len, R.nox_ok, R.of_none, R.bind_ok, R.of_some, R.toS_ok, RS.then_nx, RS.then_rt, List.map_cons, List.map_nil, List.length_cons, List.length_nil, List.length_map, List.getElem?_map, List.cons_append, List.nil_append, List.replicate, List.getElem?_cons_zero, List.getElem?_cons_succ, List.set_cons_zero, List.set_cons_succ, List.set_set, Option.bind_some, Option.map_some, reduceIte, decide_true, decide_false, Bool.and_true, Bool.true_and, Bool.or_true, Bool.true_or, Bool.or_false, Bool.false_or, Bool.not_true, Bool.not_false, Bool.and_false, Bool.false_and, Bool.false_eq_true, Nat.reduceAdd, Nat.reduceSub, Nat.reduceLT, Int.reduceLT, Int.reduceLE, Int.reduceToNat, decide_eq_true_eq, Int.cast_ofNat_Int, d_law_same]
theorem blsD_true : ∀ n : Nat, blsD (List.replicate n (.bl true)) = some (List.replicate n true)
  | 0 => rfl
  | n + 1 => by
    show (blsD (List.replicate n (.bl true))).map (true :: ·) = _
    rw [blsD_true n]; rfl
theorem all_true : ∀ n : Nat, (List.replicate n true).all id = true
  | 0 => rfl
  | n + 1 => by rw [List.replicate_succ, List.all_cons, all_true n]; rfl
theorem same_lc {T : Tbl} {n : Nat} {σ : List Slot} (h2 : 2 < σ.length) (h3 : 3 < σ.length) : ∀ {ds : List D} {S : Store}, (∀ d ∈ ds, call T (n + 1) 103 [d, d] S = .ok (.bl true) S) →
    lcLoop (lcStep (T.G (n + 1)) σ (.t2 (.v 2) (.v 3)) .nil (.call 103 (.cons (.v 2) (.cons (.v 3) .nil)))) (ds.map fun d => .tup [d, d]) S = .ok (List.replicate ds.length (.bl true)) S
  | [], S, _ => rfl
  | d :: ds, S, h => by
    have ih := same_lc h2 h3 (ds := ds) fun x hx => h x (List.mem_cons_of_mem _ hx)
    show ((lcStep (T.G (n + 1)) σ _ .nil _ (.tup [d, d]) S).bind fun o S1 => (lcLoop _ (ds.map _) S1).bind fun r S2 => .ok (match o with | some x => x :: r | none => r) S2) = _
    have hd := h d List.mem_cons_self
    have l2 : 2 < ((σ.set 3 .no).set 2 .no).length := by simp only [List.length_set]; exact h2
    have l3 : 3 < (((σ.set 3 .no).set 2 .no).set 2 (.val d)).length := by simp only [List.length_set]; exact h3
    have g2 : ((((σ.set 3 .no).set 2 .no).set 2 (.val d)).set 3 (.val d))[2]? = some (.val d) := by rw [List.getElem?_set_ne (by decide), List.getElem?_set_self l2]
    have g3 : ((((σ.set 3 .no).set 2 .no).set 2 (.val d)).set 3 (.val d))[3]? = some (.val d) := List.getElem?_set_self l3
    have e : lcStep (T.G (n + 1)) σ (.t2 (.v 2) (.v 3)) .nil (.call 103 (.cons (.v 2) (.cons (.v 3) .nil))) (.tup [d, d]) S = .ok (some (.bl true)) S := by
      unfold lcStep
      have a : asg (.t2 (.v 2) (.v 3)) (.tup [d, d]) (wipe σ (Tg.t2 (.v 2) (.v 3)).vars) = some ((((σ.set 3 .no).set 2 .no).set 2 (.val d)).set 3 (.val d)) := by
        show ((if 2 < ((σ.set 3 .no).set 2 .no).length then some _ else none).bind _) = _
        rw [if_pos l2, Option.bind_some]
        show (if 3 < (((σ.set 3 .no).set 2 .no).set 2 (.val d)).length then some _ else none) = _
        rw [if_pos l3]; rfl
      rw [a]
      simp only [evalAnd, R.bind_ok, e_call, e_v, evalEs, g2, g3, Es.anyPk, E.isPk, Bool.or_false, Bool.false_eq_true, if_false, G_call, hd, R.nox_ok]
    rw [e, R.bind_ok, ih, R.bind_ok]
    rfl
theorem same_refl {T : Tbl} (hB : T.defs 103 = some d_law_same) : ∀ (n : Nat) (d : D) (S : Store), d.pl n = true → call T (n + 1) 103 [d, d] S = .ok (.bl true) S
  | n, .non, S, _ => by
    rw [call_at hB rfl]
    simp (decide := true) only [start, xs_nil, xs_cons, evalEs, evalAnd, evalOr, evalIt, e_v, e_pk, e_k, e_g, e_bin, e_chn, e_isn, e_ntn, e_neg, e_not, e_and, e_or, e_ite, e_tup, e_lst, e_dct0, e_idx, e_slL, e_slU, e_slB, e_rev, e_call, e_blt, e_met, e_cell, x_set, x_fz, x_unp, x_aug, x_ex, x_app, x_popA, x_ins, x_setx, x_sets, x_augs, x_iff, x_ret, x_mov, x_pass, x_for, x_whl, e_lc, idxD, idxO, atI, ixN, bop, drop, done, mkSlot, E.isPk, Es.anyPk, guard, G_call, G_fr, G_con, E.alloc, bltD, lenD, augD, intOf, sliceD, rcv_join, rcv_index, rcv_find, eqv_ii, eqv_bb, eqv_ss, eqv_nn, D.scal, List.all_cons, List.all_nil, reduceCtorEq, Int.reduceEq, asg, Tg.vars, wipe, noOwn, isTy, isN, Es.len, R.nox_ok, R.of_none, R.bind_ok, R.of_some, R.toS_ok, RS.then_nx, RS.then_rt, List.map_cons, List.map_nil, List.length_cons, List.length_nil, List.length_map, List.getElem?_map, List.cons_append, List.nil_append, List.replicate, List.getElem?_cons_zero, List.getElem?_cons_succ, List.set_cons_zero, List.set_cons_succ, List.set_set, Option.bind_some, Option.map_some, reduceIte, decide_true, decide_false, Bool.and_true, Bool.true_and, Bool.or_true, Bool.true_or, Bool.or_false, Bool.false_or, Bool.not_true, Bool.not_false, Bool.and_false, Bool.false_and, Bool.false_eq_true, Nat.reduceAdd, Nat.reduceSub, Nat.reduceLT, Int.reduceLT, Int.reduceLE, Int.reduceToNat, decide_eq_true_eq, Int.cast_ofNat_Int, d_law_same]
  | n, .bl a, S, _ => by rw [same_bl hB, decide_eq_true rfl]
  | n, .int i, S, _ => by
    rw [call_at hB rfl]
    simp (decide := true) only [start, xs_nil, xs_cons, evalEs, evalAnd, evalOr, evalIt, e_v, e_pk, e_k, e_g, e_bin, e_chn, e_isn, e_ntn, e_neg, e_not, e_and, e_or, e_ite, e_tup, e_lst, e_dct0, e_idx, e_slL, e_slU, e_slB, e_rev, e_call, e_blt, e_met, e_cell, x_set, x_fz, x_unp, x_aug, x_ex, x_app, x_popA, x_ins, x_setx, x_sets, x_augs, x_iff, x_ret, x_mov, x_pass, x_for, x_whl, e_lc, idxD, idxO, atI, ixN, bop, drop, done, mkSlot, E.isPk, Es.anyPk, guard, G_call, G_fr, G_con, E.alloc, bltD, lenD, augD, intOf, sliceD, rcv_join, rcv_index, rcv_find, eqv_ii, eqv_bb, eqv_ss, eqv_nn, D.scal, List.all_cons, List.all_nil, reduceCtorEq, Int.reduceEq, asg, Tg.vars, wipe, noOwn, isTy, isN, Es.len, R.nox_ok, R.of_none, R.bind_ok, R.of_some, R.toS_ok, RS.then_nx, RS.then_rt, List.map_cons, List.map_nil, List.length_cons, List.length_nil, List.length_map, List.getElem?_map, List.cons_append, List.nil_append, List.replicate, List.getElem?_cons_zero, List.getElem?_cons_succ, List.set_cons_zero, List.set_cons_succ, List.set_set, Option.bind_some, Option.map_some, reduceIte, decide_true, decide_false, Bool.and_true, Bool.true_and, Bool.or_true, Bool.true_or, Bool.or_false, Bool.false_or, Bool.not_true, Bool.not_false, Bool.and_false, Bool.false_and, Bool.false_eq_true, Nat.reduceAdd, Nat.reduceSub, Nat.reduceLT, Int.reduceLT, Int.reduceLE, Int.reduceToNat, decide_eq_true_eq, Int.cast_ofNat_Int, d_law_same]
  | n, .str i, S, _ => by
    rw [call_at hB rfl]
    simp (decide := true) only [start, xs_nil, xs_cons, evalEs, evalAnd, evalOr, evalIt, e_v, e_pk, e_k, e_g, e_bin, e_chn, e_isn, e_ntn, e_neg, e_not, e_and, e_or, e_ite, e_tup, e_lst, e_dct0, e_idx, e_slL, e_slU, e_slB, e_rev, e_call, e_blt, e_met, e_cell, x_set, x_fz, x_unp, x_aug, x_ex, x_app, x_popA, x_ins, x_setx, x_sets, x_augs, x_iff, x_ret, x_mov, x_pass, x_for, x_whl, e_lc, idxD, idxO, atI, ixN, bop, drop, done, mkSlot, E.isPk, Es.anyPk, guard, G_call, G_fr, G_con, E.alloc, bltD, lenD, augD, intOf, sliceD, rcv_join, rcv_index, rcv_find, eqv_ii, eqv_bb, eqv_ss, eqv_nn, D.scal, List.all_cons, List.all_nil, reduceCtorEq, Int.reduceEq, asg, Tg.vars, wipe, noOwn, isTy, isN, Es.len, R.nox_ok, R.of_none, R.bind_ok, R.of_some, R.toS_ok, RS.then_nx, RS.then_rt, List.map_cons, List.map_nil, List.length_cons, List.length_nil, List.length_map, List.getElem?_map, List.cons_append, List.nil_append, List.replicate, List.getElem?_cons_zero, List.getElem?_cons_succ, List.set_cons_zero, List.set_cons_succ, List.set_set, Option.bind_some, Option.map_some, reduceIte, decide_true, decide_false, Bool.and_true, Bool.true_and, Bool.or_true, Bool.true_or, Bool.or_false, Bool.false_or, Bool.not_true, Bool.not_false, Bool.and_false, Bool.false_and, Bool.false_eq_true, Nat.reduceAdd, Nat.reduceSub, Nat.reduceLT, Int.reduceLT, Int.reduceLE, Int.reduceToNat, decide_eq_true_eq, Int.cast_ofNat_Int, d_law_same]
  | n + 1, .tup ds, S, h => by
    have h : (decide (ds.length ≤ line) && D.pls n ds) = true := h
    rw [Bool.and_eq_true, decide_eq_true_eq] at h
    have ih := same_lc (T := T) (n := n) (σ := [.val (.tup ds), .val (.tup ds), .no, .no]) (by show 2 < 4; decide) (by show 3 < 4; decide) (ds := ds) (S := S) fun d hd => same_refl hB n d S (pls_mem h.2 d hd)
    rw [call_at hB rfl]
    simp (decide := true) only [start, xs_nil, xs_cons, evalEs, evalAnd, evalOr, evalIt, e_v, e_pk, e_k, e_g, e_bin, e_chn, e_isn, e_ntn, e_neg, e_not, e_and, e_or, e_ite, e_tup, e_lst, e_dct0, e_idx, e_slL, e_slU, e_slB, e_rev, e_call, e_blt, e_met, e_cell, x_set, x_fz, x_unp, x_aug, x_ex, x_app, x_popA, x_ins, x_setx, x_sets, x_augs, x_iff, x_ret, x_mov, x_pass, x_for, x_whl, e_lc, idxD, idxO, atI, ixN, bop, drop, done, mkSlot, E.isPk, Es.anyPk, guard, G_call, G_fr, G_con, E.alloc, bltD, lenD, augD, intOf, sliceD, rcv_join, rcv_index, rcv_find, eqv_ii, eqv_bb, eqv_ss, eqv_nn, D.scal, List.all_cons, List.all_nil, reduceCtorEq, Int.reduceEq, asg, Tg.vars, wipe, noOwn, isTy, isN, Es.len, R.nox_ok, R.of_none, R.bind_ok, R.of_some, R.toS_ok, RS.then_nx, RS.then_rt, List.map_cons, List.map_nil, List.length_cons, List.length_nil, List.length_map, List.getElem?_map, List.cons_append, List.nil_append, List.replicate, List.getElem?_cons_zero, List.getElem?_cons_succ, List.set_cons_zero, List.set_cons_succ, List.set_set, Option.bind_some, Option.map_some, reduceIte, decide_true, decide_false, Bool.and_true, Bool.true_and, Bool.or_true, Bool.true_or, Bool.or_false, Bool.false_or, Bool.not_true, Bool.not_false, Bool.and_false, Bool.false_and, Bool.false_eq_true, Nat.reduceAdd, Nat.reduceSub, Nat.reduceLT, Int.reduceLT, Int.reduceLE, Int.reduceToNat, decide_eq_true_eq, Int.cast_ofNat_Int, d_law_same, zip_self, h.1, ih, blsD_true, all_true]
  | n + 1, .lst ds, S, h => by
    have h : (decide (ds.length ≤ line) && D.pls n ds) = true := h
    rw [Bool.and_eq_true, decide_eq_true_eq] at h
    have ih := same_lc (T := T) (n := n) (σ := [.val (.lst ds), .val (.lst ds), .no, .no]) (by show 2 < 4; decide) (by show 3 < 4; decide) (ds := ds) (S := S) fun d hd => same_refl hB n d S (pls_mem h.2 d hd)
    rw [call_at hB rfl]
    simp (decide := true) only [start, xs_nil, xs_cons, evalEs, evalAnd, evalOr, evalIt, e_v, e_pk, e_k, e_g, e_bin, e_chn, e_isn, e_ntn, e_neg, e_not, e_and, e_or, e_ite, e_tup, e_lst, e_dct0, e_idx, e_slL, e_slU, e_slB, e_rev, e_call, e_blt, e_met, e_cell, x_set, x_fz, x_unp, x_aug, x_ex, x_app, x_popA, x_ins, x_setx, x_sets, x_augs, x_iff, x_ret, x_mov, x_pass, x_for, x_whl, e_lc, idxD, idxO, atI, ixN, bop, drop, done, mkSlot, E.isPk, Es.anyPk, guard, G_call, G_fr, G_con, E.alloc, bltD, lenD, augD, intOf, sliceD, rcv_join, rcv_index, rcv_find, eqv_ii, eqv_bb, eqv_ss, eqv_nn, D.scal, List.all_cons, List.all_nil, reduceCtorEq, Int.reduceEq, asg, Tg.vars, wipe, noOwn, isTy, isN, Es.len, R.nox_ok, R.of_none, R.bind_ok, R.of_some, R.toS_ok, RS.then_nx, RS.then_rt, List.map_cons, List.map_nil, List.length_cons, List.length_nil, List.length_map, List.getElem?_map, List.cons_append, List.nil_append, List.replicate, List.getElem?_cons_zero, List.getElem?_cons_succ, List.set_cons_zero, List.set_cons_succ, List.set_set, Option.bind_some, Option.map_some, reduceIte, decide_true, decide_false, Bool.and_true, Bool.true_and, Bool.or_true, Bool.true_or, Bool.or_false, Bool.false_or, Bool.not_true, Bool.not_false, Bool.and_false, Bool.false_and, Bool.false_eq_true, Nat.reduceAdd, Nat.reduceSub, Nat.reduceLT, Int.reduceLT, Int.reduceLE, Int.reduceToNat, decide_eq_true_eq, Int.cast_ofNat_Int, d_law_same, zip_self, h.1, ih, blsD_true, all_true]
  | 0, .tup ds, S, h => by cases h
  | 0, .lst ds, S, h => by cases h
  | 0, .dct _ _, S, h => by cases h
  | n + 1, .dct _ _, S, h => by cases h
  | 0, .ref _, S, h => by cases h
  | n + 1, .ref _, S, h => by cases h
  | 0, .err _ _, S, h => by cases h
  | n + 1, .err _ _, S, h => by cases h
  | 0, .scr _, S, h => by cases h
  | n + 1, .scr _, S, h => by cases h
end IL
namespace IL
theorem tks_of {P : Tk → Prop} : ∀ {ys : List D}, (∀ y ∈ ys, ∃ t, y = tkD t ∧ P t) → ∃ ts : List Tk, ys = ts.map tkD ∧ ∀ t ∈ ts, P t
  | [], _ => ⟨[], rfl, fun _ h => (nomatch h)⟩
  | y :: ys, h => by
    obtain ⟨c, rfl, pc⟩ := h y List.mem_cons_self
    obtain ⟨l, rfl, pl⟩ := tks_of (ys := ys) fun y hy => h y (List.mem_cons_of_mem _ hy)
    refine ⟨c :: l, rfl, fun x hx => ?_⟩
    rcases List.mem_cons.mp hx with e | e
    · rw [e]; exact pc
    · exact pl x e
theorem three {k : Int} (h0 : 0 ≤ k) (h1 : k < 3) : ∃ x : Int, ([D.int 1, .int 3, .int 9] : List D)[k.toNat]? = some (.int x) ∧ 1 ≤ x ∧ x ≤ 9 := by
  have hk : k.toNat < 3 := by omega
  generalize k.toNat = j at hk
  match j, hk with
  | 0, _ => exact ⟨1, rfl, by decide, by decide⟩
  | 1, _ => exact ⟨3, rfl, by decide, by decide⟩
  | 2, _ => exact ⟨9, rfl, by decide, by decide⟩
theorem idx_dct {S : Store} {n : Nat} {L : Dc} (h : S[n]? = some (.dct (pks L) (pvs L))) (t : List Nat) : idxD S (.ref n) (.str t) = (pget L t).map D.int := by
  show (S[n]?).bind (fun o => idxO o (.str t)) = _
  rw [h]
  show kget (pks L) (pvs L) (.s t) = _
  rw [kget_p]
theorem in_dct {S : Store} {n : Nat} {L : Dc} (h : S[n]? = some (.dct (pks L) (pvs L))) (t : List Nat) : inD (.str t) (.ref n) S = some (pget L t).isSome := by
  show (match S[n]? with
    | some (.dct ks ds) => (D.str t).ky.map fun k => (kget ks ds k).isSome
    | some (.dcl ks ds) => (D.str t).ky.map fun k => (kget ks ds k).isSome
    | _ => none) = _
  rw [h]
  show some (kget (pks L) (pvs L) (.s t)).isSome = _
  rw [kget_p]
  cases pget L t <;> rfl
end IL
namespace IL
theorem rep_one (x : Int) : reps [111] x.toNat = List.replicate x.toNat 111 := reps_one 111 _
theorem k10_law {T : Tbl} (hbox : T.defs 100 = some d_law_box) (htake : T.defs 101 = some d_law_take) (hbars : T.defs 102 = some d_law_bars) (hsame : T.defs 103 = some d_law_same) (hf : T.defs 111 = some d_first_spoilt) (hcuts : T.defs 122 = some d_law_cuts) (hE : T.defs 123 = some d_ends) (hF : T.defs 125 = some d_far_in) (hPt : T.defs 130 = some d_law_patched) (hH : T.defs 132 = some d_has_clean) (hB : T.defs 133 = some d_bar_of) (hP : T.defs 137 = some d_places_in) (hR : T.defs 138 = some d_far_rows) (hO : T.defs 139 = some d_own_row) (hG : T.defs 140 = some d_greater_row) (hW : T.defs 141 = some d_row_of_two) (hRR : T.defs 142 = some d_reach_rows) (hy : T.defs 145 = some d_law_young) (hL : T.defs 147 = some d_least_age) (hlaw : T.defs 151 = some d_law_k10) (c1 : T.con 1 = some (.str [120]))
    (n : Nat) (ns : List Int) : ∃ S, call T (n + 9) 151 [.scr (ns.map .int)] [] = .ok (.bl true) S := by
  have eb := box_spec hbox ns (n + 7)
  have fb : frOf T 100 = true := by unfold frOf; rw [hbox]; rfl
  obtain ⟨r, S1, e1, r0, r1, f1⟩ := take_spec htake (bx_start ns) (m := 5) (by decide) (wide_of (by decide) (by decide)) (n + 7)
  obtain ⟨cs, S2, e2, hcs, f2⟩ := cuts_spec htake hcuts f1.bx (sz := 1 + r) (by omega) (by omega) (n + 6)
  obtain ⟨m, S3, e3, m0, m1, f3⟩ := take_spec htake f2.bx (m := 6) (by decide) (wide_of (by decide) (by decide)) (n + 7)
  have st : ∀ d ∈ rangeL 0 m.toNat, ∀ U, Fr 1 S3 U → ∃ y U', lcStep (T.G (n + 8)) [.val (.scr (ns.map .int)), .val (.ref 1), .val (.int (1 + r)), .val (.lst (dI cs)), .no, .no, .no, .no, .no, .no] (.v 8) .nil (.call 102 (.cons (.v 1) (.cons (.v 2) .nil))) d U = .ok (some y) U' ∧ (∃ t, y = .str t ∧ (ox t ∧ (t.length : Int) = 1 + r)) ∧ Fr 1 S3 U' := by
    intro d _ U fr
    obtain ⟨t, U', e, tl, ho, f⟩ := bars_spec htake hbars fr.bx (sz := 1 + r) (by omega) (by omega) (n + 6)
    refine ⟨.str t, U', ?_, ⟨t, rfl, ho, tl⟩, fr.trans f⟩
    generalize ns.map D.int = ND at *
    generalize dI cs = CD at *
    simp (decide := true) only [start, xs_nil, xs_cons, evalEs, evalAnd, evalOr, evalIt, e_v, e_pk, e_k, e_g, e_bin, e_chn, e_isn, e_ntn, e_neg, e_not, e_and, e_or, e_ite, e_tup, e_lst, e_dct0, e_idx, e_slL, e_slU, e_slB, e_rev, e_call, e_blt, e_met, e_cell, x_set, x_fz, x_unp, x_aug, x_ex, x_app, x_popA, x_ins, x_setx, x_sets, x_augs, x_iff, x_ret, x_mov, x_pass, x_for, x_whl, e_lc, idxD, idxO, atI, ixN, bop, drop, done, mkSlot, E.isPk, Es.anyPk, guard, G_call, G_fr, G_con, E.alloc, bltD, lenD, augD, intOf, sliceD, rcv_join, rcv_index, rcv_find, eqv_ii, eqv_bb, eqv_ss, eqv_nn, D.scal, List.all_cons, List.all_nil, reduceCtorEq, Int.reduceEq, asg, Tg.vars, wipe, noOwn, isTy, isN, Es.len, R.nox_ok, R.of_none, R.bind_ok, R.of_some, R.toS_ok, RS.then_nx, RS.then_rt, List.map_cons, List.map_nil, List.length_cons, List.length_nil, List.length_map, List.getElem?_map, List.cons_append, List.nil_append, List.replicate, List.getElem?_cons_zero, List.getElem?_cons_succ, List.set_cons_zero, List.set_cons_succ, List.set_set, Option.bind_some, Option.map_some, reduceIte, decide_true, decide_false, Bool.and_true, Bool.true_and, Bool.or_true, Bool.true_or, Bool.or_false, Bool.false_or, Bool.not_true, Bool.not_false, Bool.and_false, Bool.false_and, Bool.false_eq_true, Nat.reduceAdd, Nat.reduceSub, Nat.reduceLT, Int.reduceLT, Int.reduceLE, Int.reduceToNat, decide_eq_true_eq, Int.cast_ofNat_Int, lcStep, e]
  obtain ⟨ys, S4, e4, l4, p4, f4⟩ := lc_inv (Fr.refl f3.bx) st
  obtain ⟨ts, rfl, ht⟩ := strs_of p4
  rw [rangeL_length, List.length_map] at l4
  have X0 := FrX.start f4.bx ts
  have hb4 := bx_lt f4.bx
  have ts5 : ts.length ≤ 5 := by omega
  generalize hND : ns.map D.int = ND at *
  have i62m := i62_of (k := m) (by omega) (by omega)
  have ev4 : evalE (T.G (n + 8)) [.val (.scr ND), .val (.ref 1), .val (.int (1 + r)), .val (.lst (dI cs)), .no, .no, .no, .no, .no, .no] (.lc (.v 8) (.r1 (.call 101 (.cons (.v 1) (.cons (.k (.int 6)) .nil)))) .nil (.call 102 (.cons (.v 1) (.cons (.v 2) .nil)))) S2 = .ok (.lst (dS ts)) S4 := by
    refine lc_ok (S1 := S3) (ds := rangeL 0 m.toNat) rfl ?_ (by rw [rangeL_length]; unfold line; omega) e4
    generalize dI cs = CD at *
    simp (decide := true) only [start, xs_nil, xs_cons, evalEs, evalAnd, evalOr, evalIt, e_v, e_pk, e_k, e_g, e_bin, e_chn, e_isn, e_ntn, e_neg, e_not, e_and, e_or, e_ite, e_tup, e_lst, e_dct0, e_idx, e_slL, e_slU, e_slB, e_rev, e_call, e_blt, e_met, e_cell, x_set, x_fz, x_unp, x_aug, x_ex, x_app, x_popA, x_ins, x_setx, x_sets, x_augs, x_iff, x_ret, x_mov, x_pass, x_for, x_whl, e_lc, idxD, idxO, atI, ixN, bop, drop, done, mkSlot, E.isPk, Es.anyPk, guard, G_call, G_fr, G_con, E.alloc, bltD, lenD, augD, intOf, sliceD, rcv_join, rcv_index, rcv_find, eqv_ii, eqv_bb, eqv_ss, eqv_nn, D.scal, List.all_cons, List.all_nil, reduceCtorEq, Int.reduceEq, asg, Tg.vars, wipe, noOwn, isTy, isN, Es.len, R.nox_ok, R.of_none, R.bind_ok, R.of_some, R.toS_ok, RS.then_nx, RS.then_rt, List.map_cons, List.map_nil, List.length_cons, List.length_nil, List.length_map, List.getElem?_map, List.cons_append, List.nil_append, List.replicate, List.getElem?_cons_zero, List.getElem?_cons_succ, List.set_cons_zero, List.set_cons_succ, List.set_set, Option.bind_some, Option.map_some, reduceIte, decide_true, decide_false, Bool.and_true, Bool.true_and, Bool.or_true, Bool.true_or, Bool.or_false, Bool.false_or, Bool.not_true, Bool.not_false, Bool.and_false, Bool.false_and, Bool.false_eq_true, Nat.reduceAdd, Nat.reduceSub, Nat.reduceLT, Int.reduceLT, Int.reduceLE, Int.reduceToNat, decide_eq_true_eq, Int.cast_ofNat_Int, e3, i62m]
  -- the patching
  obtain ⟨S6, ts6, X6, l6, t6, e6⟩ : ∃ S6 ts6, FrX 1 S4 S6 ts6 ∧ ts6.length = ts.length ∧ Txs (1 + r) ts6 ∧ exec (T.G (n + 8)) (.iff (.and (.cons (.bin .gt (.blt .len (.cons (.v 4) .nil)) (.k (.int 0))) (.cons (.bin .gt (.call 101 (.cons (.v 1) (.cons (.k (.int 3)) .nil))) (.k (.int 0))) .nil))) (.cons (.set 4 0 (.call 130 (.cons (.v 1) (.cons (.v 2) (.cons (.v 3) (.cons (.v 4) .nil)))))) .nil) .nil)
      [.val (.scr ND), .val (.ref 1), .val (.int (1 + r)), .val (.lst (dI cs)), .val (.ref S4.length), .no, .no, .no, .no, .no] (S4 ++ [.lst (dS ts)]) = .nx [.val (.scr ND), .val (.ref 1), .val (.int (1 + r)), .val (.lst (dI cs)), .val (.ref S4.length), .no, .no, .no, .no, .no] S6 := by
    have tx0 := X0.tx
    have dl : (dS ts).length = ts.length := List.length_map ..
    by_cases hp : 0 < ts.length
    · obtain ⟨v, S5, e5, v0, v1, f5⟩ := take_spec htake X0.bx (m := 3) (by decide) (wide_of (by decide) (by decide)) (n + 7)
      have X1 := X0.step hb4 f5
      have hp' : (0 : Int) < ((dS ts).length : Int) := by omega
      by_cases hv : 0 < v
      · obtain ⟨S6, ts6, e6, X6, l6, t6⟩ := patched_spec htake hPt f4.bx (sz := 1 + r) (by omega) (by omega) hcs X1 (by omega) (by omega) ht (n + 6)
        refine ⟨S6, ts6, X6, l6, t6, ?_⟩
        generalize dI cs = CD at *
        generalize dS ts = TD at *
        generalize S4 ++ [Obj.lst TD] = U at *
        simp (decide := true) only [start, xs_nil, xs_cons, evalEs, evalAnd, evalOr, evalIt, e_v, e_pk, e_k, e_g, e_bin, e_chn, e_isn, e_ntn, e_neg, e_not, e_and, e_or, e_ite, e_tup, e_lst, e_dct0, e_idx, e_slL, e_slU, e_slB, e_rev, e_call, e_blt, e_met, e_cell, x_set, x_fz, x_unp, x_aug, x_ex, x_app, x_popA, x_ins, x_setx, x_sets, x_augs, x_iff, x_ret, x_mov, x_pass, x_for, x_whl, e_lc, idxD, idxO, atI, ixN, bop, drop, done, mkSlot, E.isPk, Es.anyPk, guard, G_call, G_fr, G_con, E.alloc, bltD, lenD, augD, intOf, sliceD, rcv_join, rcv_index, rcv_find, eqv_ii, eqv_bb, eqv_ss, eqv_nn, D.scal, List.all_cons, List.all_nil, reduceCtorEq, Int.reduceEq, asg, Tg.vars, wipe, noOwn, isTy, isN, Es.len, R.nox_ok, R.of_none, R.bind_ok, R.of_some, R.toS_ok, RS.then_nx, RS.then_rt, List.map_cons, List.map_nil, List.length_cons, List.length_nil, List.length_map, List.getElem?_map, List.cons_append, List.nil_append, List.replicate, List.getElem?_cons_zero, List.getElem?_cons_succ, List.set_cons_zero, List.set_cons_succ, List.set_set, Option.bind_some, Option.map_some, reduceIte, decide_true, decide_false, Bool.and_true, Bool.true_and, Bool.or_true, Bool.true_or, Bool.or_false, Bool.false_or, Bool.not_true, Bool.not_false, Bool.and_false, Bool.false_and, Bool.false_eq_true, Nat.reduceAdd, Nat.reduceSub, Nat.reduceLT, Int.reduceLT, Int.reduceLE, Int.reduceToNat, decide_eq_true_eq, Int.cast_ofNat_Int, tx0, hp', e5, hv, e6, D.isNode]
      · refine ⟨S5, ts, X1, rfl, ht, ?_⟩
        generalize dI cs = CD at *
        generalize dS ts = TD at *
        generalize S4 ++ [Obj.lst TD] = U at *
        simp (decide := true) only [start, xs_nil, xs_cons, evalEs, evalAnd, evalOr, evalIt, e_v, e_pk, e_k, e_g, e_bin, e_chn, e_isn, e_ntn, e_neg, e_not, e_and, e_or, e_ite, e_tup, e_lst, e_dct0, e_idx, e_slL, e_slU, e_slB, e_rev, e_call, e_blt, e_met, e_cell, x_set, x_fz, x_unp, x_aug, x_ex, x_app, x_popA, x_ins, x_setx, x_sets, x_augs, x_iff, x_ret, x_mov, x_pass, x_for, x_whl, e_lc, idxD, idxO, atI, ixN, bop, drop, done, mkSlot, E.isPk, Es.anyPk, guard, G_call, G_fr, G_con, E.alloc, bltD, lenD, augD, intOf, sliceD, rcv_join, rcv_index, rcv_find, eqv_ii, eqv_bb, eqv_ss, eqv_nn, D.scal, List.all_cons, List.all_nil, reduceCtorEq, Int.reduceEq, asg, Tg.vars, wipe, noOwn, isTy, isN, Es.len, R.nox_ok, R.of_none, R.bind_ok, R.of_some, R.toS_ok, RS.then_nx, RS.then_rt, List.map_cons, List.map_nil, List.length_cons, List.length_nil, List.length_map, List.getElem?_map, List.cons_append, List.nil_append, List.replicate, List.getElem?_cons_zero, List.getElem?_cons_succ, List.set_cons_zero, List.set_cons_succ, List.set_set, Option.bind_some, Option.map_some, reduceIte, decide_true, decide_false, Bool.and_true, Bool.true_and, Bool.or_true, Bool.true_or, Bool.or_false, Bool.false_or, Bool.not_true, Bool.not_false, Bool.and_false, Bool.false_and, Bool.false_eq_true, Nat.reduceAdd, Nat.reduceSub, Nat.reduceLT, Int.reduceLT, Int.reduceLE, Int.reduceToNat, decide_eq_true_eq, Int.cast_ofNat_Int, tx0, hp', e5, hv]
    · have hp' : ¬ (0 : Int) < ((dS ts).length : Int) := by omega
      refine ⟨_, ts, X0, rfl, ht, ?_⟩
      generalize dI cs = CD at *
      generalize dS ts = TD at *
      generalize S4 ++ [Obj.lst TD] = U at *
      simp (decide := true) only [start, xs_nil, xs_cons, evalEs, evalAnd, evalOr, evalIt, e_v, e_pk, e_k, e_g, e_bin, e_chn, e_isn, e_ntn, e_neg, e_not, e_and, e_or, e_ite, e_tup, e_lst, e_dct0, e_idx, e_slL, e_slU, e_slB, e_rev, e_call, e_blt, e_met, e_cell, x_set, x_fz, x_unp, x_aug, x_ex, x_app, x_popA, x_ins, x_setx, x_sets, x_augs, x_iff, x_ret, x_mov, x_pass, x_for, x_whl, e_lc, idxD, idxO, atI, ixN, bop, drop, done, mkSlot, E.isPk, Es.anyPk, guard, G_call, G_fr, G_con, E.alloc, bltD, lenD, augD, intOf, sliceD, rcv_join, rcv_index, rcv_find, eqv_ii, eqv_bb, eqv_ss, eqv_nn, D.scal, List.all_cons, List.all_nil, reduceCtorEq, Int.reduceEq, asg, Tg.vars, wipe, noOwn, isTy, isN, Es.len, R.nox_ok, R.of_none, R.bind_ok, R.of_some, R.toS_ok, RS.then_nx, RS.then_rt, List.map_cons, List.map_nil, List.length_cons, List.length_nil, List.length_map, List.getElem?_map, List.cons_append, List.nil_append, List.replicate, List.getElem?_cons_zero, List.getElem?_cons_succ, List.set_cons_zero, List.set_cons_succ, List.set_set, Option.bind_some, Option.map_some, reduceIte, decide_true, decide_false, Bool.and_true, Bool.true_and, Bool.or_true, Bool.true_or, Bool.or_false, Bool.false_or, Bool.not_true, Bool.not_false, Bool.and_false, Bool.false_and, Bool.false_eq_true, Nat.reduceAdd, Nat.reduceSub, Nat.reduceLT, Int.reduceLT, Int.reduceLE, Int.reduceToNat, decide_eq_true_eq, Int.cast_ofNat_Int, tx0, hp']
  -- the ages
  have st2 : ∀ d ∈ dS ts6, ∀ U, FrX 1 S4 U ts6 → ∃ y U', lcStep (T.G (n + 8)) [.val (.scr ND), .val (.ref 1), .val (.int (1 + r)), .val (.lst (dI cs)), .val (.ref S4.length), .no, .no, .no, .no, .no] (.v 9) .nil (.tup (.cons (.v 9) (.cons (.call 101 (.cons (.v 1) (.cons (.idx (.lst (.cons (.k (.int 1)) (.cons (.k (.int 3)) (.cons (.k (.int 9)) .nil)))) (.call 101 (.cons (.v 1) (.cons (.k (.int 3)) .nil)))) .nil))) .nil))) d U = .ok (some y) U' ∧ (∃ k : Tk, y = tkD k ∧ (ox k.1 ∧ (k.1.length : Int) = 1 + r ∧ 0 ≤ k.2 ∧ k.2 ≤ 60)) ∧ FrX 1 S4 U' ts6 := by
    intro d hd U X
    obtain ⟨t, htm, rfl⟩ := List.mem_map.mp hd
    obtain ⟨to, tl⟩ := t6 t htm
    obtain ⟨q, Ub, gb, q0, q1, hb⟩ := take_spec htake X.bx (m := 3) (by decide) (wide_of (by decide) (by decide)) (n + 7)
    obtain ⟨x, hx, x0, x1⟩ := three q0 q1
    obtain ⟨a, Uc, gc, a0, a1, hc⟩ := take_spec htake hb.bx (m := x) (by omega) (wide_of (by omega) (by omega)) (n + 7)
    refine ⟨tkD (t, a), Uc, ?_, ⟨(t, a), rfl, to, tl, a0, by show a ≤ 60; omega⟩, (X.step hb4 hb).step hb4 hc⟩
    generalize dI cs = CD at *
    unfold tkD
    simp (decide := true) only [start, xs_nil, xs_cons, evalEs, evalAnd, evalOr, evalIt, e_v, e_pk, e_k, e_g, e_bin, e_chn, e_isn, e_ntn, e_neg, e_not, e_and, e_or, e_ite, e_tup, e_lst, e_dct0, e_idx, e_slL, e_slU, e_slB, e_rev, e_call, e_blt, e_met, e_cell, x_set, x_fz, x_unp, x_aug, x_ex, x_app, x_popA, x_ins, x_setx, x_sets, x_augs, x_iff, x_ret, x_mov, x_pass, x_for, x_whl, e_lc, idxD, idxO, atI, ixN, bop, drop, done, mkSlot, E.isPk, Es.anyPk, guard, G_call, G_fr, G_con, E.alloc, bltD, lenD, augD, intOf, sliceD, rcv_join, rcv_index, rcv_find, eqv_ii, eqv_bb, eqv_ss, eqv_nn, D.scal, List.all_cons, List.all_nil, reduceCtorEq, Int.reduceEq, asg, Tg.vars, wipe, noOwn, isTy, isN, Es.len, R.nox_ok, R.of_none, R.bind_ok, R.of_some, R.toS_ok, RS.then_nx, RS.then_rt, List.map_cons, List.map_nil, List.length_cons, List.length_nil, List.length_map, List.getElem?_map, List.cons_append, List.nil_append, List.replicate, List.getElem?_cons_zero, List.getElem?_cons_succ, List.set_cons_zero, List.set_cons_succ, List.set_set, Option.bind_some, Option.map_some, reduceIte, decide_true, decide_false, Bool.and_true, Bool.true_and, Bool.or_true, Bool.true_or, Bool.or_false, Bool.false_or, Bool.not_true, Bool.not_false, Bool.and_false, Bool.false_and, Bool.false_eq_true, Nat.reduceAdd, Nat.reduceSub, Nat.reduceLT, Int.reduceLT, Int.reduceLE, Int.reduceToNat, decide_eq_true_eq, Int.cast_ofNat_Int, lcStep, gb, gc, q0, q1, hx]
  have dl6 : (dS ts6).length = ts6.length := List.length_map ..
  obtain ⟨zs, S7, e7, l7, p7, X7⟩ := live_inv (n := S4.length) (ds := dS ts6) (I := fun U => FrX 1 S4 U ts6) (fun U X => X.tx) st2 (dS ts6).length 0 X6 (by omega)
  obtain ⟨ks, rfl, kp⟩ := tks_of p7
  rw [List.length_map] at l7
  have sh : Shelf (1 + r) cs ks := ⟨by omega, hcs, by omega, fun k hk => kp k hk⟩
  obtain ⟨X, ry, e8, hrl, hry⟩ := young_spec hy sh (by omega) S7 (n + 7)
  have e9 := least_age_spec hf hE hF hH hB hP hR hO hG hW hRR hL c1 sh (by omega) (S7 ++ X) (n + 3)
  have yl := young_least sh (by omega)
  have cl := hcs.len
  have a63 : i63 (1 + r) = true := i63_of (by omega) (by omega)
  have b1 : 1 * (1 + r).toNat ≤ line := by unfold line; omega
  generalize youngL cs ks = Y at *
  have gk := idx_dct hry (List.replicate (1 + r).toNat 111)
  have ni := in_dct hry (List.replicate (1 + r).toNat 111)
  rw [yl] at gk ni
  have s7 := X7.tx
  refine ⟨S7 ++ X, ?_⟩
  generalize leastO (1 + r) ([0] ++ cs ++ [1 + r]) ks = A at *
  have mu : evalE (T.G (n + 8)) [.val (.scr ND), .val (.ref 1), .val (.int (1 + r)), .val (.lst (dI cs)), .val (.ref S4.length), .val (.lst (ks.map tkD)), .val (.ref ry), .val (leastD A), .no, .no] (.bin .mul (.k (.str [111])) (.v 2)) (S7 ++ X) = .ok (.str (List.replicate (1 + r).toNat 111)) (S7 ++ X) := by
    refine ev_bin (x := .str [111]) (y := .int (1 + r)) (ev_k _) (ev_v rfl) ?_
    show guard (i63 (1 + r) && decide (([111] : List Nat).length * (1 + r).toNat ≤ line)) (some (D.str (reps [111] (1 + r).toNat))) = _
    rw [a63, rep_one, decide_eq_true (by simpa using b1)]; rfl
  obtain ⟨o, fin⟩ : ∃ o, execs (T.G (n + 8)) (.cons (.iff (.bin .notin (.bin .mul (.k (.str [111])) (.v 2)) (.v 6)) (.cons (.ret (.isn (.v 7))) .nil) .nil) (.cons (.ret (.call 103 (.cons (.v 7) (.cons (.idx (.v 6) (.bin .mul (.k (.str [111])) (.v 2))) .nil)))) .nil)) [.val (.scr ND), .val (.ref 1), .val (.int (1 + r)), .val (.lst (dI cs)), .val (.ref S4.length), .val (.lst (ks.map tkD)), .val (.ref ry), .val (leastD A), .no, .no] (S7 ++ X) = .rt (.bl true) o (S7 ++ X) := by
    cases A with
    | none =>
      refine ⟨false, st_rt (st_ifT (S1 := S7 ++ X) (ev_bin (d := .bl true) mu (ev_v rfl) ?_) (st_rt ?_))⟩
      · show (inD _ _ _).map (fun x => D.bl (!x)) = _
        rw [ni]; rfl
      · rw [x_ret, if_neg (by show ¬(false = true); decide), ev_isn (ev_v (d := .non) rfl), R.toS_ok]; rfl
    | some A =>
      refine ⟨frOf T 103, (st_nx (st_ifF (S1 := S7 ++ X) (ev_bin (d := .bl false) mu (ev_v rfl) ?_) rfl)).trans (st_rt ?_)⟩
      · show (inD _ _ _).map (fun x => D.bl (!x)) = _
        rw [ni]; rfl
      · have sm := same_refl hsame (n + 7) (.int (A : Int)) (S7 ++ X) rfl
        have e : evalE (T.G (n + 8)) [.val (.scr ND), .val (.ref 1), .val (.int (1 + r)), .val (.lst (dI cs)), .val (.ref S4.length), .val (.lst (ks.map tkD)), .val (.ref ry), .val (leastD (some A)), .no, .no] (.call 103 (.cons (.v 7) (.cons (.idx (.v 6) (.bin .mul (.k (.str [111])) (.v 2))) .nil))) (S7 ++ X) = .ok (.bl true) (S7 ++ X) := by
          rw [e_call]
          have es : evalEs (T.G (n + 8)) [.val (.scr ND), .val (.ref 1), .val (.int (1 + r)), .val (.lst (dI cs)), .val (.ref S4.length), .val (.lst (ks.map tkD)), .val (.ref ry), .val (leastD (some A)), .no, .no] (.cons (.v 7) (.cons (.idx (.v 6) (.bin .mul (.k (.str [111])) (.v 2))) .nil)) (S7 ++ X) = .ok [.int (A : Int), .int (A : Int)] (S7 ++ X) := by
            show (evalE _ _ (.v 7) _).bind _ = _
            rw [ev_v (d := .int (A : Int)) rfl, R.bind_ok]
            show ((evalE _ _ (.idx (.v 6) (.bin .mul (.k (.str [111])) (.v 2))) _).bind _).bind _ = _
            rw [ev_idx (d := .int (A : Int)) (ev_v rfl) mu (by rw [gk]; rfl), R.bind_ok]; rfl
          rw [es, R.bind_ok, if_neg (by show ¬(false = true); decide)]
          exact sm
        rw [x_ret, if_neg (by show ¬(false = true); decide), e, R.toS_ok]; rfl
  refine call_run hlaw rfl (r := .rt (.bl true) o (S7 ++ X)) ?_ rfl
  unfold d_law_k10
  dsimp only
  subst hND
  show execs (T.G (n + 8)) _ [.val (.scr (ns.map .int)), .no, .no, .no, .no, .no, .no, .no, .no, .no] [] = _
  generalize ns.map D.int = ND at *
  refine (st_nx (σ' := [.val (.scr ND), .val (.ref 1), .no, .no, .no, .no, .no, .no, .no, .no]) (S' := [.lst ND, .lst [.ref 0, .int 0, .int 0, .int 1]]) (by simp (decide := true) only [start, xs_nil, xs_cons, evalEs, evalAnd, evalOr, evalIt, e_v, e_pk, e_k, e_g, e_bin, e_chn, e_isn, e_ntn, e_neg, e_not, e_and, e_or, e_ite, e_tup, e_lst, e_dct0, e_idx, e_slL, e_slU, e_slB, e_rev, e_call, e_blt, e_met, e_cell, x_set, x_fz, x_unp, x_aug, x_ex, x_app, x_popA, x_ins, x_setx, x_sets, x_augs, x_iff, x_ret, x_mov, x_pass, x_for, x_whl, e_lc, idxD, idxO, atI, ixN, bop, drop, done, mkSlot, E.isPk, Es.anyPk, guard, G_call, G_fr, G_con, E.alloc, bltD, lenD, augD, intOf, sliceD, rcv_join, rcv_index, rcv_find, eqv_ii, eqv_bb, eqv_ss, eqv_nn, D.scal, List.all_cons, List.all_nil, reduceCtorEq, Int.reduceEq, asg, Tg.vars, wipe, noOwn, isTy, isN, Es.len, R.nox_ok, R.of_none, R.bind_ok, R.of_some, R.toS_ok, RS.then_nx, RS.then_rt, List.map_cons, List.map_nil, List.length_cons, List.length_nil, List.length_map, List.getElem?_map, List.cons_append, List.nil_append, List.replicate, List.getElem?_cons_zero, List.getElem?_cons_succ, List.set_cons_zero, List.set_cons_succ, List.set_set, Option.bind_some, Option.map_some, reduceIte, decide_true, decide_false, Bool.and_true, Bool.true_and, Bool.or_true, Bool.true_or, Bool.or_false, Bool.false_or, Bool.not_true, Bool.not_false, Bool.and_false, Bool.false_and, Bool.false_eq_true, Nat.reduceAdd, Nat.reduceSub, Nat.reduceLT, Int.reduceLT, Int.reduceLE, Int.reduceToNat, decide_eq_true_eq, Int.cast_ofNat_Int, eb, fb])).trans ?_
  refine (st_nx (σ' := [.val (.scr ND), .val (.ref 1), .val (.int (1 + r)), .no, .no, .no, .no, .no, .no, .no]) (S' := S1) (by simp (decide := true) only [start, xs_nil, xs_cons, evalEs, evalAnd, evalOr, evalIt, e_v, e_pk, e_k, e_g, e_bin, e_chn, e_isn, e_ntn, e_neg, e_not, e_and, e_or, e_ite, e_tup, e_lst, e_dct0, e_idx, e_slL, e_slU, e_slB, e_rev, e_call, e_blt, e_met, e_cell, x_set, x_fz, x_unp, x_aug, x_ex, x_app, x_popA, x_ins, x_setx, x_sets, x_augs, x_iff, x_ret, x_mov, x_pass, x_for, x_whl, e_lc, idxD, idxO, atI, ixN, bop, drop, done, mkSlot, E.isPk, Es.anyPk, guard, G_call, G_fr, G_con, E.alloc, bltD, lenD, augD, intOf, sliceD, rcv_join, rcv_index, rcv_find, eqv_ii, eqv_bb, eqv_ss, eqv_nn, D.scal, List.all_cons, List.all_nil, reduceCtorEq, Int.reduceEq, asg, Tg.vars, wipe, noOwn, isTy, isN, Es.len, R.nox_ok, R.of_none, R.bind_ok, R.of_some, R.toS_ok, RS.then_nx, RS.then_rt, List.map_cons, List.map_nil, List.length_cons, List.length_nil, List.length_map, List.getElem?_map, List.cons_append, List.nil_append, List.replicate, List.getElem?_cons_zero, List.getElem?_cons_succ, List.set_cons_zero, List.set_cons_succ, List.set_set, Option.bind_some, Option.map_some, reduceIte, decide_true, decide_false, Bool.and_true, Bool.true_and, Bool.or_true, Bool.true_or, Bool.or_false, Bool.false_or, Bool.not_true, Bool.not_false, Bool.and_false, Bool.false_and, Bool.false_eq_true, Nat.reduceAdd, Nat.reduceSub, Nat.reduceLT, Int.reduceLT, Int.reduceLE, Int.reduceToNat, decide_eq_true_eq, Int.cast_ofNat_Int, e1])).trans ?_
  refine (st_nx (σ' := [.val (.scr ND), .val (.ref 1), .val (.int (1 + r)), .val (.lst (dI cs)), .no, .no, .no, .no, .no, .no]) (S' := S2) (by
    generalize dI cs = CD at *
    simp (decide := true) only [start, xs_nil, xs_cons, evalEs, evalAnd, evalOr, evalIt, e_v, e_pk, e_k, e_g, e_bin, e_chn, e_isn, e_ntn, e_neg, e_not, e_and, e_or, e_ite, e_tup, e_lst, e_dct0, e_idx, e_slL, e_slU, e_slB, e_rev, e_call, e_blt, e_met, e_cell, x_set, x_fz, x_unp, x_aug, x_ex, x_app, x_popA, x_ins, x_setx, x_sets, x_augs, x_iff, x_ret, x_mov, x_pass, x_for, x_whl, e_lc, idxD, idxO, atI, ixN, bop, drop, done, mkSlot, E.isPk, Es.anyPk, guard, G_call, G_fr, G_con, E.alloc, bltD, lenD, augD, intOf, sliceD, rcv_join, rcv_index, rcv_find, eqv_ii, eqv_bb, eqv_ss, eqv_nn, D.scal, List.all_cons, List.all_nil, reduceCtorEq, Int.reduceEq, asg, Tg.vars, wipe, noOwn, isTy, isN, Es.len, R.nox_ok, R.of_none, R.bind_ok, R.of_some, R.toS_ok, RS.then_nx, RS.then_rt, List.map_cons, List.map_nil, List.length_cons, List.length_nil, List.length_map, List.getElem?_map, List.cons_append, List.nil_append, List.replicate, List.getElem?_cons_zero, List.getElem?_cons_succ, List.set_cons_zero, List.set_cons_succ, List.set_set, Option.bind_some, Option.map_some, reduceIte, decide_true, decide_false, Bool.and_true, Bool.true_and, Bool.or_true, Bool.true_or, Bool.or_false, Bool.false_or, Bool.not_true, Bool.not_false, Bool.and_false, Bool.false_and, Bool.false_eq_true, Nat.reduceAdd, Nat.reduceSub, Nat.reduceLT, Int.reduceLT, Int.reduceLE, Int.reduceToNat, decide_eq_true_eq, Int.cast_ofNat_Int, e2])).trans ?_
  refine (st_nx (σ' := [.val (.scr ND), .val (.ref 1), .val (.int (1 + r)), .val (.lst (dI cs)), .val (.ref S4.length), .no, .no, .no, .no, .no]) (S' := S4 ++ [.lst (dS ts)]) (by
    rw [x_set, if_neg (by show ¬(false = true); decide), e_cell, if_neg (by show ¬(false = true); decide), ev4]; rfl)).trans ?_
  refine (st_nx e6).trans ?_
  refine (st_nx (σ' := [.val (.scr ND), .val (.ref 1), .val (.int (1 + r)), .val (.lst (dI cs)), .val (.ref S4.length), .val (.lst (ks.map tkD)), .no, .no, .no, .no]) (S' := S7) ?_).trans ?_
  · have ev := lcl_ok (G := T.G (n + 8)) (σ := [.val (.scr ND), .val (.ref 1), .val (.int (1 + r)), .val (.lst (dI cs)), .val (.ref S4.length), .no, .no, .no, .no, .no]) (tg := .v 9) (e := .v 4) (c := .nil) (S := S6) rfl rfl X6.tx (by rw [dl6]; unfold line; omega) e7
    rw [x_set, if_neg (by show ¬(false = true); decide), ev, R.toS_ok]; rfl
  generalize hKD : ks.map tkD = KD at *
  refine (st_nx (σ' := [.val (.scr ND), .val (.ref 1), .val (.int (1 + r)), .val (.lst (dI cs)), .val (.ref S4.length), .val (.lst KD), .val (.ref ry), .no, .no, .no]) (S' := S7 ++ X) (by
    generalize dI cs = CD at *
    generalize S7 ++ X = SX at *
    simp (decide := true) only [start, xs_nil, xs_cons, evalEs, evalAnd, evalOr, evalIt, e_v, e_pk, e_k, e_g, e_bin, e_chn, e_isn, e_ntn, e_neg, e_not, e_and, e_or, e_ite, e_tup, e_lst, e_dct0, e_idx, e_slL, e_slU, e_slB, e_rev, e_call, e_blt, e_met, e_cell, x_set, x_fz, x_unp, x_aug, x_ex, x_app, x_popA, x_ins, x_setx, x_sets, x_augs, x_iff, x_ret, x_mov, x_pass, x_for, x_whl, e_lc, idxD, idxO, atI, ixN, bop, drop, done, mkSlot, E.isPk, Es.anyPk, guard, G_call, G_fr, G_con, E.alloc, bltD, lenD, augD, intOf, sliceD, rcv_join, rcv_index, rcv_find, eqv_ii, eqv_bb, eqv_ss, eqv_nn, D.scal, List.all_cons, List.all_nil, reduceCtorEq, Int.reduceEq, asg, Tg.vars, wipe, noOwn, isTy, isN, Es.len, R.nox_ok, R.of_none, R.bind_ok, R.of_some, R.toS_ok, RS.then_nx, RS.then_rt, List.map_cons, List.map_nil, List.length_cons, List.length_nil, List.length_map, List.getElem?_map, List.cons_append, List.nil_append, List.replicate, List.getElem?_cons_zero, List.getElem?_cons_succ, List.set_cons_zero, List.set_cons_succ, List.set_set, Option.bind_some, Option.map_some, reduceIte, decide_true, decide_false, Bool.and_true, Bool.true_and, Bool.or_true, Bool.true_or, Bool.or_false, Bool.false_or, Bool.not_true, Bool.not_false, Bool.and_false, Bool.false_and, Bool.false_eq_true, Nat.reduceAdd, Nat.reduceSub, Nat.reduceLT, Int.reduceLT, Int.reduceLE, Int.reduceToNat, decide_eq_true_eq, Int.cast_ofNat_Int, e8])).trans ?_
  refine (st_nx (σ' := [.val (.scr ND), .val (.ref 1), .val (.int (1 + r)), .val (.lst (dI cs)), .val (.ref S4.length), .val (.lst KD), .val (.ref ry), .val (leastD A), .no, .no]) (S' := S7 ++ X) (by
    generalize dI cs = CD at *
    generalize S7 ++ X = SX at *
    generalize leastD A = LD at *
    simp (decide := true) only [start, xs_nil, xs_cons, evalEs, evalAnd, evalOr, evalIt, e_v, e_pk, e_k, e_g, e_bin, e_chn, e_isn, e_ntn, e_neg, e_not, e_and, e_or, e_ite, e_tup, e_lst, e_dct0, e_idx, e_slL, e_slU, e_slB, e_rev, e_call, e_blt, e_met, e_cell, x_set, x_fz, x_unp, x_aug, x_ex, x_app, x_popA, x_ins, x_setx, x_sets, x_augs, x_iff, x_ret, x_mov, x_pass, x_for, x_whl, e_lc, idxD, idxO, atI, ixN, bop, drop, done, mkSlot, E.isPk, Es.anyPk, guard, G_call, G_fr, G_con, E.alloc, bltD, lenD, augD, intOf, sliceD, rcv_join, rcv_index, rcv_find, eqv_ii, eqv_bb, eqv_ss, eqv_nn, D.scal, List.all_cons, List.all_nil, reduceCtorEq, Int.reduceEq, asg, Tg.vars, wipe, noOwn, isTy, isN, Es.len, R.nox_ok, R.of_none, R.bind_ok, R.of_some, R.toS_ok, RS.then_nx, RS.then_rt, List.map_cons, List.map_nil, List.length_cons, List.length_nil, List.length_map, List.getElem?_map, List.cons_append, List.nil_append, List.replicate, List.getElem?_cons_zero, List.getElem?_cons_succ, List.set_cons_zero, List.set_cons_succ, List.set_set, Option.bind_some, Option.map_some, reduceIte, decide_true, decide_false, Bool.and_true, Bool.true_and, Bool.or_true, Bool.true_or, Bool.or_false, Bool.false_or, Bool.not_true, Bool.not_false, Bool.and_false, Bool.false_and, Bool.false_eq_true, Nat.reduceAdd, Nat.reduceSub, Nat.reduceLT, Int.reduceLT, Int.reduceLE, Int.reduceToNat, decide_eq_true_eq, Int.cast_ofNat_Int, e9])).trans ?_
  exact fin
end IL
namespace K10
open PySem PySem.Spec PyProof.Rows L2 IL
def T : Tbl := ⟨fun i => (([(100, d_law_box), (101, d_law_take), (122, d_law_cuts), (145, d_law_young), (123, d_ends), (137, d_places_in), (111, d_first_spoilt), (125, d_far_in), (138, d_far_rows), (139, d_own_row), (140, d_greater_row), (141, d_row_of_two), (142, d_reach_rows), (132, d_has_clean), (133, d_bar_of), (147, d_least_age), (103, d_law_same), (102, d_law_bars), (130, d_law_patched), (151, d_law_k10), (131, d_law_shelf)] : List (Nat × Def))).lookup i, fun i => (([(1, .str [120])] : List (Nat × D))).lookup i⟩
theorem T_law_box : T.defs 100 = some d_law_box := rfl
theorem T_law_take : T.defs 101 = some d_law_take := rfl
theorem T_law_cuts : T.defs 122 = some d_law_cuts := rfl
theorem T_law_young : T.defs 145 = some d_law_young := rfl
theorem T_ends : T.defs 123 = some d_ends := rfl
theorem T_places_in : T.defs 137 = some d_places_in := rfl
theorem T_first_spoilt : T.defs 111 = some d_first_spoilt := rfl
theorem T_far_in : T.defs 125 = some d_far_in := rfl
theorem T_far_rows : T.defs 138 = some d_far_rows := rfl
theorem T_own_row : T.defs 139 = some d_own_row := rfl
theorem T_greater_row : T.defs 140 = some d_greater_row := rfl
theorem T_row_of_two : T.defs 141 = some d_row_of_two := rfl
theorem T_reach_rows : T.defs 142 = some d_reach_rows := rfl
theorem T_has_clean : T.defs 132 = some d_has_clean := rfl
theorem T_bar_of : T.defs 133 = some d_bar_of := rfl
theorem T_least_age : T.defs 147 = some d_least_age := rfl
theorem T_law_same : T.defs 103 = some d_law_same := rfl
theorem T_law_bars : T.defs 102 = some d_law_bars := rfl
theorem T_law_patched : T.defs 130 = some d_law_patched := rfl
theorem T_law_k10 : T.defs 151 = some d_law_k10 := rfl
theorem T_law_shelf : T.defs 131 = some d_law_shelf := rfl
theorem T_c1 : T.con 1 = some (.str [120]) := rfl
def top (i : Nat) : Stmt := PySem.Challenge.pw_hissroom_k10_whole_least_of_all_makes.main.body.getD i (.Pass ⟨0, 0, 0, 0⟩)
def h2 : He.DefD := ⟨("first_spoilt", none), "first_spoilt", "first_spoilt", defArgs (top 2), defBody (top 2), defScope (top 2), [], []⟩
def h4 : He.DefD := ⟨("ends", none), "ends", "ends", defArgs (top 4), defBody (top 4), defScope (top 4), [], []⟩
def h5 : He.DefD := ⟨("far_in", none), "far_in", "far_in", defArgs (top 5), defBody (top 5), defScope (top 5), [], []⟩
def h6 : He.DefD := ⟨("has_clean", none), "has_clean", "has_clean", defArgs (top 6), defBody (top 6), defScope (top 6), [], []⟩
def h7 : He.DefD := ⟨("bar_of", none), "bar_of", "bar_of", defArgs (top 7), defBody (top 7), defScope (top 7), [], []⟩
def h8 : He.DefD := ⟨("places_in", none), "places_in", "places_in", defArgs (top 8), defBody (top 8), defScope (top 8), [], []⟩
def h9 : He.DefD := ⟨("far_rows", none), "far_rows", "far_rows", defArgs (top 9), defBody (top 9), defScope (top 9), [], []⟩
def h10 : He.DefD := ⟨("own_row", none), "own_row", "own_row", defArgs (top 10), defBody (top 10), defScope (top 10), [], []⟩
def h12 : He.DefD := ⟨("row_of_two", none), "row_of_two", "row_of_two", defArgs (top 12), defBody (top 12), defScope (top 12), [], []⟩
def h13 : He.DefD := ⟨("greater_row", none), "greater_row", "greater_row", defArgs (top 13), defBody (top 13), defScope (top 13), [], []⟩
def h14 : He.DefD := ⟨("reach_rows", none), "reach_rows", "reach_rows", defArgs (top 14), defBody (top 14), defScope (top 14), [], []⟩
def h15 : He.DefD := ⟨("least_age", none), "least_age", "least_age", defArgs (top 15), defBody (top 15), defScope (top 15), [], []⟩
def h17 : He.DefD := ⟨("_law_box", none), "_law_box", "_law_box", defArgs (top 17), defBody (top 17), defScope (top 17), [], []⟩
def h18 : He.DefD := ⟨("_law_take", none), "_law_take", "_law_take", defArgs (top 18), defBody (top 18), defScope (top 18), [], []⟩
def h19 : He.DefD := ⟨("_law_bars", none), "_law_bars", "_law_bars", defArgs (top 19), defBody (top 19), defScope (top 19), [], []⟩
def h20 : He.DefD := ⟨("_law_cuts", none), "_law_cuts", "_law_cuts", defArgs (top 20), defBody (top 20), defScope (top 20), [], []⟩
def h21 : He.DefD := ⟨("_law_patched", none), "_law_patched", "_law_patched", defArgs (top 21), defBody (top 21), defScope (top 21), [], []⟩
def h22 : He.DefD := ⟨("_law_shelf", none), "_law_shelf", "_law_shelf", defArgs (top 22), defBody (top 22), defScope (top 22), [], []⟩
def h23 : He.DefD := ⟨("_law_young", none), "_law_young", "_law_young", defArgs (top 23), defBody (top 23), defScope (top 23), [], []⟩
def h24 : He.DefD := ⟨("_law_same", none), "_law_same", "_law_same", defArgs (top 24), defBody (top 24), defScope (top 24), [], []⟩
def h25 : He.DefD := ⟨("law", none), "law", "law", defArgs (top 25), defBody (top 25), defScope (top 25), [], []⟩
def fn : List He.DefD := ([h2, h4, h5, h6, h7, h8, h9, h10, h12, h13, h14, h15, h17, h18, h19, h20, h21, h22, h23, h24, h25] : List He.DefD)
def fa : List He.Fa := ([.glo "first_spoilt", .glo "ends", .glo "far_in", .glo "has_clean", .glo "bar_of", .glo "places_in", .glo "far_rows", .glo "own_row", .glo "row_of_two", .glo "greater_row", .glo "reach_rows", .glo "least_age", .glo "_law_box", .glo "_law_take", .glo "_law_bars", .glo "_law_cuts", .glo "_law_patched", .glo "_law_shelf", .glo "_law_young", .glo "_law_same", .glo "law", .str "SPOILT" ⟨#[120]⟩, .free "len", .free "list", .free "max", .free "min", .free "isinstance", .free "int", .free "str", .free "sum"] : List He.Fa) ++ ([.free "any", .free "all", .free "sorted", .free "tuple", .free "bool", .free "range", .free "enumerate", .free "zip", .free "dict"] : List He.Fa)
def names : List PySem.Str := (["SPOILT", "first_spoilt", "ends", "far_in", "has_clean", "bar_of", "places_in", "far_rows", "own_row", "row_of_two", "greater_row", "reach_rows", "least_age", "_law_box", "_law_take", "_law_bars", "_law_cuts", "_law_patched", "_law_shelf", "_law_young", "_law_same"] : List PySem.Str)
def fns : List (PySem.Str × Nat × Nat) := ([("first_spoilt", 111, 2), ("ends", 123, 2), ("far_in", 125, 3), ("has_clean", 132, 3), ("bar_of", 133, 3), ("places_in", 137, 1), ("far_rows", 138, 2), ("own_row", 139, 3), ("row_of_two", 141, 3), ("greater_row", 140, 2), ("reach_rows", 142, 3), ("least_age", 147, 3), ("_law_box", 100, 1), ("_law_take", 101, 2), ("_law_bars", 102, 2), ("_law_cuts", 122, 2), ("_law_patched", 130, 4), ("_law_shelf", 131, 2), ("_law_young", 145, 2), ("_law_same", 103, 2), ("law", 151, 1)] : List (PySem.Str × Nat × Nat))
def cs : ClT := ⟨[], [], [], [], [], none⟩
def cns : List (PySem.Str × Nat) := ([("SPOILT", 1)] : List (PySem.Str × Nat))
abbrev R : PySem.W.OpenRow := PySem.W.OpenLaw.row PySem.Challenge.rw_hissroom_k10_whole_least_of_all_makes
abbrev hk : PySem.W.Hook := He.hookD 5 fa fn
def ob (s : PySem.W.SharedT) : He.AlD := He.obsDG 5 fa fn (HandSHeadRun.getT s)
theorem ob_eq (s : PySem.W.SharedT) : ob s = hk.obs s.abs := He.obsDG_eq (HandSHeadRun.getT_eq s)
theorem run (w : World) : HandSHeadRun.RunEq R (PySem.W.view R.prog [25]) hk ob 20000 names w := by
  intro os
  kernel_rfl
theorem ok2 : okDef fns cns cs d_first_spoilt ["text", "at", "here"] ["text", "at"] (defScope (top 2)) (defBody (top 2)) = true := by kernel_rfl
theorem df2 {K : PySem.W.Frag} {h : Heap} {mg : PySem.Str → Option Value} (X : K.In h) (G : h.Ns mainGlobals mg) (c : He.SaysD fa fn K) : DefF K mg T fns cns cs "first_spoilt" 111 2 := by
  obtain ⟨fd, F⟩ := c.def_ 0 (d := h2) rfl
  exact ⟨_, fd, ["text", "at"], ["text", "at", "here"], d_first_spoilt, _, _, _, He.glo_ok X G (c.fact 0 (f := .glo "first_spoilt") rfl), F.kp, FunD.bindsN F fun _ _ _ _ _ _ us hl => match us, hl with | [_, _], _ => rfl, F, rfl, ok2, rfl, by decide +kernel⟩
theorem ok4 : okDef fns cns cs d_ends ["size", "cuts"] ["size", "cuts"] (defScope (top 4)) (defBody (top 4)) = true := by kernel_rfl
theorem df4 {K : PySem.W.Frag} {h : Heap} {mg : PySem.Str → Option Value} (X : K.In h) (G : h.Ns mainGlobals mg) (c : He.SaysD fa fn K) : DefF K mg T fns cns cs "ends" 123 2 := by
  obtain ⟨fd, F⟩ := c.def_ 1 (d := h4) rfl
  exact ⟨_, fd, ["size", "cuts"], ["size", "cuts"], d_ends, _, _, _, He.glo_ok X G (c.fact 1 (f := .glo "ends") rfl), F.kp, FunD.bindsN F fun _ _ _ _ _ _ us hl => match us, hl with | [_, _], _ => rfl, F, rfl, ok4, rfl, by decide +kernel⟩
theorem ok5 : okDef fns cns cs d_far_in ["border", "text", "end", "spoilt", "far", "one"] ["border", "text", "end"] (defScope (top 5)) (defBody (top 5)) = true := by kernel_rfl
theorem df5 {K : PySem.W.Frag} {h : Heap} {mg : PySem.Str → Option Value} (X : K.In h) (G : h.Ns mainGlobals mg) (c : He.SaysD fa fn K) : DefF K mg T fns cns cs "far_in" 125 3 := by
  obtain ⟨fd, F⟩ := c.def_ 2 (d := h5) rfl
  exact ⟨_, fd, ["border", "text", "end"], ["border", "text", "end", "spoilt", "far", "one"], d_far_in, _, _, _, He.glo_ok X G (c.fact 2 (f := .glo "far_in") rfl), F.kp, FunD.bindsN F fun _ _ _ _ _ _ us hl => match us, hl with | [_, _, _], _ => rfl, F, rfl, ok5, rfl, by decide +kernel⟩
theorem ok6 : okDef fns cns cs d_has_clean ["takes", "first", "behind", "text", "age"] ["takes", "first", "behind"] (defScope (top 6)) (defBody (top 6)) = true := by kernel_rfl
theorem df6 {K : PySem.W.Frag} {h : Heap} {mg : PySem.Str → Option Value} (X : K.In h) (G : h.Ns mainGlobals mg) (c : He.SaysD fa fn K) : DefF K mg T fns cns cs "has_clean" 132 3 := by
  obtain ⟨fd, F⟩ := c.def_ 3 (d := h6) rfl
  exact ⟨_, fd, ["takes", "first", "behind"], ["takes", "first", "behind", "text", "age"], d_has_clean, _, _, _, He.glo_ok X G (c.fact 3 (f := .glo "has_clean") rfl), F.kp, FunD.bindsN F fun _ _ _ _ _ _ us hl => match us, hl with | [_, _, _], _ => rfl, F, rfl, ok6, rfl, by decide +kernel⟩
theorem ok7 : okDef fns cns cs d_bar_of ["size", "cuts", "takes", "border", "k"] ["size", "cuts", "takes"] (defScope (top 7)) (defBody (top 7)) = true := by kernel_rfl
theorem df7 {K : PySem.W.Frag} {h : Heap} {mg : PySem.Str → Option Value} (X : K.In h) (G : h.Ns mainGlobals mg) (c : He.SaysD fa fn K) : DefF K mg T fns cns cs "bar_of" 133 3 := by
  obtain ⟨fd, F⟩ := c.def_ 4 (d := h7) rfl
  exact ⟨_, fd, ["size", "cuts", "takes"], ["size", "cuts", "takes", "border", "k"], d_bar_of, _, _, _, He.glo_ok X G (c.fact 4 (f := .glo "bar_of") rfl), F.kp, FunD.bindsN F fun _ _ _ _ _ _ us hl => match us, hl with | [_, _, _], _ => rfl, F, rfl, ok7, rfl, by decide +kernel⟩
theorem ok8 : okDef fns cns cs d_places_in ["border", "found", "k", "end"] ["border"] (defScope (top 8)) (defBody (top 8)) = true := by kernel_rfl
theorem df8 {K : PySem.W.Frag} {h : Heap} {mg : PySem.Str → Option Value} (X : K.In h) (G : h.Ns mainGlobals mg) (c : He.SaysD fa fn K) : DefF K mg T fns cns cs "places_in" 137 1 := by
  obtain ⟨fd, F⟩ := c.def_ 5 (d := h8) rfl
  exact ⟨_, fd, ["border"], ["border", "found", "k", "end"], d_places_in, _, _, _, He.glo_ok X G (c.fact 5 (f := .glo "places_in") rfl), F.kp, FunD.bindsN F fun _ _ _ _ _ _ us hl => match us, hl with | [_], _ => rfl, F, rfl, ok8, rfl, by decide +kernel⟩
theorem ok9 : okDef fns cns cs d_far_rows ["border", "takes", "text", "age", "end"] ["border", "takes"] (defScope (top 9)) (defBody (top 9)) = true := by kernel_rfl
theorem df9 {K : PySem.W.Frag} {h : Heap} {mg : PySem.Str → Option Value} (X : K.In h) (G : h.Ns mainGlobals mg) (c : He.SaysD fa fn K) : DefF K mg T fns cns cs "far_rows" 138 2 := by
  obtain ⟨fd, F⟩ := c.def_ 6 (d := h9) rfl
  exact ⟨_, fd, ["border", "takes"], ["border", "takes", "text", "age", "end"], d_far_rows, _, _, _, He.glo_ok X G (c.fact 6 (f := .glo "far_rows") rfl), F.kp, FunD.bindsN F fun _ _ _ _ _ _ us hl => match us, hl with | [_, _], _ => rfl, F, rfl, ok9, rfl, by decide +kernel⟩
theorem ok10 : okDef fns cns cs d_own_row ["border", "fars", "age", "row", "old", "far", "one", "other"] ["border", "fars", "age"] (defScope (top 10)) (defBody (top 10)) = true := by kernel_rfl
theorem df10 {K : PySem.W.Frag} {h : Heap} {mg : PySem.Str → Option Value} (X : K.In h) (G : h.Ns mainGlobals mg) (c : He.SaysD fa fn K) : DefF K mg T fns cns cs "own_row" 139 3 := by
  obtain ⟨fd, F⟩ := c.def_ 7 (d := h10) rfl
  exact ⟨_, fd, ["border", "fars", "age"], ["border", "fars", "age", "row", "old", "far", "one", "other"], d_own_row, _, _, _, He.glo_ok X G (c.fact 7 (f := .glo "own_row") rfl), F.kp, FunD.bindsN F fun _ _ _ _ _ _ us hl => match us, hl with | [_, _, _], _ => rfl, F, rfl, ok10, rfl, by decide +kernel⟩
theorem ok12 : okDef fns cns cs d_row_of_two ["first", "second", "places", "end"] ["first", "second", "places"] (defScope (top 12)) (defBody (top 12)) = true := by kernel_rfl
theorem df12 {K : PySem.W.Frag} {h : Heap} {mg : PySem.Str → Option Value} (X : K.In h) (G : h.Ns mainGlobals mg) (c : He.SaysD fa fn K) : DefF K mg T fns cns cs "row_of_two" 141 3 := by
  obtain ⟨fd, F⟩ := c.def_ 8 (d := h12) rfl
  exact ⟨_, fd, ["first", "second", "places"], ["first", "second", "places", "end"], d_row_of_two, _, _, _, He.glo_ok X G (c.fact 8 (f := .glo "row_of_two") rfl), F.kp, FunD.bindsN F fun _ _ _ _ _ _ us hl => match us, hl with | [_, _, _], _ => rfl, F, rfl, ok12, rfl, by decide +kernel⟩
theorem ok13 : okDef fns cns cs d_greater_row ["one", "other", "left", "right"] ["one", "other"] (defScope (top 13)) (defBody (top 13)) = true := by kernel_rfl
theorem df13 {K : PySem.W.Frag} {h : Heap} {mg : PySem.Str → Option Value} (X : K.In h) (G : h.Ns mainGlobals mg) (c : He.SaysD fa fn K) : DefF K mg T fns cns cs "greater_row" 140 2 := by
  obtain ⟨fd, F⟩ := c.def_ 9 (d := h13) rfl
  exact ⟨_, fd, ["one", "other"], ["one", "other", "left", "right"], d_greater_row, _, _, _, He.glo_ok X G (c.fact 9 (f := .glo "greater_row") rfl), F.kp, FunD.bindsN F fun _ _ _ _ _ _ us hl => match us, hl with | [_, _], _ => rfl, F, rfl, ok13, rfl, by decide +kernel⟩
theorem ok14 : okDef fns cns cs d_reach_rows ["border", "takes", "many", "places", "fars", "rows", "age", "row"] ["border", "takes", "many"] (defScope (top 14)) (defBody (top 14)) = true := by kernel_rfl
theorem df14 {K : PySem.W.Frag} {h : Heap} {mg : PySem.Str → Option Value} (X : K.In h) (G : h.Ns mainGlobals mg) (c : He.SaysD fa fn K) : DefF K mg T fns cns cs "reach_rows" 142 3 := by
  obtain ⟨fd, F⟩ := c.def_ 10 (d := h14) rfl
  exact ⟨_, fd, ["border", "takes", "many"], ["border", "takes", "many", "places", "fars", "rows", "age", "row"], d_reach_rows, _, _, _, He.glo_ok X G (c.fact 10 (f := .glo "reach_rows") rfl), F.kp, FunD.bindsN F fun _ _ _ _ _ _ us hl => match us, hl with | [_, _, _], _ => rfl, F, rfl, ok14, rfl, by decide +kernel⟩
theorem ok15 : okDef fns cns cs d_least_age ["size", "cuts", "takes", "border", "oldest", "rows", "age", "text"] ["size", "cuts", "takes"] (defScope (top 15)) (defBody (top 15)) = true := by kernel_rfl
theorem df15 {K : PySem.W.Frag} {h : Heap} {mg : PySem.Str → Option Value} (X : K.In h) (G : h.Ns mainGlobals mg) (c : He.SaysD fa fn K) : DefF K mg T fns cns cs "least_age" 147 3 := by
  obtain ⟨fd, F⟩ := c.def_ 11 (d := h15) rfl
  exact ⟨_, fd, ["size", "cuts", "takes"], ["size", "cuts", "takes", "border", "oldest", "rows", "age", "text"], d_least_age, _, _, _, He.glo_ok X G (c.fact 11 (f := .glo "least_age") rfl), F.kp, FunD.bindsN F fun _ _ _ _ _ _ us hl => match us, hl with | [_, _, _], _ => rfl, F, rfl, ok15, rfl, by decide +kernel⟩
theorem ok17 : okDef fns cns cs d_law_box ["_law_script"] ["_law_script"] (defScope (top 17)) (defBody (top 17)) = true := by kernel_rfl
theorem df17 {K : PySem.W.Frag} {h : Heap} {mg : PySem.Str → Option Value} (X : K.In h) (G : h.Ns mainGlobals mg) (c : He.SaysD fa fn K) : DefF K mg T fns cns cs "_law_box" 100 1 := by
  obtain ⟨fd, F⟩ := c.def_ 12 (d := h17) rfl
  exact ⟨_, fd, ["_law_script"], ["_law_script"], d_law_box, _, _, _, He.glo_ok X G (c.fact 12 (f := .glo "_law_box") rfl), F.kp, FunD.bindsN F fun _ _ _ _ _ _ us hl => match us, hl with | [_], _ => rfl, F, rfl, ok17, rfl, by decide +kernel⟩
theorem ok18 : okDef fns cns cs d_law_take ["_law_box_here", "_law_many", "_law_one", "_law_two", "_law_rest", "_law_cell"] ["_law_box_here", "_law_many"] (defScope (top 18)) (defBody (top 18)) = true := by kernel_rfl
theorem df18 {K : PySem.W.Frag} {h : Heap} {mg : PySem.Str → Option Value} (X : K.In h) (G : h.Ns mainGlobals mg) (c : He.SaysD fa fn K) : DefF K mg T fns cns cs "_law_take" 101 2 := by
  obtain ⟨fd, F⟩ := c.def_ 13 (d := h18) rfl
  exact ⟨_, fd, ["_law_box_here", "_law_many"], ["_law_box_here", "_law_many", "_law_one", "_law_two", "_law_rest", "_law_cell"], d_law_take, _, _, _, He.glo_ok X G (c.fact 13 (f := .glo "_law_take") rfl), F.kp, FunD.bindsN F fun _ _ _ _ _ _ us hl => match us, hl with | [_, _], _ => rfl, F, rfl, ok18, rfl, by decide +kernel⟩
theorem ok19 : okDef fns cns cs d_law_bars ["_law_box_here", "_law_size", "_law_kind", "_law_first", "_law_behind", "_law_k"] ["_law_box_here", "_law_size"] (defScope (top 19)) (defBody (top 19)) = true := by kernel_rfl
theorem df19 {K : PySem.W.Frag} {h : Heap} {mg : PySem.Str → Option Value} (X : K.In h) (G : h.Ns mainGlobals mg) (c : He.SaysD fa fn K) : DefF K mg T fns cns cs "_law_bars" 102 2 := by
  obtain ⟨fd, F⟩ := c.def_ 14 (d := h19) rfl
  exact ⟨_, fd, ["_law_box_here", "_law_size"], ["_law_box_here", "_law_size", "_law_kind", "_law_first", "_law_behind", "_law_k"], d_law_bars, _, _, _, He.glo_ok X G (c.fact 14 (f := .glo "_law_bars") rfl), F.kp, FunD.bindsN F fun _ _ _ _ _ _ us hl => match us, hl with | [_, _], _ => rfl, F, rfl, ok19, rfl, by decide +kernel⟩
theorem ok20 : okDef fns cns cs d_law_cuts ["_law_box_here", "_law_size", "_law_kind", "_law_place"] ["_law_box_here", "_law_size"] (defScope (top 20)) (defBody (top 20)) = true := by kernel_rfl
theorem df20 {K : PySem.W.Frag} {h : Heap} {mg : PySem.Str → Option Value} (X : K.In h) (G : h.Ns mainGlobals mg) (c : He.SaysD fa fn K) : DefF K mg T fns cns cs "_law_cuts" 122 2 := by
  obtain ⟨fd, F⟩ := c.def_ 15 (d := h20) rfl
  exact ⟨_, fd, ["_law_box_here", "_law_size"], ["_law_box_here", "_law_size", "_law_kind", "_law_place"], d_law_cuts, _, _, _, He.glo_ok X G (c.fact 15 (f := .glo "_law_cuts") rfl), F.kp, FunD.bindsN F fun _ _ _ _ _ _ us hl => match us, hl with | [_, _], _ => rfl, F, rfl, ok20, rfl, by decide +kernel⟩
theorem ok21 : okDef fns cns cs d_law_patched ["_law_box_here", "_law_size", "_law_cuts_here", "_law_texts", "_law_border", "_law_k", "_law_at", "_law_old", "_law_clean"] ["_law_box_here", "_law_size", "_law_cuts_here", "_law_texts"] (defScope (top 21)) (defBody (top 21)) = true := by kernel_rfl
theorem df21 {K : PySem.W.Frag} {h : Heap} {mg : PySem.Str → Option Value} (X : K.In h) (G : h.Ns mainGlobals mg) (c : He.SaysD fa fn K) : DefF K mg T fns cns cs "_law_patched" 130 4 := by
  obtain ⟨fd, F⟩ := c.def_ 16 (d := h21) rfl
  exact ⟨_, fd, ["_law_box_here", "_law_size", "_law_cuts_here", "_law_texts"], ["_law_box_here", "_law_size", "_law_cuts_here", "_law_texts", "_law_border", "_law_k", "_law_at", "_law_old", "_law_clean"], d_law_patched, _, _, _, He.glo_ok X G (c.fact 16 (f := .glo "_law_patched") rfl), F.kp, FunD.bindsN F fun _ _ _ _ _ _ us hl => match us, hl with | [_, _, _, _], _ => rfl, F, rfl, ok21, rfl, by decide +kernel⟩
theorem ok22 : okDef fns cns cs d_law_shelf ["_law_box_here", "_law_most", "_law_size", "_law_cuts_here", "_law_many", "_law_texts", "_law_kind", "_law_low", "_law_ages", "_law_k"] ["_law_box_here", "_law_most"] (defScope (top 22)) (defBody (top 22)) = true := by kernel_rfl
theorem df22 {K : PySem.W.Frag} {h : Heap} {mg : PySem.Str → Option Value} (X : K.In h) (G : h.Ns mainGlobals mg) (c : He.SaysD fa fn K) : DefF K mg T fns cns cs "_law_shelf" 131 2 := by
  obtain ⟨fd, F⟩ := c.def_ 17 (d := h22) rfl
  exact ⟨_, fd, ["_law_box_here", "_law_most"], ["_law_box_here", "_law_most", "_law_size", "_law_cuts_here", "_law_many", "_law_texts", "_law_kind", "_law_low", "_law_ages", "_law_k"], d_law_shelf, _, _, _, He.glo_ok X G (c.fact 17 (f := .glo "_law_shelf") rfl), F.kp, FunD.bindsN F fun _ _ _ _ _ _ us hl => match us, hl with | [_, _], _ => rfl, F, rfl, ok22, rfl, by decide +kernel⟩
theorem ok23 : okDef fns cns cs d_law_young ["_law_cuts_here", "_law_takes", "_law_known", "_law_turn", "_law_text", "_law_age", "_law_later", "_law_one", "_law_other", "_law_place"] ["_law_cuts_here", "_law_takes"] (defScope (top 23)) (defBody (top 23)) = true := by kernel_rfl
theorem df23 {K : PySem.W.Frag} {h : Heap} {mg : PySem.Str → Option Value} (X : K.In h) (G : h.Ns mainGlobals mg) (c : He.SaysD fa fn K) : DefF K mg T fns cns cs "_law_young" 145 2 := by
  obtain ⟨fd, F⟩ := c.def_ 18 (d := h23) rfl
  exact ⟨_, fd, ["_law_cuts_here", "_law_takes"], ["_law_cuts_here", "_law_takes", "_law_known", "_law_turn", "_law_text", "_law_age", "_law_later", "_law_one", "_law_other", "_law_place"], d_law_young, _, _, _, He.glo_ok X G (c.fact 18 (f := .glo "_law_young") rfl), F.kp, FunD.bindsN F fun _ _ _ _ _ _ us hl => match us, hl with | [_, _], _ => rfl, F, rfl, ok23, rfl, by decide +kernel⟩
theorem ok24 : okDef fns cns cs d_law_same ["_law_found", "_law_due", "_law_one", "_law_other"] ["_law_found", "_law_due"] (defScope (top 24)) (defBody (top 24)) = true := by kernel_rfl
theorem df24 {K : PySem.W.Frag} {h : Heap} {mg : PySem.Str → Option Value} (X : K.In h) (G : h.Ns mainGlobals mg) (c : He.SaysD fa fn K) : DefF K mg T fns cns cs "_law_same" 103 2 := by
  obtain ⟨fd, F⟩ := c.def_ 19 (d := h24) rfl
  exact ⟨_, fd, ["_law_found", "_law_due"], ["_law_found", "_law_due", "_law_one", "_law_other"], d_law_same, _, _, _, He.glo_ok X G (c.fact 19 (f := .glo "_law_same") rfl), F.kp, FunD.bindsN F fun _ _ _ _ _ _ us hl => match us, hl with | [_, _], _ => rfl, F, rfl, ok24, rfl, by decide +kernel⟩
theorem ok25 : okDef fns cns cs d_law_k10 ["_law_script", "_law_box_here", "_law_size", "_law_cuts_here", "_law_texts", "_law_takes", "_law_known", "_law_found", "_law_k", "_law_text"] ["_law_script"] (defScope (top 25)) (defBody (top 25)) = true := by kernel_rfl
theorem df25 {K : PySem.W.Frag} {h : Heap} {mg : PySem.Str → Option Value} (X : K.In h) (G : h.Ns mainGlobals mg) (c : He.SaysD fa fn K) : DefF K mg T fns cns cs "law" 151 1 := by
  obtain ⟨fd, F⟩ := c.def_ 20 (d := h25) rfl
  exact ⟨_, fd, ["_law_script"], ["_law_script", "_law_box_here", "_law_size", "_law_cuts_here", "_law_texts", "_law_takes", "_law_known", "_law_found", "_law_k", "_law_text"], d_law_k10, _, _, _, He.glo_ok X G (c.fact 20 (f := .glo "law") rfl), F.kp, FunD.bindsN F fun _ _ _ _ _ _ us hl => match us, hl with | [_], _ => rfl, F, rfl, ok25, rfl, by decide +kernel⟩
theorem facts {P : Program} {w : World} {K : PySem.W.Frag} {h : Heap} {mg : PySem.Str → Option Value} {f : Addr} (X : K.In h) (G : h.Ns mainGlobals mg) (hfa : mg ("law" : PySem.Str) = some (.ref f)) (c : He.SaysD fa fn K) :
    ∃ fd : FuncData, (∀ (s : Shared) (v : Value), BindsTo s fd ⟨[v], []⟩ [("_law_script", v)]) ∧ ∀ base : Heap, K.In base → base.Ns mainGlobals mg → FnOk P w K mg base CXe 80 f fd ["_law_script"] (spI K ⟨fun _ => none⟩ 1 d_law_k10.fr (call T 40 151)) := by
  have hf : AllF K mg T fns cns cs fns := ⟨df2 X G c, df4 X G c, df5 X G c, df6 X G c, df7 X G c, df8 X G c, df9 X G c, df10 X G c, df12 X G c, df13 X G c, df14 X G c, df15 X G c, df17 X G c, df18 X G c, df19 X G c, df20 X G c, df21 X G c, df22 X G c, df23 X G c, df24 X G c, df25 X G c, trivial⟩
  have hc : AllC K mg T cns := ⟨conS (He.str_ok X G (c.fact 21 (f := .str "SPOILT" ⟨#[120]⟩) rfl)) rfl rfl (by decide +kernel), trivial⟩
  have hn : AllN mg bltNs := ⟨He.free_ok X G (c.fact 22 (f := .free "len") rfl), He.free_ok X G (c.fact 23 (f := .free "list") rfl), He.free_ok X G (c.fact 24 (f := .free "max") rfl), He.free_ok X G (c.fact 25 (f := .free "min") rfl), He.free_ok X G (c.fact 26 (f := .free "isinstance") rfl), He.free_ok X G (c.fact 27 (f := .free "int") rfl), He.free_ok X G (c.fact 28 (f := .free "str") rfl), He.free_ok X G (c.fact 29 (f := .free "sum") rfl), He.free_ok X G (c.fact 30 (f := .free "any") rfl), He.free_ok X G (c.fact 31 (f := .free "all") rfl), He.free_ok X G (c.fact 32 (f := .free "sorted") rfl), He.free_ok X G (c.fact 33 (f := .free "tuple") rfl), He.free_ok X G (c.fact 34 (f := .free "bool") rfl), He.free_ok X G (c.fact 35 (f := .free "range") rfl), He.free_ok X G (c.fact 36 (f := .free "enumerate") rfl), He.free_ok X G (c.fact 37 (f := .free "zip") rfl), He.free_ok X G (c.fact 38 (f := .free "dict") rfl), trivial⟩
  have hx : AllX K mg T fns cns cs := ⟨trivial, trivial, trivial, trivial, trivial, fun x h => (nomatch h)⟩
  obtain ⟨fd, F⟩ := c.def_ 20 (d := h25) rfl
  have e := hfa.symm.trans (He.glo_ok X G (c.fact 20 (f := .glo "law") rfl))
  cases e
  have b := FunD.bindsA (ps := ["_law_script"]) F fun _ _ _ _ _ _ us hl => match us, hl with | [_], _ => rfl
  exact ⟨fd, fun s v => b s [v] rfl, fun base _ _ => cx_any (def_ok (levs (P := P) (w := w) (cl := ⟨fun _ => none⟩) (base := base) hf hc hn hx 39) rfl F ok25)⟩
theorem law_ok (ns : List Int) (hl : ns.length ≤ 63) : ∃ S, call T 40 151 [.scr (ns.map .int)] [] = .ok (.bl true) S := IL.k10_law rfl rfl rfl rfl rfl rfl rfl rfl rfl rfl rfl rfl rfl rfl rfl rfl rfl rfl rfl rfl rfl  31 ns
end K10

open PySem PySem.W PySem.Calls PyProof.Rows
theorem PySem.Challenge.cw_hissroom_k10_whole_least_of_all_makes_holds : PySem.Challenge.rw_hissroom_k10_whole_least_of_all_makes.Holds := by
  w_on; o_law
  refine HandSHeadRun.head_any (r := OpenLaw.row PySem.Challenge.rw_hissroom_k10_whole_least_of_all_makes) (q := view (OpenLaw.row PySem.Challenge.rw_hissroom_k10_whole_least_of_all_makes).prog [25]) (H := K10.hk) (ob := K10.ob) (M := 20000) (loose := K10.names) (d := HandSHeadRun.topDef (OpenLaw.row PySem.Challenge.rw_hissroom_k10_whole_least_of_all_makes).prog 25) (kwd := []) K10.ob_eq
    (by kernel_rfl) (fun s => by kernel_rfl) K10.run (by kernel_rfl) (by kernel_rfl) (by kernel_rfl) (by rfl) (by first | assumption | decide +kernel) (by decide +kernel) ⟨rfl, rfl, rfl, rfl, rfl, by decide +kernel⟩ ?hw ?hc
  case hw => w_witness2
  case hc =>
    refine L2.walk_ofE (l := PySem.Challenge.rw_hissroom_k10_whole_least_of_all_makes) (n := 63) (k := 80) (x := "_law_script") (CX := IL.CXe) rfl (by decide) (by kernel_rfl) ⟨rfl, by decide, by decide⟩ ?F IL.cxe_none
    intro w mg fa h Y G hmg0
    obtain ⟨K, KX, c⟩ := Y
    have hmg : mg ("law" : PySem.Str) = some (.ref fa) := by
      have e : (HandSHeadRun.topDef (OpenLaw.row PySem.Challenge.rw_hissroom_k10_whole_least_of_all_makes).prog 25).name = ("law" : PySem.Str) := by kernel_rfl
      rw [← e]
      exact hmg0
    obtain ⟨fd, hb, hF⟩ := K10.facts (P := (PySem.Challenge.rw_hissroom_k10_whole_least_of_all_makes).prog) (w := w) KX G hmg c
    exact ⟨K, fd, _, KX, hb, fun H a ns hl _ hS => IL.law_sp K10.law_ok H a ns hl hS, hF⟩
