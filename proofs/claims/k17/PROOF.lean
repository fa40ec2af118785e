import PyProof.Rows.All
import Wide.All
import OpenK.AllK
import Wide.FinOn
import HandS.ForMost
import HandS.ForExc
import HandS.TupAny
import HandS.Deep
import HandS.TupLe
import HandS.Style
import HandS.Conv
import HandS.Wide
import HandS.WideBits
import HandS.IsInst
import HandS.SortInts
import HandS.HotCalls
import HandS.ExcIs
import HandS.Walk
import HandS.Strs
import KE.GoesEnum
import HandS.Zip
import KE.KDictZip
import KE.KRevSl
import KE.SortData
import PyProof.EqAt
import HandS.ExcOwn
import HandS.Rev
import HandS.RevRange
import HandS.TryOnly
import KE.DataCmp
import HandS.WordsExc
import PySem.Challenge.RW_undercells_k17_steps_above_and_below
set_option Elab.async false
set_option linter.all false
set_option maxRecDepth 100000
section
/-! Eg: a small language of expressions and statements over plain data, and what they evaluate to. No object, no address stands here. -/
namespace Eg
open PySem L2

/-- data -/
inductive D where
  | unset | non | bl (b : Bool) | int (i : Int) | str (x : Str) | tup (xs : List D) | lst (xs : List D) | fl (xs : List D) | dct (es : List D) | ins (c : Nat) (xs : List D) | exc (c : Nat)
instance : Inhabited D := ⟨.unset⟩

/-- how a slot holds its value: for good (a), as the one owner (o) of a list that may be changed, or (n) of a list and of the lists in it -/
inductive Ty where
  | a | o | n
  deriving DecidableEq

/-- operations on values -/
inductive BI where
  | add | sub | mul | fdiv | mod | pow | neg
  | eq | ne | lt | le | gt | ge | is_ | isnot | in_ | notin
  | idx | slL | slU | slRev | slRevT
  | len | abs | intC | strI | sorted | sumL | allL | anyL | minL | max2 | min2 | listC | tupleC | lrng1 | lrng2 | trng2
  | isi (k : Nat) | isx (x : Str) (k : Nat) | join
  | indexL | indexT | cntL | divmod
  | rng1 | rng2 | rng3 | enumI | enumT | enumZ | zipI | revI
  deriving DecidableEq

/-- names to be set, maybe in tuples -/
inductive TN where
  | nm (i : Nat) | nil | cons (a b : TN) | tp (t : TN)
inductive E where
  | var (i : Nat) | con (d : D) | glob (x : Str) (d : D) | nil | cons (a b : E) | tup (a : E) | lst (a : E) | bi (o : BI) (a : E)
  | and (a b : E) | or (a b : E) | not (a : E) | ite (c a b : E) | io (i : Nat) | call (f : Nat) (o : Bool) (a : E)
  | mv (i : Nat) | bw (i : Nat) | mvN (i : Nat) | emN | frz (is : List Nat) (e : E) | compN (ts : List Nat) (t : TN) (it e : E)
  | bad | lst1 (e : E) | addN (a b : E) | callF (f : Nat) (e a : E) | gtL (i : Nat) (a : E) | pop (i : Nat) (a : E) | pop0 (i : Nat) | chn3 (o p q : BI) (x y z w : E)
  | sl3 (x y z : E) | chn (o p : BI) (x y z : E) | comp (ts : List Nat) (t : TN) (it c e : E)

/-- targets -/
inductive T where
  | nm (i : Nat) | sub (i : Nat) (k : E) | nil | cons (a b : T) | tp (t : T)

inductive S where
  | skip | bad | rev (i : Nat) | seq (a b : S) | ret (e : E) | set (i : Nat) (e : E) | sub (i : Nat) (k e : E) | unp (t : T) (e : E) | aug (i : Nat) (o : BI) (e : E) | augs (i : Nat) (k : E) (o : BI) (e : E)
  | app (i : Nat) (e : E) | ext (i : Nat) (e : E) | exp (e : E) | ifs (c : E) (a b : S) | whl (c : E) (b : S) | for_ (t : TN) (it : E) (b : S) | brk | cont | rais (c : Nat) | tryX (b : S) (i : Nat) (s : S)
  | appN (i : Nat) (e : E) | extN (i : Nat) (e : E) | appAt (i : Nat) (k e : E) | forN (t i : Nat) (b : S) | retH (i : Nat) | forO (i : Nat) (t : TN) (it : E) (b : S) | parO (i j : Nat) (a b : E)

/-- results -/
inductive R where
  | ok (ds env : List D) | exc (c : Nat) (env : List D) | no
inductive CR where
  | ok (d : D) (ps : List D) | exc (c : Nat) (ps : List D) | no
inductive Out where
  | nx (env : List D) | ret (d : D) (env : List D) | bk (env : List D) | ct (env : List D) | exc (c : Nat) (env : List D) | rh (i : Nat) (env : List D) | no

mutual
/-- the same data -/
def sameD : D → D → Bool
  | .unset, .unset => true
  | .non, .non => true
  | .bl a, .bl b => a == b
  | .int a, .int b => decide (a = b)
  | .str a, .str b => decide (a = b)
  | .tup a, .tup b => sameDs a b
  | .lst a, .lst b => sameDs a b
  | .fl a, .fl b => sameDs a b
  | .exc a, .exc b => decide (a = b)
  | _, _ => false
def sameDs : List D → List D → Bool
  | [], [] => true
  | a :: r, b :: q => sameD a b && sameDs r q
  | _, _ => false
end
mutual
theorem sameD_eq : ∀ {a b : D}, sameD a b = true → a = b
  | .unset, b, h => by cases b <;> first | rfl | (simp [sameD] at h)
  | .non, b, h => by cases b <;> first | rfl | (simp [sameD] at h)
  | .bl x, b, h => by cases b <;> simp_all [sameD]
  | .int x, b, h => by cases b <;> simp_all [sameD]
  | .str x, b, h => by cases b <;> simp_all [sameD]
  | .tup x, b, h => by cases b <;> simp [sameD] at h; rw [sameDs_eq h]
  | .lst x, b, h => by cases b <;> simp [sameD] at h; rw [sameDs_eq h]
  | .fl x, b, h => by cases b <;> simp [sameD] at h; rw [sameDs_eq h]
  | .exc x, b, h => by cases b <;> simp_all [sameD]
  | .dct x, b, h => by cases b <;> simp [sameD] at h
  | .ins x y, b, h => by cases b <;> simp [sameD] at h
theorem sameDs_eq : ∀ {a b : List D}, sameDs a b = true → a = b
  | [], b, h => by cases b <;> first | rfl | (simp [sameDs] at h)
  | x :: r, b, h => by
    cases b with
    | nil => simp [sameDs] at h
    | cons y q =>
      simp only [sameDs, Bool.and_eq_true] at h
      rw [sameD_eq h.1, sameDs_eq h.2]
end
/-! ### operations -/
mutual
def toP : D → PyData
  | .unset => .none
  | .non => .none
  | .bl b => .bool b
  | .int i => .int i
  | .str x => .str x
  | .tup xs => .tuple (toPs xs)
  | .lst xs => .list (toPs xs)
  | .fl _ => .none
  | .dct _ => .none
  | .ins _ _ => .none
  | .exc _ => .none
def toPs : List D → List PyData
  | [] => []
  | x :: xs => toP x :: toPs xs
end
mutual
/-- data that == compares, at most n deep -/
def pl : Nat → D → Bool
  | _, .unset => false
  | _, .non => true
  | _, .bl _ => true
  | _, .int _ => true
  | _, .str x => PyData.strOk x
  | 0, .tup _ => false
  | 0, .lst _ => false
  | n + 1, .tup xs => pls n xs
  | n + 1, .lst xs => pls n xs
  | _, .fl _ => false
  | _, .dct _ => false
  | _, .ins _ _ => false
  | _, .exc _ => false
def pls : Nat → List D → Bool
  | _, [] => true
  | n, x :: xs => pl n x && pls n xs
end
mutual
/-- == -/
def eqd : D → D → Bool
  | .non, .non => true
  | .bl a, .bl b => a == b
  | .bl a, .int j => (if a then 1 else 0) == j
  | .int i, .bl b => i == (if b then 1 else 0)
  | .int i, .int j => i == j
  | .str x, .str y => x == y
  | .tup xs, .tup ys => eqds xs ys
  | .lst xs, .lst ys => eqds xs ys
  | _, _ => false
def eqds : List D → List D → Bool
  | [], [] => true
  | x :: xs, y :: ys => eqd x y && eqds xs ys
  | _, _ => false
end
def eqD (x y : D) : Option Bool := if pl 20 x && pl 20 y then some (eqd x y) else none
/-- 2 ^ 64 and its kin -/
def small (i : Int) : Bool := decide (-18446744073709551616 < i) && decide (i < 18446744073709551616)
/-- lists of toInts -/
def toInts : List D → Option (List Int)
  | [] => some []
  | .int i :: r => (toInts r).map (i :: ·)
  | _ => none
def toBls : List D → Option (List Bool)
  | [] => some []
  | .bl i :: r => (toBls r).map (i :: ·)
  | _ => none
def toStrs : List D → Option (List Str)
  | [] => some []
  | .str i :: r => (toStrs r).map (i :: ·)
  | _ => none
def lexLt : List Int → List Int → Bool
  | [], [] => false
  | [], _ :: _ => true
  | _ :: _, [] => false
  | x :: xs, y :: ys => if x = y then lexLt xs ys else decide (x < y)
def maxLen : Nat := 16777216
/-- two lists put together -/
def addF : D → D → Option D
  | .lst xs, .lst ys => if xs.length + ys.length ≤ maxLen then some (.lst (xs ++ ys)) else none
  | _, _ => none
/-- the whole numbers of a tuple -/
def itI : D → List Int
  | .tup xs => (toInts xs).getD []
  | _ => []
/-- a tuple of whole numbers, one at least -/
def isIT : D → Bool
  | .tup (.int i :: xs) => (toInts (.int i :: xs)).isSome
  | _ => false
def leT (x y : D) : Bool := !lexLt (itI y) (itI x)
/-- a list of such tuples, one at least -/
def isTL : D → Bool
  | .lst xs => !xs.isEmpty && xs.all isIT
  | _ => false
def unL : D → List D
  | .lst xs => xs
  | _ => []
/-- x > y of two lists of whole numbers -/
def gtF : D → D → Option D
  | .lst xs, .lst ys => match toInts xs, toInts ys with
    | some l, some r => some (.bl (lexLt r l))
    | _, _ => none
  | _, _ => none
def ltD : D → D → Option Bool
  | .int i, .int j => some (decide (i < j))
  | .tup xs, .tup ys => match toInts xs, toInts ys with
    | some a, some b => some (lexLt a b)
    | _, _ => none
  | _, _ => none
def intsD (l : List Int) : List D := l.map D.int
/-- lo, lo + 1, .. -/
def upFrom (lo : Int) : Nat → List Int
  | 0 => []
  | n + 1 => lo :: upFrom (lo + 1) n
def byStep (lo c : Int) : Nat → List Int
  | 0 => []
  | n + 1 => lo :: byStep (lo + c) c n
def insI (x : Int) : List Int → List Int
  | [] => [x]
  | y :: r => if x ≤ y then x :: y :: r else y :: insI x r
def sortI : List Int → List Int
  | [] => []
  | x :: r => insI x (sortI r)
def isI (k : Nat) : D → Option Bool
  | .unset => none
  | .exc _ => none
  | .ins _ _ => none
  | .dct _ => none
  | .fl _ => none
  | .non => some false
  | .bl _ => some (k == 0 || k == 1)
  | .int _ => some (k == 0)
  | .str _ => some (k == 2)
  | .tup _ => some (k == 3)
  | .lst _ => some (k == 4)
def enumF (i : Int) : List D → List D
  | [] => []
  | x :: r => .tup [.int i, x] :: enumF (i + 1) r
def zipF : List D → List D → List D
  | x :: r, y :: q => .tup [x, y] :: zipF r q
  | _, _ => []
def flat : D → Bool
  | .non => true
  | .bl _ => true
  | .int _ => true
  | .str _ => true
  | _ => false
def items : D → Option (List D)
  | .lst xs => some xs
  | .tup xs => some xs
  | .fl xs => some xs
  | _ => none
def cutD (xs : List D) (lo hi : Option Int) : List D := (xs.drop (HT.sIx xs.length 0 lo)).take (HT.sIx xs.length xs.length hi - HT.sIx xs.length 0 lo)
def cut2 (x : D) (lo hi : Option Int) : Option D := match x with
  | .lst xs => some (.lst (cutD xs lo hi))
  | .tup xs => some (.tup (cutD xs lo hi))
  | _ => none
def lim : Int := 4611686018427387904
def inLim (i : Int) : Bool := decide (-lim ≤ i) && decide (i < lim)
def le (n m : Nat) : Bool := decide (n ≤ m)
def fAdd : D → D → Option D
  | .int i, .int j => some (.int (i + j))
  | .str i, .str j => if i.length + j.length ≤ maxLen then some (.str (i ++ j)) else none
  | .lst xs, .lst ys => if xs.length + ys.length ≤ maxLen then some (.lst (xs ++ ys)) else none
  | .tup xs, .tup ys => if xs.length + ys.length ≤ maxLen then some (.tup (xs ++ ys)) else none
  | _, _ => none
def fMul : D → D → Option D
  | .int i, .int j => if small i || small j then some (.int (i * j)) else none
  | .str x, .int j => if x.length ≤ 16 ∧ 0 ≤ j ∧ j ≤ 1000 then some (.str (Txt.mul x j)) else none
  | .lst xs, .int j => if inLim j && le (xs.length * j.toNat) maxLen then some (.lst (List.replicate j.toNat xs).flatten) else none
  | _, _ => none
def fInt2 (f : Int → Int → Option D) : D → D → Option D
  | .int i, .int j => f i j
  | _, _ => none
def fIs : D → D → Option Bool
  | .bl x, .bl y => some (decide (x = y))
  | .unset, .non => none
  | .exc _, .non => none
  | .ins _ _, .non => none
  | .non, .non => some true
  | _, .non => some false
  | _, _ => none
def fIn (x : D) : D → Option Bool
  | .lst ys => if pl 20 x && pls 19 ys then some (ys.any fun y => eqd y x) else none
  | .tup ys => if flat x && ys.all flat then some (ys.any fun y => eqd y x) else none
  | _ => none
/-- the first place where a thing stands -/
def idxD (ds : List D) (d : D) : Option D := if flat d && ds.all flat then (ds.findIdx? fun y => eqd y d).map fun j => .int (j : Nat) else none
def fIndexL : D → D → Option D
  | .lst ds, d => idxD ds d
  | _, _ => none
/-- how many truths of a list are the one -/
def fCnt : D → D → Option D
  | .lst ds, .bl b => (toBls ds).map fun l => .int (l.count b : Nat)
  | _, _ => none
def fIndexT : D → D → Option D
  | .tup ds, d => idxD ds d
  | _, _ => none
def fIdx : D → D → Option D
  | .lst xs, .int i => L2.atI xs i
  | .tup xs, .int i => L2.atI xs i
  | .fl xs, .int i => L2.atI xs i
  | _, _ => none
def fSl (x : D) (lo hi : Option D) : Option D := match lo, hi with
  | some (.int i), some (.int j) => cut2 x (some i) (some j)
  | some (.int i), none => cut2 x (some i) none
  | none, some (.int j) => cut2 x none (some j)
  | _, _ => none
def fJoin : D → D → Option D
  | .str s, .lst xs => match toStrs xs with
    | some l => if (l.map Str.length).sum + l.length * s.length ≤ maxLen then some (.str (Txt.join s l)) else none
    | none => none
  | _, _ => none
def fZip : D → D → Option D
  | .lst xs, .lst ys => some (.lst (zipF xs ys))
  | _, _ => none
def fEz : D → D → Option D
  | .lst xs, .lst ys => some (.lst (enumF 0 (zipF xs ys)))
  | _, _ => none
def F2 : BI → D → D → Option D
  | .add => fAdd
  | .sub => fInt2 fun i j => some (.int (i - j))
  | .mul => fMul
  | .fdiv => fInt2 fun i j => if 0 < j ∧ j < 18446744073709551616 then some (.int (i / j)) else none
  | .divmod => fInt2 fun i j => if 0 < j ∧ j < 18446744073709551616 then some (.tup [.int (i / j), .int (i % j)]) else none
  | .indexL => fIndexL
  | .cntL => fCnt
  | .indexT => fIndexT
  | .mod => fInt2 fun i j => if 0 < j then some (.int (i % j)) else none
  | .pow => fInt2 fun i j => if 0 ≤ j ∧ j ≤ 1000 ∧ small i then some (.int (i ^ j.toNat)) else none
  | .eq => fun x y => (eqD x y).map D.bl
  | .ne => fun x y => (eqD x y).map fun b => .bl (!b)
  | .lt => fun x y => (ltD x y).map D.bl
  | .gt => fInt2 fun x y => some (.bl (decide (y < x)))
  | .le => fInt2 fun x y => some (.bl (decide (x ≤ y)))
  | .ge => fInt2 fun x y => some (.bl (decide (y ≤ x)))
  | .is_ => fun x y => (fIs x y).map D.bl
  | .isnot => fun x y => (fIs x y).map fun b => .bl (!b)
  | .in_ => fun x y => (fIn x y).map D.bl
  | .notin => fun x y => (fIn x y).map fun b => .bl (!b)
  | .idx => fIdx
  | .slL => fun x y => fSl x (some y) none
  | .slU => fun x y => fSl x none (some y)
  | .max2 => fInt2 fun i j => some (.int (if j > i then j else i))
  | .min2 => fInt2 fun i j => some (.int (if j < i then j else i))
  | .lrng2 => fInt2 fun i j => if inLim i && inLim j && decide (j - i ≤ 16777216) then some (.lst (intsD (upFrom i (j - i).toNat))) else none
  | .trng2 => fInt2 fun i j => if inLim i && inLim j && decide (j - i ≤ 16777216) then some (.tup (intsD (upFrom i (j - i).toNat))) else none
  | .join => fJoin
  | .rng2 => fInt2 fun i j => if inLim i && inLim j then some (.lst (intsD (upFrom i (j - i).toNat))) else none
  | .zipI => fZip
  | .enumZ => fEz
  | _ => fun _ _ => none
def fInt1 (f : Int → Option D) : D → Option D
  | .int i => f i
  | _ => none
def fLen : D → Option D
  | .lst xs => some (.int xs.length)
  | .fl xs => some (.int xs.length)
  | .tup xs => some (.int xs.length)
  | .str x => if x.length ≤ maxLen then some (.int x.length) else none
  | _ => none
def fLst (f : List D → Option D) : D → Option D
  | .lst xs => f xs
  | _ => none
def fTup (f : List D → Option D) : D → Option D
  | .tup xs => f xs
  | _ => none
/-- an exception of class c is one of class k (0: the root, 100: ValueError) -/
def subX (c k : Nat) : Bool := k == c || k == 0 || k == 100
def fIsx (k : Nat) : D → Option D
  | .exc c => some (.bl (subX c k))
  | _ => none
def fSeq (f : List D → Option D) : D → Option D
  | .lst xs => f xs
  | .fl xs => f xs
  | .tup xs => f xs
  | _ => none
def fIntC : D → Option D
  | .int i => some (.int i)
  | .bl b => some (.int (if b then 1 else 0))
  | _ => none
def F1 : BI → D → Option D
  | .neg => fInt1 fun i => some (.int (-i))
  | .slRev => fLst fun xs => some (.lst xs.reverse)
  | .slRevT => fTup fun xs => some (.tup xs.reverse)
  | .len => fLen
  | .abs => fInt1 fun i => some (.int (if i < 0 then -i else i))
  | .intC => fIntC
  | .strI => fInt1 fun i => if i.natAbs < 2 ^ 1000 then some (.str (Str.ofString (toString i))) else none
  | .sorted => fun d => if isTL d then some (.lst ((unL d).mergeSort leT)) else fSeq (fun xs => if xs.length < 64 then (toInts xs).map fun l => .lst (intsD (sortI l)) else none) d
  | .sumL => fLst fun xs => (toInts xs).map fun l => .int l.sum
  | .minL => fLst fun xs => match toInts xs with
    | some (x :: r) => some (.int (r.foldl (fun a b => if b < a then b else a) x))
    | _ => none
  | .allL => fLst fun xs => (toBls xs).map fun l => .bl (l.all id)
  | .anyL => fLst fun xs => (toBls xs).map fun l => .bl (l.any id)
  | .listC => fSeq fun xs => some (.lst xs)
  | .tupleC => fSeq fun xs => some (.tup xs)
  | .lrng1 => fInt1 fun j => if inLim j && decide (j ≤ 16777216) then some (.lst (intsD (upFrom 0 j.toNat))) else none
  | .isi k => fun x => (isI k x).map D.bl
  | .isx _ k => fIsx k
  | .rng1 => fInt1 fun j => if inLim j then some (.lst (intsD (upFrom 0 j.toNat))) else none
  | .enumI => fLst fun xs => some (.lst (enumF 0 xs))
  | .enumT => fTup fun xs => some (.lst (enumF 0 xs))
  | .revI => fLst fun xs => some (.lst xs.reverse)
  | _ => fun _ => none
def fRng3 : D → D → D → Option D
  | .int i, .int j, .int (-1) => if inLim i && inLim j then some (.lst (intsD (byStep i (-1) (i - j).toNat))) else none
  | _, _, _ => none
def F3 : BI → D → D → D → Option D
  | .rng3 => fRng3
  | _ => fun _ _ _ => none
def bop (o : BI) : List D → Option D
  | [x] => F1 o x
  | [x, y] => F2 o x y
  | [x, y, z] => F3 o x y z
  | _ => none

/-! ### evaluation -/
def R.bind (r : R) (k : List D → List D → R) : R := match r with
  | .ok d e => k d e
  | .exc c e => .exc c e
  | .no => .no
def setMany : List D → List Nat → List D → List D
  | env, i :: is, p :: ps => setMany (env.set i p) is ps
  | env, _, _ => env
def isIo : E → Option Nat
  | .io i => some i
  | _ => none
def isBw : E → Option Nat
  | .bw i => some i
  | _ => none
def byNm : E → Option Nat
  | .io i => some i
  | .bw i => some i
  | _ => none
mutual
/-- data without a list in it -/
def noL : D → Bool
  | .unset => false
  | .non => true
  | .bl _ => true
  | .int _ => true
  | .str _ => true
  | .tup xs => noLs xs
  | .lst _ => false
  | .fl _ => false
  | .dct _ => false
  | .ins _ _ => false
  | .exc _ => true
def noLs : List D → Bool
  | [] => true
  | x :: xs => noL x && noLs xs
end
/-- .. but, where o, at the top -/
def okRes : Bool → D → Bool
  | true, .lst ds => noLs ds
  | _, d => noL d
/-- the arguments that are handed in by name: as they stand when all are reckoned -/
def fillA : E → List D → List D → List D
  | .cons a r, d :: ds, env => (match byNm a with
    | some i => env.getD i .unset
    | none => d) :: fillA r ds env
  | _, _, _ => []
/-- the slots that are handed in by name -/
def ioS : E → List Nat
  | .cons a r => match isIo a with
    | some i => i :: ioS r
    | none => ioS r
  | _ => []
/-- their places among the arguments -/
def ioP (n : Nat) : E → List Nat
  | .cons a r => match isIo a with
    | some _ => n :: ioP (n + 1) r
    | none => ioP (n + 1) r
  | _ => []
/-- the slots that are lent -/
def bwS : E → List Nat
  | .cons a r => match isBw a with
    | some i => i :: bwS r
    | none => bwS r
  | _ => []
def isU : D → Bool
  | .unset => true
  | _ => false
def setAll (is : List Nat) (env : List D) : Bool := is.all fun i => !isU (env.getD i .unset)
def wipeE : List Nat → List D → List D
  | [], env => env
  | i :: is, env => wipeE is (env.set i .unset)
def asgN : TN → List D → List D → Option (List D)
  | .nm i, [d], env => some (env.set i d)
  | .nil, [], env => some env
  | .cons a b, d :: ds, env => match asgN a [d] env with
    | some e => asgN b ds e
    | none => none
  | .tp t, [d], env => match items d with
    | some ds => asgN t ds env
    | none => none
  | _, _, _ => none
def evComp (fc fe : List D → R) (ts : List Nat) (t : TN) : List D → List D → R
  | [], env => .ok [] env
  | d :: ds, env => match asgN t [d] env with
    | none => .no
    | some e1 => match fc e1 with
      | .ok [.bl true] e2 => match fe e2 with
        | .ok [x] e3 => match evComp fc fe ts t ds (wipeE ts e3) with
          | .ok ys e4 => .ok (x :: ys) e4
          | _ => .no
        | _ => .no
      | .ok [.bl false] e2 => evComp fc fe ts t ds (wipeE ts e2)
      | _ => .no
def ev (fc : Nat → List D → CR) : E → List D → R
  | .var i, env => match env.getD i .unset with
    | .unset => .no
    | d => .ok [d] env
  | .con d, env => .ok [d] env
  | .glob _ d, env => .ok [d] env
  | .nil, env => .ok [] env
  | .cons a b, env => (ev fc a env).bind fun x e1 => match x with
    | [d] => (ev fc b e1).bind fun y e2 => .ok (d :: y) e2
    | _ => .no
  | .tup a, env => (ev fc a env).bind fun x e => .ok [.tup x] e
  | .lst a, env => (ev fc a env).bind fun x e => .ok [.lst x] e
  | .bi o a, env => (ev fc a env).bind fun x e => match bop o x with
    | some d => .ok [d] e
    | none => .no
  | .and a b, env => (ev fc a env).bind fun x e => match x with
    | [.bl true] => ev fc b e
    | [.bl false] => .ok [.bl false] e
    | _ => .no
  | .or a b, env => (ev fc a env).bind fun x e => match x with
    | [.bl false] => ev fc b e
    | [.bl true] => .ok [.bl true] e
    | _ => .no
  | .not a, env => (ev fc a env).bind fun x e => match x with
    | [.bl c] => .ok [.bl (!c)] e
    | _ => .no
  | .ite c a b, env => (ev fc c env).bind fun x e => match x with
    | [.bl true] => ev fc a e
    | [.bl false] => ev fc b e
    | _ => .no
  | .io i, env => match env.getD i .unset with
    | .unset => .no
    | _ => .ok [.unset] env
  | .mv i, env => match env.getD i .unset with
    | .unset => .no
    | d => .ok [d] (env.set i .unset)
  | .bw i, env => match env.getD i .unset with
    | .unset => .no
    | _ => .ok [.unset] env
  | .call f o a, env => (ev fc a env).bind fun x e => if !(setAll (ioS a) e && setAll (bwS a) e) then .no else match fc f (fillA a x e) with
    | .ok d ps => if (bwS a).isEmpty || (okRes o d && ps.all (okRes true)) then .ok [d] (setMany e (ioS a) ps) else .no
    | .exc c ps => if (bwS a).isEmpty || ps.all (okRes true) then .exc c (setMany e (ioS a) ps) else .no
    | .no => .no
  | .sl3 x y z, env => (ev fc x env).bind fun a e => match a with
    | [d] => (ev fc y e).bind fun b e1 => match b with
      | [.int i] => (ev fc z e1).bind fun c e2 => match c with
        | [.int j] => match cut2 d (some i) (some j) with
          | some r => .ok [r] e2
          | none => .no
        | _ => .no
      | _ => .no
    | _ => .no
  | .chn o p x y z, env => (ev fc x env).bind fun a e => match a with
    | [d1] => (ev fc y e).bind fun b e1 => match b with
      | [d2] => match F2 o d1 d2 with
        | some (.bl true) => (ev fc z e1).bind fun c e2 => match c with
          | [d3] => match F2 p d2 d3 with
            | some (.bl k) => .ok [.bl k] e2
            | _ => .no
          | _ => .no
        | some (.bl false) => .ok [.bl false] e1
        | _ => .no
      | _ => .no
    | _ => .no
  | .mvN i, env => match env.getD i .unset with
    | .unset => .no
    | d => .ok [d] (env.set i .unset)
  | .emN, env => .ok [.lst []] env
  | .frz is e, env => match ev fc e env with
    | .ok [d] _ => if noL d then .ok [d] env else .no
    | _ => .no
  | .compN ts t it el, env => (ev fc it env).bind fun x e => match x with
    | [d] => match items d with
      | some ds => if le ds.length maxLen then match evComp (fun e => .ok [.bl true] e) (ev fc el) ts t ds (wipeE ts e) with
        | .ok ys e2 => .ok [.lst ys] (setMany e2 ts (ts.map fun i => e.getD i .unset))
        | _ => .no else .no
      | none => .no
    | _ => .no
  | .bad, _ => .no
  | .pop i a, env => match env.getD i .unset with
    | .lst _ => (ev fc a env).bind fun x e => match x, e.getD i .unset with
      | [.int j], .lst xs => match L2.ixN xs.length j with
        | some n => if inLim j then .ok [xs.getD n .unset] (e.set i (.lst (xs.eraseIdx n))) else .no
        | none => .no
      | _, _ => .no
    | _ => .no
  | .lst1 x, env => (ev fc x env).bind fun x e => match x with
    | [d] => .ok [.lst [d]] e
    | _ => .no
  | .addN x y, env => (ev fc x env).bind fun x e => match x with
    | [d] => (ev fc y e).bind fun y e1 => match y with
      | [d2] => match addF d d2 with
        | some r => .ok [r] e1
        | none => .no
      | _ => .no
    | _ => .no
  | .callF f x a, env => (ev fc x env).bind fun x e => match x with
    | [d] => (ev fc a e).bind fun ds e1 => match fc f (d :: ds) with
      | .ok r _ => .ok [r] e1
      | .exc c _ => .exc c e1
      | .no => .no
    | _ => .no
  | .gtL i a, env => match env.getD i .unset with
    | .unset => .no
    | _ => (ev fc a env).bind fun x e => match x with
      | [d] => match gtF (e.getD i .unset) d with
        | some b => .ok [b] e
        | none => .no
      | _ => .no
  | .pop0 i, env => match env.getD i .unset with
    | .lst xs => if xs.isEmpty then .no else .ok [xs.getD (xs.length - 1) .unset] (env.set i (.lst xs.dropLast))
    | _ => .no
  | .chn3 o p q x y z w, env => (ev fc x env).bind fun a e => match a with
    | [d1] => (ev fc y e).bind fun b e1 => match b with
      | [d2] => match F2 o d1 d2 with
        | some (.bl true) => (ev fc z e1).bind fun c e2 => match c with
          | [d3] => match F2 p d2 d3 with
            | some (.bl true) => (ev fc w e2).bind fun c2 e3 => match c2 with
              | [d4] => match F2 q d3 d4 with
                | some (.bl k) => .ok [.bl k] e3
                | _ => .no
              | _ => .no
            | some (.bl false) => .ok [.bl false] e2
            | _ => .no
          | _ => .no
        | some (.bl false) => .ok [.bl false] e1
        | _ => .no
      | _ => .no
    | _ => .no
  | .comp ts t it c el, env => (ev fc it env).bind fun x e => match x with
    | [d] => match items d with
      | some ds => if le ds.length maxLen then match evComp (ev fc c) (ev fc el) ts t ds (wipeE ts e) with
        | .ok ys e2 => .ok [.lst ys] (setMany e2 ts (ts.map fun i => e.getD i .unset))
        | _ => .no else .no
      | none => .no
    | _ => .no
/-- assignment to a target -/
def asg (fc : Nat → List D → CR) : T → List D → List D → Option (List D)
  | .nm i, [d], env => some (env.set i d)
  | .sub i k, [d], env => if isU (env.getD i .unset) then none else match ev fc k env with
    | .ok [.int j] e => match e.getD i .unset with
      | .lst xs => match L2.ixN xs.length j with
        | some n => some (e.set i (.lst (xs.set n d)))
        | none => none
      | _ => none
    | _ => none
  | .nil, [], env => some env
  | .cons a b, d :: ds, env => match asg fc a [d] env with
    | some e => asg fc b ds e
    | none => none
  | .tp t, [d], env => match items d with
    | some ds => asg fc t ds env
    | none => none
  | _, _, _ => none
def evWhile (fb : List D → R) (fs : List D → Out) : Nat → List D → Out
  | 0, _ => .no
  | n + 1, env => match fb env with
    | .ok [.bl true] e => match fs e with
      | .nx e2 => evWhile fb fs n e2
      | .ct e2 => evWhile fb fs n e2
      | .bk e2 => .nx e2
      | r => r
    | .ok [.bl false] e => .nx e
    | .exc c e => .exc c e
    | _ => .no
def evFor (fg : D → List D → Option (List D)) (fs : List D → Out) : List D → List D → Out
  | [], env => .nx env
  | d :: ds, env => match fg d env with
    | none => .no
    | some e => match fs e with
      | .nx e2 => evFor fg fs ds e2
      | .ct e2 => evFor fg fs ds e2
      | .bk e2 => .nx e2
      | r => r
/-- a walk over the rows of a list that is owned with them: each in the slot t, put back at the turn's end -/
def evForN (fs : List D → Out) (t i : Nat) : List D → List D → List D → Out
  | done, [], env => .nx (env.set i (.lst done))
  | done, d :: r, env => match fs (env.set t d) with
    | .nx e => if isU (e.getD i .unset) && !isU (e.getD t .unset) then evForN fs t i (done ++ [e.getD t .unset]) r (e.set t .unset) else .no
    | .ct e => if isU (e.getD i .unset) && !isU (e.getD t .unset) then evForN fs t i (done ++ [e.getD t .unset]) r (e.set t .unset) else .no
    | .bk e => if isU (e.getD i .unset) && !isU (e.getD t .unset) then .nx ((e.set t .unset).set i (.lst (done ++ e.getD t .unset :: r))) else .no
    | .rh j e => if j == i && (isU (e.getD i .unset) && !isU (e.getD t .unset)) then .ret (.lst (done ++ e.getD t .unset :: r)) (e.set t .unset) else .no
    | .ret d e => .ret d (e.set t .unset)
    | .exc c e => .exc c (e.set t .unset)
    | .no => .no
/-- the end of a walk over a list that is owned and put aside for it -/
def finO (i : Nat) (ds : List D) : Out → Out
  | .nx e => if isU (e.getD i .unset) then .nx (e.set i (.lst ds)) else .no
  | .bk _ => .no
  | .ct _ => .no
  | o => o
def R.out (r : R) (k : List D → List D → Out) : Out := match r with
  | .ok d e => k d e
  | .exc c e => .exc c e
  | .no => .no
def optO : Option (List D) → Out
  | some e => .nx e
  | none => .no
mutual
/-- no exception stands in it -/
def noX : D → Bool
  | .exc _ => false
  | .tup xs => noXs xs
  | .lst xs => noXs xs
  | .fl xs => noXs xs
  | _ => true
def noXs : List D → Bool
  | [] => true
  | x :: xs => noX x && noXs xs
end
def excOk (c : Nat) : Bool := Nat.ble 1 c && Nat.ble c 8
def ex (fc : Nat → List D → CR) (wf : Nat) : S → List D → Out
  | .skip, env => .nx env
  | .seq a b, env => match ex fc wf a env with
    | .nx e => ex fc wf b e
    | r => r
  | .ret e, env => (ev fc e env).out fun x e1 => match x with
    | [d] => .ret d e1
    | _ => .no
  | .set i e, env => (ev fc e env).out fun x e1 => match x with
    | [d] => .nx (e1.set i d)
    | _ => .no
  | .sub i k e, env => (ev fc e env).out fun x e1 => match x with
    | [d] => if isU (e1.getD i .unset) then .no else (ev fc k e1).out fun y e2 => match y, e2.getD i .unset with
      | [.int j], .lst xs => match L2.ixN xs.length j with
        | some n => .nx (e2.set i (.lst (xs.set n d)))
        | none => .no
      | _, _ => .no
    | _ => .no
  | .unp t e, env => (ev fc e env).out fun x e1 => match x with
    | [d] => optO (asg fc t [d] e1)
    | _ => .no
  | .aug i o e, env => match env.getD i .unset with
    | .int j => (ev fc e env).out fun x e1 => match x with
      | [.int y] => match o with
        | .add => .nx (e1.set i (.int (j + y)))
        | .sub => .nx (e1.set i (.int (j - y)))
        | _ => .no
      | _ => .no
    | _ => .no
  | .augs i k o e, env => if isU (env.getD i .unset) then .no else (ev fc k env).out fun x e1 => match x, e1.getD i .unset with
    | [.int j], .lst xs => match L2.atI xs j with
      | some (.int a) => if 0 ≤ j then (ev fc e e1).out fun y e2 => match y, e2.getD i .unset with
        | [.int b], .lst ys => match L2.ixN ys.length j, o with
          | some n, .add => .nx (e2.set i (.lst (ys.set n (.int (a + b)))))
          | some n, .sub => .nx (e2.set i (.lst (ys.set n (.int (a - b)))))
          | _, _ => .no
        | _, _ => .no else .no
      | _ => .no
    | _, _ => .no
  | .app i e, env => match env.getD i .unset with
    | .lst _ => (ev fc e env).out fun x e1 => match x, e1.getD i .unset with
      | [d], .lst xs => if xs.length < 16777216 then .nx (e1.set i (.lst (xs ++ [d]))) else .no
      | _, _ => .no
    | _ => .no
  | .ext i e, env => match env.getD i .unset with
    | .lst _ => (ev fc e env).out fun x e1 => match x, e1.getD i .unset with
      | [.lst ys], .lst xs => if xs.length + ys.length < 16777216 then .nx (e1.set i (.lst (xs ++ ys))) else .no
      | _, _ => .no
    | _ => .no
  | .bad, _ => .no
  | .rev i, env => match env.getD i .unset with
    | .lst xs => .nx (env.set i (.lst xs.reverse))
    | _ => .no
  | .exp e, env => (ev fc e env).out fun x e1 => match x with
    | [_] => .nx e1
    | _ => .no
  | .ifs c a b, env => (ev fc c env).out fun x e => match x with
    | [.bl true] => ex fc wf a e
    | [.bl false] => ex fc wf b e
    | _ => .no
  | .whl c b, env => evWhile (ev fc c) (ex fc wf b) wf env
  | .for_ t it b, env => (ev fc it env).out fun x e => match x with
    | [d] => match items d with
      | some ds => evFor (fun d => asgN t [d]) (ex fc wf b) ds e
      | none => .no
    | _ => .no
  | .rais c, env => .exc c env
  | .tryX b i s, env => match ex fc wf b env with
    | .exc c e => if excOk c then match ex fc wf s (e.set i (.exc c)) with
      | .nx e2 => if noXs (e2.set i .unset) then .nx (e2.set i .unset) else .no
      | .ret d e2 => if noX d && noXs (e2.set i .unset) then .ret d (e2.set i .unset) else .no
      | _ => .no else .no
    | o => o
  | .extN i e, env => match env.getD i .unset with
    | .lst _ => (ev fc e env).out fun x e1 => match x, e1.getD i .unset with
      | [.lst ys], .lst xs => if xs.length + ys.length < 16777216 then .nx (e1.set i (.lst (xs ++ ys))) else .no
      | _, _ => .no
    | _ => .no
  | .appN i e, env => match env.getD i .unset with
    | .lst _ => (ev fc e env).out fun x e1 => match x, e1.getD i .unset with
      | [d], .lst xs => if xs.length < 16777216 then .nx (e1.set i (.lst (xs ++ [d]))) else .no
      | _, _ => .no
    | _ => .no
  | .appAt i k e, env => match env.getD i .unset with
    | .lst _ => (ev fc k env).out fun x e1 => match x, e1.getD i .unset with
      | [.int j], .lst ds => match L2.ixN ds.length j with
        | some n => match ds.getD n .unset with
          | .lst _ => (ev fc e e1).out fun y e2 => match y, e2.getD i .unset with
            | [d], .lst es => match es.getD n .unset with
              | .lst ys => if ys.length < 16777216 then .nx (e2.set i (.lst (es.set n (.lst (ys ++ [d]))))) else .no
              | _ => .no
            | _, _ => .no
          | _ => .no
        | none => .no
      | _, _ => .no
    | _ => .no
  | .forN t i b, env => match env.getD i .unset with
    | .lst ds => if t < env.length then evForN (ex fc wf b) t i [] ds (env.set i .unset) else .no
    | _ => .no
  | .retH i, env => .rh i env
  | .forO i t it b, env => match env.getD i .unset with
    | .lst ds => match ev fc it env with
      | .ok [d] _ => match items d with
        | some its => if noLs its then finO i ds (evFor (fun d => asgN t [d]) (ex fc wf b) its (env.set i .unset)) else .no
        | none => .no
      | _ => .no
    | _ => .no
  | .parO i j a b, env => (ev fc a env).out fun x e1 => match x with
    | [d1] => (ev fc b e1).out fun y e2 => match y with
      | [d2] => .nx ((e2.set i d1).set j d2)
      | _ => .no
    | _ => .no
  | .brk, env => .bk env
  | .cont, env => .ct env

/-- a def -/
structure FD where
  np : Nat
  ns : Nat
  io : List Nat
  ty : List Ty
  ret : Ty
  body : S
def run (F : Nat → FD) (wf : Nat) : Nat → Nat → List D → CR
  | 0, _, _ => .no
  | n + 1, f, ds => match ex (run F wf n) wf (F f).body (ds ++ List.replicate ((F f).ns - (F f).np) .unset) with
    | .ret d env => if setAll (F f).io env then .ok d ((F f).io.map fun i => env.getD i .unset) else .no
    | .nx env => if setAll (F f).io env then .ok .non ((F f).io.map fun i => env.getD i .unset) else .no
    | .exc c env => if setAll (F f).io env then .exc c ((F f).io.map fun i => env.getD i .unset) else .no
    | _ => .no
end Eg

end
section
set_option maxHeartbeats 4000000
namespace Eg
open PySem PySem.Spec PyProof.Rows L2

/-! ### data in the abstract heap -/
/-- what the whole text gives: the written part, the exceptions in hand -/
structure Gx where
  K : PySem.W.Frag
  XA : Nat → V → Prop
  xv : Nat → Value
def KT (K : PySem.W.Frag) (a : Addr) (xs : List V) : Prop := ∃ (o : Obj) (its : Array Value) (n : Nat), K.lookup a = some o ∧ o.cls = .type "tuple" ∧ o.data = .seq its n ∧ its.size ≤ sizeLine ∧ Vals xs its.toList
def KL (K : PySem.W.Frag) (a : Addr) (xs : List V) : Prop := ∃ (o : Obj) (its : Array Value) (n : Nat), K.lookup a = some o ∧ o.cls = .type "list" ∧ o.dict = none ∧ o.data = .seq its n ∧ its.size ≤ sizeLine ∧ Vals xs its.toList
/-- a tuple, a list that stands for good -/
def FzT (K : PySem.W.Frag) (Fz : Addr → Prop) (H : Hp) (a : Addr) (xs : List V) : Prop := (Fz a ∧ Rd H a (.tup xs)) ∨ KT K a xs
def FzL (K : PySem.W.Frag) (Fz : Addr → Prop) (H : Hp) (a : Addr) (xs : List V) : Prop := (Fz a ∧ Rd H a (.lst xs)) ∨ KL K a xs
mutual
/-- a value that bears the data for good -/
def RF (G : Gx) (Fz : Addr → Prop) (H : Hp) : D → V → Prop
  | .unset, _ => False
  | .non, v => v = .non
  | .bl b, v => v = .bl b
  | .int i, v => v = .int i
  | .str x, v => v = .str x
  | .tup ds, v => ∃ a xs, v = .ref a ∧ FzT G.K Fz H a xs ∧ RFs G Fz H ds xs
  | .lst ds, v => ∃ a xs, v = .ref a ∧ (Fz a ∧ H a = some (.lst xs)) ∧ RFs G Fz H ds xs
  | .fl ds, v => ∃ a xs, v = .ref a ∧ FzL G.K Fz H a xs ∧ RFs G Fz H ds xs
  | .dct _, _ => False
  | .ins _ _, _ => False
  | .exc c, v => G.XA c v
def RFs (G : Gx) (Fz : Addr → Prop) (H : Hp) : List D → List V → Prop
  | [], vs => vs = []
  | d :: ds, vs => ∃ v r, vs = v :: r ∧ RF G Fz H d v ∧ RFs G Fz H ds r
end
/-- what may be read now -/
def RB (G : Gx) (Fz : Addr → Prop) (H : Hp) : D → V → Prop
  | .lst ds, v => ∃ a xs, v = .ref a ∧ H a = some (.lst xs) ∧ RFs G Fz H ds xs
  | d, v => RF G Fz H d v
def RBs (G : Gx) (Fz : Addr → Prop) (H : Hp) : List D → List V → Prop
  | [], vs => vs = []
  | d :: ds, vs => ∃ v r, vs = v :: r ∧ RB G Fz H d v ∧ RBs G Fz H ds r
/-- a list that is owned; its rows so too (T: what each owns) -/
def ROo (G : Gx) (Fz : Addr → Prop) (H : Hp) : D → V → (Addr → Prop) → Prop
  | .lst ds, v, S => ∃ a xs, v = .ref a ∧ H a = some (.lst xs) ∧ RFs G Fz H ds xs ∧ ∀ b, S b ↔ b = a
  | d, v, S => RF G Fz H d v ∧ ∀ b, ¬ S b
structure RN (G : Gx) (Fz : Addr → Prop) (H : Hp) (ds : List D) (xs : List V) (T : Nat → Addr → Prop) : Prop where
  len : xs.length = ds.length
  row : ∀ k d v, ds[k]? = some d → xs[k]? = some v → ROo G Fz H d v (T k)
  out : ∀ k, ds.length ≤ k → ∀ b, ¬ T k b
  dj : ∀ j k b, T j b → T k b → j = k
/-- a value held by its type; S: what it owns -/
def RO (G : Gx) (Fz : Addr → Prop) (H : Hp) : Ty → D → V → (Addr → Prop) → Prop
  | .a, d, v, S => RF G Fz H d v ∧ ∀ b, ¬ S b
  | .o, .lst ds, v, S => ∃ a xs, v = .ref a ∧ H a = some (.lst xs) ∧ RFs G Fz H ds xs ∧ ∀ b, S b ↔ b = a
  | .o, d, v, S => RF G Fz H d v ∧ ∀ b, ¬ S b
  | .n, .lst ds, v, S => ∃ a xs T, v = .ref a ∧ H a = some (.lst xs) ∧ RN G Fz H ds xs T ∧ (∀ k, ¬ T k a) ∧ ∀ b, S b ↔ b = a ∨ ∃ k, T k b
  | .n, d, v, S => RF G Fz H d v ∧ ∀ b, ¬ S b
/-- what stands for good in the one stands so in the other -/
def Le (Fz : Addr → Prop) (H : Hp) (Fz' : Addr → Prop) (H' : Hp) : Prop := ∀ b o, Fz b → H b = some o → Fz' b ∧ H' b = some o
theorem Le.refl {Fz : Addr → Prop} {H : Hp} : Le Fz H Fz H := fun _ _ h e => ⟨h, e⟩
theorem Le.trans {Fz Fz1 Fz2 : Addr → Prop} {H H1 H2 : Hp} (a : Le Fz H Fz1 H1) (b : Le Fz1 H1 Fz2 H2) : Le Fz H Fz2 H2 := fun c o h e => b c o (a c o h e).1 (a c o h e).2
section
variable {G : Gx} {Fz Fz' : Addr → Prop} {H H' : Hp} {S : Addr → Prop}
theorem Rd.le {a : Addr} {u : HO} (l : ∀ o, H a = some o → H' a = some o) (h : Rd H a u) : Rd H' a u := by
  rcases h with h | ⟨o, h⟩
  · exact .inl (l _ h)
  · exact .inr ⟨o, l _ h⟩
theorem Rd.le2 {a : Addr} {u : HO} (l : Le Fz H Fz' H') (f : Fz a) (h : Rd H a u) : Fz' a ∧ Rd H' a u := by
  rcases h with h | ⟨o, h⟩
  · exact ⟨(l _ _ f h).1, .inl (l _ _ f h).2⟩
  · exact ⟨(l _ _ f h).1, .inr ⟨o, (l _ _ f h).2⟩⟩
mutual
theorem RF.le (l : Le Fz H Fz' H') : ∀ (d : D) {v : V}, RF G Fz H d v → RF G Fz' H' d v
  | .unset, _, h => h
  | .non, _, h => h
  | .bl _, _, h => h
  | .int _, _, h => h
  | .str _, _, h => h
  | .tup ds, _, ⟨a, xs, e, h, r⟩ => ⟨a, xs, e, h.imp (fun ⟨x, y⟩ => Rd.le2 l x y) id, RFs.le l ds r⟩
  | .lst ds, _, ⟨a, xs, e, h, r⟩ => ⟨a, xs, e, l _ _ h.1 h.2, RFs.le l ds r⟩
  | .fl ds, _, ⟨a, xs, e, h, r⟩ => ⟨a, xs, e, h.imp (fun ⟨x, y⟩ => Rd.le2 l x y) id, RFs.le l ds r⟩
  | .dct _, _, h => h
  | .ins _ _, _, h => h
  | .exc _, _, h => h
theorem RFs.le (l : Le Fz H Fz' H') : ∀ (ds : List D) {vs : List V}, RFs G Fz H ds vs → RFs G Fz' H' ds vs
  | [], _, h => h
  | d :: ds, _, ⟨v, r, e, h, t⟩ => ⟨v, r, e, RF.le l d h, RFs.le l ds t⟩
end
theorem FzT.sq {a : Addr} {xs : List V} (h : FzT G.K Fz H a xs) : SqT G.K H a xs := h.imp (fun x => x.2) id
theorem FzL.sq {a : Addr} {xs : List V} (h : FzL G.K Fz H a xs) : SqL G.K H a xs := h.imp (fun x => x.2) id
theorem RF.rb : ∀ {d : D} {v : V}, RF G Fz H d v → RB G Fz H d v
  | .lst _, _, ⟨a, xs, e, h, r⟩ => ⟨a, xs, e, h.2, r⟩
  | .fl _, _, h => h
  | .unset, _, h => h
  | .non, _, h => h
  | .bl _, _, h => h
  | .int _, _, h => h
  | .str _, _, h => h
  | .tup _, _, h => h
  | .dct _, _, h => h
  | .ins _ _, _, h => h
  | .exc _, _, h => h
theorem RFs.rbs : ∀ {ds : List D} {vs : List V}, RFs G Fz H ds vs → RBs G Fz H ds vs
  | [], _, h => h
  | _ :: _, _, ⟨v, r, e, h, t⟩ => ⟨v, r, e, h.rb, RFs.rbs t⟩
theorem RO.cases {d : D} {v : V} (h : RO G Fz H .o d v S) : (∃ ds a xs, d = .lst ds ∧ v = .ref a ∧ H a = some (.lst xs) ∧ RFs G Fz H ds xs ∧ ∀ b, S b ↔ b = a) ∨ (RF G Fz H d v ∧ ∀ b, ¬ S b) := by
  cases d with
  | lst ds => obtain ⟨a, xs, h⟩ := h; exact .inl ⟨ds, a, xs, rfl, h⟩
  | _ => exact .inr h
theorem roo_iff {d : D} {v : V} : ROo G Fz H d v S ↔ RO G Fz H .o d v S := by cases d <;> exact Iff.rfl
theorem RO.casesN {d : D} {v : V} (h : RO G Fz H .n d v S) : (∃ ds a xs T, d = .lst ds ∧ v = .ref a ∧ H a = some (.lst xs) ∧ RN G Fz H ds xs T ∧ (∀ k, ¬ T k a) ∧ ∀ b, S b ↔ b = a ∨ ∃ k, T k b) ∨ (RF G Fz H d v ∧ (∀ ds, d ≠ .lst ds) ∧ ∀ b, ¬ S b) := by
  cases d with
  | lst ds => obtain ⟨a, xs, T, h⟩ := h; exact .inl ⟨ds, a, xs, T, rfl, h⟩
  | _ => exact .inr ⟨h.1, (fun _ z => by cases z), h.2⟩
theorem RO.of_rf {d : D} {v : V} (h : RF G Fz H d v) (n : ∀ ds, d ≠ .lst ds) : RO G Fz H .o d v fun _ => False := by
  cases d with
  | lst ds => exact absurd rfl (n ds)
  | _ => exact ⟨h, fun _ => id⟩
theorem RO.of_rfN {d : D} {v : V} (h : RF G Fz H d v) (n : ∀ ds, d ≠ .lst ds) (e : ∀ b, ¬ S b) : RO G Fz H .n d v S := by
  cases d with
  | lst ds => exact absurd rfl (n ds)
  | _ => exact ⟨h, e⟩
theorem RO.of_any {d : D} {v : V} (h : RF G Fz H d v) (n : ∀ ds, d ≠ .lst ds) : ∀ {t : Ty}, RO G Fz H t d v fun _ => False
  | .a => ⟨h, fun _ => id⟩
  | .o => .of_rf h n
  | .n => .of_rfN h n fun _ => id
theorem RO.rb : ∀ {t : Ty} {d : D} {v : V}, t ≠ .n → RO G Fz H t d v S → RB G Fz H d v
  | .a, _, _, _, h => h.1.rb
  | .o, d, v, _, h => by
    rcases h.cases with ⟨ds, a, xs, e1, e2, hh, r, _⟩ | h
    · subst e1; exact ⟨a, xs, e2, hh, r⟩
    · exact h.1.rb
  | .n, _, _, z, _ => absurd rfl z
theorem ROo.le (l : Le Fz H Fz' H') (s : ∀ b o, S b → H b = some o → H' b = some o) {d : D} {v : V} (h : ROo G Fz H d v S) : ROo G Fz' H' d v S := by
  rcases (roo_iff.mp h).cases with ⟨ds, a, xs, e1, e2, hh, r, n⟩ | q
  · subst e1
    exact ⟨a, xs, e2, s a _ ((n a).mpr rfl) hh, RFs.le l ds r, n⟩
  · cases d with
    | lst ds => obtain ⟨a, xs, e2, hh, r, n⟩ := h; exact ⟨a, xs, e2, s a _ ((n a).mpr rfl) hh, RFs.le l ds r, n⟩
    | _ => exact ⟨RF.le l _ q.1, q.2⟩
theorem RN.le {ds : List D} {xs : List V} {T : Nat → Addr → Prop} (l : Le Fz H Fz' H') (s : ∀ k b o, T k b → H b = some o → H' b = some o) (h : RN G Fz H ds xs T) : RN G Fz' H' ds xs T :=
  ⟨h.len, fun k d v e1 e2 => (h.row k d v e1 e2).le l (s k), h.out, h.dj⟩
theorem RO.le (l : Le Fz H Fz' H') (s : ∀ b o, S b → H b = some o → H' b = some o) : ∀ {t : Ty} {d : D} {v : V}, RO G Fz H t d v S → RO G Fz' H' t d v S
  | .a, _, _, ⟨h, n⟩ => ⟨RF.le l _ h, n⟩
  | .o, d, v, h => roo_iff.mp ((roo_iff.mpr h).le l s)
  | .n, d, v, h => by
    rcases h.casesN with ⟨ds, a, xs, T, e1, e2, hh, r, n, q⟩ | ⟨r, n, e⟩
    · subst e1
      exact ⟨a, xs, T, e2, s a _ ((q a).mpr (.inl rfl)) hh, r.le l fun k b o t => s b o ((q b).mpr (.inr ⟨k, t⟩)), n, q⟩
    · exact .of_rfN (RF.le l _ r) n e
/-- what is owned may be held for good from now on -/
theorem ROo.freeze {d : D} {v : V} (h : ROo G Fz H d v S) (s : ∀ b, S b → Fz' b) (l : ∀ b, Fz b → Fz' b) : RF G Fz' H d v := by
  have l : Le Fz H Fz' H := fun b o x e => ⟨l b x, e⟩
  rcases (roo_iff.mp h).cases with ⟨ds, a, xs, e1, e2, hh, r, n⟩ | h
  · subst e1; exact ⟨a, xs, e2, ⟨s a ((n a).mpr rfl), hh⟩, RFs.le l ds r⟩
  · exact RF.le l _ h.1
theorem RFs.of_at : ∀ {ds : List D} {vs : List V}, vs.length = ds.length → (∀ (k : Nat) (d : D) (v : V), ds[k]? = some d → vs[k]? = some v → RF G Fz H d v) → RFs G Fz H ds vs
  | [], vs, e, _ => by cases vs with
    | nil => rfl
    | cons _ _ => simp at e
  | d :: ds, vs, e, h => by
    cases vs with
    | nil => simp at e
    | cons v vs => exact ⟨v, vs, rfl, h 0 d v rfl rfl, RFs.of_at (by simpa using e) fun k d' v' e1 e2 => h (k + 1) d' v' (by simpa using e1) (by simpa using e2)⟩
theorem RO.freeze {t : Ty} {d : D} {v : V} (h : RO G Fz H t d v S) : RF G (fun b => Fz b ∨ S b) H d v := by
  have l : Le Fz H (fun b => Fz b ∨ S b) H := fun b o x e => ⟨.inl x, e⟩
  cases t with
  | a => exact RF.le l _ h.1
  | o => exact (roo_iff.mpr h).freeze (fun _ => .inr) fun _ => .inl
  | n =>
    rcases h.casesN with ⟨ds, a, xs, T, e1, e2, hh, r, n, q⟩ | ⟨r, n, e⟩
    · subst e1
      exact ⟨a, xs, e2, ⟨.inr ((q a).mpr (.inl rfl)), hh⟩, RFs.of_at r.len fun k d v e1 e2 => (r.row k d v e1 e2).freeze (fun b z => .inr ((q b).mpr (.inr ⟨k, z⟩))) fun _ => .inl⟩
    · exact RF.le l _ r
/-- what is owned is a list -/
theorem RO.own_lst {t : Ty} {d : D} {v : V} (h : RO G Fz H t d v S) : ∀ b, S b → ∃ xs, H b = some (.lst xs) := fun b sb => by
  have one : ∀ {d : D} {v : V} {S : Addr → Prop}, ROo G Fz H d v S → S b → ∃ xs, H b = some (.lst xs) := fun {d v S} h sb => by
    rcases (roo_iff.mp h).cases with ⟨ds, a, xs, e1, e2, hh, r, n⟩ | h
    · rw [(n b).mp sb]; exact ⟨_, hh⟩
    · exact absurd sb (h.2 b)
  cases t with
  | a => exact absurd sb (h.2 b)
  | o => exact one (roo_iff.mpr h) sb
  | n =>
    rcases h.casesN with ⟨ds, a, xs, T, e1, e2, hh, r, n, q⟩ | ⟨r, n, e⟩
    · rcases (q b).mp sb with z | ⟨k, z⟩
      · rw [z]; exact ⟨_, hh⟩
      · by_cases hk : k < ds.length
        · have hk2 : k < xs.length := by rw [r.len]; exact hk
          exact one (r.row k _ _ (List.getElem?_eq_getElem hk) (List.getElem?_eq_getElem hk2)) z
        · exact absurd z (r.out k (by omega) b)
    · exact absurd sb (e b)
theorem RB.le (l : Le Fz H Fz' H') (s : ∀ b o, H b = some o → H' b = some o) : ∀ {d : D} {v : V}, RB G Fz H d v → RB G Fz' H' d v
  | .lst ds, _, ⟨a, xs, e, h, r⟩ => ⟨a, xs, e, s a _ h, RFs.le l ds r⟩
  | .fl b, _, h => RF.le (G := G) l (.fl b) h
  | .unset, _, h => (h : False).elim
  | .non, _, h => RF.le (G := G) l .non h
  | .bl b, _, h => RF.le (G := G) l (.bl b) h
  | .int b, _, h => RF.le (G := G) l (.int b) h
  | .str b, _, h => RF.le (G := G) l (.str b) h
  | .tup b, _, h => RF.le (G := G) l (.tup b) h
  | .dct b, _, h => (h : False).elim
  | .ins c b, _, h => (h : False).elim
  | .exc b, _, h => RF.le (G := G) l (.exc b) h
theorem RBs.le (l : Le Fz H Fz' H') (s : ∀ b o, H b = some o → H' b = some o) : ∀ {ds : List D} {vs : List V}, RBs G Fz H ds vs → RBs G Fz' H' ds vs
  | [], _, h => h
  | _ :: _, _, ⟨v, r, e, h, t⟩ => ⟨v, r, e, RB.le l s h, RBs.le l s t⟩
theorem RFs.length : ∀ {ds : List D} {vs : List V}, RFs G Fz H ds vs → vs.length = ds.length
  | [], _, h => by rw [show _ = [] from h]; rfl
  | _ :: _, _, ⟨v, r, e, h, t⟩ => by rw [e, List.length_cons, List.length_cons, RFs.length t]
theorem RFs.append : ∀ {ds : List D} {vs : List V} {es : List D} {us : List V}, RFs G Fz H ds vs → RFs G Fz H es us → RFs G Fz H (ds ++ es) (vs ++ us)
  | [], _, _, _, h, q => by rw [show _ = [] from h]; exact q
  | _ :: _, _, _, _, ⟨v, r, e, h, t⟩, q => ⟨v, r ++ _, by rw [e]; rfl, h, RFs.append t q⟩
theorem RBs.append : ∀ {ds : List D} {vs : List V} {es : List D} {us : List V}, RBs G Fz H ds vs → RBs G Fz H es us → RBs G Fz H (ds ++ es) (vs ++ us)
  | [], _, _, _, h, q => by rw [show _ = [] from h]; exact q
  | _ :: _, _, _, _, ⟨v, r, e, h, t⟩, q => ⟨v, r ++ _, by rw [e]; rfl, h, RBs.append t q⟩
theorem RFs.get : ∀ {ds : List D} {vs : List V} {i : Nat} {d : D}, RFs G Fz H ds vs → ds[i]? = some d → ∃ v, vs[i]? = some v ∧ RF G Fz H d v
  | [], _, _, _, _, h => by simp at h
  | _ :: _, _, 0, d, ⟨v, r, e, h, t⟩, q => by
    simp at q; subst q; subst e
    exact ⟨v, rfl, h⟩
  | _ :: _, _, i + 1, d, ⟨v, r, e, h, t⟩, q => by
    subst e
    obtain ⟨u, h1, h2⟩ := RFs.get (i := i) (d := d) t (by simpa using q)
    exact ⟨u, by simpa using h1, h2⟩
theorem RFs.take : ∀ {ds : List D} {vs : List V} (n : Nat), RFs G Fz H ds vs → RFs G Fz H (ds.take n) (vs.take n)
  | _, _, 0, _ => by simp [RFs]
  | [], _, _ + 1, h => by rw [show _ = [] from h]; simp [RFs]
  | _ :: _, _, n + 1, ⟨v, r, e, h, t⟩ => by subst e; exact ⟨v, _, rfl, h, RFs.take n t⟩
theorem RFs.drop : ∀ {ds : List D} {vs : List V} (n : Nat), RFs G Fz H ds vs → RFs G Fz H (ds.drop n) (vs.drop n)
  | _, _, 0, h => h
  | [], _, _ + 1, h => by rw [show _ = [] from h]; simp [RFs]
  | _ :: _, _, n + 1, ⟨v, r, e, h, t⟩ => by subst e; exact RFs.drop n t
theorem RFs.set {d : D} {v : V} (h : RF G Fz H d v) : ∀ {ds : List D} {vs : List V} (i : Nat), RFs G Fz H ds vs → RFs G Fz H (ds.set i d) (vs.set i v)
  | [], _, _, q => by rw [show _ = [] from q]; simp [RFs]
  | _ :: _, _, 0, ⟨u, r, e, _, t⟩ => by subst e; exact ⟨v, r, rfl, h, t⟩
  | _ :: _, _, i + 1, ⟨u, r, e, q, t⟩ => by subst e; exact ⟨u, _, rfl, q, RFs.set h i t⟩
theorem RFs.reverse : ∀ {ds : List D} {vs : List V}, RFs G Fz H ds vs → RFs G Fz H ds.reverse vs.reverse
  | [], _, h => by rw [show _ = [] from h]; simp [RFs]
  | d :: ds, _, ⟨v, r, e, h, t⟩ => by
    subst e
    rw [List.reverse_cons, List.reverse_cons]
    exact (RFs.reverse t).append ⟨v, [], rfl, h, rfl⟩
theorem RFs.intsD : ∀ (l : List Int), RFs G Fz H (intsD l) (l.map V.int)
  | [] => rfl
  | i :: l => ⟨.int i, l.map V.int, rfl, rfl, RFs.intsD l⟩
theorem RFs.toInts : ∀ {ds : List D} {vs : List V} {l : List Int}, RFs G Fz H ds vs → toInts ds = some l → vs = l.map V.int
  | [], _, _, h, e => by rw [show _ = [] from h]; simp [Eg.toInts] at e; subst e; rfl
  | d :: ds, _, l, ⟨v, r, e1, h, t⟩, e => by
    cases d <;> simp [Eg.toInts] at e
    obtain ⟨a, ha, e⟩ := e
    subst e; subst e1
    rw [show v = _ from h, RFs.toInts t ha]
    rfl
theorem toInts_eq : ∀ {ds : List D} {l : List Int}, toInts ds = some l → ds = intsD l
  | [], _, e => by simp [Eg.toInts] at e; subst e; rfl
  | d :: ds, l, e => by
    cases d <;> simp [Eg.toInts] at e
    obtain ⟨a, ha, e⟩ := e
    subst e
    rw [toInts_eq ha]
    rfl
end
end Eg

end
section
set_option maxHeartbeats 4000000
namespace Eg
open PySem PySem.Spec PyProof.Rows L2

/-! ### frames -/
/-- from the one state to the other: what stood for good stands, all that was tracked stands but M; what is new for good was M or is new -/
structure Fr (Fz : Addr → Prop) (H : Hp) (M : Addr → Prop) (Fz' : Addr → Prop) (H' : Hp) : Prop where
  fz : ∀ b o, Fz b → H b = some o → ¬ M b → Fz' b
  keep : ∀ b o, H b = some o → ¬ M b → H' b = some o
  fzn : ∀ b, Fz' b → Fz b ∨ M b ∨ H b = none
section
variable {Fz Fz1 Fz2 Fz' M M1 M' : Addr → Prop} {H H1 H2 H' : Hp}
theorem Fr.refl : Fr Fz H M Fz H := ⟨fun _ _ h _ _ => h, fun _ _ h _ => h, fun _ h => .inl h⟩
theorem Fr.le (h : Fr Fz H M Fz' H') (n : ∀ b, M b → ¬ Fz b) : Le Fz H Fz' H' := fun b o hb e => ⟨h.fz b o hb e fun m => n b m hb, h.keep b o e fun m => n b m hb⟩
theorem Fr.trans (a : Fr Fz H M Fz1 H1) (b : Fr Fz1 H1 M1 Fz2 H2) (m : ∀ b, M1 b → M b ∨ H b = none) : Fr Fz H M Fz2 H2 where
  fz := fun c o h e n => b.fz c o (a.fz c o h e n) (a.keep c o e n) fun z => (m c z).elim n fun q => by rw [q] at e; cases e
  keep := fun c o e n => b.keep c o (a.keep c o e n) fun z => (m c z).elim n fun q => by rw [q] at e; cases e
  fzn := fun c h => by
    rcases b.fzn c h with z | z | z
    · exact a.fzn c z
    · rcases m c z with q | q
      · exact .inr (.inl q)
      · exact .inr (.inr q)
    · by_cases hm : M c
      · exact .inr (.inl hm)
      · cases e : H c with
        | none => exact .inr (.inr rfl)
        | some o => rw [a.keep c o e hm] at z; cases z
theorem Fr.mono (a : Fr Fz H M Fz' H') (m : ∀ b, M b → M' b) : Fr Fz H M' Fz' H' :=
  ⟨fun b o h e n => a.fz b o h e fun z => n (m b z), fun b o e n => a.keep b o e fun z => n (m b z), fun b h => (a.fzn b h).imp id fun z => z.imp (m b) id⟩
theorem Fr.none (a : Fr Fz H (fun _ => False) Fz' H') : ∀ b o, H b = some o → H' b = some o := fun b o e => a.keep b o e id
/-- more stands for good -/
theorem Fr.more {S : Addr → Prop} (a : Fr Fz H M Fz' H') (s : ∀ b, S b → M b ∨ H b = .none) : Fr Fz H M (fun b => Fz' b ∨ S b) H' :=
  ⟨fun b o h e n => .inl (a.fz b o h e n), a.keep, fun b h => h.elim (a.fzn b) fun z => .inr (s b z)⟩
end

/-! ### the frame's slots -/
def OW (own : Nat → Addr → Prop) : Addr → Prop := fun b => ∃ i, own i b
structure RE (G : Gx) (Γ : List Ty) (PV : List (Nat × V)) (Fz : Addr → Prop) (H : Hp) (env : List D) (σ : L2.St) (own : Nat → Addr → Prop) : Prop where
  val : ∀ i, env.getD i .unset ≠ .unset → ∃ v, σ[i]? = some (some v) ∧ RO G Fz H (Γ.getD i .a) (env.getD i .unset) v (own i)
  emp : ∀ i, env.getD i .unset = .unset → ∀ b, ¬ own i b
  nf : ∀ i b, own i b → ¬ Fz b
  dj : ∀ i j b, own i b → own j b → i = j
  pv : ∀ p ∈ PV, σ[p.1]? = some (some p.2)
  len : env.length = σ.length
section
variable {G : Gx} {Γ : List Ty} {PV : List (Nat × V)} {Fz Fz' M S : Addr → Prop} {H H' : Hp} {env : List D} {σ : L2.St} {own : Nat → Addr → Prop}
theorem RO.trk {t : Ty} {d : D} {v : V} (h : RO G Fz H t d v S) : ∀ b, S b → ∃ o, H b = some o := fun b sb => let ⟨xs, e⟩ := h.own_lst b sb; ⟨_, e⟩
theorem RE.trk (h : RE G Γ PV Fz H env σ own) {i : Nat} {b : Addr} (o : own i b) : ∃ u, H b = some u := by
  by_cases e : env.getD i .unset = .unset
  · exact absurd o (h.emp i e b)
  · obtain ⟨v, _, r⟩ := h.val i e
    exact r.trk b o
theorem RE.ow (h : RE G Γ PV Fz H env σ own) {b : Addr} (o : OW own b) : ¬ Fz b := let ⟨i, q⟩ := o; h.nf i b q
theorem RE.fr (h : RE G Γ PV Fz H env σ own) (f : Fr Fz H M Fz' H') (m : ∀ b, OW own b → ¬ M b) (mf : ∀ b, M b → ¬ Fz b) : RE G Γ PV Fz' H' env σ own where
  val := fun i e => by
    obtain ⟨v, e1, r⟩ := h.val i e
    exact ⟨v, e1, r.le (f.le mf) fun b o s q => f.keep b o q (m b ⟨i, s⟩)⟩
  emp := h.emp
  nf := fun i b o z => by
    rcases f.fzn b z with q | q | q
    · exact h.nf i b o q
    · exact m b ⟨i, o⟩ q
    · obtain ⟨u, e⟩ := h.trk o
      rw [e] at q; cases q
  dj := h.dj
  pv := h.pv
  len := h.len
theorem RE.fr0 (h : RE G Γ PV Fz H env σ own) (f : Fr Fz H (fun _ => False) Fz' H') : RE G Γ PV Fz' H' env σ own := h.fr f (fun _ _ => id) fun _ z => z.elim
/-- what no slot owns may stand for good -/
theorem RE.more (h : RE G Γ PV Fz H env σ own) (s : ∀ i b, own i b → ¬ S b) : RE G Γ PV (fun b => Fz b ∨ S b) H env σ own where
  val := fun i e => by
    obtain ⟨v, e1, r⟩ := h.val i e
    exact ⟨v, e1, r.le (fun b o x e => ⟨.inl x, e⟩) fun b o _ q => q⟩
  emp := h.emp
  nf := fun i b o z => z.elim (h.nf i b o) (s i b o)
  dj := h.dj
  pv := h.pv
  len := h.len
end

/-! ### readings -/
/-- whether reckoning it may change what the frame owns -/
def eff : E → Bool
  | .var _ => false
  | .con _ => false
  | .glob _ _ => false
  | .nil => false
  | .io _ => false
  | .cons a b => eff a || eff b
  | .tup a => eff a
  | .lst a => eff a
  | .bi _ a => eff a
  | .and a b => eff a || eff b
  | .or a b => eff a || eff b
  | .not a => eff a
  | .ite c a b => eff c || eff a || eff b
  | .call _ _ a => !(ioS a).isEmpty || eff a
  | .mv _ => true
  | .mvN _ => true
  | .emN => false
  | .frz _ _ => false
  | .compN _ _ it e => eff it || eff e
  | .bad => false
  | .pop _ _ => true
  | .pop0 _ => true
  | .gtL _ a => eff a
  | .lst1 x => eff x
  | .addN x y => eff x || eff y
  | .callF _ x a => eff x || eff a
  | .chn3 _ _ _ x y z w => eff x || eff y || eff z || eff w
  | .bw _ => false
  | .sl3 x y z => eff x || eff y || eff z
  | .chn _ _ x y z => eff x || eff y || eff z
  | .comp _ _ it c e => eff it || eff c || eff e
/-- a name of what the frame owns: read as it is -/
def bor (Γ : List Ty) : E → Bool
  | .var i => Γ.getD i .a == .o
  | _ => false
/-- which operations hand back something new -/
def bty : BI → Ty
  | .add => .o
  | .mul => .o
  | .slL => .o
  | .slU => .o
  | .slRev => .o
  | .sorted => .o
  | .listC => .o
  | .lrng1 => .o
  | .lrng2 => .o
  | _ => .a
def nty (rt : Nat → Ty) : E → Ty
  | .lst _ => .o
  | .comp _ _ _ _ _ => .o
  | .sl3 _ _ _ => .o
  | .bi o _ => bty o
  | .call f _ _ => rt f
  | .callF f _ _ => rt f
  | .mv _ => .o
  | .mvN _ => .n
  | .emN => .n
  | .lst1 _ => .n
  | .addN _ _ => .n
  | .compN _ _ _ _ => .n
  | _ => .a
def MM (own : Nat → Addr → Prop) (e : Bool) : Addr → Prop := fun b => e = true ∧ OW own b
/-- what surrounds an expression: a def's slots -/
structure Lx where
  G : Gx
  fc : Nat → List D → CR
  rt : Nat → Ty
  Γ : List Ty
  PV : List (Nat × V)
  W : WX
  hot : Bool
variable (L : Lx)
/-- after an exception -/
def ResX (σ : L2.St) (Fz : Addr → Prop) (H : Hp) (own : Nat → Addr → Prop) (env' : List D) (c : Nat) : Prop :=
  ∀ H' Fz' own', RE L.G L.Γ L.PV Fz' H' env' σ own' → Fr Fz H (OW own) Fz' H' → (∀ b, OW own' b → OW own b ∨ H b = none) → L.W (L.G.xv c) none σ H'
/-- a value, by the expression's own type -/
def tE (e : E) : TE := fun σ H Q => ∃ Fz env own, RE L.G L.Γ L.PV Fz H env σ own ∧ match ev L.fc e env with
  | .ok ds env' => ∃ d, ds = [d] ∧ ∀ v H' Fz' own' S, RE L.G L.Γ L.PV Fz' H' env' σ own' → RO L.G Fz' H' (nty L.rt e) d v S → (∀ b, S b → ¬ Fz' b) → (∀ i b, own' i b → ¬ S b) →
      Fr Fz H (MM own (eff e)) Fz' H' → (∀ b, OW own' b → OW own b ∨ H b = none) → (∀ b, S b → MM own (eff e) b ∨ H b = none) → Q v H'
  | .exc c env' => ResX L σ Fz H own env' c
  | .no => False
/-- a value that is read: an owner's name as it is, all else for good -/
def tP (e : E) : TE := fun σ H Q => ∃ Fz env own, RE L.G L.Γ L.PV Fz H env σ own ∧ match ev L.fc e env with
  | .ok ds env' => ∃ d, ds = [d] ∧ ∀ v H' Fz' own', RE L.G L.Γ L.PV Fz' H' env' σ own' → RB L.G Fz' H' d v → (bor L.Γ e = false → RF L.G Fz' H' d v) →
      Fr Fz H (MM own (eff e)) Fz' H' → (∀ b, OW own' b → OW own b ∨ H b = none) → Q v H'
  | .exc c env' => ResX L σ Fz H own env' c
  | .no => False
/-- arguments from the left -/
def tPs : E → TA
  | .cons a r => tCons (tP L a) (tPs r)
  | _ => tNil
/-- the list form: a name of an owner is followed by nothing that changes -/
def lok (Γ : List Ty) : E → Bool
  | .nil => true
  | .cons a r => (!bor Γ a || !eff r) && lok Γ r
  | _ => false
def noOwn (Γ : List Ty) : E → Bool
  | .nil => true
  | .cons a r => !bor Γ a && noOwn Γ r
  | _ => false
section
variable {L : Lx}
theorem MM.false {own : Nat → Addr → Prop} : MM own false = fun _ => False := by funext b; simp [MM]
theorem MM.nf {own : Nat → Addr → Prop} {G Γ PV Fz H env σ} (h : RE G Γ PV Fz H env σ own) {e : Bool} : ∀ b, MM own e b → ¬ Fz b := fun b m => h.ow m.2
theorem tPs_ok {env : List D} {σ : L2.St} {own : Nat → Addr → Prop} {Fz : Addr → Prop} {H : Hp} : ∀ (e : E) {Q : List V → Hp → Prop}, lok L.Γ e = true → RE L.G L.Γ L.PV Fz H env σ own →
    (match ev L.fc e env with
      | .ok ds env' => ∀ vs H' Fz' own', RE L.G L.Γ L.PV Fz' H' env' σ own' → RBs L.G Fz' H' ds vs → (noOwn L.Γ e = true → RFs L.G Fz' H' ds vs) → Fr Fz H (MM own (eff e)) Fz' H' → (∀ b, OW own' b → OW own b ∨ H b = none) → Q vs H'
      | .exc c env' => ResX L σ Fz H own env' c
      | .no => False) → tPs L e σ H Q := by
  intro e
  induction e generalizing env own Fz H with
  | nil =>
    intro Q _ I h
    simp only [ev] at h
    exact h [] H Fz own I rfl (fun _ => rfl) .refl fun b o => .inl o
  | cons a r iha ihr =>
    intro Q hl I h
    simp only [lok, Bool.and_eq_true] at hl
    show tP L a σ H fun x H1 => tPs L r σ H1 fun xs H2 => Q (x :: xs) H2
    refine ⟨Fz, env, own, I, ?_⟩
    simp only [ev, R.bind] at h
    cases ea : ev L.fc a env with
    | no => rw [ea] at h; exact h
    | exc c e1 => rw [ea] at h; exact h
    | ok ds e1 =>
      rw [ea] at h
      simp only at h
      match ds, h with
      | [], h => exact h.elim
      | _ :: _ :: _, h => exact h.elim
      | [d], h =>
        refine ⟨d, rfl, fun v H1 Fz1 own1 I1 rb rf f1 o1 => ?_⟩
        refine ihr hl.2 I1 ?_
        cases er : ev L.fc r e1 with
        | no => simp only [er] at h
        | exc c e2 =>
          simp only [er] at h
          intro H2 Fz2 own2 I2 f2 o2
          exact h H2 Fz2 own2 I2 ((f1.mono fun b m => m.2).trans f2 o1) fun b ob => (o2 b ob).elim (o1 b) fun z => by
            cases q : H b with
            | none => exact .inr rfl
            | some u =>
              by_cases m : OW own b
              · exact .inl m
              · rw [f1.keep b u q fun y => m y.2] at z; cases z
        | ok es e2 =>
          simp only [er] at h
          intro vs H2 Fz2 own2 I2 rbs rfs f2 o2
          have fin : ∀ b, OW own2 b → OW own b ∨ H b = none := fun b ob => (o2 b ob).elim (o1 b) fun z => by
            cases q : H b with
            | none => exact .inr rfl
            | some u =>
              by_cases m : OW own b
              · exact .inl m
              · rw [f1.keep b u q fun y => m y.2] at z; cases z
          have ft : Fr Fz H (MM own (eff (.cons a r))) Fz2 H2 := by
            have f1' : Fr Fz H (MM own (eff (.cons a r))) Fz1 H1 := f1.mono fun b m => ⟨by simp [eff, m.1], m.2⟩
            refine f1'.trans f2 fun b m => ?_
            rcases o1 b m.2 with z | z
            · exact .inl ⟨by simp [eff, m.1], z⟩
            · exact .inr z
          have rb2 : RB L.G Fz2 H2 d v := by
            cases hb : bor L.Γ a with
            | false => exact (RF.le (f2.le (MM.nf I1)) d (rf hb)).rb
            | true =>
              rw [hb] at hl
              have hr : eff r = false := by simpa using hl.1
              rw [hr, MM.false] at f2
              exact rb.le (f2.le fun _ z => z.elim) f2.none
          refine h (v :: vs) H2 Fz2 own2 I2 ⟨v, vs, rfl, rb2, rbs⟩ (fun hn => ?_) ft fin
          simp only [noOwn, Bool.and_eq_true] at hn
          exact ⟨v, vs, rfl, RF.le (f2.le (MM.nf I1)) d (rf (by simpa using hn.1)), rfs hn.2⟩
  | _ => intro Q hl; simp [lok] at hl
end
end Eg

end
section
set_option maxHeartbeats 4000000
namespace Eg
open PySem PySem.Spec PyProof.Rows L2

/-- what an operation hands back is taken -/
def Cont (G : Gx) (t : Ty) (Fz : Addr → Prop) (H : Hp) (d : D) (Q : VK) : Prop :=
  ∀ v H' Fz' S, RO G Fz' H' t d v S → (∀ b, S b → ¬ Fz' b) → (∀ b, S b → H b = none) → Fr Fz H (fun _ => False) Fz' H' → Q v H'
def rB (G : Gx) (o : BI) (vs : List V) (H : Hp) (Q : VK) : Prop := ∃ Fz ds d, RBs G Fz H ds vs ∧ bop o ds = some d ∧ Cont G (bty o) Fz H d Q
section
variable {G : Gx} {t : Ty} {Fz : Addr → Prop} {H : Hp} {d : D} {Q : VK} {v : V} {ds : List D} {xs : List V} {p : Addr}
theorem Cont.old (c : Cont G .a Fz H d Q) (r : RF G Fz H d v) : Q v H := c v H Fz (fun _ => False) ⟨r, fun _ => id⟩ (fun _ z => z.elim) (fun _ z => z.elim) .refl
theorem Cont.val (c : Cont G t Fz H d Q) (r : RF G Fz H d v) (n : ∀ ds, d ≠ .lst ds) : Q v H := c v H Fz (fun _ => False) (.of_any r n) (fun _ z => z.elim) (fun _ z => z.elim) .refl
theorem fr_new {o : HO} (hp : H p = none) : Fr Fz H (fun _ => False) (fun b => Fz b ∧ b ≠ p) (upd H p o) :=
  ⟨fun b u h e _ => ⟨h, ne_of_none e hp⟩, fun b u e _ => by rw [upd_ne (ne_of_none e hp)]; exact e, fun b h => .inl h.1⟩
theorem le_new {o : HO} (hp : H p = none) : Le Fz H (fun b => Fz b ∧ b ≠ p) (upd H p o) := (fr_new hp).le fun _ z => z.elim
theorem Cont.lst (c : Cont G .o Fz H (.lst ds) Q) (r : RFs G Fz H ds xs) (hp : H p = none) : Q (.ref p) (upd H p (.lst xs)) :=
  c (.ref p) _ (fun b => Fz b ∧ b ≠ p) (fun b => b = p) ⟨p, xs, rfl, upd_same, RFs.le (le_new hp) ds r, fun b => Iff.rfl⟩ (fun b e z => z.2 e) (fun b e => by rw [e]; exact hp) (fr_new hp)
theorem Cont.tup (c : Cont G t Fz H (.tup ds) Q) (r : RFs G Fz H ds xs) (hp : H p = none) : Q (.ref p) (upd H p (.tup xs)) := by
  have l : Le Fz H (fun b => Fz b ∨ b = p) (upd H p (.tup xs)) := fun b u h e => ⟨.inl h, by rw [upd_ne (ne_of_none e hp)]; exact e⟩
  have f : Fr Fz H (fun _ => False) (fun b => Fz b ∨ b = p) (upd H p (.tup xs)) :=
    ⟨fun b u h _ _ => .inl h, fun b u e _ => by rw [upd_ne (ne_of_none e hp)]; exact e, fun b h => h.imp id fun e => .inr (by rw [e]; exact hp)⟩
  have rf : RF G (fun b => Fz b ∨ b = p) (upd H p (.tup xs)) (.tup ds) (.ref p) := ⟨p, xs, rfl, .inl ⟨.inr rfl, .inl upd_same⟩, RFs.le l ds r⟩
  exact c _ _ _ (fun _ => False) (.of_any rf fun _ z => by cases z) (fun _ z => z.elim) (fun _ z => z.elim) f
/-! ### what is read -/
theorem rB1 {o : BI} {x : V} (h : rB G o [x] H Q) : ∃ Fz d1 d, RB G Fz H d1 x ∧ F1 o d1 = some d ∧ Cont G (bty o) Fz H d Q := by
  obtain ⟨Fz, ds, d, r, e, c⟩ := h
  match ds, r, e with
  | [], r, e => simp [bop] at e
  | [d1], ⟨v, q, e1, h1, h2⟩, e =>
    cases e1
    exact ⟨Fz, d1, d, h1, e, c⟩
  | d1 :: d2 :: r, ⟨v, q, e1, h1, ⟨v2, q2, e2, _⟩⟩, e => rw [e2] at e1; cases e1
theorem rB2 {o : BI} {x y : V} (h : rB G o [x, y] H Q) : ∃ Fz d1 d2 d, RB G Fz H d1 x ∧ RB G Fz H d2 y ∧ F2 o d1 d2 = some d ∧ Cont G (bty o) Fz H d Q := by
  obtain ⟨Fz, ds, d, r, e, c⟩ := h
  match ds, r, e with
  | [], r, e => simp [bop] at e
  | [d1], ⟨v, q, e1, h1, h2⟩, e => rw [show q = [] from h2] at e1; cases e1
  | [d1, d2], ⟨v, q, e1, h1, ⟨v2, q2, e2, h2, h3⟩⟩, e =>
    rw [e2, show q2 = [] from h3] at e1; cases e1
    exact ⟨Fz, d1, d2, d, h1, h2, e, c⟩
  | d1 :: d2 :: d3 :: r, ⟨v, q, e1, h1, ⟨v2, q2, e2, h2, ⟨v3, q3, e3, _⟩⟩⟩, e => rw [e2, e3] at e1; cases e1
theorem rB3 {o : BI} {x y z : V} (h : rB G o [x, y, z] H Q) : ∃ Fz d1 d2 d3 d, RB G Fz H d1 x ∧ RB G Fz H d2 y ∧ RB G Fz H d3 z ∧ F3 o d1 d2 d3 = some d ∧ Cont G (bty o) Fz H d Q := by
  obtain ⟨Fz, ds, d, r, e, c⟩ := h
  match ds, r, e with
  | [], r, e => simp [bop] at e
  | [d1], ⟨v, q, e1, h1, h2⟩, e => rw [show q = [] from h2] at e1; cases e1
  | [d1, d2], ⟨v, q, e1, h1, ⟨v2, q2, e2, h2, h3⟩⟩, e => rw [e2, show q2 = [] from h3] at e1; cases e1
  | [d1, d2, d3], ⟨v, q, e1, h1, ⟨v2, q2, e2, h2, ⟨v3, q3, e3, h3, h4⟩⟩⟩, e =>
    rw [e2, e3, show q3 = [] from h4] at e1; cases e1
    exact ⟨Fz, d1, d2, d3, d, h1, h2, h3, e, c⟩
  | d1 :: d2 :: d3 :: d4 :: r, ⟨v, q, e1, h1, ⟨v2, q2, e2, h2, ⟨v3, q3, e3, h3, ⟨v4, q4, e4, _⟩⟩⟩⟩, e => rw [e2, e3, e4] at e1; cases e1
/-- a sequence that is read: a list or a tuple -/
theorem RB.seq {ds : List D} : (RB G Fz H (.lst ds) v → ∃ a xs, v = .ref a ∧ H a = some (.lst xs) ∧ RFs G Fz H ds xs) ∧ (RB G Fz H (.fl ds) v → ∃ a xs, v = .ref a ∧ SqL G.K H a xs ∧ RFs G Fz H ds xs) ∧ (RB G Fz H (.tup ds) v → ∃ a xs, v = .ref a ∧ SqT G.K H a xs ∧ RFs G Fz H ds xs) :=
  ⟨fun h => h, fun ⟨a, xs, e, h, r⟩ => ⟨a, xs, e, h.sq, r⟩, fun ⟨a, xs, e, h, r⟩ => ⟨a, xs, e, h.sq, r⟩⟩
end

section
variable {G : Gx} {X : Cx} {f : Value → Value → Sem Value}
/-- two ints -/
theorem or_int2 {o : BI} {g : Int → Int → Option D} {C : Int → Int → Prop} {gv : Int → Int → V} (hF : F2 o = fInt2 g) (ho : OpR X f (rI C gv))
    (hg : ∀ i j d, g i j = some d → C i j ∧ (∀ ds, d ≠ .lst ds) ∧ ∀ (Fz : Addr → Prop) (H : Hp), RF G Fz H d (gv i j)) : OpR X f (fun x y H Q => rB G o [x, y] H Q) := by
  intro pins s σ H x y v u Q I rx ry h
  obtain ⟨Fz, d1, d2, d, r1, r2, e, c⟩ := rB2 h
  rw [hF] at e
  cases d1 <;> simp [fInt2] at e
  cases d2 <;> simp at e
  rename_i i j
  obtain ⟨hc, hn, hr⟩ := hg i j d e
  exact ho pins s σ H x y v u Q I rx ry ⟨i, j, r1, r2, hc, c.val (hr Fz H) hn⟩
theorem or_sub : OpR X (binaryOp .Sub) (fun x y H Q => rB G .sub [x, y] H Q) := by
  refine or_int2 (C := fun _ _ => True) (gv := fun i j => .int (i - j)) rfl ?_ fun i j d e => ?_
  · intro pins s σ H x y v u Q I rx ry h
    obtain ⟨i, j, e1, e2, _, q⟩ := h
    exact op_sub pins s σ H x y v u Q I rx ry ⟨i, j, e1, e2, q⟩
  · cases e
    exact ⟨trivial, (by intro _ z; cases z), fun _ _ => rfl⟩
theorem log2_64 {j : Int} (h0 : 0 < j) (h : j < 18446744073709551616) : j.natAbs.log2 < 9000 := by
  have h1 : j.natAbs < 2 ^ 64 := by omega
  have h2 : j.natAbs ≠ 0 := by omega
  have := (Nat.log2_lt h2).mpr h1
  omega
theorem or_fdiv : OpR X (binaryOp .FloorDiv) (fun x y H Q => rB G .fdiv [x, y] H Q) := by
  refine or_int2 (gv := fun i j => .int (i / j)) rfl op_fdivW fun i j d e => ?_
  split at e
  · rename_i hc
    cases e
    exact ⟨⟨hc.1, log2_64 hc.1 hc.2⟩, (by intro _ z; cases z), fun _ _ => rfl⟩
  · cases e
theorem or_mod : OpR X (binaryOp .Mod) (fun x y H Q => rB G .mod [x, y] H Q) := by
  refine or_int2 (gv := fun i j => .int (i % j)) rfl op_mod fun i j d e => ?_
  split at e
  · rename_i hc
    cases e
    exact ⟨hc, (by intro _ z; cases z), fun _ _ => rfl⟩
  · cases e
theorem small_iff {i : Int} (h : small i = true) : -(2 ^ 64) < i ∧ i < 2 ^ 64 := by
  simp only [small, Bool.and_eq_true, decide_eq_true_eq] at h
  exact ⟨by omega, by omega⟩
theorem or_pow : OpR X (binaryOp .Pow) (fun x y H Q => rB G .pow [x, y] H Q) := by
  refine or_int2 (gv := fun i j => .int (i ^ j.toNat)) rfl op_pow fun i j d e => ?_
  split at e
  · rename_i hc
    cases e
    obtain ⟨h1, h2, h3⟩ := hc
    have := small_iff h3
    exact ⟨⟨h1, by omega, by omega⟩, (by intro _ z; cases z), fun _ _ => rfl⟩
  · cases e
theorem or_cmpI {o : BI} {p : Int → Int → Bool} (hF : F2 o = fInt2 fun i j => some (.bl (p i j))) (ho : OpR X f (rI0 fun i j => .bl (p i j))) : OpR X f (fun x y H Q => rB G o [x, y] H Q) := by
  refine or_int2 (C := fun _ _ => True) (gv := fun i j => .bl (p i j)) hF ?_ fun i j d e => ?_
  · intro pins s σ H x y v u Q I rx ry h
    obtain ⟨i, j, e1, e2, _, q⟩ := h
    exact ho pins s σ H x y v u Q I rx ry ⟨i, j, e1, e2, q⟩
  · cases e
    exact ⟨trivial, (by intro _ z; cases z), fun _ _ => rfl⟩
theorem or_gt : OpR X (compareOp .Gt) (fun x y H Q => rB G .gt [x, y] H Q) := or_cmpI rfl op_gt
theorem or_ge : OpR X (compareOp .GtE) (fun x y H Q => rB G .ge [x, y] H Q) := or_cmpI rfl op_ge
theorem or_le : OpR X (compareOp .LtE) (fun x y H Q => rB G .le [x, y] H Q) := or_cmpI rfl op_le
theorem or_lt (hK : X.K = G.K) (hu : X.A.units < cLine) : OpR X (compareOp .Lt) (fun x y H Q => rB G .lt [x, y] H Q) := by
  intro pins s σ H x y v u Q I rx ry h
  obtain ⟨Fz, d1, d2, d, r1, r2, e, c⟩ := rB2 h
  simp only [F2, Option.map_eq_some_iff] at e
  obtain ⟨b, e, rfl⟩ := e
  cases d1 <;> simp [ltD] at e
  · cases d2 <;> simp at e
    subst e
    exact op_lt pins s σ H x y v u Q I rx ry ⟨_, _, r1, r2, c.old rfl⟩
  · cases d2 <;> simp at e
    rename_i xs ys
    cases ex : toInts xs <;> simp [ex] at e
    cases ey : toInts ys <;> simp [ey] at e
    subst e
    obtain ⟨a1, x1, e1, q1, t1⟩ := RB.seq.2.2 r1
    obtain ⟨a2, x2, e2, q2, t2⟩ := RB.seq.2.2 r2
    have z1 := RFs.toInts t1 ex
    have z2 := RFs.toInts t2 ey
    subst z1 z2
    rename_i l1 l2
    refine op_ltT hu pins s σ H x y v u Q I rx ry ⟨a1, a2, l1, l2, e1, e2, by rw [hK]; exact q1, by rw [hK]; exact q2, ?_⟩
    have el : ∀ a b, HT.lexLt a b = lexLt a b := by
      intro a
      induction a with
      | nil => intro b; cases b <;> rfl
      | cons p r ih =>
        intro b
        cases b with
        | nil => rfl
        | cons q t => simp only [HT.lexLt, lexLt, ih]
    rw [el]
    exact c.old rfl
end

/-! ### == -/
mutual
theorem RF.dp {G : Gx} {Fz : Addr → Prop} {H : Hp} : ∀ (n : Nat) (d : D) (v : V), pl n d = true → RF G Fz H d v → Dp G.K H v (toP d)
  | _, .non, v, _, h => by rw [show v = _ from h]; exact .non
  | _, .bl b, v, _, h => by rw [show v = _ from h]; exact .bl b
  | _, .int i, v, _, h => by rw [show v = _ from h]; exact .int i
  | _, .str x, v, _, h => by rw [show v = _ from h]; exact .str x
  | 0, .tup _, v, p, _ => by simp [pl] at p
  | 0, .lst _, v, p, _ => by simp [pl] at p
  | n + 1, .tup ds, v, p, ⟨a, xs, e, h, r⟩ => by
    subst e
    exact .tup h.sq (RFs.dp n ds xs (by simpa [pl] using p) r)
  | n + 1, .lst ds, v, p, ⟨a, xs, e, h, r⟩ => by
    subst e
    exact .lst (.inl (.inl h.2)) (RFs.dp n ds xs (by simpa [pl] using p) r)
  | _, .unset, v, p, _ => by simp [pl] at p
  | _, .fl _, v, p, _ => by simp [pl] at p
  | _, .dct _, v, p, _ => by simp [pl] at p
  | _, .ins _ _, v, p, _ => by simp [pl] at p
  | _, .exc _, v, p, _ => by simp [pl] at p
theorem RFs.dp {G : Gx} {Fz : Addr → Prop} {H : Hp} : ∀ (n : Nat) (ds : List D) (vs : List V), pls n ds = true → RFs G Fz H ds vs → DpAll G.K H vs (toPs ds)
  | _, [], vs, _, h => by rw [show vs = [] from h]; exact .nil
  | n, d :: ds, vs, p, ⟨v, r, e, h, t⟩ => by
    subst e
    have p' : pl n d = true ∧ pls n ds = true := by simpa [pls] using p
    exact .cons (RF.dp n d v p'.1 h) (RFs.dp n ds r p'.2 t)
end
theorem RB.dp {G : Gx} {Fz : Addr → Prop} {H : Hp} (n : Nat) {d : D} {v : V} (p : pl n d = true) (h : RB G Fz H d v) : Dp G.K H v (toP d) := by
  cases d with
  | lst ds =>
    obtain ⟨a, xs, e, hh, r⟩ := h
    subst e
    cases n with
    | zero => simp [pl] at p
    | succ n => exact .lst (.inl (.inl hh)) (RFs.dp n ds xs (by simpa [pl] using p) r)
  | unset => exact (h : False).elim
  | non => exact RF.dp (Fz := Fz) n _ v p h
  | bl _ => exact RF.dp (Fz := Fz) n _ v p h
  | int _ => exact RF.dp (Fz := Fz) n _ v p h
  | str _ => exact RF.dp (Fz := Fz) n _ v p h
  | tup _ => exact RF.dp (Fz := Fz) n _ v p h
  | fl _ => simp [pl] at p
  | dct _ => exact (h : False).elim
  | ins _ _ => exact (h : False).elim
  | exc _ => simp [pl] at p
mutual
theorem pl_lay : ∀ (n : Nat) (d : D), pl n d = true → (toP d).canLay0 = true ∧ (toP d).depth ≤ n
  | _, .non, _ => ⟨rfl, Nat.zero_le _⟩
  | _, .bl b, _ => ⟨rfl, Nat.zero_le _⟩
  | _, .int i, _ => ⟨rfl, Nat.zero_le _⟩
  | n, .str x, p => ⟨by simpa [pl, toP, PyData.canLay0] using p, Nat.zero_le _⟩
  | 0, .tup _, p => by simp [pl] at p
  | 0, .lst _, p => by simp [pl] at p
  | n + 1, .tup ds, p => by
    obtain ⟨h1, h2⟩ := pls_lay n ds (by simpa [pl] using p)
    exact ⟨by simpa [toP, PyData.canLay0] using h1, by simp only [toP, PyData.depth]; omega⟩
  | n + 1, .lst ds, p => by
    obtain ⟨h1, h2⟩ := pls_lay n ds (by simpa [pl] using p)
    exact ⟨by simpa [toP, PyData.canLay0] using h1, by simp only [toP, PyData.depth]; omega⟩
  | _, .unset, p => by simp [pl] at p
  | _, .fl _, p => by simp [pl] at p
  | _, .dct _, p => by simp [pl] at p
  | _, .ins _ _, p => by simp [pl] at p
  | _, .exc _, p => by simp [pl] at p
theorem pls_lay : ∀ (n : Nat) (ds : List D), pls n ds = true → PyData.canLayAll0 (toPs ds) = true ∧ PyData.depthAll (toPs ds) ≤ n
  | _, [], _ => ⟨rfl, Nat.zero_le _⟩
  | n, d :: ds, p => by
    have p' : pl n d = true ∧ pls n ds = true := by simpa [pls] using p
    obtain ⟨h1, h2⟩ := pl_lay n d p'.1
    obtain ⟨h3, h4⟩ := pls_lay n ds p'.2
    exact ⟨by simp [toPs, PyData.canLayAll0, h1, h3], by simp only [toPs, PyData.depthAll]; omega⟩
end
theorem pl_shaped {d : D} (p : pl 20 d = true) : SeqAt.shaped (toP d) = true := by
  obtain ⟨h1, h2⟩ := pl_lay 20 d p
  unfold SeqAt.shaped
  rw [h1, Bool.true_and, decide_eq_true_eq]
  omega
mutual
theorem eqd_eqv : ∀ (n m : Nat) (d e : D), pl n d = true → pl m e = true → PyData.eqv (toP d) (toP e) = eqd d e
  | n, m, .non, e, p, q => by cases e <;> first | rfl | simp [pl] at q
  | n, m, .bl b, e, p, q => by cases e <;> first | rfl | simp [pl] at q
  | n, m, .int i, e, p, q => by cases e <;> first | rfl | simp [pl] at q
  | n, m, .str x, e, p, q => by cases e <;> first | rfl | simp [pl] at q
  | 0, m, .tup _, e, p, q => by simp [pl] at p
  | 0, m, .lst _, e, p, q => by simp [pl] at p
  | n + 1, m, .tup ds, e, p, q => by
    cases e with
    | tup es =>
      cases m with
      | zero => simp [pl] at q
      | succ m => simpa [toP, PyData.eqv, eqd] using eqds_eqv n m ds es (by simpa [pl] using p) (by simpa [pl] using q)
    | _ => first | rfl | simp [pl] at q
  | n + 1, m, .lst ds, e, p, q => by
    cases e with
    | lst es =>
      cases m with
      | zero => simp [pl] at q
      | succ m => simpa [toP, PyData.eqv, eqd] using eqds_eqv n m ds es (by simpa [pl] using p) (by simpa [pl] using q)
    | _ => first | rfl | simp [pl] at q
  | _, _, .unset, e, p, q => by simp [pl] at p
  | _, _, .fl _, e, p, q => by simp [pl] at p
  | _, _, .dct _, e, p, q => by simp [pl] at p
  | _, _, .ins _ _, e, p, q => by simp [pl] at p
  | _, _, .exc _, e, p, q => by simp [pl] at p
theorem eqds_eqv : ∀ (n m : Nat) (d e : List D), pls n d = true → pls m e = true → PyData.eqvAll (toPs d) (toPs e) = eqds d e
  | _, _, [], [], _, _ => rfl
  | _, _, [], _ :: _, _, _ => rfl
  | _, _, _ :: _, [], _, _ => rfl
  | n, m, d :: ds, e :: es, p, q => by
    have p' : pl n d = true ∧ pls n ds = true := by simpa [pls] using p
    have q' : pl m e = true ∧ pls m es = true := by simpa [pls] using q
    simp only [toPs, PyData.eqvAll, eqds]
    rw [eqd_eqv n m d e p'.1 q'.1, eqds_eqv n m ds es p'.2 q'.2]
end
section
variable {G : Gx} {X : Cx}
theorem eqD_some {d e : D} {b : Bool} (h : eqD d e = some b) : pl 20 d = true ∧ pl 20 e = true ∧ b = eqd d e := by
  unfold eqD at h
  split at h
  · rename_i hc
    simp only [Bool.and_eq_true] at hc
    exact ⟨hc.1, hc.2, (Option.some.inj h).symm⟩
  · cases h
theorem or_eq (hK : X.K = G.K) (hu : X.A.units + 64 < cLine) : OpR X (compareOp .Eq) (fun x y H Q => rB G .eq [x, y] H Q) := by
  intro pins s σ H x y v u Q I rx ry h
  obtain ⟨Fz, d1, d2, d, r1, r2, e, c⟩ := rB2 h
  simp only [F2, Option.map_eq_some_iff] at e
  obtain ⟨b, e, rfl⟩ := e
  obtain ⟨p1, p2, rfl⟩ := eqD_some e
  refine op_eqD hu pins s σ H x y v u Q I rx ry ⟨toP d1, toP d2, by rw [hK]; exact r1.dp 20 p1, by rw [hK]; exact r2.dp 20 p2, pl_shaped p1, pl_shaped p2, ?_⟩
  rw [eqd_eqv 20 20 _ _ p1 p2]
  exact c.old rfl
theorem or_ne (hK : X.K = G.K) (hu : X.A.units + 64 < cLine) : OpR X (compareOp .NotEq) (fun x y H Q => rB G .ne [x, y] H Q) := by
  intro pins s σ H x y v u Q I rx ry h
  obtain ⟨Fz, d1, d2, d, r1, r2, e, c⟩ := rB2 h
  simp only [F2, Option.map_eq_some_iff] at e
  obtain ⟨b, e, rfl⟩ := e
  obtain ⟨p1, p2, rfl⟩ := eqD_some e
  refine op_neD hu pins s σ H x y v u Q I rx ry ⟨toP d1, toP d2, by rw [hK]; exact r1.dp 20 p1, by rw [hK]; exact r2.dp 20 p2, pl_shaped p1, pl_shaped p2, ?_⟩
  rw [eqd_eqv 20 20 _ _ p1 p2]
  exact c.old rfl
end
end Eg

end
section
set_option maxHeartbeats 4000000
namespace Eg
open PySem PySem.Spec PyProof.Rows L2
theorem maxLen_eq : maxLen = sizeLine := by rw [sizeLine_eq]; rfl
section
variable {G : Gx} {X : Cx}
theorem cat_any (hK : X.K = G.K) {pins : List (Addr × Obj)} {s : Shared} {σ : L2.St} {H : Hp} {Q : VK} {Fz : Addr → Prop} {xs ys : List D} {x y : V} {v u : Value} (I : L2.Inv X pins σ H s) (rx : RelV x v) (ry : RelV y u)
    (r1 : RB G Fz H (.tup xs) x) (r2 : RB G Fz H (.tup ys) y) (hz : xs.length + ys.length ≤ sizeLine) {t : Ty} (c : Cont G t Fz H (.tup (xs ++ ys)) Q) : wpAny (model X.prog X.w) X.A (binaryOp .Add v u) (EP X pins σ Q) X.xe s := by
  obtain ⟨a, ls, e1, q1, t1⟩ := r1
  obtain ⟨b, ms, e2, q2, t2⟩ := r2
  have l1 := t1.length
  have l2 := t2.length
  refine op_catA pins s σ H x y v u Q I rx ry ⟨a, b, ls, ms, e1, e2, by rw [hK]; exact q1.sq, by rw [hK]; exact q2.sq, by rw [l1, l2]; exact hz, fun e => ?_, fun e e' => ?_, fun e e' p hp => ?_⟩
  · subst e
    have : xs = [] := List.eq_nil_of_length_eq_zero (by simpa using l1.symm)
    subst this
    exact c.val ⟨b, ms, rfl, q2, t2⟩ (by intro _ z; cases z)
  · subst e'
    have : ys = [] := List.eq_nil_of_length_eq_zero (by simpa using l2.symm)
    subst this
    rw [List.append_nil] at c
    exact c.val ⟨a, ls, rfl, q1, t1⟩ (by intro _ z; cases z)
  · exact c.tup (t1.append t2) hp
theorem or_add (hK : X.K = G.K) : OpR X (binaryOp .Add) (fun x y H Q => rB G .add [x, y] H Q) := by
  intro pins s σ H x y v u Q I rx ry h
  obtain ⟨Fz, d1, d2, d, r1, r2, e, c⟩ := rB2 h
  simp only [F2] at e
  cases d1 <;> simp [fAdd] at e
  · cases d2 <;> simp at e
    subst e
    exact op_add pins s σ H x y v u Q I rx ry ⟨_, _, r1, r2, c.val rfl (by intro _ z; cases z)⟩
  · cases d2 <;> simp at e
    obtain ⟨hz, e⟩ := e
    subst e
    exact op_add_str pins s σ H x y v u Q I rx ry ⟨_, _, r1, r2, by rw [← maxLen_eq]; exact hz, c.val rfl (by intro _ z; cases z)⟩
  · cases d2 <;> simp at e
    obtain ⟨hz, e⟩ := e
    subst e
    exact cat_any hK I rx ry r1 r2 (by rw [← maxLen_eq]; exact hz) c
  · cases d2 <;> simp at e
    obtain ⟨hz, e⟩ := e
    subst e
    obtain ⟨a, ls, e1, q1, t1⟩ := r1
    obtain ⟨b, ms, e2, q2, t2⟩ := r2
    exact op_cat pins s σ H x y v u Q I rx ry ⟨a, b, ls, ms, e1, e2, q1, q2, by rw [t1.length, t2.length, ← maxLen_eq]; exact hz, fun p hp => Cont.lst c (t1.append t2) hp⟩
theorem inLim_iff {i : Int} (h : inLim i = true) : -4611686018427387904 ≤ i ∧ i < 4611686018427387904 := by
  simp only [inLim, lim, Bool.and_eq_true] at h
  exact ⟨of_decide_eq_true h.1, of_decide_eq_true h.2⟩
theorem RFs.flat {Fz : Addr → Prop} {H : Hp} {xs : List D} {vs : List V} (h : RFs G Fz H xs vs) : ∀ n : Nat, RFs G Fz H (List.replicate n xs).flatten (List.replicate n vs).flatten
  | 0 => rfl
  | n + 1 => by
    rw [List.replicate_succ, List.replicate_succ, List.flatten_cons, List.flatten_cons]
    exact h.append (RFs.flat h n)
theorem op_mul_str : OpR X (binaryOp .Mult) (fun x y H Q => ∃ z j, x = .str z ∧ y = .int j ∧ z.length ≤ 16 ∧ 0 ≤ j ∧ j ≤ 1000 ∧ Q (.str (Txt.mul z j)) H) := by
  intro pins s σ H x y v u Q I rx ry h
  obtain ⟨z, j, rfl, rfl, h1, h2, h3, q⟩ := h
  obtain ⟨t, rfl⟩ := rx
  obtain ⟨t', rfl⟩ := ry
  exact SB.mul (PyProof.Rows.mulOk_of 16 1048576 h1 (by omega) (by omega) (by decide) (by decide)) fun t' k => ⟨.str _, H, I.tok _, ⟨_, rfl⟩, q⟩
theorem or_mul (hK : X.K = G.K) : OpR X (binaryOp .Mult) (fun x y H Q => rB G .mul [x, y] H Q) := by
  intro pins s σ H x y v u Q I rx ry h
  obtain ⟨Fz, d1, d2, d, r1, r2, e, c⟩ := rB2 h
  simp only [F2] at e
  cases d1 <;> simp [fMul] at e
  · cases d2 <;> simp at e
    obtain ⟨hz, e⟩ := e
    subst e
    exact op_mul pins s σ H x y v u Q I rx ry ⟨_, _, r1, r2, hz.imp small_iff small_iff, c.val rfl (by intro _ z; cases z)⟩
  · cases d2 <;> simp at e
    obtain ⟨⟨h1, h2, h3⟩, e⟩ := e
    subst e
    exact op_mul_str pins s σ H x y v u Q I rx ry ⟨_, _, r1, r2, h1, h2, h3, c.val rfl (by intro _ z; cases z)⟩
  · cases d2 <;> simp at e
    obtain ⟨⟨h1, h2⟩, e⟩ := e
    subst e
    obtain ⟨a, ls, e1, q1, t1⟩ := r1
    have := inLim_iff h1
    have hz := of_decide_eq_true (show decide _ = true from h2)
    exact op_rep pins s σ H x y v u Q I rx ry ⟨a, _, ls, e1, r2, q1, by omega, by omega, by rw [t1.length, ← maxLen_eq]; exact hz, fun p hp => Cont.lst c (t1.flat _) hp⟩
theorem RF.non {Fz : Addr → Prop} {H : Hp} {d : D} {v : V} {b : Bool} (h : RB G Fz H d v) (e : fIs d .non = some b) : decide (v = .non) = b := by
  cases d <;> simp [fIs] at e <;> subst e
  · rw [show v = _ from h]; rfl
  · rw [show v = _ from h]; rfl
  · rw [show v = _ from h]; rfl
  · rw [show v = _ from h]; rfl
  · obtain ⟨a, xs, e, _⟩ := h; rw [e]; rfl
  · obtain ⟨a, xs, e, _⟩ := h; rw [e]; rfl
  · obtain ⟨a, xs, e, _⟩ := h; rw [e]; rfl
  · exact (h : False).elim
theorem or_is : OpR X (compareOp .Is) (fun x y H Q => rB G .is_ [x, y] H Q) := by
  intro pins s σ H x y v u Q I rx ry h
  obtain ⟨Fz, d1, d2, d, r1, r2, e, c⟩ := rB2 h
  simp only [F2, Option.map_eq_some_iff] at e
  obtain ⟨b, e, rfl⟩ := e
  by_cases h2 : d2 = .non
  · subst h2
    exact op_isN pins s σ H x y v u Q I rx ry ⟨r2, by rw [RF.non r1 e]; exact c.old rfl⟩
  · cases d1 <;> cases d2 <;> simp [fIs] at e h2
    subst e
    exact op_is_bl pins s σ H x y v u Q I rx ry ⟨_, _, r1, r2, c.old rfl⟩
theorem or_isnot : OpR X (compareOp .IsNot) (fun x y H Q => rB G .isnot [x, y] H Q) := by
  intro pins s σ H x y v u Q I rx ry h
  obtain ⟨Fz, d1, d2, d, r1, r2, e, c⟩ := rB2 h
  simp only [F2, Option.map_eq_some_iff] at e
  obtain ⟨b, e, rfl⟩ := e
  by_cases h2 : d2 = .non
  · subst h2
    exact op_notN pins s σ H x y v u Q I rx ry ⟨r2, by rw [RF.non r1 e]; exact c.old rfl⟩
  · cases d1 <;> cases d2 <;> simp [fIs] at e h2
    subst e
    exact op_isnot_bl pins s σ H x y v u Q I rx ry ⟨_, _, r1, r2, c.old rfl⟩
/-- in -/
theorem RF.flat {Fz : Addr → Prop} {H : Hp} {d : D} {v : V} (h : RF G Fz H d v) (f : Eg.flat d = true) : flatV v = true := by
  cases d <;> simp [Eg.flat] at f <;> (rw [show v = _ from h]; rfl)
theorem RF.eqV {Fz : Addr → Prop} {H : Hp} {d e : D} {v u : V} (h : RF G Fz H d v) (f : Eg.flat d = true) (h2 : RF G Fz H e u) (f2 : Eg.flat e = true) : L2.eqV v u = eqd d e := by
  cases d <;> simp [Eg.flat] at f <;> cases e <;> simp [Eg.flat] at f2 <;> (rw [show v = _ from h, show u = _ from h2]; rfl)
theorem RFs.anyV {Fz : Addr → Prop} {H : Hp} {d : D} {v : V} (h : RF G Fz H d v) (f : Eg.flat d = true) : ∀ {ds : List D} {vs : List V}, RFs G Fz H ds vs → ds.all Eg.flat = true → vs.all flatV = true ∧ inV v vs = ds.any fun y => eqd y d
  | [], _, r, _ => by rw [show _ = [] from r]; exact ⟨rfl, rfl⟩
  | e :: ds, _, ⟨u, q, e1, r1, r2⟩, g => by
    subst e1
    have g' : Eg.flat e = true ∧ ds.all Eg.flat = true := by simpa using g
    obtain ⟨h1, h2⟩ := RFs.anyV h f r2 g'.2
    refine ⟨by rw [List.all_cons, RF.flat r1 g'.1, h1]; rfl, ?_⟩
    show (L2.eqV u v || inV v q) = _
    rw [h2, RF.eqV r1 g'.1 h f]
    rfl
theorem eqvs_any {x : D} (p : pl 20 x = true) : ∀ {ys : List D}, pls 19 ys = true → ((toPs ys).any fun z => PyData.eqv z (toP x)) = ys.any fun y => eqd y x
  | [], _ => rfl
  | y :: r, q => by
    have q' : pl 19 y = true ∧ pls 19 r = true := by simpa [pls] using q
    simp only [toPs, List.any_cons]
    rw [eqd_eqv 19 20 y x q'.1 p, eqvs_any p q'.2]
theorem or_in (hK : X.K = G.K) (hu : X.A.units + 65 < cLine) : OpR X (compareOp .In) (fun x y H Q => rB G .in_ [x, y] H Q) := by
  intro pins s σ H x y v u Q I rx ry h
  obtain ⟨Fz, d1, d2, d, r1, r2, e, c⟩ := rB2 h
  simp only [F2, Option.map_eq_some_iff] at e
  obtain ⟨b, e, rfl⟩ := e
  cases d2 <;> simp only [fIn, Option.ite_none_right_eq_some, Bool.and_eq_true, Option.some.injEq, reduceCtorEq] at e
  · obtain ⟨⟨f1, f2⟩, rfl⟩ := e
    obtain ⟨a, ls, e1, q1, t1⟩ := r2
    have r1' : RF G Fz H d1 x := by cases d1 <;> first | exact r1 | simp [Eg.flat] at f1
    obtain ⟨h1, h2⟩ := RFs.anyV r1' f1 t1 f2
    refine op_in_seq pins s σ H x y v u Q I rx ry ⟨a, ls, e1, .inr (by rw [hK]; exact q1.sq), RF.flat r1' f1, h1, ?_⟩
    show Q (.bl (if false = true then !inV x ls else inV x ls)) H
    rw [if_neg (by decide), h2]
    exact c.old rfl
  · obtain ⟨⟨f1, f2⟩, rfl⟩ := e
    have p2 : pl 20 (.lst ‹List D›) = true := by simpa [pl] using f2
    have dp2 := RB.dp 20 p2 r2
    refine op_inD hu pins s σ H x y v u Q I rx ry ⟨toP d1, _, by rw [hK]; exact r1.dp 20 f1, by rw [hK]; exact dp2, pl_shaped f1, pl_shaped p2, ?_⟩
    rw [eqvs_any f1 f2]
    exact c.old rfl
theorem or_notin (hK : X.K = G.K) (hu : X.A.units + 65 < cLine) : OpR X (compareOp .NotIn) (fun x y H Q => rB G .notin [x, y] H Q) := by
  intro pins s σ H x y v u Q I rx ry h
  obtain ⟨Fz, d1, d2, d, r1, r2, e, c⟩ := rB2 h
  simp only [F2, Option.map_eq_some_iff] at e
  obtain ⟨b, e, rfl⟩ := e
  cases d2 <;> simp only [fIn, Option.ite_none_right_eq_some, Bool.and_eq_true, Option.some.injEq, reduceCtorEq] at e
  · obtain ⟨⟨f1, f2⟩, rfl⟩ := e
    obtain ⟨a, ls, e1, q1, t1⟩ := r2
    have r1' : RF G Fz H d1 x := by cases d1 <;> first | exact r1 | simp [Eg.flat] at f1
    obtain ⟨h1, h2⟩ := RFs.anyV r1' f1 t1 f2
    refine op_notIn_seq pins s σ H x y v u Q I rx ry ⟨a, ls, e1, .inr (by rw [hK]; exact q1.sq), RF.flat r1' f1, h1, ?_⟩
    show Q (.bl (if true = true then !inV x ls else inV x ls)) H
    rw [if_pos rfl, h2]
    exact c.old rfl
  · obtain ⟨⟨f1, f2⟩, rfl⟩ := e
    have p2 : pl 20 (.lst ‹List D›) = true := by simpa [pl] using f2
    have dp2 := RB.dp 20 p2 r2
    refine op_notInD hu pins s σ H x y v u Q I rx ry ⟨toP d1, _, by rw [hK]; exact r1.dp 20 f1, by rw [hK]; exact dp2, pl_shaped f1, pl_shaped p2, ?_⟩
    rw [eqvs_any f1 f2]
    exact c.old rfl
theorem ur_neg : UnR X (unaryOp .USub) (fun x H Q => rB G .neg [x] H Q) := by
  intro pins s σ H x v Q I rx h
  obtain ⟨Fz, d1, d, r1, e, c⟩ := rB1 h
  simp only [F1] at e
  cases d1 <;> simp [fInt1] at e
  subst e
  exact un_neg pins s σ H x v Q I rx ⟨_, r1, c.old rfl⟩
/-! ### items, slices -/
theorem atI_rf {Fz : Addr → Prop} {H : Hp} {ds : List D} {vs : List V} {i : Int} {d : D} (r : RFs G Fz H ds vs) (h : atI ds i = some d) : ∃ v, atI vs i = some v ∧ RF G Fz H d v := by
  unfold atI at h ⊢
  rw [r.length]
  cases e : ixN ds.length i with
  | none => rw [e] at h; cases h
  | some j =>
    rw [e] at h
    obtain ⟨v, h1, h2⟩ := r.get h
    exact ⟨v, h1, h2⟩
theorem xr_idx (hK : X.K = G.K) : IxR X (fun x y H Q => rB G .idx [x, y] H Q) := by
  intro value slice pins s σ H x y v u Q I rx ry h hs
  obtain ⟨Fz, d1, d2, d, r1, r2, e, c⟩ := rB2 h
  simp only [F2] at e
  cases d1 <;> simp [fIdx] at e <;> cases d2 <;> simp at e
  · obtain ⟨a, ls, e1, q1, t1⟩ := r1
    obtain ⟨w, h1, h2⟩ := atI_rf t1 e
    exact ix_tup value slice pins s σ H x y v u Q I rx ry ⟨a, ls, _, w, e1, r2, by rw [hK]; exact q1.sq, h1, c.old h2⟩ hs
  · obtain ⟨a, ls, e1, q1, t1⟩ := r1
    obtain ⟨w, h1, h2⟩ := atI_rf t1 e
    exact ix_list value slice pins s σ H x y v u Q I rx ry ⟨a, ls, _, w, e1, r2, .inl (.inl q1), h1, c.old h2⟩ hs
  · obtain ⟨a, ls, e1, q1, t1⟩ := r1
    obtain ⟨w, h1, h2⟩ := atI_rf t1 e
    exact ix_list value slice pins s σ H x y v u Q I rx ry ⟨a, ls, _, w, e1, r2, by rw [hK]; exact q1.sq, h1, c.old h2⟩ hs
def rSl (G : Gx) : V → Option Int → Option Int → Hp → VK → Prop := fun x lo hi H Q => ∃ Fz d1 d, RB G Fz H d1 x ∧ cut2 d1 lo hi = some d ∧ Cont G .o Fz H d Q
theorem RFs.cut {Fz : Addr → Prop} {H : Hp} {ds : List D} {vs : List V} {lo hi : Option Int} (r : RFs G Fz H ds vs) : RFs G Fz H (cutD ds lo hi) (cutV vs lo hi) := by
  unfold cutD cutV
  rw [r.length]
  exact RFs.take _ (RFs.drop _ r)
theorem sr_cut (hK : X.K = G.K) : SlR X (rSl G) := by
  intro pins s σ H x v vl vu lo hi sl Q I rx hs pl pu h
  obtain ⟨Fz, d1, d, r1, e, c⟩ := h
  cases d1 <;> simp [cut2] at e <;> subst e
  · obtain ⟨a, ls, e1, q1, t1⟩ := r1
    refine sl_tupA pins s σ H x v vl vu lo hi sl Q I rx hs pl pu ⟨a, ls, e1, by rw [hK]; exact q1.sq, fun w => ?_, fun w p hp => Cont.tup c t1.cut hp⟩
    have ee : cutD ‹List D› lo hi = ‹List D› := by
      unfold cutD
      rw [← t1.length, w.1, w.2, List.drop_zero, t1.length]
      exact List.take_of_length_le (Nat.le_refl _)
    rw [ee] at c
    exact c.val ⟨a, ls, rfl, q1, t1⟩ (by intro _ z; cases z)
  · obtain ⟨a, ls, e1, q1, t1⟩ := r1
    exact sl_list pins s σ H x v vl vu lo hi sl Q I rx hs pl pu ⟨a, ls, e1, .inl (.inl q1), fun p hp => Cont.lst c t1.cut hp⟩
/-! ### calls of built-ins -/
theorem fSeq_cases {Fz : Addr → Prop} {H : Hp} {f : List D → Option D} {d1 d : D} {v : V} (r : RB G Fz H d1 v) (e : fSeq f d1 = some d) : ∃ ds a xs, f ds = some d ∧ v = .ref a ∧ (SqL G.K H a xs ∨ SqT G.K H a xs) ∧ RFs G Fz H ds xs ∧ (∀ es, d1 = .tup es → es = ds ∧ FzT G.K Fz H a xs) ∧ ((∀ es, d1 ≠ .tup es) → SqL G.K H a xs) := by
  cases d1 <;> simp [fSeq] at e
  · obtain ⟨a, ls, e1, q1, t1⟩ := r
    exact ⟨_, a, ls, e, e1, .inr q1.sq, t1, fun es z => by cases z; exact ⟨rfl, q1⟩, fun z => absurd rfl (z _)⟩
  · obtain ⟨a, ls, e1, q1, t1⟩ := r
    exact ⟨_, a, ls, e, e1, .inl (.inl (.inl q1)), t1, (by intro _ z; cases z), fun _ => .inl (.inl q1)⟩
  · obtain ⟨a, ls, e1, q1, t1⟩ := r
    exact ⟨_, a, ls, e, e1, .inl q1.sq, t1, (by intro _ z; cases z), fun _ => q1.sq⟩
theorem c1 {o : BI} {f : Value} (h : ∀ (pins : List (Addr × Obj)) (s : Shared) (σ : L2.St) (H : Hp) (x : V) (v : Value) (Q : VK), L2.Inv X pins σ H s → RelV x v → rB G o [x] H Q → wpAny (model X.prog X.w) X.A (call f [v]) (EP X pins σ Q) X.xe s) (pins : List (Addr × Obj)) (s : Shared) (σ : L2.St) (H : Hp) (x : V) (us : List Value) (Q : VK) (I : L2.Inv X pins σ H s) (r : Vals [x] us) (q : rB G o [x] H Q) :
    wpAny (model X.prog X.w) X.A (call f us) (EP X pins σ Q) X.xe s := by
  cases r with
  | cons r t =>
    cases t
    exact h pins s σ H x _ Q I r q
end
end Eg

end
section
set_option maxHeartbeats 4000000
/-! ### any() while an exception is handled -/
namespace HotX
open PySem PySem.Spec PyProof.Rows
section
variable {prog : Program} {w : World} {A : Around} {E : Value → Shared → Prop} {s : Shared}
theorem pyNext_list_end_hot {it l x1 : Addr} {i : Nat} {items : Array Value} {Q : Option Value → Shared → Prop} (hot : HotAt A x1 s.heap) (hne : x1 ≠ it) (hit : s.heap.IsListIter it l i) (hl : s.heap.IsList l items) (hx : items[i]? = none)
    (hQ : ∀ h', Heap.ExtBut it s.heap h' → Q none { s with heap := h' }) : wpAny (model prog w) A (pyNext (.ref it)) Q E s := by
  obtain ⟨o, ho, hc, hd⟩ := id hit
  obtain ⟨ol, hol, _, nl, hdl⟩ := hl
  obtain ⟨hh, o1, vs1, h1, d1, c1⟩ := hot
  unfold pyNext
  refine wpAny_bind (wpAny_attempt (wpAny_callSpecial?_slot (name := Str.ofString "__next__") hit.typeIs slot_listiter_next
    (wpAny_call_entry slot_listiter_next hit.typeIs entry_listiter_next ?_ (args_listiter_next _))))
  show wpAny _ _ (field (.ref it) 0 >>= _) _ _ s
  refine wpAny_bind (wpAny_field ho hd (x := .ref l) rfl ?_)
  show wpAny _ _ (if (Value.ref l == Value.none) = true then _ else _) _ _ s
  rw [if_neg (show ¬ ((Value.ref l == Value.none) = true) from Bool.false_ne_true)]
  show wpAny _ _ (field (.ref it) 1 >>= _) _ _ s
  refine wpAny_bind (wpAny_field ho hd (x := .int i 0) rfl ?_)
  show wpAny _ _ (seqItems? (.ref l) >>= _) _ _ s
  refine wpAny_bind (wpAny_seqItems hol hdl ?_)
  simp only [Int.toNat_natCast, hx]
  refine wpAny_bind (wpAny_rule (wpAny_bind (wpAny_setField ho hd (by simp) ?_)))
  show wpAny _ _ (newExc (.type "StopIteration") [] >>= _) _ _ _
  refine wpAny_bind ?_
  simp only [newExc, newTuple]
  refine wpAny_bind (wpAny_newObj_type ?_ (by size_fits))
  refine wpAny_bind (m := firstArgMember _ _) (wpAny_of_eq (a := Value.none) (by first | rfl | (simp only [firstArgMember]; rfl)) ?_)
  refine wpAny_newObj_type ?_ (by size_fits)
  have h1' : (s.heap.update it (Obj.mapFields fun x => x.setIfInBounds 0 Value.none)).get? x1 = some o1 := by
    rw [Heap.get?_update_other _ _ (Ne.symm hne)]
    exact h1
  refine raiseNew_hot ⟨hh, o1, vs1, Heap.get?_push_of_some _ (Heap.get?_push_of_some _ h1'), d1, c1⟩ (Nat.ne_of_lt (Heap.lt_size (Heap.get?_push_of_some _ h1'))) (Heap.get?_push_size _ rfl) rfl (by first | (simp; done) | (simp; omega) | (simp only [Array.size_append]; simp; omega)) ?_
  refine wpAny_bind (wpAny_isInstance (T := "StopIteration") (b := true) ⟨_, Heap.get?_update_self _ (Heap.get?_push_size _ rfl) rfl, rfl⟩ isSubtype_stop ?_)
  refine wpAny_pure (hQ _ fun b o hb e => ?_)
  have e' : (s.heap.update it (Obj.mapFields fun x => x.setIfInBounds 0 Value.none)).get? b = some o := by
    rw [Heap.get?_update_other _ _ (Ne.symm hb)]
    exact e
  rw [Heap.get?_update_other _ _ (Nat.ne_of_gt (Heap.lt_size (Heap.get?_push_of_some _ e')))]
  exact Heap.get?_push_of_some _ (Heap.get?_push_of_some _ e')
end
theorem Walks_listHot {prog : Program} {w : World} {A : Around} {x1 : Addr} {o1 : Obj} (hh : A.handled = some (.ref x1)) (hz : ∃ vs : Array Value, o1.data = .fields vs ∧ vs[2]? = some .none) (I ax : Addr) (hne : ax ≠ I) (hx : x1 ≠ I) (items : Array Value) :
    Walks prog w A I [I, ax, x1] [I] items.size (fun i v => items[i]? = some v) (fun i h => h.IsListIter I ax i ∧ h.IsList ax items ∧ h.get? x1 = some o1) where
  sub := fun b hb => by simp at hb; simp [hb]
  frame := fun _ _ _ st hk => ⟨st.1.at fun o e => hk I (by simp) o e, st.2.1.at fun o e => hk ax (by simp) o e, hk x1 (by simp) _ st.2.2⟩
  item := fun i s Q E hi st hQ => by
    refine wpAny_pyNext_list_item st.1 st.2.1 (x := items[i]) (by simp [hi]) fun h' hit' hs' => ?_
    exact hQ _ h' s.toks (by simp [hi]) ⟨hit', st.2.1.extBut hs'.extBut hne, hs'.extBut x1 _ hx st.2.2⟩ fun b o hb e => hs'.extBut b o (fun h => hb (by simp [h])) e
  done := fun s Q E st hQ => by
    obtain ⟨vs, d1, c1⟩ := hz
    exact pyNext_list_end_hot ⟨hh, o1, vs, st.2.2, d1, c1⟩ hx st.1 st.2.1 (by simp) fun h' he' => hQ h' s.toks fun b o hb e => he' b o (fun h => hb (by simp [h])) e
  self := fun _ _ _ _ st hQ => wpAny_pyIter_listiter st.1 hQ
end HotX
namespace L2
open PySem PySem.Spec PyProof.Rows
theorem cr_anyH {X : Cx} (hc : L2H.HotC X) : CallR X (.builtin "any") (rAny X.K) := by
  intro pins s σ H vs us Q I r h
  obtain ⟨a, bs, rfl, hs, q⟩ := h
  obtain ⟨its, rv, hl, _⟩ := I.list hs
  rw [Vals.ref1 r]
  have hb := rv.bls
  obtain ⟨p, ⟨hh, v1, e1, c1⟩, hp⟩ := hc
  have hg := (I.pin p (List.mem_append_left _ hp)).1
  refine call_any_walk (iter_any hl.isList fun s₂ e2 st hne => ?_)
  subst e2
  have hg2 : (s.heap.push { cls := .type "list_iterator", data := .fields #[.ref a, .int 0 0] }).get? p.1 = some p.2 := Heap.get?_push_of_some _ hg
  refine ⟨_, _, _, _, _, _, _, rfl, HotX.Walks_listHot (A := X.A.in1) (x1 := p.1) (o1 := p.2) hh ⟨v1, e1, c1⟩ _ a hne (Nat.ne_of_lt (Heap.lt_size hg)) its.toArray, ⟨st.1, st.2, hg2⟩, truth_bools hb, fun h' tk hk => ?_⟩
  refine ⟨.bl _, H, I.kept fun b o eo => hk b o (fun hmem => ?_) (Heap.get?_push_of_some _ eo), ?_, q⟩
  · rcases List.mem_cons.mp hmem with e1 | hmem
    · exact absurd (e1 ▸ Heap.lt_size eo) (Nat.lt_irrefl _)
    · cases hmem
  · show Value.bool _ = Value.bool _
    rw [← any_range, hb, List.size_toArray, List.length_map]
end L2
namespace L2
open PySem PySem.Spec PyProof.Rows
/-- isinstance(e, c), e an exception that the context's states bear -/
theorem call_isE' {X : Cx} {a D : Addr} {oe : Obj} (hm : (a, oe) ∈ X.pn) (C : ExcC X.K D) (hz : Zc (.ref D) none oe) (hf : ∃ vs, oe.data = .fields vs) : CallR X (.builtin "isinstance") (rIsE X.K D a) := by
  intro pins s σ H xs us Q I r h
  obtain ⟨c, cv, b, rfl, hcv, e, q⟩ := h
  cases r with
  | cons rx rr =>
    cases rr with
    | cons rt rr =>
      cases rr
      cases rx
      have ec := hcv _ rt
      subst ec
      obtain ⟨hget, _⟩ := I.pin (a, oe) (List.mem_append.mpr (.inl hm))
      obtain ⟨vs, hv⟩ := hf
      have J : PySem.W.InstAt s.heap a oe D none := by
        obtain ⟨oc, od, oda, osl⟩ := oe
        obtain ⟨h1, h2⟩ := hz
        dsimp only at h1 h2 hv
        subst h1 h2 hv
        exact ⟨hget, rfl, rfl, trivial⟩
      exact PySem.W.kia_one (PySem.W.handS_kitx_exc C.hg C.hk C.hs C.hd C.ha C.hn C.ht C.hm) I.kIn J e (fun z => nomatch z) fun tk => ⟨.bl b, H, I.kept (t' := tk) fun _ _ z => z, rfl, q⟩
end L2

end
section
set_option maxHeartbeats 4000000
/-! ### enumerate(tuple), tuple.index of flat items -/
namespace HotX
open PySem PySem.Spec PyProof.Rows
theorem meets_enum1 {v : Value} {o : Obj} {H : Heap → Prop} (B : Begins v o H) :
    Meets (Builtin.«enumerate.__new__» ⟨[.type "enumerate", v], []⟩) (fun _ R s => H s.heap ∧
      R (.ok (.ret (.ref (s.heap.push o).objs.size))) { s with heap := (s.heap.push o).push { cls := .type "enumerate", data := .fields #[.none, .bool false, .ref s.heap.objs.size, rawInt 0, .none, .none] } }) :=
  .of_wp fun prog w A R s h => by
    obtain ⟨hp, g, d, tk, os⟩ := s; obtain ⟨h1, h⟩ := h
    have hsub := sub_enumerate
    have q1 : ∀ {A' : Around} {E : Value → Shared → Prop} {Q : Value → Shared → Prop}, Q (.ref hp.objs.size) ⟨hp.push o, g, d, tk, os⟩ → wpAny (model prog w) A' (pyIter v) Q E ⟨hp, g, d, tk, os⟩ :=
      fun q => B.iter prog w _ _ ⟨hp, g, d, tk, os⟩ _ h1 q
    wp_walk using q1
    refine wpAny_stack_any fun st => wpAny_pure ?_
    split
    · rename_i c _ _ _ _ _
      cases (c == Value.type "enumerate")
      · wp_walk using q1
        exact ⟨_, rfl, h⟩
      · wp_walk using q1
        exact ⟨_, rfl, h⟩
    · wp_walk using q1
      exact ⟨_, rfl, h⟩
section
variable {prog : Program} {w : World} {A : Around} {E : Value → Shared → Prop} {s : Shared}
theorem call_enum1 {v : Value} {o : Obj} {H : Heap → Prop} {Q : Value → Shared → Prop} (B : Begins v o H) (h1 : H s.heap)
    (h : ∀ h', IsEnum h' (s.heap.objs.size + 1) s.heap.objs.size 0 .none → h'.get? s.heap.objs.size = some o → h'.objs.size = s.heap.objs.size + 2 →
      (∀ b o, s.heap.get? b = some o → h'.get? b = some o) → Q (.ref (s.heap.objs.size + 1)) { s with heap := h' }) :
    wpAny (model prog w) A (call (.type "enumerate") [v]) Q E s := by
  refine callType_new F.called_enumerate (by decide) (F.typeCall_enumerate_1 _) (F.newCall_enumerate_1 _) (fun obj => F.args_object_init_2 obj _) F.entry_enumerate_new
    (meets_enum1 B) ⟨h1, ?_⟩
  have hz : (s.heap.push o).objs.size = s.heap.objs.size + 1 := Heap.size_push ..
  show _ ∧ _
  rw [hz]
  have he : IsEnum ((s.heap.push o).push { cls := .type "enumerate", data := .fields #[.none, .bool false, .ref s.heap.objs.size, rawInt 0, .none, .none] }) (s.heap.objs.size + 1) s.heap.objs.size 0 .none := by
    have := Heap.get?_push_size (s.heap.push o) (o := { cls := .type "enumerate", data := .fields #[.none, .bool false, .ref s.heap.objs.size, rawInt 0, .none, .none] }) rfl
    rw [hz] at this; exact this
  refine ⟨⟨_, he, rfl⟩, h _ he (Heap.get?_push_of_some _ (Heap.get?_push_size _ B.free)) (by rw [Heap.size_push, hz]) fun b o x => Heap.get?_push_of_some _ (Heap.get?_push_of_some _ x)⟩
theorem enum_end_tup {e it t : Addr} {i : Nat} {k : Int} {items : Array Value} {old : Value} {Q : Option Value → Shared → Prop} (hh : A.handled = none) (he : IsEnum s.heap e it k old) (hit : s.heap.IsTupleIter it t i) (ht : s.heap.IsTuple t items) (hx : items[i]? = none)
    (hQ : ∀ h', Heap.ExtBut it s.heap h' → Q none { s with heap := h' }) : wpAny (model prog w) A (pyNext (.ref e)) Q E s := by
  have hT : s.TypeIs (.ref e) "enumerate" := ⟨_, he, rfl⟩
  unfold pyNext
  refine wpAny_bind (wpAny_attempt (wpAny_callSpecial?_slot (name := Str.ofString "__next__") hT F.slot_enumerate_next
    (wpAny_call_entry F.slot_enumerate_next hT F.entry_enumerate_next ?_ (F.args_enumerate_next_1 _))))
  show wpAny _ _ (field (.ref e) 2 >>= _) _ _ _
  refine wpAny_bind (wpAny_field he rfl (x := .ref it) rfl ?_)
  refine wpAny_bind (wpAny_nextOf_tuple_end (A := A.in1) hh hit ht hx fun h' x he' hx' => ?_)
  obtain ⟨o, ho, hc⟩ := hx'
  refine wpAny_bind (wpAny_isInstance (T := "StopIteration") (b := true) ⟨o, ho, hc⟩ isSubtype_stop ?_)
  exact wpAny_pure (hQ _ he')
end
end HotX
namespace L2
open PySem PySem.Spec PyProof.Rows
/-- the tuple at a as it stands at each turn, each item in a new pair -/
def IteT (K : PySem.W.Frag) (a : Addr) : It :=
  ⟨fun i H => ∃ (xs : List V) (x : V), SqT K H a xs ∧ xs[i]? = some x, fun i H v H' => ∃ T x, v = .ref T ∧ H T = none ∧ H' = upd H T (.tup [.int (i : Nat), x]) ∧ ∀ xs, SqT K H a xs → xs[i]? = some x, fun i H => ∃ xs : List V, SqT K H a xs ∧ xs.length ≤ i⟩
theorem turn_enumT {P : Program} {w : World} {K : PySem.W.Frag} {elts : List Expr} {kk : Nat} {tpos : Pos} (a e it : Addr) :
    Turn P w K (.Tuple elts kk tpos) (IteT K a) [e, it] e (fun i h => (∃ old, IsEnum h e it ((i : Nat) : Int) old) ∧ h.IsTupleIter it a i ∧ e ≠ it ∧ a ≠ it ∧ a ≠ e) where
  mem := by simp
  obj := fun i h st b hb => by
    obtain ⟨⟨old, he⟩, ⟨o, ho, hc, hd⟩, _⟩ := st
    have e' : b = e ∨ b = it := by simpa using hb
    rcases e' with z | z
    · rw [z]; exact ⟨_, he, fun v q => nomatch q⟩
    · rw [z]; exact ⟨o, ho, fun v q => by rw [hd] at q; cases q⟩
  keep := fun i h h' st k => let ⟨⟨old, he⟩, hi, hne⟩ := st; ⟨⟨old, k e (by simp) _ he⟩, hi.at fun o q => k it (by simp) o q, hne⟩
  item := by
    intro X hP hw hK hc i pins s σ H E I hf st hg
    subst hP hw hK
    obtain ⟨⟨old, he⟩, hit, hne, hai, hae⟩ := st
    obtain ⟨xs, x, hq, hx⟩ := hg
    obtain ⟨its, rv, p, hz⟩ := I.tuple hq
    obtain ⟨u, hu, ru⟩ := rv.get hx
    have hel : e < s.heap.objs.size := Heap.lt_size he
    have hil : it < s.heap.objs.size := by obtain ⟨_, q, _⟩ := hit; exact Heap.lt_size q
    have hl := rv.length
    have hlt : i < its.toArray.size := by have := (List.getElem?_eq_some_iff.mp hu).1; simpa using this
    refine wpAny_pyNext_enum_itemD (Draws.tuple (A := X.A.in1) (I.ok.hd hc) it a hai its.toArray) he ⟨hit, p⟩ hlt hne (fun hm => by rcases List.mem_cons.mp hm with z | z; exact hne z; exact hae (List.mem_singleton.mp z).symm) fun u' h' tk hP ho hst' hT hsz hk => ?_
    have eu : u' = u := by
      have : its.toArray[i]? = some u := by simpa using hu
      rw [hP] at this
      exact Option.some.inj this
    subst eu
    obtain ⟨hit', p'⟩ := hst'
    refine ⟨_, rfl, wpAny_letOwnedTupleGo_enum (s := { s with heap := h', toks := tk + 1 }) ho fun h'' he' sb => ?_⟩
    have hT2 : h''.get? s.heap.objs.size = some { cls := .type "tuple", data := .seq #[.int i tk, u'] } := (sb.2 _ (Nat.ne_of_gt hel)).trans hT
    have new : ObjOk X.prog X.w (upd H s.heap.objs.size (.tup [.int (i : Nat), x])) h'' s.heap.objs.size (.tup [.int (i : Nat), x]) :=
      ⟨by show 2 ≤ sizeLine; decide, [.int i tk, u'], .cons ⟨_, rfl⟩ (.cons ru .nil), ⟨_, hT2, rfl, _, rfl⟩⟩
    have I1 : Inv X pins σ (upd H s.heap.objs.size (.tup [.int (i : Nat), x])) { s with heap := h'', toks := tk + 1 } :=
      I.turnedNew (ch := [e, it]) (fun b ob hb q => (sb.2 b (fun z => hb (by simp [z]))).trans (hk b ob (fun z => hb (by simp [z])) (fun z => hb (by simp [z])) q)) hf (Nat.le_refl _) new
    refine ⟨.ref s.heap.objs.size, _, I1, rfl, ⟨_, x, rfl, I.hok.fresh (Nat.le_refl _), rfl, fun ys hy => by rw [I.tuple_inj hy hq]; exact hx⟩, ⟨⟨u', ?_⟩, hit'.at fun o q => (sb.2 it (Ne.symm hne)).trans q, hne, hai, hae⟩, fun b hb => ?_⟩
    · have e1 : ((i + 1 : Nat) : Int) = (i : Int) + 1 := by omega
      rw [e1]; exact he'
    · have hb' : b < s.heap.objs.size := by
        have e' : b = e ∨ b = it := by simpa using hb
        rcases e' with z | z
        · rw [z]; exact hel
        · rw [z]; exact hil
      rw [upd_ne (Nat.ne_of_lt hb')]
      exact (hf b hb).1
  done := by
    intro X hP hw hK hc i pins s σ H E I hf st hg
    subst hP hw hK
    obtain ⟨⟨old, he⟩, hit, hne, hai, hae⟩ := st
    obtain ⟨xs, hq, hx⟩ := hg
    obtain ⟨its, rv, p, hz⟩ := I.tuple hq
    obtain ⟨f0, f1, f2, f3, f4, f5⟩ := hf it (by simp)
    have hl := rv.length
    exact HotX.enum_end_tup (I.ok.hd hc) he hit p (by simp; omega) fun h' eb => ⟨rfl, I.turned (t' := s.toks) (fun b o hb q => eb b o hb q) f0 f1 f3 f4 f5⟩
  self := fun A i s Q E st h => let ⟨⟨_, he⟩, _⟩ := st; wpAny_pyIter_enum he h
def iEnumT (K : PySem.W.Frag) (ta : TA) : TI := fun σ H R => ta σ H fun vs H1 => ∃ a xs, vs = [.ref a] ∧ SqT K H1 a xs ∧ R (IteT K a) H1
theorem pi_enumT {X : Cx} {e : Expr} {ta : TA} {p pos tpos : Pos} {elts : List Expr} {kk : Nat} (hg : Gl X "enumerate") (hm : X.mg "enumerate" = none) (ha : PA X [e] ta) (hs : starEach [e] X.env = [(false, eval e X.env)] := by rfl) :
    PI X (.Tuple elts kk tpos) (.Call (.Name "enumerate" p) [e] [] pos) (iEnumT X.K ta) := by
  refine ⟨fun pins s σ H R I h => ?_⟩
  refine Call_ (ld_blt I hg hm boot_enumerate (PyProof.Rows.callWith_type1 (thn (ha.run pos pins s σ H _ I h) fun us s1 ⟨vs, H1, I1, r1, q1⟩ => ?_) hs rfl))
  obtain ⟨a, xs, ex, hq, q⟩ := q1
  subst ex
  cases r1 with
  | cons r rr =>
    cases rr
    cases r
    obtain ⟨its, rv, p', hz⟩ := I1.tuple hq
    refine HotX.call_enum1 (begins_tuple a its.toArray) p' fun h' he hit hsz hk => wpAny_pyIter_enum he ?_
    have I2 : Inv X pins σ H1 { s1 with heap := h' } := I1.kept (t' := s1.toks) hk
    have hal : a < s1.heap.objs.size := by obtain ⟨_, y, _⟩ := p'; exact Heap.lt_size y
    refine ⟨s1.heap.objs.size + 1, [s1.heap.objs.size + 1, s1.heap.objs.size], _, _, H1, rfl, I2, turn_enumT a (s1.heap.objs.size + 1) s1.heap.objs.size, ⟨⟨.none, he⟩, ⟨_, hit, rfl, rfl⟩, Nat.succ_ne_self _, Nat.ne_of_lt hal, Nat.ne_of_lt (Nat.lt_succ_of_lt hal)⟩, fun b hb => ?_, q⟩
    have e' : b = s1.heap.objs.size + 1 ∨ b = s1.heap.objs.size := by simpa using hb
    have hle : s1.heap.objs.size ≤ b := by
      rcases e' with z | z
      · rw [z]; exact Nat.le_add_right _ _
      · rw [z]; exact Nat.le_refl _
    exact I1.fpOk hle (I1.hok.fresh hle)
section
variable {K : PySem.W.Frag} {a : Addr} {xs : List V}
theorem walk_enumT : Walk (IteT K a) xs.length (fun H => SqT K H a xs) (YPair (fun i => some (.int (i : Nat))) (fun i => xs[i]?)) := by
  refine ⟨fun i _ hi q => ⟨xs, xs[i], q, by simp [hi]⟩, fun _ q => ⟨xs, q, Nat.le_refl _⟩, fun i H v H' _ q y => ?_⟩
  obtain ⟨T, x, h1, h2, h3, h4⟩ := y
  exact ⟨T, .int (i : Nat), x, h1, h2, h3, rfl, h4 xs q⟩
end
def rIndexT (K : PySem.W.Frag) : V → List V → Hp → VK → Prop := fun x xs H Q => ∃ (a : Addr) (ys : List V) (y : V) (j : Nat) (z : V), x = V.ref a ∧ xs = [y] ∧ SqT K H a ys ∧ flatV y = true ∧ ys.all flatV = true ∧ ys[j]? = some z ∧ eqV z y = true ∧
  (∀ (m : Nat) (z' : V), m < j → ys[m]? = some z' → eqV z' y = false) ∧ Q (.int (j : Nat)) H
theorem mt_indexT {X : Cx} : MtR X "tuple.index" (rIndexT X.K) := by
  intro pins s σ H x xs v us Q I rx rxs h
  obtain ⟨a, ys, y, j, z, rfl, rfl, hs, fy, fys, hz, hzj, hno, q⟩ := h
  cases rx
  cases rxs with
  | cons ry rt =>
    rename_i uy ut
    cases rt
    obtain ⟨its, rv, ⟨⟨cls, dd, data, sl⟩, ho, hc, n, hd⟩, hlen⟩ := I.tuple hs
    simp only at hc hd
    subst hc hd
    obtain ⟨u, hu, ru⟩ := rv.get hz
    obtain ⟨hjl, hje⟩ := List.getElem?_eq_some_iff.mp hu
    have hvl := rv.length
    have hj : j < its.toArray.size := by simpa using hjl
    refine call_meets PySem.F.slot_tuple_index ⟨_, ho, rfl⟩ PySem.F.entry_tuple_index (PySem.F.args_tuple_index_2 _ _)
      (TI.tuple_indexAt a its.toArray n dd sl uy (eqU y) j hj ?_ ?_) ⟨ho, fun u' hu' => mem_eqAt ry fy rv fys u' (by simpa using hu'), ?_⟩
    · have e1 : its.toArray[j] = u := by simpa using hje
      rw [e1, eqU_of ru (flat_at fys hz)]
      exact hzj
    · intro m hm hmj
      have hml : m < its.length := by simpa using hm
      have hmy : m < ys.length := by omega
      have hy' : ys[m]? = some ys[m] := List.getElem?_eq_getElem hmy
      obtain ⟨u2, hu2, ru2⟩ := rv.get hy'
      obtain ⟨_, hme⟩ := List.getElem?_eq_some_iff.mp hu2
      have e1 : its.toArray[m] = u2 := by simpa using hme
      rw [e1, eqU_of ru2 (flat_at fys hy')]
      exact hno m _ hmj hy'
    · exact ⟨.int (j : Nat), H, I.tok _, ⟨_, rfl⟩, q⟩
end L2

end
section
set_option maxHeartbeats 4000000
/-! ### enumerate(zip(..)) of two lists: the zip's tuple stays out -/
namespace HotX
open PySem PySem.Spec PyProof.Rows
/-- a zip, whatever it knows of the tuple that it gave out -/
abbrev IsZipF (h : Heap) (z TI TO : Addr) (f0 : Value) (f1 : Bool) : Prop :=
  h.get? z = some { cls := .type "zip", dict := none, data := .fields #[f0, .bool f1, .bool false, .ref TI, .ref TO], slots := #[] }
def ZipAny (h : Heap) (z TI TO : Addr) : Prop := IsZipF h z TI TO .none false ∨ ∃ (T : Addr) (f : Bool), IsZipF h z TI TO (rawInt T) f
theorem ZipAny.at {h h' : Heap} {z TI TO : Addr} (a : ZipAny h z TI TO) (k : ∀ o, h.get? z = some o → h'.get? z = some o) : ZipAny h' z TI TO := a.imp (fun x => k _ x) fun ⟨T, f, x⟩ => ⟨T, f, k _ x⟩
theorem ZipAny.is {h : Heap} {z TI TO : Addr} (a : ZipAny h z TI TO) : ∃ vs, h.get? z = some { cls := .type "zip", dict := none, data := .fields vs, slots := #[] } := by
  rcases a with a | ⟨T, f, a⟩
  · exact ⟨_, a⟩
  · exact ⟨_, a⟩
section
variable {prog : Program} {w : World} {A : Around} {E : Value → Shared → Prop} {s : Shared}
theorem dead_free {z TI TO T : Addr} {f : Bool} {Q : Bool → Shared → Prop} (hz : IsZipF s.heap z TI TO (rawInt T) f) (hd : s.heap.get? T = none) (h : Q true s) : wpAny (model prog w) A (Builtin.SmallTypes.ownedTupleIsFree (.ref z)) Q E s := by
  unfold Builtin.SmallTypes.ownedTupleIsFree
  refine wpAny_bind (wpAny_field hz rfl (x := rawInt T) rfl ?_)
  show wpAny _ _ (loadIfAlive ((T : Int).toNat) >>= _) _ _ _
  rw [Int.toNat_natCast]
  have al : ∀ {Q' : Option Obj → Shared → Prop}, Q' none s → wpAny (model prog w) A (loadIfAlive T) Q' E s := fun {Q'} q => by
    have q' : Q' (s.heap.get? T) s := by rw [hd]; exact q
    exact fun _ _ _ => q'
  refine wpAny_bind (al ?_)
  exact wpAny_pure h
/-- a zip's step, its own tuple free -/
theorem zipF_item {z TI TO i1 i2 l1 l2 : Addr} {f0 : Value} {f1 : Bool} {k1 k2 : Nat} {xs ys : Array Value} {x y a b : Value} {Q : Value → Shared → Prop} (D : ZipApart z TI TO i1 i2 l1 l2)
    (hz : IsZipF s.heap z TI TO f0 f1) (hfree : ∀ {Q' : Bool → Shared → Prop} {E' : Value → Shared → Prop}, Q' true s → wpAny (model prog w) A (Builtin.SmallTypes.ownedTupleIsFree (.ref z)) Q' E' s) (hTI : IsPair s.heap TI (.ref i1) (.ref i2)) (hTO : IsPair s.heap TO a b)
    (h1 : s.heap.IsListIter i1 l1 k1) (h2 : s.heap.IsListIter i2 l2 k2) (hl1 : s.heap.IsList l1 xs) (hl2 : s.heap.IsList l2 ys) (hx : xs[k1]? = some x) (hy : ys[k2]? = some y)
    (hQ : ∀ h', IsZipF h' z TI TO (rawInt s.heap.objs.size) false → IsPair h' TO x y → h'.IsListIter i1 l1 (k1 + 1) → h'.IsListIter i2 l2 (k2 + 1) → IsPair h' s.heap.objs.size x y → h'.objs.size = s.heap.objs.size + 1 →
      (∀ c o, c ≠ z → c ≠ TO → c ≠ i1 → c ≠ i2 → s.heap.get? c = some o → h'.get? c = some o) → Q (.ref s.heap.objs.size) { s with heap := h' }) :
    wpAny (model prog w) A (Builtin.«zip.__next__» ⟨[.ref z], []⟩) (fun fin s' => ∃ v, fin = .done (.ret v) ∧ Q v s') E s := by
  show wpAny _ _ (field (.ref z) 2 >>= _) _ _ _
  refine wpAny_bind (wpAny_field hz rfl (x := .bool false) rfl ?_)
  show wpAny _ _ (field (.ref z) 3 >>= _) _ _ _
  refine wpAny_bind (wpAny_field hz rfl (x := .ref TI) rfl ?_)
  refine wpAny_bind (wpAny_seqItems hTI rfl ?_)
  show wpAny _ _ (Builtin.SmallTypes.ownedTupleIsFree (.ref z) >>= _) _ _ _
  refine wpAny_bind (hfree ?_)
  simp only [if_true]
  refine wpAny_bind (wpAny_rule ?_)
  refine wpAny_bind (wpAny_field hz rfl (x := .ref TO) rfl ?_)
  refine wpAny_bind (wpAny_setField_rec hz (by simp) fun h₁ hz₁ hs₁ => ?_)
  replace hz₁ : IsZipF h₁ z TI TO .ellipsis f1 := hz₁
  refine wpAny_bind ?_
  simp only [List.zipIdx_cons, List.zipIdx_nil, List.forIn_cons, List.forIn_nil]
  refine wpAny_bind (wpAny_bind (wpAny_onRaise ?_))
  show wpAny _ _ (Builtin.SmallTypes.nextOf (.ref i1) >>= _) _ _ _
  refine wpAny_bind (wpAny_nextOf_list_item (h1.extBut hs₁.extBut D.i1z) (hl1.extBut hs₁.extBut D.l1z) hx fun h₂ h1₂ hs₂ => wpAny_pure ?_)
  have hTO₂ : IsPair h₂ TO a b := hs₂.extBut _ _ D.TOi1 (hs₁.extBut _ _ D.TOz hTO)
  refine wpAny_bind (wpAny_seqItems hTO₂ rfl ?_)
  refine wpAny_bind (wpAny_updateSeq_pair hTO₂ fun h₃ hTO₃ hs₃ => ?_)
  replace hTO₃ : IsPair h₃ TO x b := hTO₃
  refine wpAny_bind (wpAny_letGo (wpAny_pure ?_))
  refine wpAny_bind (wpAny_bind (wpAny_onRaise ?_))
  show wpAny _ _ (Builtin.SmallTypes.nextOf (.ref i2) >>= _) _ _ _
  refine wpAny_bind (wpAny_nextOf_list_item (((h2.extBut hs₁.extBut D.i2z).extBut hs₂.extBut D.i12.symm).extBut hs₃.extBut D.TOi2.symm)
    (((hl2.extBut hs₁.extBut D.l2z).extBut hs₂.extBut D.l2i1).extBut hs₃.extBut D.l2TO) hy fun h₄ h2₄ hs₄ => wpAny_pure ?_)
  have hTO₄ : IsPair h₄ TO x b := hs₄.extBut _ _ D.TOi2 hTO₃
  refine wpAny_bind (wpAny_seqItems hTO₄ rfl ?_)
  refine wpAny_bind (wpAny_updateSeq_pair hTO₄ fun h₅ hTO₅ hs₅ => ?_)
  replace hTO₅ : IsPair h₅ TO x y := hTO₅
  refine wpAny_bind (wpAny_letGo (wpAny_pure (wpAny_pure ?_)))
  refine wpAny_bind (wpAny_seqItems hTO₅ rfl ?_)
  refine wpAny_bind (wpAny_newTuple ?_)
  have hsz : h₅.objs.size = s.heap.objs.size := by rw [hs₅.1, hs₄.1, hs₃.1, hs₂.1, hs₁.1]
  have hz₅ : IsZipF h₅ z TI TO .ellipsis f1 := hs₅.extBut _ _ D.TOz.symm (hs₄.extBut _ _ D.i2z.symm (hs₃.extBut _ _ D.TOz.symm (hs₂.extBut _ _ D.i1z.symm hz₁)))
  have hk₅ : ∀ c o, c ≠ z → c ≠ TO → c ≠ i1 → c ≠ i2 → s.heap.get? c = some o → h₅.get? c = some o := fun c o c1 c2 c3 c4 e =>
    hs₅.extBut _ _ c2 (hs₄.extBut _ _ c4 (hs₃.extBut _ _ c2 (hs₂.extBut _ _ c3 (hs₁.extBut _ _ c1 e))))
  have h1₅ : h₅.IsListIter i1 l1 (k1 + 1) := ((h1₂.extBut hs₃.extBut D.TOi1.symm).extBut hs₄.extBut D.i12).extBut hs₅.extBut D.TOi1.symm
  have h2₅ : h₅.IsListIter i2 l2 (k2 + 1) := h2₄.extBut hs₅.extBut D.TOi2.symm
  have hzlt : z < h₅.objs.size := Heap.lt_size hz₅
  show wpAny _ _ (Builtin.SmallTypes.ownedTupleHandOut (.ref z) (.ref h₅.objs.size) >>= _) _ _ _
  refine wpAny_bind ?_
  unfold Builtin.SmallTypes.ownedTupleHandOut
  have hz₆ : IsZipF (h₅.push { cls := .type "tuple", data := .seq #[x, y] }) z TI TO .ellipsis f1 := Heap.get?_push_of_some _ hz₅
  refine wpAny_bind (wpAny_setField_rec hz₆ (by simp) fun h₇ hz₇ hs₇ => ?_)
  replace hz₇ : IsZipF h₇ z TI TO (rawInt h₅.objs.size) f1 := hz₇
  refine wpAny_setField_rec hz₇ (by simp) fun h₈ hz₈ hs₈ => ?_
  replace hz₈ : IsZipF h₈ z TI TO (rawInt h₅.objs.size) false := hz₈
  have up : ∀ c o, c ≠ z → h₅.get? c = some o → h₈.get? c = some o := fun c o c1 e => hs₈.extBut _ _ c1 (hs₇.extBut _ _ c1 (Heap.get?_push_of_some _ e))
  have hT₈ : IsPair h₈ h₅.objs.size x y := hs₈.extBut _ _ (Nat.ne_of_gt hzlt) (hs₇.extBut _ _ (Nat.ne_of_gt hzlt) (Heap.get?_push_size _ rfl))
  have hz8 : h₈.objs.size = h₅.objs.size + 1 := by rw [hs₈.1, hs₇.1, Heap.size_push]
  rw [hsz] at hz₈ hT₈ hz8
  refine wpAny_pure ⟨_, rfl, ?_⟩
  show Q (.ref h₅.objs.size) _
  rw [hsz]
  exact hQ h₈ hz₈ (up _ _ D.TOz hTO₅) (h1₅.at fun o e => up _ o D.i1z e) (h2₅.at fun o e => up _ o D.i2z e) hT₈ hz8 fun c o c1 c2 c3 c4 e => up c o c1 (hk₅ c o c1 c2 c3 c4 e)
/-- its end, its own tuple free -/
theorem zipF_end {z TI TO i1 i2 l1 l2 : Addr} {f0 : Value} {f1 : Bool} {k1 k2 : Nat} {xs ys : Array Value} {a b : Value} {Q : Fin → Shared → Prop} (hh : A.handled = none) (D : ZipApart z TI TO i1 i2 l1 l2)
    (hz : IsZipF s.heap z TI TO f0 f1) (hfree : ∀ {Q' : Bool → Shared → Prop} {E' : Value → Shared → Prop}, Q' true s → wpAny (model prog w) A (Builtin.SmallTypes.ownedTupleIsFree (.ref z)) Q' E' s) (hTI : IsPair s.heap TI (.ref i1) (.ref i2)) (hTO : IsPair s.heap TO a b)
    (h1 : s.heap.IsListIter i1 l1 k1) (h2 : s.heap.IsListIter i2 l2 k2) (hl1 : s.heap.IsList l1 xs) (hl2 : s.heap.IsList l2 ys) (hend : xs[k1]? = none ∨ ys[k2]? = none)
    (hE : ∀ h' e, (∀ c o, c ≠ z → c ≠ TO → c ≠ i1 → c ≠ i2 → s.heap.get? c = some o → h'.get? c = some o) → (∃ o, h'.get? e = some o ∧ o.cls = .type "StopIteration") → E (.ref e) { s with heap := h' }) :
    wpAny (model prog w) A (Builtin.«zip.__next__» ⟨[.ref z], []⟩) Q E s := by
  show wpAny _ _ (field (.ref z) 2 >>= _) _ _ _
  refine wpAny_bind (wpAny_field hz rfl (x := .bool false) rfl ?_)
  show wpAny _ _ (field (.ref z) 3 >>= _) _ _ _
  refine wpAny_bind (wpAny_field hz rfl (x := .ref TI) rfl ?_)
  refine wpAny_bind (wpAny_seqItems hTI rfl ?_)
  show wpAny _ _ (Builtin.SmallTypes.ownedTupleIsFree (.ref z) >>= _) _ _ _
  refine wpAny_bind (hfree ?_)
  simp only [if_true]
  refine wpAny_bind (wpAny_rule ?_)
  refine wpAny_bind (wpAny_field hz rfl (x := .ref TO) rfl ?_)
  refine wpAny_bind (wpAny_setField_rec hz (by simp) fun h₁ hz₁ hs₁ => ?_)
  replace hz₁ : IsZipF h₁ z TI TO .ellipsis f1 := hz₁
  refine wpAny_bind ?_
  simp only [List.zipIdx_cons, List.zipIdx_nil, List.forIn_cons, List.forIn_nil]
  refine wpAny_bind (wpAny_bind (wpAny_onRaise ?_))
  show wpAny _ _ (Builtin.SmallTypes.nextOf (.ref i1) >>= _) _ _ _
  cases hx : xs[k1]? with
  | none =>
    refine wpAny_bind (wpAny_nextOf_list_end hh (h1.extBut hs₁.extBut D.i1z) (hl1.extBut hs₁.extBut D.l1z) hx fun h₂ e hs₂ he => ?_)
    obtain ⟨oe, hoe, hce⟩ := he
    have hz₂ : IsZipF h₂ z TI TO .ellipsis f1 := hs₂ _ _ D.i1z.symm hz₁
    have hez : e ≠ z := fun x => by subst x; rw [hz₂] at hoe; cases hoe; simp at hce
    refine wpAny_setField_rec hz₂ (by simp) fun h₃ _ hs₃ => hE h₃ e (fun c o c1 _ c3 _ x => hs₃.extBut _ _ c1 (hs₂ _ _ c3 (hs₁.extBut _ _ c1 x))) ⟨oe, hs₃.extBut _ _ hez hoe, hce⟩
  | some x =>
    have hy : ys[k2]? = none := by rcases hend with h | h; rw [hx] at h; cases h; exact h
    refine wpAny_bind (wpAny_nextOf_list_item (h1.extBut hs₁.extBut D.i1z) (hl1.extBut hs₁.extBut D.l1z) hx fun h₂ h1₂ hs₂ => wpAny_pure ?_)
    have hTO₂ : IsPair h₂ TO a b := hs₂.extBut _ _ D.TOi1 (hs₁.extBut _ _ D.TOz hTO)
    refine wpAny_bind (wpAny_seqItems hTO₂ rfl ?_)
    refine wpAny_bind (wpAny_updateSeq_pair hTO₂ fun h₃ hTO₃ hs₃ => ?_)
    refine wpAny_bind (wpAny_letGo (wpAny_pure ?_))
    refine wpAny_bind (wpAny_bind (wpAny_onRaise ?_))
    show wpAny _ _ (Builtin.SmallTypes.nextOf (.ref i2) >>= _) _ _ _
    refine wpAny_bind (wpAny_nextOf_list_end hh (((h2.extBut hs₁.extBut D.i2z).extBut hs₂.extBut D.i12.symm).extBut hs₃.extBut D.TOi2.symm)
      (((hl2.extBut hs₁.extBut D.l2z).extBut hs₂.extBut D.l2i1).extBut hs₃.extBut D.l2TO) hy fun h₄ e hs₄ he => ?_)
    obtain ⟨oe, hoe, hce⟩ := he
    have hz₄ : IsZipF h₄ z TI TO .ellipsis f1 := hs₄ _ _ D.i2z.symm (hs₃.extBut _ _ D.TOz.symm (hs₂.extBut _ _ D.i1z.symm hz₁))
    have hez : e ≠ z := fun x => by subst x; rw [hz₄] at hoe; cases hoe; simp at hce
    refine wpAny_setField_rec hz₄ (by simp) fun h₅ _ hs₅ => hE h₅ e (fun c o c1 c2 c3 c4 x => hs₅.extBut _ _ c1 (hs₄ _ _ c4 (hs₃.extBut _ _ c2 (hs₂.extBut _ _ c3 (hs₁.extBut _ _ c1 x))))) ⟨oe, hs₅.extBut _ _ hez hoe, hce⟩
theorem nextOf_zip_item {z TI TO i1 i2 l1 l2 : Addr} {k1 k2 : Nat} {xs ys : Array Value} {x y a b : Value} {Q : Value → Shared → Prop} (D : ZipApart z TI TO i1 i2 l1 l2)
    (hz : ZipAny s.heap z TI TO) (hTI : IsPair s.heap TI (.ref i1) (.ref i2)) (hTO : IsPair s.heap TO a b)
    (h1 : s.heap.IsListIter i1 l1 k1) (h2 : s.heap.IsListIter i2 l2 k2) (hl1 : s.heap.IsList l1 xs) (hl2 : s.heap.IsList l2 ys) (hx : xs[k1]? = some x) (hy : ys[k2]? = some y)
    (hQ : ∀ h', ZipAny h' z TI TO → (∃ a b, IsPair h' TO a b) → h'.IsListIter i1 l1 (k1 + 1) → h'.IsListIter i2 l2 (k2 + 1) → IsPair h' s.heap.objs.size x y → h'.objs.size = s.heap.objs.size + 1 →
      (∀ c o, c ≠ z → c ≠ TO → c ≠ i1 → c ≠ i2 → s.heap.get? c = some o → h'.get? c = some o) → Q (.ref s.heap.objs.size) { s with heap := h' }) :
    wpAny (model prog w) A (Builtin.SmallTypes.nextOf (.ref z)) Q E s := by
  obtain ⟨vs, hv⟩ := hz.is
  have hT : s.TypeIs (.ref z) "zip" := ⟨_, hv, rfl⟩
  unfold Builtin.SmallTypes.nextOf
  refine wpAny_bind (wpAny_callSpecial?_slot (name := Str.ofString "__next__") hT F.slot_zip_next (wpAny_call_entry F.slot_zip_next hT F.entry_zip_next ?_ (F.args_zip_next_1 _)))
  rcases hz with hz | ⟨T, f, hz⟩
  · exact zip_next_item D hz hTI hTO h1 h2 hl1 hl2 hx hy fun h' a1 a2 a3 a4 a5 a6 a7 => wpAny_pure (hQ h' (.inr ⟨_, _, a1⟩) ⟨_, _, a2⟩ a3 a4 a5 a6 a7)
  · cases hd : s.heap.get? T with
    | some oT =>
      exact zip_next_item_held D hz hd hTI h1 h2 hl1 hl2 hx hy fun h' a1 a3 a4 a5 a6 a7 => wpAny_pure (hQ h' (.inr ⟨_, _, a1⟩) ⟨_, _, a7 _ _ D.TOz D.TOi1 D.TOi2 hTO⟩ a3 a4 a5 a6 fun c o c1 _ c3 c4 e => a7 c o c1 c3 c4 e)
    | none =>
      exact zipF_item D hz (fun q => dead_free hz hd q) hTI hTO h1 h2 hl1 hl2 hx hy fun h' a1 a2 a3 a4 a5 a6 a7 => wpAny_pure (hQ h' (.inr ⟨_, _, a1⟩) ⟨_, _, a2⟩ a3 a4 a5 a6 a7)
theorem nextOf_zip_end {z TI TO i1 i2 l1 l2 : Addr} {k1 k2 : Nat} {xs ys : Array Value} {a b : Value} {Q : Value → Shared → Prop} (hh : A.handled = none) (D : ZipApart z TI TO i1 i2 l1 l2)
    (hz : ZipAny s.heap z TI TO) (hTI : IsPair s.heap TI (.ref i1) (.ref i2)) (hTO : IsPair s.heap TO a b)
    (h1 : s.heap.IsListIter i1 l1 k1) (h2 : s.heap.IsListIter i2 l2 k2) (hl1 : s.heap.IsList l1 xs) (hl2 : s.heap.IsList l2 ys) (hend : xs[k1]? = none ∨ ys[k2]? = none)
    (hE : ∀ h' e, (∀ c o, c ≠ z → c ≠ TO → c ≠ i1 → c ≠ i2 → s.heap.get? c = some o → h'.get? c = some o) → (∃ o, h'.get? e = some o ∧ o.cls = .type "StopIteration") → E (.ref e) { s with heap := h' }) :
    wpAny (model prog w) A (Builtin.SmallTypes.nextOf (.ref z)) Q E s := by
  obtain ⟨vs, hv⟩ := hz.is
  have hT : s.TypeIs (.ref z) "zip" := ⟨_, hv, rfl⟩
  unfold Builtin.SmallTypes.nextOf
  refine wpAny_bind (wpAny_callSpecial?_slot (name := Str.ofString "__next__") hT F.slot_zip_next (wpAny_call_entry F.slot_zip_next hT F.entry_zip_next ?_ (F.args_zip_next_1 _)))
  rcases hz with hz | ⟨T, f, hz⟩
  · exact zip_next_end hh D hz hTI hTO h1 h2 hl1 hl2 hend hE
  · cases hd : s.heap.get? T with
    | some oT => exact zip_next_end_held hh D hz hd hTI h1 h2 hl1 hl2 hend fun h' e k he => hE h' e (fun c o c1 _ c3 c4 x => k c o c1 c3 c4 x) he
    | none => exact zipF_end hh D hz (fun q => dead_free hz hd q) hTI hTO h1 h2 hl1 hl2 hend hE
/-- enumerate's step behind any step of what it walks -/
theorem enumX_item {e it : Addr} {i : Nat} {old : Value} {N Q : Value → Shared → Prop} (he : IsEnum s.heap e it i old)
    (hn : ∀ {Q' : Value → Shared → Prop} {E' : Value → Shared → Prop}, (∀ x s₁, N x s₁ → Q' x s₁) → wpAny (model prog w) A (Builtin.SmallTypes.nextOf (.ref it)) Q' E' s)
    (hQ : ∀ x s₁, N x s₁ → IsEnum s₁.heap e it i old ∧ ∀ h', IsEnumOut h' e it ((i : Int) + 1) x s₁.heap.objs.size →
      h'.get? s₁.heap.objs.size = some { cls := .type "tuple", data := .seq #[.int i s₁.toks, x] } → h'.objs.size = s₁.heap.objs.size + 1 →
      (∀ b o, b ≠ e → s₁.heap.get? b = some o → h'.get? b = some o) → Q (.ref s₁.heap.objs.size) { s₁ with heap := h', toks := s₁.toks + 1 }) :
    wpAny (model prog w) A (Builtin.«enumerate.__next__» ⟨[.ref e], []⟩) (fun fin s' => ∃ v, fin = .done (.ret v) ∧ Q v s') E s := by
  show wpAny _ _ (field (.ref e) 2 >>= _) _ _ _
  refine wpAny_bind (wpAny_field he rfl (x := .ref it) rfl ?_)
  refine wpAny_bind (hn fun x s₁ n => ?_)
  obtain ⟨he₁, hQ⟩ := hQ x s₁ n
  clear hn he n
  obtain ⟨hp, g, d, tk, os⟩ := s₁
  replace he₁ : IsEnum hp e it i old := he₁
  show wpAny _ _ (field (.ref e) 3 >>= _) _ _ ⟨hp, g, d, tk, os⟩
  refine wpAny_bind (wpAny_field he₁ rfl (x := rawInt i) rfl ?_)
  show wpAny _ _ (field (.ref e) 4 >>= _) _ _ ⟨hp, g, d, tk, os⟩
  refine wpAny_bind (wpAny_field he₁ rfl (x := .none) rfl ?_)
  show wpAny _ _ (mkInt i >>= _) _ _ ⟨hp, g, d, tk, os⟩
  refine wpAny_bind (wpAny_mkInt ?_)
  show wpAny _ _ (setField (.ref e) 3 (rawInt ((i : Int) + 1)) >>= _) _ _ ⟨hp, g, d, tk + 1, os⟩
  refine wpAny_bind (wpAny_setField_rec he₁ (by simp) fun h₂ he₂ hs₂ => ?_)
  replace hs₂ : Heap.SameBut e hp h₂ := hs₂
  replace he₂ : IsEnum h₂ e it ((i : Int) + 1) old := he₂
  show wpAny _ _ (setField (.ref e) 4 .none >>= _) _ _ ⟨h₂, g, d, tk + 1, os⟩
  refine wpAny_bind (wpAny_setField_rec he₂ (by simp) fun h₃ he₃ hs₃ => ?_)
  replace hs₃ : Heap.SameBut e h₂ h₃ := hs₃
  replace he₃ : IsEnum h₃ e it ((i : Int) + 1) old := he₃
  show wpAny _ _ (newTuple [.int i tk, x] >>= _) _ _ ⟨h₃, g, d, tk + 1, os⟩
  refine wpAny_bind (wpAny_newTuple ?_)
  have he₄ : IsEnum (h₃.push { cls := .type "tuple", data := .seq #[.int i tk, x] }) e it ((i : Int) + 1) old := Heap.get?_push_of_some _ he₃
  have hsz : h₃.objs.size = hp.objs.size := by rw [hs₃.1, hs₂.1]
  have hel : e < hp.objs.size := Heap.lt_size he₁
  have ht₄ : (h₃.push { cls := .type "tuple", data := .seq #[.int i tk, x] }).get? hp.objs.size = some { cls := .type "tuple", data := .seq #[.int i tk, x] } := by rw [← hsz]; exact Heap.get?_push_size _ rfl
  have hz₄ : (h₃.push { cls := .type "tuple", data := .seq #[.int i tk, x] }).objs.size = hp.objs.size + 1 := by rw [Heap.size_push, hsz]
  have hk₄ : ∀ b o, b ≠ e → hp.get? b = some o → (h₃.push { cls := .type "tuple", data := .seq #[.int i tk, x] }).get? b = some o := fun b o hbe hb =>
    Heap.get?_push_of_some _ (hs₃.extBut b o hbe (hs₂.extBut b o hbe hb))
  generalize h₃.push { cls := .type "tuple", data := .seq #[.int i tk, x] } = h₄ at he₄ ht₄ hz₄ hk₄
  show wpAny _ _ (Builtin.SmallTypes.ownedTupleIsFree (.ref e) >>= _) _ _ ⟨h₄, g, d, tk + 1, os⟩
  rw [hsz]
  clear he₃ hs₃ he₂ hs₂ hsz h₃ h₂
  refine wpAny_bind ?_
  unfold Builtin.SmallTypes.ownedTupleIsFree
  refine wpAny_bind (wpAny_field he₄ rfl (x := .none) rfl (wpAny_pure ?_))
  simp only [if_true]
  refine wpAny_bind (wpAny_rule ?_)
  refine wpAny_bind (wpAny_field he₄ rfl (x := old) rfl ?_)
  refine wpAny_bind (wpAny_setField_rec he₄ (by simp) fun h₅ he₅ hs₅ => ?_)
  replace hs₅ : Heap.SameBut e h₄ h₅ := hs₅
  replace he₅ : IsEnum h₅ e it ((i : Int) + 1) x := he₅
  show wpAny _ _ (Builtin.SmallTypes.ownedTupleHandOut (.ref e) (.ref hp.objs.size) >>= _) _ _ ⟨h₅, g, d, tk + 1, os⟩
  refine wpAny_bind ?_
  unfold Builtin.SmallTypes.ownedTupleHandOut
  refine wpAny_bind (wpAny_setField_rec he₅ (by simp) fun h₆ he₆ hs₆ => ?_)
  replace hs₆ : Heap.SameBut e h₅ h₆ := hs₆
  replace he₆ : IsEnumOut h₆ e it ((i : Int) + 1) x hp.objs.size := he₆
  refine wpAny_setField_rec he₆ (by simp) fun h₇ he₇ hs₇ => ?_
  replace hs₇ : Heap.SameBut e h₆ h₇ := hs₇
  replace he₇ : IsEnumOut h₇ e it ((i : Int) + 1) x hp.objs.size := he₇
  refine wpAny_bind (wpAny_letGo (wpAny_pure ⟨_, rfl, hQ h₇ he₇ ?_ ?_ ?_⟩))
  · exact hs₇.extBut _ _ (Nat.ne_of_gt hel) (hs₆.extBut _ _ (Nat.ne_of_gt hel) (hs₅.extBut _ _ (Nat.ne_of_gt hel) ht₄))
  · rw [hs₇.1, hs₆.1, hs₅.1, hz₄]
  · exact fun b o hbe hb => hs₇.extBut b o hbe (hs₆.extBut b o hbe (hs₅.extBut b o hbe (hk₄ b o hbe hb)))
end
/-- the cells of an enumerate over a zip lie apart -/
structure EzApart (e z TI TO i1 i2 l1 l2 : Addr) : Prop where
  D : ZipApart z TI TO i1 i2 l1 l2
  ez : e ≠ z
  eTI : e ≠ TI
  eTO : e ≠ TO
  ei1 : e ≠ i1
  ei2 : e ≠ i2
section
variable {prog : Program} {w : World} {A : Around} {E : Value → Shared → Prop} {s : Shared}
theorem pyNext_ez_item {e z TI TO i1 i2 l1 l2 : Addr} {i k1 k2 : Nat} {old : Value} {xs ys : Array Value} {x y a b : Value} {Q : Option Value → Shared → Prop} (D : EzApart e z TI TO i1 i2 l1 l2) (he : IsEnum s.heap e z i old)
    (hz : ZipAny s.heap z TI TO) (hTI : IsPair s.heap TI (.ref i1) (.ref i2)) (hTO : IsPair s.heap TO a b)
    (h1 : s.heap.IsListIter i1 l1 k1) (h2 : s.heap.IsListIter i2 l2 k2) (hl1 : s.heap.IsList l1 xs) (hl2 : s.heap.IsList l2 ys) (hx : xs[k1]? = some x) (hy : ys[k2]? = some y)
    (hQ : ∀ h₁ h', ZipAny h₁ z TI TO → (∃ a b, IsPair h₁ TO a b) → h₁.IsListIter i1 l1 (k1 + 1) → h₁.IsListIter i2 l2 (k2 + 1) → IsPair h₁ s.heap.objs.size x y → h₁.objs.size = s.heap.objs.size + 1 →
      (∀ c o, c ≠ z → c ≠ TO → c ≠ i1 → c ≠ i2 → s.heap.get? c = some o → h₁.get? c = some o) →
      IsEnumOut h' e z ((i : Int) + 1) (.ref s.heap.objs.size) (s.heap.objs.size + 1) → h'.get? (s.heap.objs.size + 1) = some { cls := .type "tuple", data := .seq #[.int i s.toks, .ref s.heap.objs.size] } →
      h'.objs.size = s.heap.objs.size + 2 → (∀ b o, b ≠ e → h₁.get? b = some o → h'.get? b = some o) → Q (some (.ref (s.heap.objs.size + 1))) { s with heap := h', toks := s.toks + 1 }) :
    wpAny (model prog w) A (pyNext (.ref e)) Q E s := by
  have hT : s.TypeIs (.ref e) "enumerate" := ⟨_, he, rfl⟩
  unfold pyNext
  refine wpAny_bind (wpAny_attempt (wpAny_callSpecial?_slot (name := Str.ofString "__next__") hT F.slot_enumerate_next
    (wpAny_call_entry F.slot_enumerate_next hT F.entry_enumerate_next ?_ (F.args_enumerate_next_1 _))))
  refine enumX_item (N := fun v s₁ => ∃ h₁, v = .ref s.heap.objs.size ∧ s₁ = { s with heap := h₁ } ∧ ZipAny h₁ z TI TO ∧ (∃ a b, IsPair h₁ TO a b) ∧ h₁.IsListIter i1 l1 (k1 + 1) ∧ h₁.IsListIter i2 l2 (k2 + 1) ∧ IsPair h₁ s.heap.objs.size x y ∧ h₁.objs.size = s.heap.objs.size + 1 ∧
      (∀ c o, c ≠ z → c ≠ TO → c ≠ i1 → c ≠ i2 → s.heap.get? c = some o → h₁.get? c = some o)) he (fun q => nextOf_zip_item D.D hz hTI hTO h1 h2 hl1 hl2 hx hy fun h₁ a1 a2 a3 a4 a5 a6 a7 => q _ _ ⟨h₁, rfl, rfl, a1, a2, a3, a4, a5, a6, a7⟩) ?_
  rintro v s₁ ⟨h₁, rfl, rfl, a1, a2, a3, a4, a5, a6, a7⟩
  refine ⟨a7 _ _ D.ez D.eTO D.ei1 D.ei2 he, fun h' b1 b2 b3 b4 => ?_⟩
  simp only [a6] at b1 b2 b3 ⊢
  exact wpAny_pure (hQ h₁ h' a1 a2 a3 a4 a5 a6 a7 b1 b2 b3 b4)
theorem pyNext_ez_end {e z TI TO i1 i2 l1 l2 : Addr} {i k1 k2 : Nat} {old : Value} {xs ys : Array Value} {a b : Value} {Q : Option Value → Shared → Prop} (hh : A.handled = none) (D : EzApart e z TI TO i1 i2 l1 l2) (he : IsEnum s.heap e z i old)
    (hz : ZipAny s.heap z TI TO) (hTI : IsPair s.heap TI (.ref i1) (.ref i2)) (hTO : IsPair s.heap TO a b)
    (h1 : s.heap.IsListIter i1 l1 k1) (h2 : s.heap.IsListIter i2 l2 k2) (hl1 : s.heap.IsList l1 xs) (hl2 : s.heap.IsList l2 ys) (hend : xs[k1]? = none ∨ ys[k2]? = none)
    (hQ : ∀ h', (∀ c o, c ≠ z → c ≠ TO → c ≠ i1 → c ≠ i2 → s.heap.get? c = some o → h'.get? c = some o) → Q none { s with heap := h' }) :
    wpAny (model prog w) A (pyNext (.ref e)) Q E s := by
  have hT : s.TypeIs (.ref e) "enumerate" := ⟨_, he, rfl⟩
  unfold pyNext
  refine wpAny_bind (wpAny_attempt (wpAny_callSpecial?_slot (name := Str.ofString "__next__") hT F.slot_enumerate_next
    (wpAny_call_entry F.slot_enumerate_next hT F.entry_enumerate_next ?_ (F.args_enumerate_next_1 _))))
  show wpAny _ _ (field (.ref e) 2 >>= _) _ _ _
  refine wpAny_bind (wpAny_field he rfl (x := .ref z) rfl ?_)
  refine wpAny_bind (nextOf_zip_end hh D.D hz hTI hTO h1 h2 hl1 hl2 hend fun h' x k hx' => ?_)
  obtain ⟨o, ho, hc⟩ := hx'
  refine wpAny_bind (wpAny_isInstance (T := "StopIteration") (b := true) ⟨o, ho, hc⟩ isSubtype_stop ?_)
  exact wpAny_pure (hQ _ k)
end
end HotX
namespace HotX
open PySem PySem.Spec PyProof.Rows
/-- enumerate of a zip begins -/
theorem meets_enumZ {z TI TO : Addr} :
    Meets (Builtin.«enumerate.__new__» ⟨[.type "enumerate", .ref z], []⟩) (fun _ R s => IsZip s.heap z TI TO .none ∧
      R (.ok (.ret (.ref s.heap.objs.size))) { s with heap := s.heap.push { cls := .type "enumerate", data := .fields #[.none, .bool false, .ref z, rawInt 0, .none, .none] } }) :=
  .of_wp fun prog w A R s h => by
    obtain ⟨hp, g, d, tk, os⟩ := s; obtain ⟨h1, h⟩ := h
    have hsub := sub_enumerate
    have q1 : ∀ {A' : Around} {E : Value → Shared → Prop} {Q : Value → Shared → Prop}, Q (.ref z) ⟨hp, g, d, tk, os⟩ → wpAny (model prog w) A' (pyIter (.ref z)) Q E ⟨hp, g, d, tk, os⟩ :=
      fun q => wpAny_pyIter_zip h1 q
    wp_walk using q1
    refine wpAny_stack_any fun st => wpAny_pure ?_
    split
    · rename_i c _ _ _ _ _
      cases (c == Value.type "enumerate")
      · wp_walk using q1
        exact ⟨_, rfl, h⟩
      · wp_walk using q1
        exact ⟨_, rfl, h⟩
    · wp_walk using q1
      exact ⟨_, rfl, h⟩
section
variable {prog : Program} {w : World} {A : Around} {E : Value → Shared → Prop} {s : Shared}
theorem call_enumZ {z TI TO : Addr} {Q : Value → Shared → Prop} (h1 : IsZip s.heap z TI TO .none)
    (h : ∀ h', IsEnum h' s.heap.objs.size z 0 .none → h'.objs.size = s.heap.objs.size + 1 →
      (∀ b o, s.heap.get? b = some o → h'.get? b = some o) → Q (.ref s.heap.objs.size) { s with heap := h' }) :
    wpAny (model prog w) A (call (.type "enumerate") [.ref z]) Q E s := by
  refine callType_new F.called_enumerate (by decide) (F.typeCall_enumerate_1 _) (F.newCall_enumerate_1 _) (fun obj => F.args_object_init_2 obj _) F.entry_enumerate_new
    meets_enumZ ⟨h1, ?_⟩
  have he : IsEnum (s.heap.push { cls := .type "enumerate", data := .fields #[.none, .bool false, .ref z, rawInt 0, .none, .none] }) s.heap.objs.size z 0 .none := Heap.get?_push_size _ rfl
  refine ⟨⟨_, he, rfl⟩, h _ he (Heap.size_push ..) fun b o x => Heap.get?_push_of_some _ x⟩
end
end HotX
namespace L2
open PySem PySem.Spec PyProof.Rows HotX
/-- the lists at a and b as they stand at each turn, the items in a new pair within a new pair -/
def Iez (K : PySem.W.Frag) (a b : Addr) : It :=
  ⟨fun i H => ∃ (xs ys : List V) (x y : V), SqL K H a xs ∧ SqL K H b ys ∧ xs[i]? = some x ∧ ys[i]? = some y,
    fun i H v H' => ∃ T P x y, v = .ref P ∧ H T = none ∧ H P = none ∧ P ≠ T ∧ H' = upd (upd H T (.tup [x, y])) P (.tup [.int (i : Nat), .ref T]) ∧ (∀ xs, SqL K H a xs → xs[i]? = some x) ∧ ∀ ys, SqL K H b ys → ys[i]? = some y,
    fun i H => ∃ xs ys : List V, SqL K H a xs ∧ SqL K H b ys ∧ (xs.length ≤ i ∨ ys.length ≤ i)⟩
theorem turn_ez {P : Program} {w : World} {K : PySem.W.Frag} {elts : List Expr} {kk : Nat} {tpos : Pos} {a b e z TI TO i1 i2 : Addr} (D : EzApart e z TI TO i1 i2 a b) :
    Turn P w K (.Tuple elts kk tpos) (Iez K a b) [e, z, TI, TO, i1, i2] e (fun i h => (∃ old, IsEnum h e z ((i : Nat) : Int) old) ∧ ZipAny h z TI TO ∧ IsPair h TI (.ref i1) (.ref i2) ∧ (∃ x y, IsPair h TO x y) ∧ h.IsListIter i1 a i ∧ h.IsListIter i2 b i) where
  mem := by simp
  obj := fun i h st c hc => by
    obtain ⟨⟨old, he⟩, hz, hTI, ⟨x, y, hTO⟩, ⟨o1, e1, _, d1⟩, ⟨o2, e2, _, d2⟩⟩ := st
    obtain ⟨vs, hv⟩ := hz.is
    have e' : c = e ∨ c = z ∨ c = TI ∨ c = TO ∨ c = i1 ∨ c = i2 := by simpa using hc
    rcases e' with q | q | q | q | q | q
    · rw [q]; exact ⟨_, he, fun v q => nomatch q⟩
    · rw [q]; exact ⟨_, hv, fun v q => nomatch q⟩
    · rw [q]; exact ⟨_, hTI, fun v q => nomatch q⟩
    · rw [q]; exact ⟨_, hTO, fun v q => nomatch q⟩
    · rw [q]; exact ⟨o1, e1, fun v q => by rw [d1] at q; cases q⟩
    · rw [q]; exact ⟨o2, e2, fun v q => by rw [d2] at q; cases q⟩
  keep := fun i h h' st k => by
    obtain ⟨⟨old, he⟩, hz, hTI, ⟨x, y, hTO⟩, h1, h2⟩ := st
    exact ⟨⟨old, k e (by simp) _ he⟩, hz.at (k z (by simp)), k TI (by simp) _ hTI, ⟨x, y, k TO (by simp) _ hTO⟩, h1.at fun o q => k i1 (by simp) o q, h2.at fun o q => k i2 (by simp) o q⟩
  item := by
    intro X hP hw hK hc i pins s σ H E I hf st hg
    subst hP hw hK
    obtain ⟨⟨old, he⟩, hz, hTI, ⟨x0, y0, hTO⟩, h1, h2⟩ := st
    obtain ⟨xs, ys, x, y, hqx, hqy, hx, hy⟩ := hg
    obtain ⟨its, rv, p, _⟩ := I.list hqx
    obtain ⟨its2, rv2, p2, _⟩ := I.list hqy
    obtain ⟨u, hu, ru⟩ := rv.get hx
    obtain ⟨u2, hu2, ru2⟩ := rv2.get hy
    have hel : e < s.heap.objs.size := Heap.lt_size he
    have small : ∀ c ∈ [e, z, TI, TO, i1, i2], c < s.heap.objs.size := fun c hcm => by
      obtain ⟨vs, hv⟩ := hz.is
      have e' : c = e ∨ c = z ∨ c = TI ∨ c = TO ∨ c = i1 ∨ c = i2 := by simpa using hcm
      rcases e' with q | q | q | q | q | q
      · rw [q]; exact hel
      · rw [q]; exact Heap.lt_size hv
      · rw [q]; exact Heap.lt_size hTI
      · rw [q]; exact Heap.lt_size hTO
      · rw [q]; obtain ⟨_, e1, _⟩ := h1; exact Heap.lt_size e1
      · rw [q]; obtain ⟨_, e2, _⟩ := h2; exact Heap.lt_size e2
    refine pyNext_ez_item D he hz hTI hTO h1 h2 p.isList p2.isList (x := u) (y := u2) (by simpa using hu) (by simpa using hu2) fun h₁ h' a1 a2 a3 a4 a5 a6 a7 b1 b2 b3 b4 => ?_
    obtain ⟨xa, ya, a2⟩ := a2
    refine ⟨_, rfl, wpAny_letOwnedTupleGo_enum (s := { s with heap := h', toks := s.toks + 1 }) b1 fun h'' he' sb => ?_⟩
    have up : ∀ c o, c ≠ e → h₁.get? c = some o → h''.get? c = some o := fun c o hne q => (sb.2 c hne).trans (b4 c o hne q)
    have new1 : ObjOk X.prog X.w (upd H s.heap.objs.size (.tup [x, y])) h₁ s.heap.objs.size (.tup [x, y]) :=
      ⟨by show 2 ≤ sizeLine; decide, [u, u2], .cons ru (.cons ru2 .nil), ⟨_, a5, rfl, _, rfl⟩⟩
    have I1 : Inv X pins σ (upd H s.heap.objs.size (.tup [x, y])) { s with heap := h₁, toks := s.toks } :=
      I.turnedNew (t' := s.toks) (ch := [e, z, TI, TO, i1, i2]) (fun c o hb q => a7 c o (fun q' => hb (by simp [q'])) (fun q' => hb (by simp [q'])) (fun q' => hb (by simp [q'])) (fun q' => hb (by simp [q'])) q) hf (Nat.le_refl _) new1
    have hT2 : h''.get? (s.heap.objs.size + 1) = some { cls := .type "tuple", data := .seq #[.int i s.toks, .ref s.heap.objs.size] } := (sb.2 _ (Nat.ne_of_gt (Nat.lt_succ_of_lt hel))).trans b2
    have new2 : ObjOk X.prog X.w (upd (upd H s.heap.objs.size (.tup [x, y])) (s.heap.objs.size + 1) (.tup [.int (i : Nat), .ref s.heap.objs.size])) h'' (s.heap.objs.size + 1) (.tup [.int (i : Nat), .ref s.heap.objs.size]) :=
      ⟨by show 2 ≤ sizeLine; decide, [.int i s.toks, .ref s.heap.objs.size], .cons ⟨_, rfl⟩ (.cons rfl .nil), ⟨_, hT2, rfl, _, rfl⟩⟩
    have I2 : Inv X pins σ (upd (upd H s.heap.objs.size (.tup [x, y])) (s.heap.objs.size + 1) (.tup [.int (i : Nat), .ref s.heap.objs.size])) { s with heap := h'', toks := s.toks + 1 } :=
      I1.turnedNew (t' := s.toks + 1) (ch := [e]) (fun c o hb q => up c o (fun q' => hb (by simp [q'])) q) (fun c hcm => by
        have := List.mem_singleton.mp hcm
        subst this
        have hfe := hf c (by simp)
        exact ⟨by rw [upd_ne (Nat.ne_of_lt hel)]; exact hfe.1, hfe.2⟩) (Nat.le_of_eq a6) new2
    have hn2 : H (s.heap.objs.size + 1) = none := I.hok.fresh (Nat.le_succ _)
    refine ⟨.ref (s.heap.objs.size + 1), _, I2, rfl, ⟨s.heap.objs.size, s.heap.objs.size + 1, x, y, rfl, I.hok.fresh (Nat.le_refl _), hn2, Nat.succ_ne_self _, rfl, fun l hl => by rw [I.list_inj hl hqx]; exact hx, fun l hl => by rw [I.list_inj hl hqy]; exact hy⟩, ⟨⟨.ref s.heap.objs.size, ?_⟩, ?_, ?_, ⟨xa, ya, ?_⟩, ?_, ?_⟩, fun c hcm => ?_⟩
    · have e1 : ((i + 1 : Nat) : Int) = (i : Int) + 1 := by omega
      rw [e1]; exact he'
    · exact a1.at fun o q => up _ o D.ez.symm q
    · exact up _ _ D.eTI.symm (a7 _ _ D.D.TIz D.D.TITO D.D.TIi1 D.D.TIi2 hTI)
    · exact up _ _ D.eTO.symm a2
    · exact a3.at fun o q => up _ o D.ei1.symm q
    · exact a4.at fun o q => up _ o D.ei2.symm q
    · have hlt := small c hcm
      rw [upd_ne (Nat.ne_of_lt (Nat.lt_succ_of_lt hlt)), upd_ne (Nat.ne_of_lt hlt)]
      exact (hf c hcm).1
  done := by
    intro X hP hw hK hc i pins s σ H E I hf st hg
    subst hP hw hK
    obtain ⟨⟨old, he⟩, hz, hTI, ⟨x0, y0, hTO⟩, h1, h2⟩ := st
    obtain ⟨xs, ys, hqx, hqy, hend⟩ := hg
    obtain ⟨its, rv, p, _⟩ := I.list hqx
    obtain ⟨its2, rv2, p2, _⟩ := I.list hqy
    have l1 := rv.length
    have l2 := rv2.length
    have hn : its.toArray[i]? = none ∨ its2.toArray[i]? = none := by
      rcases hend with q | q
      · exact .inl (by simp; omega)
      · exact .inr (by simp; omega)
    exact pyNext_ez_end (I.ok.hd hc) D he hz hTI hTO h1 h2 p.isList p2.isList hn fun h' hk => ⟨rfl, I.turnedL (t' := s.toks) (ch := [e, z, TI, TO, i1, i2]) (fun c o hb q =>
      hk c o (fun q' => hb (by simp [q'])) (fun q' => hb (by simp [q'])) (fun q' => hb (by simp [q'])) (fun q' => hb (by simp [q'])) q) hf⟩
  self := fun A i s Q E st h => let ⟨⟨_, he⟩, _⟩ := st; wpAny_pyIter_enum he h
def iEz (K : PySem.W.Frag) (ta : TA) : TI := fun σ H R => ta σ H fun vs H1 => ∃ a b xs ys, vs = [.ref a, .ref b] ∧ SqL K H1 a xs ∧ SqL K H1 b ys ∧ R (Iez K a b) H1
theorem pi_ez {X : Cx} {e e2 : Expr} {ta : TA} {p pos p2 pos2 tpos : Pos} {elts : List Expr} {kk : Nat} (hg : Gl X "enumerate") (hm : X.mg "enumerate" = none) (hgz : Gl X "zip") (hmz : X.mg "zip" = none) (ha : PA X [e, e2] ta)
    (hs : starEach [e, e2] X.env = (false, eval e X.env) :: starEach [e2] X.env := by rfl) (hpl : (backTo pos2 (starEach [e2] X.env)).any (·.1) = false := by rfl) :
    PI X (.Tuple elts kk tpos) (.Call (.Name "enumerate" p) [.Call (.Name "zip" p2) [e, e2] [] pos2] [] pos) (iEz X.K ta) := by
  refine ⟨fun pins s σ H R I h => ?_⟩
  have na : starEach [.Call (.Name "zip" p2) [e, e2] [] pos2] X.env = (false, eval (.Call (.Name "zip" p2) [e, e2] [] pos2) X.env) :: starEach [] X.env := rfl
  have inner : wpAny (model X.prog X.w) X.A (eval (.Call (.Name "zip" p2) [e, e2] [] pos2) X.env) (fun v s' => ∃ a b z TI TO i1 i2 H1, v = .ref z ∧ ZipApart z TI TO i1 i2 a b ∧ IsZip s'.heap z TI TO .none ∧ IsPair s'.heap TI (.ref i1) (.ref i2) ∧ (∃ x y, IsPair s'.heap TO x y) ∧
      s'.heap.IsListIter i1 a 0 ∧ s'.heap.IsListIter i2 b 0 ∧ Inv X pins σ H1 s' ∧ (∀ c ∈ [z, TI, TO, i1, i2], FpOk X pins H1 c) ∧ R (Iez X.K a b) H1) X.xe s := by
    refine Call_ (ld_blt I hgz hmz PyProof.Rows.boot_zip (PyProof.Rows.callWith_type1 (thn (ha.run pos2 pins s σ H _ I h) fun us s1 ⟨vs, H1, I1, r1, q1⟩ => ?_) hs hpl))
    obtain ⟨a, b, xs, ys, ex, hqx, hqy, q⟩ := q1
    subst ex
    cases r1 with
    | cons r rr =>
      cases rr with
      | cons r' rr =>
        cases rr
        cases r
        cases r'
        have fresh5 : ∀ c, c ∈ [s1.heap.objs.size + 4, s1.heap.objs.size + 2, s1.heap.objs.size + 3, s1.heap.objs.size, s1.heap.objs.size + 1] → FpOk X pins H1 c := fun c hcm => by
          have e' : c = s1.heap.objs.size + 4 ∨ c = s1.heap.objs.size + 2 ∨ c = s1.heap.objs.size + 3 ∨ c = s1.heap.objs.size ∨ c = s1.heap.objs.size + 1 := by simpa using hcm
          have hle : s1.heap.objs.size ≤ c := by
            rcases e' with z | z | z | z | z <;> rw [z] <;> omega
          exact I1.fpOk hle (I1.hok.fresh hle)
        obtain ⟨its, rv, p1, _⟩ := I1.list hqx
        obtain ⟨its2, rv2, p2', _⟩ := I1.list hqy
        refine call_zip_2 p1.isList p2'.isList fun h' hz hTI hTO h1 h2 hsz hk => ?_
        have I2 : Inv X pins σ H1 { s1 with heap := h' } := I1.kept (t' := s1.toks) hk
        exact ⟨a, b, s1.heap.objs.size + 4, s1.heap.objs.size + 2, s1.heap.objs.size + 3, s1.heap.objs.size, s1.heap.objs.size + 1, H1, rfl, PySem.W.ktu_apart s1.heap.objs.size a b p1.lt p2'.lt, hz, hTI, ⟨_, _, hTO⟩, h1, h2, I2, fresh5, q⟩
  refine Call_ (ld_blt I hg hm boot_enumerate (PyProof.Rows.callWith_type1 (args_cons (thn inner fun v s1 ⟨a, b, z, TI, TO, i1, i2, H1, ev, D, hz, hTI, ⟨x, y, hTO⟩, h1, h2, I1, ff, q⟩ => args_nil ?_) na) na))
  subst ev
  have zl := Heap.lt_size hz
  have TIl := Heap.lt_size hTI
  have TOl := Heap.lt_size hTO
  have i1l : i1 < s1.heap.objs.size := by obtain ⟨_, e1, _⟩ := h1; exact Heap.lt_size e1
  have i2l : i2 < s1.heap.objs.size := by obtain ⟨_, e1, _⟩ := h2; exact Heap.lt_size e1
  refine call_enumZ hz fun h' he hsz hk => wpAny_pyIter_enum he ?_
  have I2 : Inv X pins σ H1 { s1 with heap := h' } := I1.kept (t' := s1.toks) hk
  refine ⟨s1.heap.objs.size, [s1.heap.objs.size, z, TI, TO, i1, i2], _, _, H1, rfl, I2, turn_ez ⟨D, Nat.ne_of_gt zl, Nat.ne_of_gt TIl, Nat.ne_of_gt TOl, Nat.ne_of_gt i1l, Nat.ne_of_gt i2l⟩, ⟨⟨.none, he⟩, .inl (hk _ _ hz), hk _ _ hTI, ⟨x, y, hk _ _ hTO⟩, h1.at fun o q => hk _ o q, h2.at fun o q => hk _ o q⟩, fun c hcm => ?_, q⟩
  rcases List.mem_cons.mp hcm with e' | e'
  · subst e'
    exact I1.fpOk (Nat.le_refl _) (I1.hok.fresh (Nat.le_refl _))
  · exact ff c e'
/-- a new pair of the i-th of xs and the i-th of ys, in a new pair behind i -/
def YEz (xs ys : List V) : Nat → Hp → V → Hp → Prop := fun i H v H' => ∃ T P x y, v = .ref P ∧ H T = none ∧ H P = none ∧ P ≠ T ∧ H' = upd (upd H T (.tup [x, y])) P (.tup [.int (i : Nat), .ref T]) ∧ xs[i]? = some x ∧ ys[i]? = some y
theorem walk_ez {K : PySem.W.Frag} {a b : Addr} {xs ys : List V} {n : Nat} (hn : n = min xs.length ys.length) : Walk (Iez K a b) n (fun H => SqL K H a xs ∧ SqL K H b ys) (YEz xs ys) := by
  subst hn
  refine ⟨fun i _ hi q => ?_, fun _ q => ⟨xs, ys, q.1, q.2, by omega⟩, fun i H v H' _ q y => ?_⟩
  · have h1 : i < xs.length := by omega
    have h2 : i < ys.length := by omega
    exact ⟨xs, ys, xs[i], ys[i], q.1, q.2, by simp [h1], by simp [h2]⟩
  · obtain ⟨T, P, x, z, h1, h2, h3, h4, h5, h6, h7⟩ := y
    exact ⟨T, P, x, z, h1, h2, h3, h4, h5, h6 xs q.1, h7 ys q.2⟩
end L2

end
section
set_option maxHeartbeats 4000000
/-! ### a tuple read from behind: t[::-1] -/
namespace HT
open PySem PySem.Spec PyProof.Rows
section
variable {prog : Program} {w : World} {A : Around} {E : Value → Shared → Prop} {s : Shared}
theorem rev_places (n : Nat) : Builtin.Slice.slicePlaces ((n : Int) - 1) (-1) (-1) = n := by
  unfold Builtin.Slice.slicePlaces
  rw [if_neg (by decide)]
  by_cases h : (n : Int) - 1 > -1
  · rw [if_pos h, show (- -1 : Int) = 1 from by decide, Int.ediv_one]
    omega
  · rw [if_neg h]
    omega
theorem sliceApplied_rev {sl : Addr} {vl vu vs : Value} {n : Nat} {Q : Int × Int × Nat → Shared → Prop} (hs : s.heap.IsSliceOf sl vl vu vs) (pl : IsPart vl none) (pu : IsPart vu none) (ps : IsPart vs (some (-1)))
    (h : Q ((n : Int) - 1, -1, n) s) : wpAny (model prog w) A (Builtin.Slice.sliceApplied (.ref sl) (pure (n : Int))) Q E s := by
  obtain ⟨os, hos, hcs, hds⟩ := id hs
  unfold Builtin.Slice.sliceApplied Builtin.Slice.sliceFields
  refine wpAny_bind (wpAny_bind (wpAny_field hos hds (x := vl) rfl (wpAny_bind (wpAny_field hos hds (x := vu) rfl (wpAny_bind (wpAny_field hos hds (x := vs) rfl (wpAny_pure ?_)))))))
  refine wpAny_bind (slicePart_ ps ?_)
  show wpAny _ _ (if ((-1 : Int) == 0) = true then _ else _) _ _ s
  rw [if_neg (by decide)]
  refine wpAny_bind (slicePart_ pl (wpAny_bind (slicePart_ pu (wpAny_bind (wpAny_pure ?_)))))
  show wpAny _ _ (pure ((n : Int) - 1, (-1 : Int), Builtin.Slice.slicePlaces ((n : Int) - 1) (-1) (-1))) _ _ s
  rw [rev_places]
  exact wpAny_pure h
theorem fm_congr {α β : Type} {f g : α → Option β} : ∀ {l : List α}, (∀ x ∈ l, f x = g x) → l.filterMap f = l.filterMap g
  | [], _ => rfl
  | x :: l, h => by
    have ih := fm_congr (f := f) (g := g) (l := l) fun y hy => h y (List.mem_cons_of_mem _ hy)
    rw [List.filterMap_cons, List.filterMap_cons, h x List.mem_cons_self, ih]
theorem rev_pick (xs : Array Value) : ((List.range xs.size).filterMap fun (k : Nat) => xs[((xs.size : Int) - 1 + (k : Int) * -1).toNat]?).toArray = xs.toList.reverse.toArray := by
  have e : ((List.range xs.size).filterMap fun (k : Nat) => xs[((xs.size : Int) - 1 + (k : Int) * -1).toNat]?) = ((List.range xs.size).map fun k => xs.size - 1 - k).filterMap (xs[·]?) := by
    rw [List.filterMap_map]
    refine fm_congr fun k hk => ?_
    have := List.mem_range.mp hk
    have e2 : ((xs.size : Int) - 1 + (k : Int) * -1).toNat = xs.size - 1 - k := by omega
    rw [e2]
    rfl
  rw [e, PySem.W.krv_range, List.filterMap_reverse, PySem.W.krv_all]
theorem getItem_tuple_rev {t sl : Addr} {items : Array Value} {vl vu vs : Value} {Q : Value → Shared → Prop} (ht : IsTup s.heap t items) (hs : s.heap.IsSliceOf sl vl vu vs) (pl : IsPart vl none) (pu : IsPart vu none) (ps : IsPart vs (some (-1)))
    (h : Q (.ref s.heap.objs.size) { s with heap := s.heap.push { cls := .type "tuple", data := .seq items.toList.reverse.toArray } })
    (hsz : items.size ≤ sizeLine) : wpAny (model prog w) A (getItem (.ref t) (.ref sl)) Q E s := by
  have htake : sizeOk (.seq items.toList.reverse.toArray) := by
    show items.toList.reverse.toArray.size ≤ sizeLine
    rw [List.size_toArray, List.length_reverse, Array.length_toList]
    exact hsz
  obtain ⟨os, hos, hcs, hds⟩ := id hs
  have hTs : s.TypeIs (.ref sl) "slice" := ⟨os, hos, hcs⟩
  unfold getItem
  try with_reducible refine wpAny_holding ?_
  first | refine wpAny_bind (wpAny_pure ?_) | skip
  refine wpAny_bind (wpAny_sequenceKey ht.typeIs (by decide) ?_)
  refine wpAny_bind (wpAny_callSpecial?_slot (name := Str.ofString "__getitem__") ht.typeIs PyProof.Rows.slot_tuple_getitem
    (wpAny_call_entry PyProof.Rows.slot_tuple_getitem ht.typeIs entry_tuple_getitem ?_ (args_tuple_getitem _ _)))
  show wpAny _ _ (Builtin.Tuple.tupleItemsOf (.ref t) >>= _) _ _ s
  refine wpAny_bind (tupleItemsOf_ ht ?_)
  refine wpAny_bind (wpAny_typeOf hTs ?_)
  rw [if_pos (by decide)]
  refine wpAny_bind (sliceApplied_rev hs pl pu ps ?_)
  have hno : ¬ ((((items.size : Int) - 1) == 0 && (-1 : Int) == 1 && items.size == items.size) = true) := by
    intro q
    rw [Bool.and_eq_true, Bool.and_eq_true] at q
    exact absurd q.1.2 (by decide)
  show wpAny _ _ (if (((items.size : Int) - 1) == 0 && (-1 : Int) == 1 && items.size == items.size) = true then _ else _) _ _ s
  rw [if_neg hno, rev_pick]
  first
    | exact wpAny_bind (m := Builtin.Tuple.tupleExact _) (wpAny_newObj_type (wpAny_pure ⟨_, rfl, wpAny_pure h⟩) htake)
    | exact wpAny_bind (m := Builtin.Tuple.tupleExact _) (wpAny_newObj_type (wpAny_bind (wpAny_pure (wpAny_pure ⟨_, rfl, wpAny_pure h⟩))) htake)
    | exact wpAny_bind (wpAny_bind (m := Builtin.Tuple.tupleExact _) (wpAny_newObj_type (wpAny_pure (wpAny_pure ⟨_, rfl, wpAny_pure h⟩)) htake))
    | exact wpAny_bind (wpAny_bind (m := Builtin.Tuple.tupleExact _) (wpAny_newObj_type (wpAny_pure ⟨_, rfl, wpAny_pure h⟩) htake))
end
end HT
namespace L2
open PySem PySem.Spec PyProof.Rows
def tRevT (K : PySem.W.Frag) (te : TE) : TE := fun σ H Q => te σ H fun x H1 => ∃ a xs, x = .ref a ∧ SqT K H1 a xs ∧ ∀ p, H1 p = none → Q (.ref p) (upd H1 p (.tup xs.reverse))
theorem pe_revT {X : Cx} {e : Expr} {te : TE} {k : Nat} {p1 p2 p3 pos : Pos} (he : PE X e te) : PE X (.Subscript e (.Slice none none (some (.UnaryOp .USub (.Constant (.int 1) k p1) p2)) p3) pos) (tRevT X.K te) := by
  refine ⟨fun pins s σ H Q I h => ?_⟩
  refine Subscript_ (thn (he.run pins s σ H _ I h) fun v s1 ⟨x, H1, I1, r1, q1⟩ => ?_)
  obtain ⟨a, xs, ex, hx, q⟩ := q1
  subst ex
  cases r1
  have hst : PO X (some (.UnaryOp .USub (.Constant (.int 1) k p1) p2)) (tPart (tUn (rU fun i => .int (-i)) (tC (.int 1)))) := po_some (pe_un un_neg pe_int)
  refine wpAny_Slice (thn (po_none.run pins s1 σ H1 (fun o H2 => o = none ∧ H2 = H1) I1 ⟨rfl, rfl⟩) fun vl s2 ⟨l, H2, I2, pl, el, e2⟩ => ?_)
  subst el e2
  refine thn (po_none.run pins s2 σ H2 (fun o H3 => o = none ∧ H3 = H2) I2 ⟨rfl, rfl⟩) fun vu s3 ⟨u, H3, I3, pu, eu, e3⟩ => ?_
  subst eu e3
  refine thn (hst.run pins s3 σ H3 (fun o H4 => o = some (-1) ∧ H4 = H3) I3 ⟨1, rfl, -1, rfl, rfl, rfl⟩) fun vs s4 ⟨o, H4, I4, ps, eo, e4⟩ => ?_
  subst eo e4
  have I5 : Inv X pins σ H4 { s4 with heap := s4.heap.push { cls := .type "slice", data := .fields #[vl, vu, vs] } } := I4.kept (t' := s4.toks) fun b ob q => Heap.get?_push_of_some _ q
  obtain ⟨its, r, ht, hz⟩ := I5.tuple hx
  have hlen := r.length
  show wpAny (model X.prog X.w) X.A (subscriptTail e (.Slice none none (some (.UnaryOp .USub (.Constant (.int 1) k p1) p2)) p3) (.ref a) (.ref s4.heap.objs.size)) (EP X pins σ Q) X.xe { s4 with heap := s4.heap.push { cls := .type "slice", data := .fields #[vl, vu, vs] } }
  refine tail_any (ops := [.ref a, .ref s4.heap.objs.size]) ht.typeIs (PyProof.Rows.slot_tuple_getitem.lookup) ?_ (by with_unfolding_all rfl)
  refine HT.getItem_tuple_rev ht (Heap.IsSliceOf.new _ vl vu vs) pl pu ps ?_ (by rw [List.size_toArray]; omega)
  refine ⟨.ref _, _, I5.laid (t' := s4.toks) (o := .tup xs.reverse) (fun b ob q => Heap.get?_push_of_some _ q) (Nat.le_refl _) ?_, rfl, q _ (I5.hok.fresh (Nat.le_refl _))⟩
  exact ⟨by rw [List.length_reverse]; exact hz, _, r.reverse, IsTup.new _ _⟩
end L2

end
section
set_option maxHeartbeats 4000000
namespace Eg
open PySem PySem.Spec PyProof.Rows L2
/-! ### sorted of a list of tuples of whole numbers, any number of them -/
def encT (d : D) : PyData := .tuple ((itI d).map .int)
theorem lexLt_lt : ∀ xs ys : List Int, lexLt xs ys = decide (xs < ys)
  | [], [] => by simp [lexLt]
  | [], y :: ys => by simp [lexLt]
  | x :: xs, [] => by simp [lexLt]
  | x :: xs, y :: ys => by
    show (if x = y then lexLt xs ys else decide (x < y)) = _
    by_cases h : x = y
    · subst h
      rw [if_pos rfl, lexLt_lt xs ys]
      simp [List.cons_lt_cons_iff]
    · rw [if_neg h]
      simp [List.cons_lt_cons_iff, h]
theorem le_enc (x y : D) : PySem.W.dataLe false encT x y = leT x y := by
  show (!PySem.W.dataLt (encT y) (encT x)) = !lexLt (itI y) (itI x)
  unfold encT
  rw [PySem.W.dataLt_tuple]
  have h := PySem.W.dataLt_ints (itI y) (itI x)
  rw [lexLt_lt]
  exact congrArg (fun b => !b) h
theorem isIT_inv {d : D} (h : isIT d = true) : ∃ i l, d = .tup (intsD (i :: l)) ∧ itI d = i :: l := by
  unfold isIT at h
  split at h
  · rename_i i xs
    cases e : toInts (.int i :: xs) with
    | none => rw [e] at h; cases h
    | some l =>
      have e1 := toInts_eq e
      cases l with
      | nil => cases e1
      | cons j l =>
        exact ⟨j, l, by rw [e1], by show (toInts (.int i :: xs)).getD [] = _; rw [e]; rfl⟩
  · cases h
section
variable {G : Gx} {X : Cx} {Fz : Addr → Prop} {H : Hp}
theorem readsI {h : Heap} : ∀ {us : List Value} {l : List Int}, IntsAre us l → ReadsAll h us (l.map .int) []
  | _, _, .nil => .nil
  | _, _, .cons n t r => .cons (.int n t) (readsI r)
theorem each_zip {s : Shared} {pins : List (Addr × Obj)} {σ : L2.St} (hK : X.K = G.K) (I : L2.Inv X pins σ H s) : ∀ {ds : List D} {xs : List V} {us : List Value}, RFs G Fz H ds xs → Vals xs us → (∀ d ∈ ds, isIT d = true) →
    PySem.W.EachIs (fun (u : Value) (b : D × V) => RelV b.2 u) us (ds.zip xs) ∧ PySem.W.EachIs (fun (u : Value) (b : D × V) => ∃ as, Reads s.heap u (encT b.1) as) us (ds.zip xs) ∧ ∀ b ∈ ds.zip xs, RF G Fz H b.1 b.2 ∧ isIT b.1 = true
  | [], xs, us, r, v, h => by
    rw [show xs = [] from r] at v
    cases v
    exact ⟨.nil, .nil, fun b z => by cases z⟩
  | d :: ds, xs, us, ⟨x, xr, e, rd, rr⟩, v, h => by
    subst e
    cases v with
    | cons r1 r2 =>
      obtain ⟨a1, a2, a3⟩ := each_zip hK I rr r2 fun d hd => h d (List.mem_cons_of_mem _ hd)
      refine ⟨.cons r1 a1, .cons ?_ a2, fun b hb => (List.mem_cons.mp hb).elim (fun z => z ▸ ⟨rd, h d List.mem_cons_self⟩) (a3 b)⟩
      obtain ⟨i, l, rfl, e2⟩ := isIT_inv (h d List.mem_cons_self)
      obtain ⟨p, ls, e3, q1, t1⟩ := rd
      subst e3
      cases r1
      have e4 : ls = (i :: l).map V.int := RFs.toInts t1 (by
        have hh : ∀ l : List Int, toInts (intsD l) = some l := by
          intro l
          induction l with
          | nil => rfl
          | cons i l ih => show (toInts (intsD l)).map (i :: ·) = _; rw [ih]; rfl
        exact hh _)
      subst e4
      obtain ⟨its, rv, hp, _⟩ := I.tuple (show SqT X.K H p _ from hK ▸ q1.sq)
      obtain ⟨o, ho, hc, n, hd⟩ := hp
      refine ⟨[], ?_⟩
      show Reads s.heap _ (.tuple ((itI _).map .int)) []
      rw [e2]
      exact .tuple ho hc hd (readsI (intsAre_of rv))
theorem rfs_zip : ∀ {l : List (D × V)}, (∀ b ∈ l, RF G Fz H b.1 b.2) → RFs G Fz H (l.map Prod.fst) (l.map Prod.snd)
  | [], _ => rfl
  | b :: l, h => ⟨b.2, l.map Prod.snd, rfl, h b List.mem_cons_self, rfs_zip fun c hc => h c (List.mem_cons_of_mem _ hc)⟩
theorem vals_each : ∀ {us : List Value} {l : List (D × V)}, PySem.W.EachIs (fun (u : Value) (b : D × V) => RelV b.2 u) us l → Vals (l.map Prod.snd) us
  | _, _, .nil => .nil
  | _, _, .cons h t => .cons h (vals_each t)
theorem sortT_run {pins : List (Addr × Obj)} {s : Shared} {σ : L2.St} {Q : VK} {a : Addr} {ds : List D} {xs : List V} (hK : X.K = G.K) (hu : X.A.units + 64 < cLine) (I : L2.Inv X pins σ H s) (t1 : RFs G Fz H ds xs) (hs : SqL X.K H a xs) (ht : ∀ d ∈ ds, isIT d = true)
    (q : ∀ (p : Addr) (vs : List V), H p = none → RFs G Fz H (ds.mergeSort leT) vs → Q (.ref p) (upd H p (.lst vs))) : wpAny (model X.prog X.w) X.A (call (.builtin "sorted") [.ref a]) (EP X pins σ Q) X.xe s := by
  obtain ⟨its, rv, hl, hz⟩ := I.list hs
  obtain ⟨a1, a2, a3⟩ := each_zip hK I t1 rv ht
  have lx := t1.length
  have lz : (ds.zip xs).length = xs.length := by rw [List.length_zip, lx]; omega
  refine PySem.W.sorted_data (enc := fun b : D × V => encT b.1) hl.isList a1 a2 (PySem.W.AllAlike.of fun b b' => ?_) (.inl fun d hd => ?_) (by rw [lz]; exact hz) (fun b hb => ?_) fun out h1 h2 => ?_
  · show PySem.W.alike (.tuple _) (.tuple _) = true
    rw [PySem.W.alike]
    exact PySem.W.alike_ints _ _
  · obtain ⟨b, hb, rfl⟩ := List.mem_map.mp hd
    obtain ⟨i, l, e1, e2⟩ := isIT_inv (a3 b hb).2
    refine ⟨.int i, l.map .int, ?_⟩
    show PyData.tuple ((itI b.1).map .int) = _
    rw [e2]
    rfl
  · have : (encT b.1).depth = 1 := by
      unfold encT
      rw [PyData.depth, PySem.W.depth_ints]
    rw [this]
    omega
  · obtain ⟨ep, he'⟩ := PyProof.Rows.sortedAll_at s.heap its out.toArray
    have vv := vals_each h2
    have e1 : ((ds.zip xs).mergeSort (PySem.W.dataLe false fun b : D × V => encT b.1)).map Prod.fst = ds.mergeSort leT := by
      rw [List.map_mergeSort (s := leT) fun b _ c _ => le_enc b.1 c.1, List.map_fst_zip (by omega)]
    have rr := rfs_zip (l := (ds.zip xs).mergeSort (PySem.W.dataLe false fun b : D × V => encT b.1)) fun b hb => (a3 b (List.mem_mergeSort.mp hb)).1
    rw [e1] at rr
    have hlen : (((ds.zip xs).mergeSort (PySem.W.dataLe false fun b : D × V => encT b.1)).map Prod.snd).length ≤ sizeLine := by
      rw [List.length_map, List.length_mergeSort, lz]
      exact hz
    exact ⟨.ref _, upd H (s.heap.objs.size + 1) (.lst _), I.laid (t' := s.toks) (fun _ _ => PyProof.Rows.sortedAll_old) (Nat.le_succ _) ⟨hlen, out, ep, vv, he'⟩, rfl, q _ _ (I.hok.fresh (Nat.le_succ _)) rr⟩
end
end Eg

end
section
set_option maxHeartbeats 4000000
namespace Eg
open PySem PySem.Spec PyProof.Rows L2

/-! ### sorted of a tuple of ints -/
section
variable {prog : Program} {w : World} {A : Around} {E : Value → Shared → Prop} {s : Shared}
theorem collect_tuple {l : Addr} {vs : List Value} {Q : List Value → Shared → Prop} (hl : s.heap.IsTuple l vs.toArray)
    (h : Q vs { s with heap := (s.heap.push (seqObj "list" #[] 0)).update s.heap.objs.size (Obj.mapSeq (· ++ vs.toArray)) }) (hsz : vs.length ≤ sizeLine) :
    wpAny (model prog w) A (collect (.ref l)) Q E s := by
  obtain ⟨o, ho, hc, n, hd⟩ := id hl
  unfold collect
  refine wpAny_bind (wpAny_runValue (codeAny_builtin entry_proto_collect' ?_))
  show wpAny _ _ (do again (.builtin "list.__iadd__" ⟨[← newList [], .ref l], []⟩)) _ _ s
  refine wpAny_bind (wpAny_newList (wpAny_pure ⟨Code.quiet_builtin _ (by decide +kernel), codeAny_builtin entry_list_iadd' ?_⟩))
  show wpAny _ _ (Builtin.List.listExtendWith (.ref s.heap.objs.size) (.ref l) (.ref s.heap.objs.size)) _ _ { s with heap := s.heap.push (seqObj "list" #[] 0) }
  unfold Builtin.List.listExtendWith
  have ho' : (s.heap.push (seqObj "list" #[] 0)).get? l = some o := Heap.get?_push_of_some _ ho
  refine wpAny_bind (wpAny_typeOf (T := "tuple") ⟨o, ho', hc⟩ ?_)
  have ht : (Value.type "tuple" == Value.type "tuple") = true := by rfl
  rw [if_pos (by rw [ht]; simp)]
  refine wpAny_bind (listItems_at ho' hd ?_)
  refine wpAny_bind (listItems_at (xs := #[]) (n := 0) (Heap.get?_push_size _ rfl) rfl ?_)
  rw [if_neg (by simp)]
  refine wpAny_bind (listUpdate_at (xs := #[]) (n := 0) (Heap.get?_push_size _ rfl) rfl ?_ (Nat.zero_le _) (by show (#[] ++ vs.toArray).size ≤ sizeLine + 1; simp only [Array.size_append, List.size_toArray, List.length_nil]; omega))
  refine wpAny_pure ?_
  show wpAny (model prog w) A (do
      let o ← load s.heap.objs.size
      match o.data with
      | .seq xs _ => pure xs.toList
      | _ => unsupported "internal:collect") Q E { s with heap := (s.heap.push (seqObj "list" #[] 0)).update s.heap.objs.size (Obj.mapSeq (· ++ vs.toArray)) }
  refine wpAny_bind (wpAny_load (get?_update_seq (Heap.get?_push_size _ rfl) _) ?_)
  show wpAny _ _ (pure ((#[] : Array Value) ++ vs.toArray).toList) Q E _
  rw [show ((#[] : Array Value) ++ vs.toArray).toList = vs by simp]
  exact wpAny_pure h
theorem sorted_ints_tuple {l : Addr} {vs : List Value} {ns : List Int} {Q : Value → Shared → Prop} (hl : s.heap.IsTuple l vs.toArray) (hI : IntsAre vs ns) (h64 : vs.length < 64)
    (h : ∀ (out : Array Value) (ns' : List Int), IntsAre out.toList ns' → ns'.Perm ns → ns'.Pairwise (· ≤ ·) → Q (.ref (s.heap.objs.size + 1)) { s with heap := sortedAll s.heap vs out }) :
    wpAny (model prog w) A (call (.builtin "sorted") [.ref l]) Q E s := by
  refine Calls.call_function_entry kind_sorted plain_sorted entry_sorted (args_sorted1 _) ?_
  unfold Builtin.«sorted»
  refine wpAny_bind (m := checkCount "sorted" 1 1 _) (wpAny_pure ?_)
  refine wpAny_bind (collect_tuple hl ?_ (by rw [sizeLine_eq]; omega))
  refine wpAny_bind (wpAny_newList ?_)
  have hsz : ((s.heap.push (seqObj "list" #[] 0)).update s.heap.objs.size (Obj.mapSeq (· ++ vs.toArray))).objs.size = s.heap.objs.size + 1 := by
    rw [Heap.size_update, size_push']
  have hoL : (((s.heap.push (seqObj "list" #[] 0)).update s.heap.objs.size (Obj.mapSeq (· ++ vs.toArray))).push (seqObj "list" vs.toArray 0)).get? (s.heap.objs.size + 1) = some (seqObj "list" vs.toArray 0) := by
    rw [← hsz]; exact Heap.get?_push_size _ rfl
  show wpAny _ _ _ _ _ { s with heap := ((s.heap.push (seqObj "list" #[] 0)).update s.heap.objs.size (Obj.mapSeq (· ++ vs.toArray))).push (seqObj "list" vs.toArray 0) }
  rw [hsz]
  refine wpAny_bind (wpAny_holding (wpAny_call_entry slot_list_sort ⟨_, hoL, rfl⟩ entry_list_sort (list_sort_tree hoL hI h64 fun out ns' a1 a2 a3 => ⟨_, rfl, ?_⟩) (args_list_sort _)))
  exact wpAny_pure ⟨_, rfl, h out ns' a1 a2 a3⟩
end
/-! ### the one sorted list -/
theorem insI_perm (x : Int) : ∀ l : List Int, (insI x l).Perm (x :: l)
  | [] => .refl _
  | y :: r => by
    unfold insI
    split
    · exact .refl _
    · exact ((insI_perm x r).cons y).trans (.swap x y r)
theorem sortI_perm : ∀ l : List Int, (sortI l).Perm l
  | [] => .refl _
  | x :: r => (insI_perm x (sortI r)).trans ((sortI_perm r).cons x)
theorem insI_sorted (x : Int) : ∀ l : List Int, l.Pairwise (· ≤ ·) → (insI x l).Pairwise (· ≤ ·)
  | [], _ => List.pairwise_singleton _ _
  | y :: r, h => by
    obtain ⟨h1, h2⟩ := List.pairwise_cons.mp h
    unfold insI
    split
    · rename_i hx
      exact List.pairwise_cons.mpr ⟨fun z hz => (List.mem_cons.mp hz).elim (fun e => e ▸ hx) fun hz => Int.le_trans hx (h1 z hz), h⟩
    · rename_i hx
      refine List.pairwise_cons.mpr ⟨fun z hz => ?_, insI_sorted x r h2⟩
      rcases List.mem_cons.mp ((insI_perm x r).mem_iff.mp hz) with e | hz
      · subst e; omega
      · exact h1 z hz
theorem sortI_sorted : ∀ l : List Int, (sortI l).Pairwise (· ≤ ·)
  | [] => List.Pairwise.nil
  | x :: r => insI_sorted x _ (sortI_sorted r)
theorem sorted_one : ∀ {a b : List Int}, a.Perm b → a.Pairwise (· ≤ ·) → b.Pairwise (· ≤ ·) → a = b
  | [], b, p, _, _ => (List.nil_perm.mp p).symm
  | x :: a, [], p, _, _ => by simpa using p.length_eq
  | x :: a, y :: b, p, h1, h2 => by
    obtain ⟨g1, g2⟩ := List.pairwise_cons.mp h1
    obtain ⟨k1, k2⟩ := List.pairwise_cons.mp h2
    have e : x = y := by
      have m1 : x ∈ y :: b := p.mem_iff.mp List.mem_cons_self
      have m2 : y ∈ x :: a := p.mem_iff.mpr List.mem_cons_self
      rcases List.mem_cons.mp m1 with e | m1
      · exact e
      · rcases List.mem_cons.mp m2 with e | m2
        · exact e.symm
        · have := g1 y m2
          have := k1 x m1
          omega
    subst e
    rw [sorted_one (List.perm_cons x |>.mp p) g2 k2]
theorem sortI_eq {a b : List Int} (p : a.Perm b) (h : a.Pairwise (· ≤ ·)) : a = sortI b := sorted_one (p.trans (sortI_perm b).symm) h (sortI_sorted b)

section
variable {G : Gx} {X : Cx}
theorem rB_one {o : BI} {vs : List V} {H : Hp} {Q : VK} (h : rB G o vs H Q) (n2 : F2 o = fun _ _ => none) (n3 : F3 o = fun _ _ _ => none) : ∃ x, vs = [x] := by
  obtain ⟨Fz, ds, d, r, e, c⟩ := h
  match ds, r, e with
  | [], r, e => simp [bop] at e
  | [d1], ⟨v, q, e1, h1, h2⟩, e => exact ⟨v, by rw [e1, show q = [] from h2]⟩
  | [d1, d2], _, e => simp [bop, n2] at e
  | [d1, d2, d3], _, e => simp [bop, n3] at e
  | d1 :: d2 :: d3 :: d4 :: r, _, e => simp [bop] at e
theorem rB_two {o : BI} {vs : List V} {H : Hp} {Q : VK} (h : rB G o vs H Q) (n1 : F1 o = fun _ => none) (n3 : F3 o = fun _ _ _ => none) : ∃ x y, vs = [x, y] := by
  obtain ⟨Fz, ds, d, r, e, c⟩ := h
  match ds, r, e with
  | [], r, e => simp [bop] at e
  | [d1], _, e => simp [bop, n1] at e
  | [d1, d2], ⟨v, q, e1, h1, ⟨v2, q2, e2, h2, h3⟩⟩, e => exact ⟨v, v2, by rw [e1, e2, show q2 = [] from h3]⟩
  | [d1, d2, d3], _, e => simp [bop, n3] at e
  | d1 :: d2 :: d3 :: d4 :: r, _, e => simp [bop] at e
theorem rIx_fst {p : V → Bool} : ∀ {ys : List V} {j : Nat}, ys.findIdx? p = some j → (∃ z, ys[j]? = some z ∧ p z = true) ∧ ∀ (m : Nat) (z' : V), m < j → ys[m]? = some z' → p z' = false := fun {ys j} h => by
  obtain ⟨hl, h1, h2⟩ := List.findIdx?_eq_some_iff_getElem.mp h
  refine ⟨⟨_, List.getElem?_eq_getElem hl, h1⟩, fun m z' hm hz => ?_⟩
  obtain ⟨hl2, e⟩ := List.getElem?_eq_some_iff.mp hz
  rw [← e]
  simpa using h2 m hm
theorem RFs.findV {Fz : Addr → Prop} {H : Hp} {d : D} {v : V} (h : RF G Fz H d v) (f : Eg.flat d = true) : ∀ {ds : List D} {vs : List V}, RFs G Fz H ds vs → ds.all Eg.flat = true → vs.all flatV = true ∧ vs.findIdx? (fun u => L2.eqV u v) = ds.findIdx? (fun e => eqd e d)
  | [], _, q, _ => by rw [show _ = [] from q]; exact ⟨rfl, rfl⟩
  | e :: ds, _, ⟨u, q, e1, r1, r2⟩, g => by
    subst e1
    have g' : Eg.flat e = true ∧ ds.all Eg.flat = true := by simpa using g
    obtain ⟨h1, h2⟩ := RFs.findV h f r2 g'.2
    refine ⟨by rw [List.all_cons, RF.flat r1 g'.1, h1]; rfl, ?_⟩
    rw [List.findIdx?_cons, List.findIdx?_cons, RF.eqV r1 g'.1 h f, h2]
theorem rB_ixL {K : PySem.W.Frag} {x y : V} {H : Hp} {Q : VK} (hK : K = G.K) (h : rB G .indexL [x, y] H Q) : ∃ a : Addr, x = .ref a ∧ (∃ xs, SqL K H a xs) ∧ rIndex K x [y] H Q := by
  obtain ⟨Fz, d1, d2, d, r1, r2, e, c⟩ := rB2 h
  simp only [F2] at e
  cases d1 <;> simp only [fIndexL, reduceCtorEq] at e
  unfold idxD at e
  split at e
  case isFalse => cases e
  rename_i hf
  simp only [Bool.and_eq_true] at hf
  obtain ⟨j, e2, rfl⟩ := Option.map_eq_some_iff.mp e
  obtain ⟨a, xs, e1, q1, t1⟩ := r1
  have r2' : RF G Fz H d2 y := by cases d2 <;> first | exact r2 | simp [Eg.flat] at hf
  obtain ⟨h1, h2⟩ := RFs.findV r2' hf.1 t1 hf.2
  rw [e2] at h2
  obtain ⟨⟨z, hz, hzj⟩, hno⟩ := rIx_fst h2
  have sq : SqL K H a xs := .inl (.inl q1)
  exact ⟨a, e1, ⟨xs, sq⟩, a, xs, y, j, z, e1, rfl, sq, RF.flat r2' hf.1, h1, hz, hzj, hno, c.old rfl⟩
/-! ### x.count(b) of truths -/
def isB (b : Bool) : Value → Bool
  | .bool c => c == b
  | _ => false
def rCntB (K : PySem.W.Frag) : V → List V → Hp → VK → Prop := fun x xs H Q => ∃ (a : Addr) (bs : List Bool) (b : Bool), x = .ref a ∧ xs = [.bl b] ∧ SqL K H a (bs.map V.bl) ∧ Q (.int (bs.count b : Nat)) H
theorem vals_isB {b : Bool} : ∀ {bs : List Bool} {us : List Value}, Vals (bs.map V.bl) us → (∀ y ∈ us, ∃ c, y = .bool c) ∧ us.countP (isB b) = bs.count b
  | [], _, h => by cases h; exact ⟨(fun y z => by cases z), rfl⟩
  | c :: bs, _, h => by
    cases h with
    | cons r t =>
      obtain ⟨h1, h2⟩ := vals_isB (b := b) t
      have e : _ = Value.bool c := r
      subst e
      refine ⟨fun y hy => ?_, ?_⟩
      · rcases List.mem_cons.mp hy with rfl | hy
        · exact ⟨c, rfl⟩
        · exact h1 y hy
      · rw [List.countP_cons, List.count_cons, h2]
        rfl
theorem mt_cntB {X : Cx} : MtR X "list.count" (rCntB X.K) := by
  intro pins s σ H x xs v us Q I rx rxs h
  obtain ⟨a, bs, b, rfl, rfl, hs, q⟩ := h
  cases rx
  obtain ⟨u, rfl, ru⟩ := rxs.one
  have eu : u = .bool b := ru
  subst eu
  obtain ⟨its, rv, ⟨ob, n, ho, hc, hdn, hd⟩, hlen⟩ := I.list hs
  obtain ⟨cl, dc, da, sl⟩ := ob
  simp only at hc hd
  cases hc
  cases hd
  obtain ⟨g1, g2⟩ := vals_isB (b := b) rv
  refine call_meets PySem.F.slot_list_count ⟨_, ho, rfl⟩ PySem.F.entry_list_count (PySem.F.args_list_count_2 _ _) (SeqAt.list_countAt a its.toArray n dc sl (.bool b) (isB b)) ⟨ho, fun y hy => (by
    obtain ⟨c, rfl⟩ := g1 y (by simpa using hy)
    exact SeqAt.EqAt.bool_bool c b), ?_⟩
  refine ⟨.int (bs.count b : Nat), H, I.tok _, ⟨s.toks, ?_⟩, q⟩
  show Value.int ((its.countP (isB b) : Nat) : Int) s.toks = _
  rw [g2]
theorem RFs.bls {Fz : Addr → Prop} {H : Hp} : ∀ {ds : List D} {vs : List V} {l : List Bool}, RFs G Fz H ds vs → toBls ds = some l → vs = l.map V.bl
  | [], _, _, h, e => by rw [show _ = [] from h]; simp [Eg.toBls] at e; subst e; rfl
  | d :: ds, _, l, ⟨v, r, e1, h, t⟩, e => by
    cases d <;> simp [Eg.toBls] at e
    obtain ⟨a, ha, e⟩ := e
    subst e; subst e1
    rw [show v = _ from h, RFs.bls t ha]
    rfl
theorem rB_ctL {K : PySem.W.Frag} {x y : V} {H : Hp} {Q : VK} (hK : K = G.K) (h : rB G .cntL [x, y] H Q) : rCntB K x [y] H Q := by
  obtain ⟨Fz, d1, d2, d, r1, r2, e, c⟩ := rB2 h
  simp only [F2] at e
  cases d1 <;> simp only [fCnt, reduceCtorEq] at e
  cases d2 <;> simp only [reduceCtorEq] at e
  obtain ⟨l, e2, rfl⟩ := Option.map_eq_some_iff.mp e
  obtain ⟨a, xs, e1, q1, t1⟩ := r1
  have sq : SqL K H a xs := .inl (.inl q1)
  have := RFs.bls t1 e2
  subst this
  exact ⟨a, l, _, e1, by rw [show y = _ from r2], sq, c.val rfl (by intro _ z; cases z)⟩
theorem rB_ixT {K : PySem.W.Frag} {x y : V} {H : Hp} {Q : VK} (hK : K = G.K) (h : rB G .indexT [x, y] H Q) : ∃ a : Addr, x = .ref a ∧ (∃ xs, SqT K H a xs) ∧ rIndexT K x [y] H Q := by
  obtain ⟨Fz, d1, d2, d, r1, r2, e, c⟩ := rB2 h
  simp only [F2] at e
  cases d1 <;> simp only [fIndexT, reduceCtorEq] at e
  unfold idxD at e
  split at e
  case isFalse => cases e
  rename_i hf
  simp only [Bool.and_eq_true] at hf
  obtain ⟨j, e2, rfl⟩ := Option.map_eq_some_iff.mp e
  obtain ⟨a, xs, e1, q1, t1⟩ := r1
  have r2' : RF G Fz H d2 y := by cases d2 <;> first | exact r2 | simp [Eg.flat] at hf
  obtain ⟨h1, h2⟩ := RFs.findV r2' hf.1 t1 hf.2
  rw [e2] at h2
  obtain ⟨⟨z, hz, hzj⟩, hno⟩ := rIx_fst h2
  have sq : SqT K H a xs := by rw [hK]; exact q1.sq
  exact ⟨a, e1, ⟨xs, sq⟩, a, xs, y, j, z, e1, rfl, sq, RF.flat r2' hf.1, h1, hz, hzj, hno, c.old rfl⟩
theorem cc_divmod : CallR X (.builtin "divmod") (rB G .divmod) := by
  intro pins s σ H vs us Q I r h
  obtain ⟨x, y, rfl⟩ := rB_two h rfl rfl
  obtain ⟨Fz, d1, d2, d, r1, r2, e, c⟩ := rB2 h
  simp only [F2] at e
  cases d1 <;> simp only [fInt2, reduceCtorEq] at e
  cases d2 <;> simp only [reduceCtorEq] at e
  rename_i i j
  split at e
  case isFalse => cases e
  rename_i hc
  cases e
  refine call_divmodW pins s σ H _ us Q I r ⟨i, j, by rw [show x = _ from r1, show y = _ from r2], ⟨hc.1, PyProof.noPylong_of_log2 (log2_64 hc.1 hc.2)⟩, fun p hp => ?_⟩
  exact Cont.tup c ⟨.int (i / j), [.int (i % j)], rfl, rfl, .int (i % j), [], rfl, rfl, rfl⟩ hp
theorem cc_abs : CallR X (.builtin "abs") (rB G .abs) := by
  intro pins s σ H vs us Q I r h
  obtain ⟨x, rfl⟩ := rB_one h rfl rfl
  obtain ⟨Fz, d1, d, r1, e, c⟩ := rB1 h
  simp only [F1] at e
  cases d1 <;> simp [fInt1] at e
  subst e
  exact call_abs pins s σ H _ us Q I r ⟨_, by rw [show x = _ from r1], c.old rfl⟩
theorem cc_len (hK : X.K = G.K) : CallR X (.builtin "len") (rB G .len) := by
  intro pins s σ H vs us Q I r h
  obtain ⟨x, rfl⟩ := rB_one h rfl rfl
  obtain ⟨Fz, d1, d, r1, e, c⟩ := rB1 h
  simp only [F1] at e
  cases d1 <;> simp [fLen] at e
  · obtain ⟨hz, e⟩ := e
    subst e
    exact call_len_str pins s σ H _ us Q I r ⟨_, by rw [show x = _ from r1], by rw [← maxLen_eq]; exact hz, c.old rfl⟩
  · subst e
    obtain ⟨a, ls, e1, q1, t1⟩ := r1
    exact call_len_seq pins s σ H _ us Q I r ⟨a, ls, by rw [e1], .inr (by rw [hK]; exact q1.sq), by rw [t1.length]; exact c.old rfl⟩
  · subst e
    obtain ⟨a, ls, e1, q1, t1⟩ := r1
    exact call_len_seq pins s σ H _ us Q I r ⟨a, ls, by rw [e1], .inl (.inl (.inl q1)), by rw [t1.length]; exact c.old rfl⟩
  · subst e
    obtain ⟨a, ls, e1, q1, t1⟩ := r1
    exact call_len_seq pins s σ H _ us Q I r ⟨a, ls, by rw [e1], .inl (by rw [hK]; exact q1.sq), by rw [t1.length]; exact c.old rfl⟩
theorem cc_int : CallR X (.type "int") (rB G .intC) := by
  intro pins s σ H vs us Q I r h
  obtain ⟨x, rfl⟩ := rB_one h rfl rfl
  obtain ⟨Fz, d1, d, r1, e, c⟩ := rB1 h
  simp only [F1] at e
  cases d1 <;> simp [fIntC] at e
  · subst e
    exact call_int1 pins s σ H _ us Q I r (.inr ⟨_, by rw [show x = _ from r1], c.old rfl⟩)
  · subst e
    exact call_int1 pins s σ H _ us Q I r (.inl ⟨_, by rw [show x = _ from r1], c.old rfl⟩)
theorem cc_max2 (hc : X.calm = true) : CallR X (.builtin "max") (rB G .max2) := by
  intro pins s σ H vs us Q I r h
  obtain ⟨x, y, rfl⟩ := rB_two h rfl rfl
  obtain ⟨Fz, d1, d2, d, r1, r2, e, c⟩ := rB2 h
  simp only [F2] at e
  cases d1 <;> simp [fInt2] at e <;> cases d2 <;> simp at e
  subst e
  exact call_max2 hc pins s σ H _ us Q I r ⟨_, _, by rw [show x = _ from r1, show y = _ from r2], c.old rfl⟩
theorem cc_min2 (hc : X.calm = true) : CallR X (.builtin "min") (rB G .min2) := by
  intro pins s σ H vs us Q I r h
  obtain ⟨x, y, rfl⟩ := rB_two h rfl rfl
  obtain ⟨Fz, d1, d2, d, r1, r2, e, c⟩ := rB2 h
  simp only [F2] at e
  cases d1 <;> simp [fInt2] at e <;> cases d2 <;> simp at e
  subst e
  exact call_min2 hc pins s σ H _ us Q I r ⟨_, _, by rw [show x = _ from r1, show y = _ from r2], c.old rfl⟩
theorem fLst_cases {Fz : Addr → Prop} {H : Hp} {f : List D → Option D} {d1 d : D} {v : V} (r : RB G Fz H d1 v) (e : fLst f d1 = some d) : ∃ ds a xs, f ds = some d ∧ v = .ref a ∧ H a = some (.lst xs) ∧ RFs G Fz H ds xs := by
  cases d1 <;> simp [fLst] at e
  obtain ⟨a, ls, e1, q1, t1⟩ := r
  exact ⟨_, a, ls, e, e1, q1, t1⟩
theorem RFs.toBls {Fz : Addr → Prop} {H : Hp} : ∀ {ds : List D} {vs : List V} {l : List Bool}, RFs G Fz H ds vs → toBls ds = some l → vs = l.map V.bl
  | [], _, _, h, e => by rw [show _ = [] from h]; simp [Eg.toBls] at e; subst e; rfl
  | d :: ds, _, l, ⟨v, r, e1, h, t⟩, e => by
    cases d <;> simp [Eg.toBls] at e
    obtain ⟨a, ha, e⟩ := e
    subst e; subst e1
    rw [show v = _ from h, RFs.toBls t ha]
    rfl
theorem cc_sum (hc : X.calm = true) : CallR X (.builtin "sum") (rB G .sumL) := by
  intro pins s σ H vs us Q I r h
  obtain ⟨x, rfl⟩ := rB_one h rfl rfl
  obtain ⟨Fz, d1, d, r1, e, c⟩ := rB1 h
  obtain ⟨ds, a, xs, e', rfl, q1, t1⟩ := fLst_cases r1 e
  simp only [Option.map_eq_some_iff] at e'
  obtain ⟨l, e', rfl⟩ := e'
  have := RFs.toInts t1 e'
  subst this
  exact cr_sum hc pins s σ H _ us Q I r ⟨a, l, rfl, .inl (.inl q1), c.old rfl⟩
theorem minF_mem : ∀ (r : List Int) (x : Int), (r.foldl (fun a b => if b < a then b else a) x) ∈ x :: r ∧ ∀ y ∈ x :: r, (r.foldl (fun a b => if b < a then b else a) x) ≤ y
  | [], x => ⟨List.mem_cons_self, fun y hy => by rw [List.mem_singleton.mp hy]; exact Int.le_refl _⟩
  | z :: r, x => by
    obtain ⟨h1, h2⟩ := minF_mem r (if z < x then z else x)
    rw [List.foldl_cons]
    have le : (if z < x then z else x) ≤ z ∧ (if z < x then z else x) ≤ x ∧ ((if z < x then z else x) = z ∨ (if z < x then z else x) = x) := by
      split
      · exact ⟨Int.le_refl _, by omega, .inl rfl⟩
      · exact ⟨by omega, Int.le_refl _, .inr rfl⟩
    refine ⟨?_, fun y hy => ?_⟩
    · rcases List.mem_cons.mp h1 with e | m
      · rcases le.2.2 with q | q
        · rw [e, q]; simp
        · rw [e, q]; simp
      · exact List.mem_cons_of_mem _ (List.mem_cons_of_mem _ m)
    · have h0 := h2 _ List.mem_cons_self
      rcases List.mem_cons.mp hy with e | m
      · rw [e]; omega
      · rcases List.mem_cons.mp m with e | m
        · rw [e]; omega
        · exact h2 y (List.mem_cons_of_mem _ m)
theorem cc_minL (hc : X.calm = true) : CallR X (.builtin "min") (rB G .minL) := by
  intro pins s σ H vs us Q I r h
  obtain ⟨x, rfl⟩ := rB_one h rfl rfl
  obtain ⟨Fz, d1, d, r1, e, c⟩ := rB1 h
  obtain ⟨ds, a, xs, e', rfl, q1, t1⟩ := fLst_cases r1 e
  split at e'
  · rename_i y l q
    cases e'
    have := RFs.toInts t1 q
    subst this
    obtain ⟨m1, m2⟩ := minF_mem l y
    refine cr_min hc pins s σ H _ us Q I r ⟨a, y :: l, rfl, .inl (.inl q1), by simp, fun m h1 h2 => ?_⟩
    have : m = l.foldl (fun a b => if b < a then b else a) y := Int.le_antisymm (h2 _ m1) (m2 m h1)
    subst this
    exact c.old rfl
  · cases e'
theorem cc_all (hc : X.calm = true) : CallR X (.builtin "all") (rB G .allL) := by
  intro pins s σ H vs us Q I r h
  obtain ⟨x, rfl⟩ := rB_one h rfl rfl
  obtain ⟨Fz, d1, d, r1, e, c⟩ := rB1 h
  obtain ⟨ds, a, xs, e', rfl, q1, t1⟩ := fLst_cases r1 e
  simp only [Option.map_eq_some_iff] at e'
  obtain ⟨l, e', rfl⟩ := e'
  have := RFs.toBls t1 e'
  subst this
  exact cr_all hc pins s σ H _ us Q I r ⟨a, l, rfl, .inl (.inl q1), c.old rfl⟩
theorem cc_anyC (hc : CallR X (.builtin "any") (rAny X.K)) : CallR X (.builtin "any") (rB G .anyL) := by
  intro pins s σ H vs us Q I r h
  obtain ⟨x, rfl⟩ := rB_one h rfl rfl
  obtain ⟨Fz, d1, d, r1, e, c⟩ := rB1 h
  obtain ⟨ds, a, xs, e', rfl, q1, t1⟩ := fLst_cases r1 e
  simp only [Option.map_eq_some_iff] at e'
  obtain ⟨l, e', rfl⟩ := e'
  have := RFs.toBls t1 e'
  subst this
  exact hc pins s σ H _ us Q I r ⟨a, l, rfl, .inl (.inl q1), c.old rfl⟩
theorem cc_list (hK : X.K = G.K) : CallR X (.type "list") (rB G .listC) := by
  intro pins s σ H vs us Q I r h
  obtain ⟨x, rfl⟩ := rB_one h rfl rfl
  obtain ⟨Fz, d1, d, r1, e, c⟩ := rB1 h
  obtain ⟨ds, a, xs, e', rfl, q1, t1, _⟩ := fSeq_cases r1 e
  cases e'
  exact call_list_of pins s σ H _ us Q I r ⟨a, xs, rfl, by rw [hK]; exact q1, fun p hp => Cont.lst c t1 hp⟩
theorem cc_tuple (hK : X.K = G.K) : CallR X (.type "tuple") (rB G .tupleC) := by
  intro pins s σ H vs us Q I r h
  obtain ⟨x, rfl⟩ := rB_one h rfl rfl
  obtain ⟨Fz, d1, d, r1, e, c⟩ := rB1 h
  obtain ⟨ds, a, xs, e', rfl, q1, t1, z1, z2⟩ := fSeq_cases r1 e
  cases e'
  by_cases hn : ∃ es, d1 = .tup es
  · obtain ⟨es, rfl⟩ := hn
    obtain ⟨rfl, ft⟩ := z1 es rfl
    exact call_tuple_of pins s σ H _ us Q I r ⟨a, xs, rfl, .inr ⟨by rw [hK]; exact ft.sq, c.old ⟨a, xs, rfl, ft, t1⟩⟩⟩
  · exact call_tuple_of pins s σ H _ us Q I r ⟨a, xs, rfl, .inl ⟨by rw [hK]; exact z2 fun es z => hn ⟨es, z⟩, fun p hp => Cont.tup c t1 hp⟩⟩
theorem cc_str : CallR X (.type "str") (rB G .strI) := by
  intro pins s σ H vs us Q I r h
  obtain ⟨x, rfl⟩ := rB_one h rfl rfl
  obtain ⟨Fz, d1, d, r1, e, c⟩ := rB1 h
  simp only [F1] at e
  cases d1 <;> simp only [fInt1, Option.ite_none_right_eq_some, Option.some.injEq, reduceCtorEq] at e
  obtain ⟨hz, e⟩ := e
  subst e
  rename_i i
  refine call_str_int pins s σ H _ us Q I r ⟨i, by rw [show x = _ from r1], ?_, c.old rfl⟩
  by_cases h0 : i.natAbs = 0
  · rw [h0]; decide
  · have := (Nat.log2_lt h0).mpr hz
    omega
theorem sorted_tuple (hK : X.K = G.K) {pins : List (Addr × Obj)} {s : Shared} {σ : L2.St} {H : Hp} {Q : VK} {a : Addr} {ns : List Int} (I : L2.Inv X pins σ H s) (hs : SqT X.K H a (ns.map V.int)) (h64 : ns.length < 64)
    (q : ∀ (ns' : List Int) (p : Addr), ns'.Perm ns → ns'.Pairwise (· ≤ ·) → H p = none → Q (.ref p) (upd H p (.lst (ns'.map V.int)))) : wpAny (model X.prog X.w) X.A (call (.builtin "sorted") [.ref a]) (EP X pins σ Q) X.xe s := by
  obtain ⟨its, rv, hl, _⟩ := I.tuple hs
  have hi := rv.ints
  refine sorted_ints_tuple (show s.heap.IsTuple a its.toArray from hl) hi (by rw [hi.length]; exact h64) fun out ns' h1 h2 h3 => ?_
  obtain ⟨ep, he'⟩ := PyProof.Rows.sortedAll_at s.heap its out
  have hlen : (ns'.map V.int).length ≤ sizeLine := by rw [List.length_map, h2.length_eq, sizeLine_eq]; omega
  exact ⟨.ref _, upd H (s.heap.objs.size + 1) (.lst (ns'.map V.int)), I.laid (t' := s.toks) (fun _ _ => PyProof.Rows.sortedAll_old) (Nat.le_succ _) ⟨hlen, out.toList, ep, vals_of_ints h1, he'⟩, rfl, q ns' _ h2 h3 (I.hok.fresh (Nat.le_succ _))⟩
theorem cc_sorted (hK : X.K = G.K) (hu : X.A.units + 64 < cLine) : CallR X (.builtin "sorted") (rB G .sorted) := by
  intro pins s σ H vs us Q I r h
  obtain ⟨x, rfl⟩ := rB_one h rfl rfl
  obtain ⟨Fz, d1, d, r1, e, c⟩ := rB1 h
  simp only [F1] at e
  by_cases hT : isTL d1 = true
  · rw [if_pos hT] at e
    cases e
    cases d1 <;> first | (cases hT; done) | skip
    obtain ⟨a, xs, rfl, q1, t1⟩ := r1
    simp only [isTL, Bool.and_eq_true, List.all_eq_true] at hT
    rw [Vals.ref1 r]
    exact sortT_run hK hu I t1 (.inl (.inl q1)) hT.2 fun p vs hp rr => Cont.lst c rr hp
  rw [if_neg hT] at e
  obtain ⟨ds, a, xs, e', rfl, q1, t1, z1, z2⟩ := fSeq_cases r1 e
  simp only [Option.ite_none_right_eq_some, Option.map_eq_some_iff] at e'
  obtain ⟨hz, l, e', rfl⟩ := e'
  have := RFs.toInts t1 e'
  subst this
  have hl : l.length < 64 := by have := t1.length; rw [List.length_map] at this; omega
  have fin : ∀ (ns' : List Int) (p : Addr), ns'.Perm l → ns'.Pairwise (· ≤ ·) → H p = none → Q (.ref p) (upd H p (.lst (ns'.map V.int))) := fun ns' p h1 h2 hp => by
    rw [sortI_eq h1 h2]
    exact Cont.lst c (RFs.intsD _) hp
  rw [← hK] at q1
  rcases q1 with q1 | q1
  · exact cr_sorted pins s σ H _ us Q I r ⟨a, l, rfl, q1, hl, fin⟩
  · rw [Vals.ref1 r]
    exact sorted_tuple hK I q1 hl fin
end
end Eg

end
section
set_option maxHeartbeats 4000000
namespace Eg
open PySem PySem.Spec PyProof.Rows L2

/-! ### the text of an expression against its form -/
inductive Kd where
  | bin (op : Operator) | cmp (op : CmpOp) | neg | idx | slL | slU | slRev | fnB (n : String) | fnT (n : String) | isi (t : String) | isx (x : Str) | mth (n : String) | lrng1 | lrng2 | trng2 | join | it
def isiT : Nat → String
  | 0 => "int"
  | 1 => "bool"
  | 2 => "str"
  | 3 => "tuple"
  | 4 => "list"
  | _ => "?"
def kd : BI → Kd
  | .add => .bin .Add
  | .sub => .bin .Sub
  | .mul => .bin .Mult
  | .fdiv => .bin .FloorDiv
  | .mod => .bin .Mod
  | .pow => .bin .Pow
  | .neg => .neg
  | .eq => .cmp .Eq
  | .ne => .cmp .NotEq
  | .lt => .cmp .Lt
  | .le => .cmp .LtE
  | .gt => .cmp .Gt
  | .ge => .cmp .GtE
  | .is_ => .cmp .Is
  | .isnot => .cmp .IsNot
  | .in_ => .cmp .In
  | .notin => .cmp .NotIn
  | .idx => .idx
  | .slL => .slL
  | .slU => .slU
  | .slRev => .slRev
  | .slRevT => .slRev
  | .len => .fnB "len"
  | .abs => .fnB "abs"
  | .intC => .fnT "int"
  | .strI => .fnT "str"
  | .sorted => .fnB "sorted"
  | .sumL => .fnB "sum"
  | .allL => .fnB "all"
  | .anyL => .fnB "any"
  | .minL => .fnB "min"
  | .max2 => .fnB "max"
  | .min2 => .fnB "min"
  | .listC => .fnT "list"
  | .tupleC => .fnT "tuple"
  | .lrng1 => .lrng1
  | .lrng2 => .lrng2
  | .trng2 => .trng2
  | .isi k => .isi (isiT k)
  | .isx x _ => .isx x
  | .join => .join
  | .rng1 => .it
  | .rng2 => .it
  | .rng3 => .it
  | .enumI => .it
  | .enumT => .it
  | .indexL => .mth "index"
  | .cntL => .mth "count"
  | .indexT => .mth "index"
  | .divmod => .fnB "divmod"
  | .zipI => .it
  | .enumZ => .it
  | .revI => .it
def gl (sc : Scope) (x : Str) : Bool := decide (sc.names.lookup x = some .globalImplicit)
def plainI : Expr → Bool
  | .Slice _ _ _ _ => false
  | _ => true
def noStar : Expr → Bool
  | .Starred _ _ => false
  | _ => true
def noSuper : Expr → Bool
  | .Call (.Name _ _) [] [] _ => false
  | _ => true
def noSet : Expr → Bool
  | .Set _ _ _ => false
  | _ => true
def dBin (op : Operator) : Expr → Option (List Expr)
  | .BinOp l op' r _ => if op' = op then some [l, r] else none
  | _ => none
def dCmp (op : CmpOp) : Expr → Option (List Expr)
  | .Compare l [op'] [r] _ => if op' = op ∧ noSet r = true then some [l, r] else none
  | _ => none
def dNeg : Expr → Option (List Expr)
  | .UnaryOp .USub x _ => some [x]
  | _ => none
def dIdx : Expr → Option (List Expr)
  | .Subscript v i _ => if plainI i = true then some [v, i] else none
  | _ => none
def dSlLU : Expr → Option (List Expr)
  | .Subscript v (.Slice (some a) (some b) none _) _ => some [v, a, b]
  | _ => none
def dSlL : Expr → Option (List Expr)
  | .Subscript v (.Slice (some a) none none _) _ => some [v, a]
  | _ => none
def dSlU : Expr → Option (List Expr)
  | .Subscript v (.Slice none (some b) none _) _ => some [v, b]
  | _ => none
def dSlRev : Expr → Option (List Expr)
  | .Subscript v (.Slice none none (some (.UnaryOp .USub (.Constant (.int i) _ _) _)) _) _ => if i = 1 then some [v] else none
  | _ => none
def dFn (sc : Scope) (n : String) : Expr → Option (List Expr)
  | .Call (.Name f _) (a :: as) [] _ => if f = Str.ofString n ∧ gl sc f = true then some (a :: as) else none
  | _ => none
def dIsi (sc : Scope) (t : String) : Expr → Option (List Expr)
  | .Call (.Name f _) [a, .Name c _] [] _ => if f = "isinstance" ∧ gl sc f = true ∧ c = Str.ofString t ∧ gl sc c = true ∧ t ≠ "?" then some [a] else none
  | _ => none
def dIsx (sc : Scope) (x : Str) : Expr → Option (List Expr)
  | .Call (.Name f _) [a, .Name c _] [] _ => if f = "isinstance" ∧ gl sc f = true ∧ c = x ∧ gl sc c = true then some [a] else none
  | _ => none
def dRg1 (sc : Scope) (n : String) : Expr → Option (List Expr)
  | .Call (.Name f _) [.Call (.Name g _) [a] [] _] [] _ => if f = Str.ofString n ∧ gl sc f = true ∧ g = "range" ∧ gl sc g = true then some [a] else none
  | _ => none
def dRg2 (sc : Scope) (n : String) : Expr → Option (List Expr)
  | .Call (.Name f _) [.Call (.Name g _) [a, b] [] _] [] _ => if f = Str.ofString n ∧ gl sc f = true ∧ g = "range" ∧ gl sc g = true then some [a, b] else none
  | _ => none
def dMt (n : String) : Expr → Option (List Expr)
  | .Call (.Attribute o m ap) [a] [] p => if m = Str.ofString n ∧ (ap.endLine == p.line) = true ∧ noSuper o = true then some [o, a] else none
  | _ => none
def dIt (sc : Scope) (o : BI) (e : Expr) : Option (List Expr) := match o with
  | .rng1 => match dFn sc "range" e with
    | some [a] => some [a]
    | _ => none
  | .rng2 => match dFn sc "range" e with
    | some [a, b] => some [a, b]
    | _ => none
  | .rng3 => match dFn sc "range" e with
    | some [a, b, c] => some [a, b, c]
    | _ => none
  | .enumI => match dFn sc "enumerate" e with
    | some [a] => some [a]
    | _ => none
  | .enumT => match dFn sc "enumerate" e with
    | some [a] => some [a]
    | _ => none
  | .enumZ => match dFn sc "enumerate" e with
    | some [z] => match dFn sc "zip" z with
      | some [a, b] => some [a, b]
      | _ => none
    | _ => none
  | .zipI => match dFn sc "zip" e with
    | some [a, b] => some [a, b]
    | _ => none
  | .revI => match dFn sc "reversed" e with
    | some [a] => some [a]
    | _ => none
  | _ => none
def isIt (o : BI) : Bool := match kd o with
  | .it => true
  | _ => false
def dec (sc : Scope) (o : BI) : Expr → Option (List Expr) := match kd o with
  | .bin op => dBin op
  | .cmp op => dCmp op
  | .neg => dNeg
  | .idx => dIdx
  | .slL => dSlL
  | .slU => dSlU
  | .slRev => dSlRev
  | .fnB n => dFn sc n
  | .fnT n => dFn sc n
  | .isi t => dIsi sc t
  | .isx x => dIsx sc x
  | .lrng1 => dRg1 sc "list"
  | .lrng2 => dRg2 sc "list"
  | .trng2 => dRg2 sc "tuple"
  | .join => dMt "join"
  | .mth n => dMt n
  | .it => dIt sc o

/-! ### small facts of the model's trees -/
theorem star_cons {e : Expr} {es : List Expr} {env : Env} (h : noStar e = true) : starEach (e :: es) env = (false, eval e env) :: starEach es env := by
  cases e <;> first | rfl | simp [noStar] at h
theorem any_star : ∀ (es : List Expr) (env : Env) (pos : Pos), (∀ e ∈ es, noStar e = true) → (backTo pos (starEach es env)).any (·.1) = false
  | [], _, _, _ => rfl
  | e :: es, env, pos, h => by
    rw [star_cons (h e List.mem_cons_self)]
    cases es with
    | nil => rfl
    | cons f fs =>
      have ih := any_star (f :: fs) env pos fun x hx => h x (List.mem_cons_of_mem _ hx)
      rw [star_cons (h f (by simp))] at ih ⊢
      simpa [backTo] using ih
theorem plain_ix {i : Expr} (h : plainI i = true) : PlainIx i := by
  intro o v
  cases i <;> first | rfl | simp [plainI] at h
theorem not_behind {op : CmpOp} {r : Expr} (h : noSet r = true) : behindInMarks op r = false := by
  cases r <;> first | rfl | simp [noSet] at h
theorem folded {e : Expr} (h : noSet e = true) (env : Env) (x : Value) : foldedSetIterable e env x = pure x := by
  cases e <;> first | rfl | simp [noSet] at h
theorem base_super {o : Expr} {m : Str} {env : Env} (h : noSuper o = true) : attributeBase o m env (eval o env) = eval o env := by
  unfold attributeBase
  split
  · rename_i id p1 p2
    simp [noSuper] at h
  · rfl

/-! ### what stands around an expression -/
def bltNames : List String := ["len", "abs", "int", "str", "sorted", "sum", "all", "any", "max", "min", "list", "tuple", "isinstance", "bool", "range", "enumerate", "zip", "reversed", "dict", "set", "repr", "divmod", "ValueError"]
def vis (sc : Scope) (x : Str) : Bool := match sc.names.lookup x with
  | some .local => true
  | some .cell => true
  | some .free => true
  | _ => false
def sto (sc : Scope) (x : Str) : Bool := match sc.names.lookup x with
  | some .local => true
  | some .cell => true
  | _ => false
/-- a def's promise: what the evaluation says -/
def AR (G : Gx) (Fz : Addr → Prop) (H : Hp) : List Ty → List D → List V → List (Addr → Prop) → Prop
  | [], [], [], [] => True
  | t :: ts, d :: ds, v :: vs, S :: Ss => RO G Fz H t d v S ∧ d ≠ .unset ∧ AR G Fz H ts ds vs Ss
  | _, _, _, _ => False
def ownL (Ss : List (Addr → Prop)) : Nat → Addr → Prop := fun i b => ∃ S, Ss[i]? = some S ∧ S b
/-- what stands behind a call: the arguments that were handed in by name, changed -/
def IoR (G : Gx) (Fz : Addr → Prop) (H : Hp) (io : List Nat) (ps : List D) (vs : List V) (own : Nat → Addr → Prop) : Prop :=
  ps.length = io.length ∧ (∀ j p d, io[j]? = some p → ps[j]? = some d → d ≠ .unset ∧ ∃ v, vs[p]? = some v ∧ RO G Fz H .o d v (own j)) ∧ ∀ j b, own j b → j < io.length
def spF (G : Gx) (pt : List Ty) (rt : Ty) (io : List Nat) (run : List D → CR) : Sp := fun vs H Q E => ∃ Fz ds Ss, AR G Fz H pt ds vs Ss ∧ (∀ i j b, ownL Ss i b → ownL Ss j b → i = j) ∧ (∀ i b, ownL Ss i b → ¬ Fz b) ∧
  match run ds with
  | .ok d ps => ∀ v H' Fz' own' S, RO G Fz' H' rt d v S → (∀ b, S b → ¬ Fz' b) → IoR G Fz' H' io ps vs own' → (∀ j b, own' j b → ¬ Fz' b ∧ ¬ S b) → (∀ i j b, own' i b → own' j b → i = j) →
      Fr Fz H (OW (ownL Ss)) Fz' H' → (∀ b, OW own' b ∨ S b → OW (ownL Ss) b ∨ H b = none) → Q v H'
  | .exc c ps => ∀ H' Fz' own', IoR G Fz' H' io ps vs own' → (∀ j b, own' j b → ¬ Fz' b) → (∀ i j b, own' i b → own' j b → i = j) → Fr Fz H (OW (ownL Ss)) Fz' H' → (∀ b, OW own' b → OW (ownL Ss) b ∨ H b = none) → E (G.xv c) none H'
  | .no => False
/-- the defs of the text: names, parameters' and answers' kinds, which parameters are changed -/
structure Fx where
  nm : Nat → Str
  pt : Nat → List Ty
  rt : Nat → Ty
  io : Nat → List Nat
  dom : Nat → Bool
  xq : Str → Nat → Bool
  hd : Nat → Bool
def Fk (L : Lx) (U : Fx) (k : Nat) (X : Cx) (f : Nat) : Prop := ∃ (a : Addr) (fd : FuncData) (ps : List Str), X.mg (U.nm f) = some (.ref a) ∧ PySem.W.keepIn X.K (.ref a) = true ∧ Binds X.K fd ps [] ∧
  FnOk X.prog X.w X.K X.mg X.base (L2N.CX X.prog X.w) k a fd ps (spF L.G (U.pt f) (U.rt f) (U.io f) (L.fc f))
/-! ### defs that are called while an exception is in hand -/
/-- what is in hand: where it lies, of which class -/
structure Inh (G : Gx) (A : Around) (c : Nat) (p : Addr × Obj) : Prop where
  ok : excOk c = true
  one : L2H.Hot1 A p
  cl : ∃ D : Addr, G.xv c = .ref D ∧ ExcC G.K D ∧ Zc (.ref D) none p.2
abbrev Gx.hold (G : Gx) (c : Nat) (e : Addr) : Gx := { G with XA := fun c' v => c' = c ∧ v = .ref e }
/-- what such a def promises: nothing is let out -/
structure Hfn (P : Program) (w : World) (K : PySem.W.Frag) (mg : Str → Option Value) (base : Heap) (G : Gx) (k : Nat) (f : Addr) (fd : FuncData) (ps : List Str) (pt : List Ty) (rt : Ty) (io : List Nat) (rn : List D → CR) : Prop where
  lp : pt.length = ps.length
  go : ∀ (c : Nat) (p : Addr × Obj) (A : Around) (fr : List Env) (s : Shared) (H : Hp) (gs : Args) (us : List Value) (vs : List V) (Q : VK), Inh G A c p → L2H.RoomH k A → L2H.PinOk fr H s p →
    Env0 P w K mg base A fr s H → BindsTo s fd gs (ps.zip us) → Vals vs us → spF (G.hold c p.1) pt rt io rn vs H Q (fun _ _ _ => False) →
      codeAny (model P w) A (.call (.ref f) gs) (L2.CR (L2N.CX P w) fr P w H s Q fun _ _ _ => False) s
theorem AR.len {G : Gx} {Fz : Addr → Prop} {H : Hp} : ∀ {ts : List Ty} {ds : List D} {vs : List V} {Ss : List (Addr → Prop)}, AR G Fz H ts ds vs Ss → ds.length = ts.length ∧ vs.length = ts.length ∧ Ss.length = ts.length
  | [], [], [], [], _ => ⟨rfl, rfl, rfl⟩
  | _ :: _, _ :: _, _ :: _, _ :: _, h => by
    obtain ⟨h1, h2, h3⟩ := AR.len h.2.2
    simp only [List.length_cons, h1, h2, h3, and_self]
theorem Hfn.call {X : Cx} {G : Gx} {k : Nat} {f : Addr} {fd : FuncData} {ps : List Str} {pt : List Ty} {rt : Ty} {io : List Nat} {rn : List D → CR} (F : Hfn X.prog X.w X.K X.mg X.base G k f fd ps pt rt io rn) (hr : L2H.RoomH k X.A) {c : Nat} {p : Addr × Obj}
    (hi : Inh G X.A c p) (hm : p ∈ X.pn) (hb : Binds X.K fd ps []) : CallR X (.ref f) fun vs H Q => spF (G.hold c p.1) pt rt io rn vs H Q fun _ _ _ => False := by
  intro pins s σ H vs us Q I r h
  have hl : us.length = ps.length := by
    obtain ⟨_, _, _, ar, _⟩ := h
    rw [← r.length, ar.len.2.1, F.lp]
  have b := hb s us I.kIn (by rw [List.append_nil]; exact hl)
  rw [List.append_nil] at b
  obtain ⟨p1, p2, p3, p4, p5⟩ := I.pin p (List.mem_append_left _ hm)
  have po : L2H.PinOk X.stack H s p := ⟨p1, p2, fun z => by
    rcases List.mem_cons.mp (I.stkSub p.1 z) with z | z
    · exact p3 z
    · exact p4 z, p5⟩
  refine wpAny_call (codeAny_mono (F.go c p X.A X.stack s H ⟨us, []⟩ us vs Q hi hr po I.env0 b r h) fun a s' q => ?_)
  cases a with
  | ok fl => cases fl <;> first | exact I.after q | exact q.elim
  | error e =>
    obtain ⟨_, _, _, _, _, _, _, _, _, _, _, _, _, z⟩ := q
def Fq (L : Lx) (U : Fx) (k : Nat) (X : Cx) (f : Nat) : Prop := ∃ (a : Addr) (fd : FuncData) (ps : List Str), X.mg (U.nm f) = some (.ref a) ∧ PySem.W.keepIn X.K (.ref a) = true ∧ Binds X.K fd ps [] ∧
  Hfn X.prog X.w X.K X.mg X.base L.G k a fd ps (U.pt f) (U.rt f) (U.io f) (L.fc f)
def Fp (L : Lx) (U : Fx) (X : Cx) (f : Nat) : Prop := ∃ a : Addr, X.mg (U.nm f) = some (.ref a) ∧ PySem.W.keepIn X.K (.ref a) = true ∧ CallR X (.ref a) fun vs H Q => spF L.G (U.pt f) (U.rt f) (U.io f) (L.fc f) vs H Q fun _ _ _ => False
structure Ct (L : Lx) (U : Fx) (N : List Str) (k : Nat) (sc : Scope) (GL : Str → D → Bool) (X : Cx) : Prop where
  hN : X.N = N
  nd : N.Nodup
  hv : ∀ x, vis sc x = true → Vis X.env.scope x
  hg : ∀ x, gl sc x = true → Gl X x
  hs : ∀ x, sto sc x = true → Loc X.env.scope x ∧ (X.fn x = true ∨ X.env.scope.names.lookup x = some .local)
  hK : X.K = L.G.K
  calm : L.hot = false → X.calm = true
  tk : L2N.Takes X L.W
  anyC : CallR X (.builtin "any") (rAny X.K)
  xi : L.hot = true → ∀ x k, U.xq x k = true → gl sc x = true → ∃ (C : V) (R : List V → Hp → VK → Prop), (∀ p, PE X (.Name x p) (tC C)) ∧ CallR X (.builtin "isinstance") R ∧ ∀ c v H Q, L.G.XA c v → Q (.bl (subX c k)) H → R [v, C] H Q
  un : X.A.units + 70 < cLine
  mb : ∀ n ∈ bltNames, X.mg (Str.ofString n) = none
  gc : ∀ x d, GL x d = true → ∃ u v, X.mg x = some u ∧ RelV v u ∧ ∀ Fz H, RF L.G Fz H d v
  hc : ∀ x, (sc.names.lookup x = some .cell ∨ sc.names.lookup x = some .free) → (X.env.scope.names.lookup x = some .cell ∨ X.env.scope.names.lookup x = some .free)
  room : L.hot = false → Room k X.A
  fk : L.hot = false → ∀ f, U.dom f = true → Fk L U k X f
  fq : L.hot = false → ∀ f, U.hd f = true → Fq L U k X f
  fp : L.hot = true → L.W = (fun _ _ _ _ => False) ∧ ∀ f, U.hd f = true → Fp L U X f
  rt : ∀ f, L.rt f = U.rt f
theorem PE.imp {X : Cx} {e : Expr} {t t' : TE} (h : PE X e t) (i : ∀ σ H Q, t' σ H Q → t σ H Q) : PE X e t' := ⟨fun pins s σ H Q I q => h.run pins s σ H Q I (i σ H Q q)⟩
/-- the arguments' texts, each as it is read -/
def APE (X : Cx) (L : Lx) : E → List Expr → Prop
  | .nil, [] => True
  | .cons a r, e :: es => PE X e (tP L a) ∧ noStar e = true ∧ APE X L r es
  | _, _ => False
section
variable {X : Cx} {L : Lx} {N : List Str} {sc : Scope} {GL : Str → D → Bool}
theorem APE.cons {a : E} {e : Expr} {es : List Expr} (h : APE X L a (e :: es)) : ∃ x r, a = .cons x r ∧ PE X e (tP L x) ∧ noStar e = true ∧ APE X L r es := by
  cases a with
  | cons x r => exact ⟨x, r, rfl, h⟩
  | _ => exact (h : False).elim
theorem APE.nil {a : E} (h : APE X L a []) : a = .nil := by
  cases a with
  | nil => rfl
  | _ => exact (h : False).elim
theorem APE.pa : ∀ {es : List Expr} {a : E}, APE X L a es → PA X es (tPs L a)
  | [], a, h => by rw [h.nil]; exact pa_nil
  | e :: es, a, h => by
    obtain ⟨x, r, rfl, h1, h2, h3⟩ := h.cons
    exact pa_cons h1 (APE.pa h3) (star_cons h2)
theorem APE.stars : ∀ {es : List Expr} {a : E}, APE X L a es → ∀ e ∈ es, noStar e = true
  | [], _, _, _, h => absurd h (by simp)
  | e :: es, a, h, x, m => by
    obtain ⟨y, r, rfl, h1, h2, h3⟩ := h.cons
    exact (List.mem_cons.mp m).elim (fun q => q ▸ h2) (APE.stars h3 x)
theorem APE.one {a : E} {e : Expr} (h : APE X L a [e]) : ∃ x, a = .cons x .nil ∧ PE X e (tP L x) ∧ noStar e = true := by
  obtain ⟨x, r, rfl, h1, h2, h3⟩ := h.cons
  rw [h3.nil]
  exact ⟨x, rfl, h1, h2⟩
theorem APE.two {a : E} {e f : Expr} (h : APE X L a [e, f]) : ∃ x y, a = .cons x (.cons y .nil) ∧ PE X e (tP L x) ∧ PE X f (tP L y) ∧ noStar e = true ∧ noStar f = true := by
  obtain ⟨x, r, rfl, h1, h2, h3⟩ := h.cons
  obtain ⟨y, rfl, h4, h5⟩ := h3.one
  exact ⟨x, y, rfl, h1, h4, h2, h5⟩
theorem APE.three {a : E} {e f g : Expr} (h : APE X L a [e, f, g]) : ∃ x y z, a = .cons x (.cons y (.cons z .nil)) ∧ PE X e (tP L x) ∧ PE X f (tP L y) ∧ PE X g (tP L z) := by
  obtain ⟨x, r, rfl, h1, h2, h3⟩ := h.cons
  obtain ⟨y, z, rfl, h4, h5, _⟩ := h3.two
  exact ⟨x, y, z, rfl, h1, h4, h5⟩
/-- the operation on what is read -/
def tB (L : Lx) (o : BI) (a : E) : TE := fun σ H Q => tPs L a σ H fun vs H1 => rB L.G o vs H1 Q
/-- the operation's reading, by the evaluation -/
theorem tB_of {o : BI} {a : E} (hl : lok L.Γ a = true) {σ : L2.St} {H : Hp} {Q : VK} (h : tE L (.bi o a) σ H Q) : tB L o a σ H Q := by
  obtain ⟨Fz, env, own, I, h⟩ := h
  refine tPs_ok a hl I ?_
  simp only [ev, R.bind] at h
  cases ea : ev L.fc a env with
  | no => rw [ea] at h; exact h
  | exc c e1 => rw [ea] at h; exact h
  | ok ds e1 =>
    rw [ea] at h
    simp only at h
    intro vs H1 Fz1 own1 I1 rbs rfs f1 o1
    cases eb : bop o ds with
    | none => rw [eb] at h; exact h.elim
    | some d =>
      rw [eb] at h
      obtain ⟨d', e', k⟩ := h
      cases e'
      refine ⟨Fz1, ds, d, rbs, eb, fun v H2 Fz2 S r n z f => ?_⟩
      refine k v H2 Fz2 own1 S (I1.fr0 f) r n (fun i b ob sb => ?_) (f1.trans f fun _ z => z.elim) o1 fun b sb => ?_
      · obtain ⟨u, e⟩ := I1.trk ob
        rw [z b sb] at e; cases e
      · by_cases m : MM own (eff a) b
        · exact .inl m
        · cases q : H b with
          | none => exact .inr rfl
          | some u => have := f1.keep b u q m; rw [z b sb] at this; cases this
end
end Eg

end
section
set_option maxHeartbeats 4000000
namespace Eg
open PySem PySem.Spec PyProof.Rows L2
section
variable {X : Cx} {L : Lx} {U : Fx} {k : Nat} {N : List Str} {sc : Scope} {GL : Str → D → Bool}
theorem pe_binK {o : BI} {op : Operator} {a : E} {l r : Expr} {pos : Pos} (ho : OpR X (binaryOp op) (fun x y H Q => rB L.G o [x, y] H Q)) (h : APE X L a [l, r]) : PE X (.BinOp l op r pos) (tB L o a) := by
  obtain ⟨x, y, rfl, h1, h2, _, _⟩ := h.two
  exact pe_op ho h1 h2
theorem pe_cmpK {o : BI} {op : CmpOp} {a : E} {l r : Expr} {pos : Pos} (ho : OpR X (compareOp op) (fun x y H Q => rB L.G o [x, y] H Q)) (h : APE X L a [l, r]) (hn : noSet r = true) : PE X (.Compare l [op] [r] pos) (tB L o a) := by
  obtain ⟨x, y, rfl, h1, h2, _, _⟩ := h.two
  exact pe_cmpR ho h1 h2 (not_behind hn)
theorem pe_slK (C : Ct L U N k sc GL X) {o : BI} {a : E} {v : Expr} {lo hi : Option Expr} {p2 pos : Pos} {tl th : TO} {x : E} (hv : PE X v (tP L x)) (hl : PO X lo tl) (hu : PO X hi th) {t : TE}
    (i : ∀ σ H Q, t σ H Q → tSl (rSl L.G) (tP L x) tl th σ H Q) : PE X (.Subscript v (.Slice lo hi none p2) pos) t :=
  PE.imp (pe_slice (sr_cut C.hK) hv hl hu) i
theorem rB_sl1 {x y : V} {H : Hp} {Q : VK} (h : rB L.G .slL [x, y] H Q) : ∃ i, y = .int i ∧ rSl L.G x (some i) none H Q := by
  obtain ⟨Fz, d1, d2, d, r1, r2, e, c⟩ := rB2 h
  simp only [F2] at e
  cases d2 <;> simp [fSl] at e
  exact ⟨_, r2, Fz, d1, d, r1, e, c⟩
theorem rB_sl0 {x y : V} {H : Hp} {Q : VK} (h : rB L.G .slU [x, y] H Q) : ∃ i, y = .int i ∧ rSl L.G x none (some i) H Q := by
  obtain ⟨Fz, d1, d2, d, r1, r2, e, c⟩ := rB2 h
  simp only [F2] at e
  cases d2 <;> simp [fSl] at e
  exact ⟨_, r2, Fz, d1, d, r1, e, c⟩
theorem tP_imp {e : E} {σ : L2.St} {H : Hp} {Q Q' : VK} (h : tP L e σ H Q) (i : ∀ v H', Q v H' → Q' v H') : tP L e σ H Q' := by
  obtain ⟨Fz, env, own, I, h⟩ := h
  refine ⟨Fz, env, own, I, ?_⟩
  cases ee : ev L.fc e env with
  | ok ds e1 =>
    rw [ee] at h
    obtain ⟨d, e2, k⟩ := h
    exact ⟨d, e2, fun v H' Fz' own' a b c d e => i v H' (k v H' Fz' own' a b c d e)⟩
  | exc c e1 => rw [ee] at h; exact h
  | no => rw [ee] at h; exact h
/-- a type's name -/
theorem ty_boot (k : Nat) (h : isiT k ≠ "?") : bootBuiltins (Str.ofString (isiT k)) = some (.type (isiT k)) ∧ isiT k ∈ bltNames ∧ (Str.ofString (isiT k) ≠ "__name__") ∧ ((Str.ofString (isiT k) == ("__debug__" : Str)) = false) := by
  match k, h with
  | 0, _ => exact ⟨by decide +kernel, by decide, by decide +kernel, by decide +kernel⟩
  | 1, _ => exact ⟨by decide +kernel, by decide, by decide +kernel, by decide +kernel⟩
  | 2, _ => exact ⟨by decide +kernel, by decide, by decide +kernel, by decide +kernel⟩
  | 3, _ => exact ⟨by decide +kernel, by decide, by decide +kernel, by decide +kernel⟩
  | 4, _ => exact ⟨by decide +kernel, by decide, by decide +kernel, by decide +kernel⟩
  | k + 5, h => exact absurd rfl h
theorem isi_ty {Fz : Addr → Prop} {H : Hp} {k : Nat} {d : D} {v : V} {b : Bool} (hk : isiT k ≠ "?") (hK : X.K = L.G.K) (r : RB L.G Fz H d v) (e : isI k d = some b) : ∃ t, TyX X.K H v t ∧ PySem.W.kitOne X.K t (.type (isiT k)) = some b := by
  have lt : k < 5 := by
    match k, hk with
    | 0, _ => decide
    | 1, _ => decide
    | 2, _ => decide
    | 3, _ => decide
    | 4, _ => decide
    | k + 5, h => exact absurd rfl h
  cases d <;> simp [isI] at e
  · subst e
    refine ⟨.type "NoneType", .base (by rw [show v = _ from r]; exact .non), ?_⟩
    match k, lt with
    | 0, _ => rfl
    | 1, _ => rfl
    | 2, _ => rfl
    | 3, _ => rfl
    | 4, _ => rfl
  · subst e
    refine ⟨.type "bool", .base (by rw [show v = _ from r]; exact .bl _), ?_⟩
    match k, lt with
    | 0, _ => rfl
    | 1, _ => rfl
    | 2, _ => rfl
    | 3, _ => rfl
    | 4, _ => rfl
  · subst e
    refine ⟨.type "int", .base (by rw [show v = _ from r]; exact .int _), ?_⟩
    match k, lt with
    | 0, _ => rfl
    | 1, _ => rfl
    | 2, _ => rfl
    | 3, _ => rfl
    | 4, _ => rfl
  · subst e
    refine ⟨.type "str", .base (by rw [show v = _ from r]; exact .str _), ?_⟩
    match k, lt with
    | 0, _ => rfl
    | 1, _ => rfl
    | 2, _ => rfl
    | 3, _ => rfl
    | 4, _ => rfl
  · subst e
    obtain ⟨a, ls, e1, q1, t1⟩ := r
    subst e1
    refine ⟨.type "tuple", ?_, ?_⟩
    · rcases q1 with ⟨_, q1 | ⟨o, q1⟩⟩ | ⟨o, its, n, q1, q2, _⟩
      · exact .base (.tup q1)
      · exact .fTuple q1
      · exact .kTuple (by rw [hK]; exact q1) q2
    · match k, lt with
      | 0, _ => rfl
      | 1, _ => rfl
      | 2, _ => rfl
      | 3, _ => rfl
      | 4, _ => rfl
  · subst e
    obtain ⟨a, ls, e1, q1, t1⟩ := r
    subst e1
    refine ⟨.type "list", .base (.lst q1), ?_⟩
    match k, lt with
    | 0, _ => rfl
    | 1, _ => rfl
    | 2, _ => rfl
    | 3, _ => rfl
    | 4, _ => rfl
theorem rgV_eq : ∀ (lo : Int) (n : Nat), (List.range n).map (fun i => V.int (lo + (i : Nat))) = (upFrom lo n).map V.int
  | _, 0 => rfl
  | lo, n + 1 => by
    rw [List.range_succ_eq_map, List.map_cons, List.map_map, upFrom, List.map_cons, ← rgV_eq (lo + 1) n]
    have h0 : V.int (lo + (0 : Nat)) = V.int lo := by congr 1; omega
    rw [h0]
    congr 1
    refine List.map_congr_left fun i _ => ?_
    simp only [Function.comp]
    congr 1
    have : ((i.succ : Nat) : Int) = (i : Int) + 1 := by simp
    omega
theorem rB_lr2 {x y : V} {H : Hp} {Q : VK} (h : rB L.G .lrng2 [x, y] H Q) : ∃ i j, x = .int i ∧ y = .int j ∧ RgOk i j ∧ ∀ q, H q = none → Q (.ref q) (upd H q (.lst (rgV i j))) := by
  obtain ⟨Fz, d1, d2, d, r1, r2, e, c⟩ := rB2 h
  simp only [F2] at e
  cases d1 <;> simp only [fInt2, reduceCtorEq] at e
  cases d2 <;> simp only [fInt2, reduceCtorEq, Option.ite_none_right_eq_some, Option.some.injEq, Bool.and_eq_true, decide_eq_true_eq] at e
  obtain ⟨⟨⟨h1, h2⟩, h3⟩, e⟩ := e
  subst e
  have g1 := inLim_iff h1
  have g2 := inLim_iff h2
  refine ⟨_, _, r1, r2, ⟨by omega, by omega, by omega, by omega, by omega⟩, fun q hq => ?_⟩
  unfold rgV
  rw [rgV_eq]
  exact Cont.lst c (RFs.intsD _) hq
theorem rB_tr2 {x y : V} {H : Hp} {Q : VK} (h : rB L.G .trng2 [x, y] H Q) : ∃ i j, x = .int i ∧ y = .int j ∧ RgOk i j ∧ ∀ q, H q = none → Q (.ref q) (upd H q (.tup (rgV i j))) := by
  obtain ⟨Fz, d1, d2, d, r1, r2, e, c⟩ := rB2 h
  simp only [F2] at e
  cases d1 <;> simp only [fInt2, reduceCtorEq] at e
  cases d2 <;> simp only [fInt2, reduceCtorEq, Option.ite_none_right_eq_some, Option.some.injEq, Bool.and_eq_true, decide_eq_true_eq] at e
  obtain ⟨⟨⟨h1, h2⟩, h3⟩, e⟩ := e
  subst e
  have g1 := inLim_iff h1
  have g2 := inLim_iff h2
  refine ⟨_, _, r1, r2, ⟨by omega, by omega, by omega, by omega, by omega⟩, fun q hq => ?_⟩
  unfold rgV
  rw [rgV_eq]
  exact Cont.tup c (RFs.intsD _) hq
theorem rB_lr1 {x : V} {H : Hp} {Q : VK} (h : rB L.G .lrng1 [x] H Q) : ∃ j, x = .int j ∧ RgOk 0 j ∧ ∀ q, H q = none → Q (.ref q) (upd H q (.lst (rgV 0 j))) := by
  obtain ⟨Fz, d1, d, r1, e, c⟩ := rB1 h
  simp only [F1] at e
  cases d1 <;> simp only [fInt1, reduceCtorEq, Option.ite_none_right_eq_some, Option.some.injEq, Bool.and_eq_true, decide_eq_true_eq] at e
  obtain ⟨⟨h1, h3⟩, e⟩ := e
  subst e
  have g1 := inLim_iff h1
  refine ⟨_, r1, ⟨by omega, by omega, by omega, by omega, by omega⟩, fun q hq => ?_⟩
  unfold rgV
  rw [rgV_eq, Int.sub_zero]
  exact Cont.lst c (RFs.intsD _) hq
theorem rB_join {x y : V} {H : Hp} {Q : VK} (hK : X.K = L.G.K) (h : rB L.G .join [x, y] H Q) : ∃ a p, ∃ ys : List Str, x = .str a ∧ y = .ref p ∧ (SqL X.K H p (ys.map V.str) ∨ SqT X.K H p (ys.map V.str)) ∧ (ys.map (·.length)).sum + ys.length * a.length ≤ 16777216 ∧ Q (.str (Txt.join a ys)) H := by
  obtain ⟨Fz, d1, d2, d, r1, r2, e, c⟩ := rB2 h
  simp only [F2] at e
  cases d1 <;> simp only [fJoin, reduceCtorEq] at e
  cases d2 <;> simp only [fJoin, reduceCtorEq] at e
  rename_i s xs
  cases es : toStrs xs with
  | none => rw [es] at e; cases e
  | some l =>
    rw [es] at e
    simp only [Option.ite_none_right_eq_some, Option.some.injEq] at e
    obtain ⟨hz, e⟩ := e
    subst e
    obtain ⟨p, ls, e1, q1, t1⟩ := r2
    have : ∀ {ds : List D} {vs : List V} {l : List Str}, RFs L.G Fz H ds vs → toStrs ds = some l → vs = l.map V.str := by
      intro ds
      induction ds with
      | nil => intro vs l h e; rw [show vs = [] from h]; simp [Eg.toStrs] at e; subst e; rfl
      | cons d ds ih =>
        intro vs l ⟨v, r, e1, h, t⟩ e
        cases d <;> simp [Eg.toStrs] at e
        obtain ⟨a, ha, e⟩ := e
        subst e; subst e1
        rw [show v = _ from h, ih t ha]
        rfl
    have := this t1 es
    subst this
    exact ⟨s, p, l, r1, e1, .inl (.inl (.inl q1)), hz, c.old rfl⟩
end
end Eg

end
section
set_option maxHeartbeats 8000000
namespace Eg
open PySem PySem.Spec PyProof.Rows L2
section
variable {sc : Scope} {o : BI} {e : Expr} {es : List Expr}
theorem dBin_inv {op : Operator} (h : dBin op e = some es) : ∃ l r pos, e = .BinOp l op r pos ∧ es = [l, r] := by
  unfold dBin at h
  split at h
  · split at h
    · rename_i hc
      cases h
      subst hc
      exact ⟨_, _, _, rfl, rfl⟩
    · cases h
  · cases h
theorem dCmp_inv {op : CmpOp} (h : dCmp op e = some es) : ∃ l r pos, e = .Compare l [op] [r] pos ∧ es = [l, r] ∧ noSet r = true := by
  unfold dCmp at h
  split at h
  · split at h
    · rename_i hc
      cases h
      obtain ⟨h1, h2⟩ := hc
      subst h1
      exact ⟨_, _, _, rfl, rfl, h2⟩
    · cases h
  · cases h
theorem dNeg_inv  (h : dNeg e = some es) : ∃ x pos, e = .UnaryOp .USub x pos ∧ es = [x] := by
  unfold dNeg at h
  split at h
  · cases h
    exact ⟨_, _, rfl, rfl⟩
  · cases h
theorem dIdx_inv  (h : dIdx e = some es) : ∃ v i pos, e = .Subscript v i pos ∧ es = [v, i] ∧ plainI i = true := by
  unfold dIdx at h
  split at h
  · split at h
    · rename_i hc
      cases h
      exact ⟨_, _, _, rfl, rfl, hc⟩
    · cases h
  · cases h
theorem dSlLU_inv  (h : dSlLU e = some es) : ∃ v a b p pos, e = .Subscript v (.Slice (some a) (some b) none p) pos ∧ es = [v, a, b] := by
  unfold dSlLU at h
  split at h
  · cases h
    exact ⟨_, _, _, _, _, rfl, rfl⟩
  · cases h
theorem dSlL_inv  (h : dSlL e = some es) : ∃ v a p pos, e = .Subscript v (.Slice (some a) none none p) pos ∧ es = [v, a] := by
  unfold dSlL at h
  split at h
  · cases h
    exact ⟨_, _, _, _, rfl, rfl⟩
  · cases h
theorem dSlU_inv  (h : dSlU e = some es) : ∃ v b p pos, e = .Subscript v (.Slice none (some b) none p) pos ∧ es = [v, b] := by
  unfold dSlU at h
  split at h
  · cases h
    exact ⟨_, _, _, _, rfl, rfl⟩
  · cases h
theorem dSlRev_inv  (h : dSlRev e = some es) : ∃ v k p1 p2 p3 pos, e = .Subscript v (.Slice none none (some (.UnaryOp .USub (.Constant (.int 1) k p1) p2)) p3) pos ∧ es = [v] := by
  unfold dSlRev at h
  split at h
  · split at h
    · rename_i hc
      cases h
      subst hc
      exact ⟨_, _, _, _, _, _, rfl, rfl⟩
    · cases h
  · cases h
theorem dFn_inv {n : String} (h : dFn sc n e = some es) : ∃ p a as pos, e = .Call (.Name (Str.ofString n) p) (a :: as) [] pos ∧ es = a :: as ∧ gl sc (Str.ofString n) = true := by
  unfold dFn at h
  split at h
  · split at h
    · rename_i hc
      cases h
      obtain ⟨h1, h2⟩ := hc
      subst h1
      exact ⟨_, _, _, _, rfl, rfl, h2⟩
    · cases h
  · cases h
theorem dIsx_inv {x : Str} (h : dIsx sc x e = some es) : ∃ p a p2 pos, e = .Call (.Name "isinstance" p) [a, .Name x p2] [] pos ∧ es = [a] ∧ gl sc "isinstance" = true ∧ gl sc x = true := by
  unfold dIsx at h
  split at h
  · split at h
    · rename_i hc
      cases h
      obtain ⟨h1, h2, h3, h4⟩ := hc
      subst h1 h3
      exact ⟨_, _, _, _, rfl, rfl, h2, h4⟩
    · cases h
  · cases h
theorem dIsi_inv {t : String} (h : dIsi sc t e = some es) : ∃ p a p2 pos, e = .Call (.Name "isinstance" p) [a, .Name (Str.ofString t) p2] [] pos ∧ es = [a] ∧ gl sc "isinstance" = true ∧ gl sc (Str.ofString t) = true ∧ t ≠ "?" := by
  unfold dIsi at h
  split at h
  · split at h
    · rename_i hc
      cases h
      obtain ⟨h1, h2, h3, h4, h5⟩ := hc
      subst h1 h3
      exact ⟨_, _, _, _, rfl, rfl, h2, h4, h5⟩
    · cases h
  · cases h
theorem dRg1_inv {n : String} (h : dRg1 sc n e = some es) : ∃ p p2 a pos pos2, e = .Call (.Name (Str.ofString n) p) [.Call (.Name "range" p2) [a] [] pos2] [] pos ∧ es = [a] ∧ gl sc (Str.ofString n) = true ∧ gl sc "range" = true := by
  unfold dRg1 at h
  split at h
  · split at h
    · rename_i hc
      cases h
      obtain ⟨h1, h2, h3, h4⟩ := hc
      subst h1 h3
      exact ⟨_, _, _, _, _, rfl, rfl, h2, h4⟩
    · cases h
  · cases h
theorem dRg2_inv {n : String} (h : dRg2 sc n e = some es) : ∃ p p2 a b pos pos2, e = .Call (.Name (Str.ofString n) p) [.Call (.Name "range" p2) [a, b] [] pos2] [] pos ∧ es = [a, b] ∧ gl sc (Str.ofString n) = true ∧ gl sc "range" = true := by
  unfold dRg2 at h
  split at h
  · split at h
    · rename_i hc
      cases h
      obtain ⟨h1, h2, h3, h4⟩ := hc
      subst h1 h3
      exact ⟨_, _, _, _, _, _, rfl, rfl, h2, h4⟩
    · cases h
  · cases h
theorem dMt_inv {n : String} (h : dMt n e = some es) : ∃ s ap a pos, e = .Call (.Attribute s (Str.ofString n) ap) [a] [] pos ∧ es = [s, a] ∧ (ap.endLine == pos.line) = true ∧ noSuper s = true := by
  unfold dMt at h
  split at h
  · split at h
    · rename_i hc
      cases h
      obtain ⟨h1, h2, h3⟩ := hc
      subst h1
      exact ⟨_, _, _, _, rfl, rfl, h2, h3⟩
    · cases h
  · cases h
end
section
variable {X : Cx} {L : Lx} {U : Fx} {k : Nat} {N : List Str} {sc : Scope} {GL : Str → D → Bool} {o : BI} {a : E} {e : Expr} {es : List Expr}
theorem pe_fnB (C : Ct L U N k sc GL X) {n : String} (hc : CallR X (.builtin n) (rB L.G o)) (hb : n ∈ bltNames) (hv : bootBuiltins (Str.ofString n) = some (.builtin n)) (hn : Str.ofString n ≠ "__name__") (hd : (Str.ofString n == ("__debug__" : Str)) = false)
    (h : APE X L a es) (d : dFn sc n e = some es) : PE X e (tB L o a) := by
  obtain ⟨p, x, as, pos, rfl, rfl, g⟩ := dFn_inv d
  exact pe_callB hc (C.hg _ g) (C.mb n hb) hv h.pa hn hd (star_cons (h.stars _ List.mem_cons_self)) (any_star _ _ _ fun z hz => h.stars z (List.mem_cons_of_mem _ hz))
theorem pe_fnT (C : Ct L U N k sc GL X) {n : String} (hc : CallR X (.type n) (rB L.G o)) (hb : n ∈ bltNames) (hv : bootBuiltins (Str.ofString n) = some (.type n)) (hn : Str.ofString n ≠ "__name__") (hd : (Str.ofString n == ("__debug__" : Str)) = false)
    (h : APE X L a es) (d : dFn sc n e = some es) : PE X e (tB L o a) := by
  obtain ⟨p, x, as, pos, rfl, rfl, g⟩ := dFn_inv d
  exact pe_callTy hc (C.hg _ g) (C.mb n hb) hv h.pa hn hd (star_cons (h.stars _ List.mem_cons_self)) (any_star _ _ _ fun z hz => h.stars z (List.mem_cons_of_mem _ hz))
theorem pe_isiK {n : Nat} (C : Ct L U N n sc GL X) {k : Nat} (h : APE X L a es) (d : dIsi sc (isiT k) e = some es) : PE X e (tB L (.isi k) a) := by
  obtain ⟨p, x, p2, pos, rfl, rfl, g1, g2, g3⟩ := dIsi_inv d
  obtain ⟨y, rfl, hx, hs⟩ := h.one
  obtain ⟨b1, b2, b3, b4⟩ := ty_boot k g3
  have hty : PE X (.Name (Str.ofString (isiT k)) p2) (tC (.ty (isiT k))) := pe_bltn (C.hg _ g2) (C.mb _ b2) b1 rfl b3 b4
  refine PE.imp (pe_callB call_isi (C.hg _ g1) (C.mb "isinstance" (by decide)) (by decide +kernel) (pa_cons hx (pa_cons hty pa_nil (star_cons rfl)) (star_cons hs)) (by decide +kernel) (by decide +kernel) (star_cons hs) (any_star _ _ _ (by intro z hz; rw [List.mem_singleton] at hz; subst hz; rfl))) fun σ H Q q => ?_
  refine tP_imp q fun v H1 q1 => ?_
  obtain ⟨Fz, d1, d, r1, e, c⟩ := rB1 q1
  simp only [F1, Option.map_eq_some_iff] at e
  obtain ⟨b, e, rfl⟩ := e
  obtain ⟨t, ht, hk⟩ := isi_ty g3 C.hK r1 e
  exact ⟨v, .ty (isiT k), t, .type (isiT k), b, rfl, .ty _, ht, hk, c.old rfl⟩
/-- what an exception's suite may not have -/
def okHot (hot : Bool) (U : Fx) : BI → Bool
  | .isx x k => hot && U.xq x k
  | .sumL => !hot
  | .allL => !hot
  | .max2 => !hot
  | .min2 => !hot
  | .minL => !hot
  | .lrng1 => !hot
  | .lrng2 => !hot
  | .trng2 => !hot
  | .indexT => false
  | _ => true
theorem pe_isxK {n : Nat} (C : Ct L U N n sc GL X) {x : Str} {k : Nat} (hh : L.hot = true) (hq : U.xq x k = true) (h : APE X L a es) (d : dIsx sc x e = some es) : PE X e (tB L (.isx x k) a) := by
  obtain ⟨p, y, p2, pos, rfl, rfl, g1, g2⟩ := dIsx_inv d
  obtain ⟨y, rfl, hx, hs⟩ := h.one
  obtain ⟨cv, R, hty, hc, hr⟩ := C.xi hh x k hq g2
  refine PE.imp (pe_callB hc (C.hg _ g1) (C.mb "isinstance" (by decide)) (by decide +kernel) (pa_cons hx (pa_cons (hty p2) pa_nil (star_cons rfl)) (star_cons hs)) (by decide +kernel) (by decide +kernel) (star_cons hs) (any_star _ _ _ (by intro z hz; rw [List.mem_singleton] at hz; subst hz; rfl))) fun σ H Q q => ?_
  refine tP_imp q fun v H1 q1 => ?_
  obtain ⟨Fz, d1, d, r1, e, c⟩ := rB1 q1
  simp only [F1] at e
  cases d1 <;> simp [fIsx] at e
  subst e
  exact hr _ _ _ _ r1 (c.old rfl)
theorem tP_con {t : Str} {σ : L2.St} {H : Hp} {Q : VK} (h : tP L (.con (.str t)) σ H Q) : Q (.str t) H := by
  obtain ⟨Fz, env, own, I, d, e, k⟩ := h
  cases e
  exact k (.str t) H Fz own I rfl (fun _ => rfl) .refl fun b o => .inl o
theorem tP_con_imp {t : Str} {σ : L2.St} {H : Hp} {Q Q' : VK} (h : tP L (.con (.str t)) σ H Q) (i : ∀ H', Q (.str t) H' → Q' (.str t) H') : tP L (.con (.str t)) σ H Q' := by
  obtain ⟨Fz, env, own, I, d, e, k⟩ := h
  cases e
  exact ⟨Fz, env, own, I, _, rfl, fun v H' Fz' own' a b c f g => by
    have := k v H' Fz' own' a b c f g
    rw [show v = .str t from b] at this ⊢
    exact i _ this⟩
/-- a simple thing to look for -/
def isSim : E → Bool
  | .cons _ (.cons (.var _) .nil) => true
  | .cons _ (.cons (.con _) .nil) => true
  | .cons _ (.cons (.bi .add (.cons (.var _) (.cons (.con _) .nil))) .nil) => true
  | _ => false
theorem sim_two {a : E} (h : isSim a = true) : ∃ x y, a = .cons x (.cons y .nil) ∧ (∀ (fc : Nat → List D → CR) env c e, ev fc y env ≠ .exc c e) := by
  unfold isSim at h
  split at h
  · refine ⟨_, _, rfl, fun fc env c e z => ?_⟩
    simp only [ev] at z
    split at z <;> cases z
  · exact ⟨_, _, rfl, fun fc env c e z => by cases z⟩
  · refine ⟨_, _, rfl, fun fc env c e z => ?_⟩
    simp only [ev] at z
    rename_i i d
    cases hu : env.getD i .unset <;> rw [hu] at z <;> simp only [R.bind] at z <;> (first | (cases z; done) | (generalize bop .add _ = w at z; cases w <;> cases z))
  · cases h
/-- the operation's reading where the first argument's kind is wanted at once: list.index -/
theorem tB_ix {o : BI} (hlo : ∀ d1 d2 d, bop o [d1, d2] = some d → ∃ ds, d1 = .lst ds) {x y : E} {σ : L2.St} {H : Hp} {Q : VK} (hne : ∀ (fc : Nat → List D → CR) env c e, ev fc y env ≠ .exc c e) (hl : lok L.Γ (.cons x (.cons y .nil)) = true) (h : tE L (.bi o (.cons x (.cons y .nil))) σ H Q) :
    tP L x σ H fun v1 H1 => (∃ (a : Addr) (xs : List V), v1 = .ref a ∧ H1 a = some (.lst xs)) ∧ tP L y σ H1 fun v2 H2 => rB L.G o [v1, v2] H2 Q := by
  obtain ⟨Fz, env, own, I, h⟩ := h
  refine ⟨Fz, env, own, I, ?_⟩
  simp only [ev, R.bind] at h
  cases ex : ev L.fc x env with
  | no => rw [ex] at h; exact h
  | exc c e1 => rw [ex] at h; exact h
  | ok ds e1 =>
    rw [ex] at h
    simp only at h
    match ds, h with
    | [], h => exact h.elim
    | _ :: _ :: _, h => exact h.elim
    | [d1], h =>
      simp only at h
      refine ⟨d1, rfl, fun v1 H1 Fz1 own1 I1 rb rf f1 o1 => ?_⟩
      cases ey : ev L.fc y e1 with
      | no => rw [ey] at h; exact h.elim
      | exc c e2 => exact absurd ey (hne _ _ _ _)
      | ok ds2 e2 =>
        rw [ey] at h
        simp only at h
        match ds2, ey, h with
        | [], ey, h => exact h.elim
        | _ :: _ :: _, ey, h => exact h.elim
        | [d2], ey, h =>
          simp only at h
          cases eb : bop o [d1, d2] with
          | none => rw [eb] at h; exact h.elim
          | some d =>
            rw [eb] at h
            obtain ⟨d', e', k⟩ := h
            cases e'
            refine ⟨?_, ?_⟩
            · obtain ⟨ds, rfl⟩ := hlo _ _ _ eb
              obtain ⟨a, xs, e1, q1, t1⟩ := rb
              exact ⟨a, xs, e1, q1⟩
            · refine ⟨Fz1, e1, own1, I1, ?_⟩
              rw [ey]
              refine ⟨d2, rfl, fun v2 H2 Fz2 own2 I2 rb2 rf2 f2 o2 => ?_⟩
              have rb1 : RB L.G Fz2 H2 d1 v1 := by
                cases hb : bor L.Γ x with
                | false => exact (RF.le (f2.le (MM.nf I1)) d1 (rf hb)).rb
                | true =>
                  simp only [lok, hb, Bool.and_eq_true] at hl
                  have hr : eff y = false := by simpa [eff] using hl.1
                  rw [hr, MM.false] at f2
                  exact rb.le (f2.le fun _ z => z.elim) f2.none
              have fin : ∀ b, OW own2 b → OW own b ∨ H b = none := fun b ob => (o2 b ob).elim (o1 b) fun z => by
                cases q : H b with
                | none => exact .inr rfl
                | some u =>
                  by_cases m : OW own b
                  · exact .inl m
                  · rw [f1.keep b u q fun y => m y.2] at z; cases z
              have ft : Fr Fz H (MM own (eff (.cons x (.cons y .nil)))) Fz2 H2 := by
                have f1' : Fr Fz H (MM own (eff (.cons x (.cons y .nil)))) Fz1 H1 := f1.mono fun b m => ⟨by simp [eff, m.1], m.2⟩
                refine f1'.trans f2 fun b m => ?_
                rcases o1 b m.2 with z | z
                · exact .inl ⟨by simp [eff, m.1], z⟩
                · exact .inr z
              refine ⟨Fz2, [d1, d2], d, ⟨v1, [v2], rfl, rb1, v2, [], rfl, rb2, rfl⟩, eb, fun v H3 Fz3 S r n z f => ?_⟩
              refine k v H3 Fz3 own2 S (I2.fr0 f) r n (fun i b ob sb => ?_) (ft.trans f fun _ z => z.elim) fin fun b sb => ?_
              · obtain ⟨u, e⟩ := I2.trk ob
                rw [z b sb] at e; cases e
              · by_cases m : MM own (eff (.cons x (.cons y .nil))) b
                · exact .inl m
                · cases q : H b with
                  | none => exact .inr rfl
                  | some u => have := ft.keep b u q m; rw [z b sb] at this; cases this
theorem few1L {v : Expr} {env : Env} {cp : Pos} (h : noStar v = true) : ((backTo cp (starEach [v] env)).all (fun x => !x.1) && (backToKw cp (keywordEach [] env)).all (fun x => x.1.isSome)
    && decide (([v] : List Expr).length + ([] : List Keyword).length + (if ([] : List Keyword).isEmpty then 0 else 1) < 30)) = true := by
  rw [star_cons h]
  rfl
theorem ixL_lst : ∀ d1 d2 d, bop .indexL [d1, d2] = some d → ∃ ds, d1 = .lst ds := fun d1 d2 d e => by
  simp only [bop, F2] at e
  cases d1 <;> simp only [fIndexL, reduceCtorEq] at e
  exact ⟨_, rfl⟩
theorem ctL_lst : ∀ d1 d2 d, bop .cntL [d1, d2] = some d → ∃ ds, d1 = .lst ds := fun d1 d2 d e => by
  simp only [bop, F2] at e
  cases d1 <;> simp only [fCnt, reduceCtorEq] at e
  exact ⟨_, rfl⟩
/-- a list's index -/
theorem pe_ixL (C : Ct L U N k sc GL X) (hs : isSim a = true) (hl : lok L.Γ a = true) (h : APE X L a es) (d : dec sc .indexL e = some es) : PE X e (tE L (.bi .indexL a)) := by
  obtain ⟨s, ap, x, pos, rfl, rfl, g1, g2⟩ := dMt_inv (n := "index") d
  obtain ⟨u, w, rfl, hx, hy, h1, h2⟩ := h.two
  obtain ⟨u', w', ea, hne⟩ := sim_two hs
  cases ea
  refine PE.imp (pe_bm PySem.F.plainAttrs_list PySem.F.slot_list_index PySem.F.type_list_index mt_index hx (pa_cons hy pa_nil (star_cons h2)) (base_super g2) (few1L h2) g1 (star_cons h2) (any_star _ _ _ (by intro z hz; cases hz))) fun σ H Q q => ?_
  refine tP_imp (tB_ix ixL_lst hne hl q) fun v1 H1 ⟨⟨p, xs, e1, q1⟩, q2⟩ => ?_
  subst e1
  refine ⟨.inl ⟨rfl, xs, .inl (.inl q1)⟩, tP_imp q2 fun v2 H2 q3 => ?_⟩
  obtain ⟨_, _, _, k⟩ := rB_ixL C.hK q3
  exact k
/-- how many -/
theorem pe_ctL (C : Ct L U N k sc GL X) (hs : isSim a = true) (hl : lok L.Γ a = true) (h : APE X L a es) (d : dec sc .cntL e = some es) : PE X e (tE L (.bi .cntL a)) := by
  obtain ⟨s, ap, x, pos, rfl, rfl, g1, g2⟩ := dMt_inv (n := "count") d
  obtain ⟨u, w, rfl, hx, hy, h1, h2⟩ := h.two
  obtain ⟨u', w', ea, hne⟩ := sim_two hs
  cases ea
  refine PE.imp (pe_bm PySem.F.plainAttrs_list PySem.F.slot_list_count PySem.F.type_list_count mt_cntB hx (pa_cons hy pa_nil (star_cons h2)) (base_super g2) (few1L h2) g1 (star_cons h2) (any_star _ _ _ (by intro z hz; cases hz))) fun σ H Q q => ?_
  refine tP_imp (tB_ix ctL_lst hne hl q) fun v1 H1 ⟨⟨p, xs, e1, q1⟩, q2⟩ => ?_
  subst e1
  refine ⟨.inl ⟨rfl, xs, .inl (.inl q1)⟩, tP_imp q2 fun v2 H2 q3 => ?_⟩
  exact rB_ctL C.hK q3
theorem pe_bi (C : Ct L U N k sc GL X) (hL : o ≠ .indexL) (hL2 : o ≠ .cntL) (hq : okHot L.hot U o = true) (h : APE X L a es) (hi : isIt o = false) (hj : o = .join → ∃ t r, a = .cons (.con (.str t)) r) (d : dec sc o e = some es) : PE X e (tB L o a) := by
  have u64 : X.A.units + 64 < cLine := by have := C.un; omega
  have u65 : X.A.units + 65 < cLine := by have := C.un; omega
  have u0 : X.A.units < cLine := by have := C.un; omega
  have bin : ∀ {op : Operator}, OpR X (binaryOp op) (fun x y H Q => rB L.G o [x, y] H Q) → dBin op e = some es → PE X e (tB L o a) := fun ho d => by
    obtain ⟨l, r, pos, rfl, rfl⟩ := dBin_inv d
    exact pe_binK ho h
  have cmp : ∀ {op : CmpOp}, OpR X (compareOp op) (fun x y H Q => rB L.G o [x, y] H Q) → dCmp op e = some es → PE X e (tB L o a) := fun ho d => by
    obtain ⟨l, r, pos, rfl, rfl, hn⟩ := dCmp_inv d
    exact pe_cmpK ho h hn
  cases o with
  | add => exact bin (or_add C.hK) d
  | sub => exact bin or_sub d
  | mul => exact bin (or_mul C.hK) d
  | fdiv => exact bin or_fdiv d
  | mod => exact bin or_mod d
  | pow => exact bin or_pow d
  | neg =>
    obtain ⟨x, pos, rfl, rfl⟩ := dNeg_inv d
    obtain ⟨y, rfl, hx, hs⟩ := h.one
    exact pe_un ur_neg hx
  | eq => exact cmp (or_eq C.hK u64) d
  | ne => exact cmp (or_ne C.hK u64) d
  | lt => exact cmp (or_lt C.hK u0) d
  | le => exact cmp or_le d
  | gt => exact cmp or_gt d
  | ge => exact cmp or_ge d
  | is_ => exact cmp or_is d
  | isnot => exact cmp or_isnot d
  | in_ => exact cmp (or_in C.hK u65) d
  | notin => exact cmp (or_notin C.hK u65) d
  | idx =>
    obtain ⟨v, i, pos, rfl, rfl, hp⟩ := dIdx_inv d
    obtain ⟨x, y, rfl, hx, hy, _, _⟩ := h.two
    exact pe_ix (xr_idx C.hK) hx hy (plain_ix hp)
  | slL =>
    obtain ⟨v, b, p, pos, rfl, rfl⟩ := dSlL_inv d
    obtain ⟨x, y, rfl, hx, hy, _, _⟩ := h.two
    refine PE.imp (pe_slice (sr_cut C.hK) hx (po_some hy) po_none) fun σ H Q q => tP_imp q fun v1 H1 q1 => tP_imp q1 fun v2 H2 q2 => ?_
    obtain ⟨i, e, k⟩ := rB_sl1 q2
    exact ⟨i, e, k⟩
  | slU =>
    obtain ⟨v, b, p, pos, rfl, rfl⟩ := dSlU_inv d
    obtain ⟨x, y, rfl, hx, hy, _, _⟩ := h.two
    refine PE.imp (pe_slice (sr_cut C.hK) hx po_none (po_some hy)) fun σ H Q q => tP_imp q fun v1 H1 q1 => tP_imp q1 fun v2 H2 q2 => ?_
    obtain ⟨i, e, k⟩ := rB_sl0 q2
    exact ⟨i, e, k⟩
  | slRev =>
    obtain ⟨v, k, p1, p2, p3, pos, rfl, rfl⟩ := dSlRev_inv d
    obtain ⟨y, rfl, hx, hs⟩ := h.one
    refine PE.imp (pe_revL hx) fun σ H Q q => tP_imp q fun v1 H1 q1 => ?_
    obtain ⟨Fz, d1, d, r1, e, c⟩ := rB1 q1
    obtain ⟨ds, p, xs, e', rfl, qq, t1⟩ := fLst_cases r1 e
    cases e'
    exact ⟨p, xs, rfl, .inl (.inl qq), fun q hq => Cont.lst c t1.reverse hq⟩
  | slRevT =>
    obtain ⟨v, k, p1, p2, p3, pos, rfl, rfl⟩ := dSlRev_inv d
    obtain ⟨y, rfl, hx, hs⟩ := h.one
    refine PE.imp (pe_revT hx) fun σ H Q q => tP_imp q fun v1 H1 q1 => ?_
    obtain ⟨Fz, d1, d, r1, e, c⟩ := rB1 q1
    simp only [F1] at e
    cases d1 <;> simp only [fTup, reduceCtorEq] at e
    cases e
    obtain ⟨p, xs, e1, qq, t1⟩ := r1
    exact ⟨p, xs, e1, by rw [C.hK]; exact qq.sq, fun q hq => Cont.tup c t1.reverse hq⟩
  | len => exact pe_fnB C (cc_len C.hK) (by decide) PySem.boot_len (by decide +kernel) (by decide +kernel) h d
  | abs => exact pe_fnB C cc_abs (by decide) (by decide +kernel) (by decide +kernel) (by decide +kernel) h d
  | intC => exact pe_fnT C cc_int (by decide) (by decide +kernel) (by decide +kernel) (by decide +kernel) h d
  | strI => exact pe_fnT C cc_str (by decide) (by decide +kernel) (by decide +kernel) (by decide +kernel) h d
  | sorted => exact pe_fnB C (cc_sorted C.hK u64) (by decide) (by decide +kernel) (by decide +kernel) (by decide +kernel) h d
  | sumL => exact pe_fnB C (cc_sum (C.calm (by simpa [okHot] using hq))) (by decide) (by decide +kernel) (by decide +kernel) (by decide +kernel) h d
  | allL => exact pe_fnB C (cc_all (C.calm (by simpa [okHot] using hq))) (by decide) (by decide +kernel) (by decide +kernel) (by decide +kernel) h d
  | anyL => exact pe_fnB C (cc_anyC C.anyC) (by decide) (by decide +kernel) (by decide +kernel) (by decide +kernel) h d
  | max2 => exact pe_fnB C (cc_max2 (C.calm (by simpa [okHot] using hq))) (by decide) (by decide +kernel) (by decide +kernel) (by decide +kernel) h d
  | min2 => exact pe_fnB C (cc_min2 (C.calm (by simpa [okHot] using hq))) (by decide) (by decide +kernel) (by decide +kernel) (by decide +kernel) h d
  | minL => exact pe_fnB C (cc_minL (C.calm (by simpa [okHot] using hq))) (by decide) (by decide +kernel) (by decide +kernel) (by decide +kernel) h d
  | listC => exact pe_fnT C (cc_list C.hK) (by decide) (by decide +kernel) (by decide +kernel) (by decide +kernel) h d
  | tupleC => exact pe_fnT C (cc_tuple C.hK) (by decide) (by decide +kernel) (by decide +kernel) (by decide +kernel) h d
  | lrng1 =>
    obtain ⟨p, p2, x, pos, pos2, rfl, rfl, g1, g2⟩ := dRg1_inv d
    obtain ⟨y, rfl, hx, hs⟩ := h.one
    refine PE.imp (pe_listRg (C.calm (by simpa [okHot] using hq)) (C.hg _ g1) (C.mb "list" (by decide)) (prg_1 (C.hg _ g2) (C.mb "range" (by decide)) hx (star_cons hs)) (star_cons rfl)) fun σ H Q q => tP_imp q fun v1 H1 q1 => ?_
    obtain ⟨j, e, ok, k⟩ := rB_lr1 q1
    exact ⟨j, e, ok, k⟩
  | lrng2 =>
    obtain ⟨p, p2, x, y, pos, pos2, rfl, rfl, g1, g2⟩ := dRg2_inv d
    obtain ⟨x, y, rfl, hx, hy, h1, h2⟩ := h.two
    refine PE.imp (pe_listRg (C.calm (by simpa [okHot] using hq)) (C.hg _ g1) (C.mb "list" (by decide)) (prg_2 (C.hg _ g2) (C.mb "range" (by decide)) hx hy (star_cons h1) (star_cons h2) (any_star _ _ _ (by intro z hz; rw [List.mem_singleton] at hz; subst hz; exact h2))) (star_cons rfl)) fun σ H Q q => tP_imp q fun v1 H1 q1 => tP_imp q1 fun v2 H2 q2 => ?_
    exact rB_lr2 q2
  | trng2 =>
    obtain ⟨p, p2, x, y, pos, pos2, rfl, rfl, g1, g2⟩ := dRg2_inv d
    obtain ⟨x, y, rfl, hx, hy, h1, h2⟩ := h.two
    refine PE.imp (pe_tupRg (C.calm (by simpa [okHot] using hq)) (C.hg _ g1) (C.mb "tuple" (by decide)) (prg_2 (C.hg _ g2) (C.mb "range" (by decide)) hx hy (star_cons h1) (star_cons h2) (any_star _ _ _ (by intro z hz; rw [List.mem_singleton] at hz; subst hz; exact h2))) (star_cons rfl)) fun σ H Q q => tP_imp q fun v1 H1 q1 => tP_imp q1 fun v2 H2 q2 => ?_
    exact rB_tr2 q2
  | isi k => exact pe_isiK C h d
  | indexL => exact absurd rfl hL
  | cntL => exact absurd rfl hL2
  | indexT => simp [okHot] at hq
  | divmod => exact pe_fnB C cc_divmod (by decide) (by decide +kernel) (by decide +kernel) (by decide +kernel) h d
  | isx x k =>
    simp only [okHot, Bool.and_eq_true] at hq
    exact pe_isxK C hq.1 hq.2 h d
  | join =>
    obtain ⟨s, ap, x, pos, rfl, rfl, g1, g2⟩ := dMt_inv d
    obtain ⟨x, y, rfl, hx, hy, h1, h2⟩ := h.two
    refine PE.imp (pe_join hx hy (star_cons h2) (base_super g2) g1) fun σ H Q q => ?_
    obtain ⟨t, r, e⟩ := hj rfl
    cases e
    refine tP_con_imp q fun H1 q1 => ⟨⟨_, rfl⟩, tP_imp q1 fun v2 H2 q2 => ?_⟩
    obtain ⟨a, p, ys, e1, e2, k1, k2, k3⟩ := rB_join C.hK q2
    exact ⟨a, p, ys, e1, by rw [e2], k1, k2, k3⟩
  | rng1 => cases hi
  | rng2 => cases hi
  | rng3 => cases hi
  | enumI => cases hi
  | enumT => cases hi
  | zipI => cases hi
  | enumZ => cases hi
  | revI => cases hi
end
end Eg

end
section
set_option maxHeartbeats 8000000
namespace Eg
open PySem PySem.Spec PyProof.Rows L2
/-- a step of the evaluation -/
structure Stp (L : Lx) (σ : L2.St) (Fz : Addr → Prop) (H : Hp) (own : Nat → Addr → Prop) (ef : Bool) (Fz' : Addr → Prop) (H' : Hp) (env' : List D) (own' : Nat → Addr → Prop) : Prop where
  re : RE L.G L.Γ L.PV Fz' H' env' σ own'
  fr : Fr Fz H (MM own ef) Fz' H'
  ow : ∀ b, OW own' b → OW own b ∨ H b = none
section
variable {L : Lx} {σ : L2.St} {Fz Fz1 Fz2 S : Addr → Prop} {H H1 H2 : Hp} {env env1 env2 : List D} {own own1 own2 : Nat → Addr → Prop} {e1 e2 : Bool}
theorem back {M : Addr → Prop} (f : Fr Fz H M Fz1 H1) {b : Addr} (z : H1 b = none) : M b ∨ H b = none := by
  cases q : H b with
  | none => exact .inr rfl
  | some u =>
    by_cases m : M b
    · exact .inl m
    · rw [f.keep b u q m] at z; cases z
theorem Stp.back (s : Stp L σ Fz H own e1 Fz1 H1 env1 own1) {b : Addr} (z : H1 b = none) : OW own b ∨ H b = none := (Eg.back s.fr z).imp (fun m => m.2) id
theorem Stp.trans (s1 : Stp L σ Fz H own e1 Fz1 H1 env1 own1) (s2 : Stp L σ Fz1 H1 own1 e2 Fz2 H2 env2 own2) : Stp L σ Fz H own (e1 || e2) Fz2 H2 env2 own2 where
  re := s2.re
  fr := (s1.fr.mono fun b m => ⟨by rw [m.1]; rfl, m.2⟩).trans s2.fr fun b m => (s1.ow b m.2).imp (fun z => ⟨by rw [m.1, Bool.or_true], z⟩) id
  ow := fun b o => (s2.ow b o).elim (s1.ow b) s1.back
theorem Stp.mono (s : Stp L σ Fz H own e1 Fz1 H1 env1 own1) (h : e1 = true → e2 = true) : Stp L σ Fz H own e2 Fz1 H1 env1 own1 := ⟨s.re, s.fr.mono fun b m => ⟨h m.1, m.2⟩, s.ow⟩
theorem Stp.refl (I : RE L.G L.Γ L.PV Fz H env σ own) : Stp L σ Fz H own e1 Fz H env own := ⟨I, .refl, fun _ => .inl⟩
theorem Stp.le (s : Stp L σ Fz H own e1 Fz1 H1 env1 own1) (I : RE L.G L.Γ L.PV Fz H env σ own) : Le Fz H Fz1 H1 := s.fr.le (MM.nf I)
/-- what is owned by a value in hand -/
structure Hd (Fz : Addr → Prop) (H : Hp) (own : Nat → Addr → Prop) (ef : Bool) (Fz' : Addr → Prop) (own' : Nat → Addr → Prop) (S : Addr → Prop) : Prop where
  nf : ∀ b, S b → ¬ Fz' b
  dj : ∀ i b, own' i b → ¬ S b
  fr : ∀ b, S b → MM own ef b ∨ H b = none
theorem Hd.trans (s1 : Stp L σ Fz H own e1 Fz1 H1 env1 own1) (h : Hd Fz1 H1 own1 e2 Fz2 own2 S) : Hd Fz H own (e1 || e2) Fz2 own2 S :=
  ⟨h.nf, h.dj, fun b s => (h.fr b s).elim (fun m => (s1.ow b m.2).imp (fun z => ⟨by rw [m.1, Bool.or_true], z⟩) id) fun z => (Eg.back s1.fr z).imp (fun m => ⟨by rw [m.1]; rfl, m.2⟩) id⟩
theorem Hd.mono (h : Hd Fz H own e1 Fz2 own2 S) (i : e1 = true → e2 = true) : Hd Fz H own e2 Fz2 own2 S := ⟨h.nf, h.dj, fun b s => (h.fr b s).imp (fun m => ⟨i m.1, m.2⟩) id⟩
theorem Hd.none : Hd Fz H own e1 Fz2 own2 fun _ => False := ⟨fun _ z => z.elim, fun _ _ _ z => z, fun _ z => z.elim⟩
theorem ResX.of {c : Nat} (s1 : Stp L σ Fz H own e1 Fz1 H1 env1 own1) (h : ResX L σ Fz H own env2 c) : ResX L σ Fz1 H1 own1 env2 c := fun H' Fz' own' re f o =>
  h H' Fz' own' re ((s1.fr.mono fun b m => m.2).trans f s1.ow) fun b ob => (o b ob).elim (s1.ow b) s1.back
/-- a value by the expression's own kind, in short -/
theorem tE_mk {e : E} {Q : VK} (I : RE L.G L.Γ L.PV Fz H env σ own) (h : match ev L.fc e env with
    | .ok ds env' => ∃ d, ds = [d] ∧ ∀ v H' Fz' own' S, Stp L σ Fz H own (eff e) Fz' H' env' own' → RO L.G Fz' H' (nty L.rt e) d v S → Hd Fz H own (eff e) Fz' own' S → Q v H'
    | .exc c env' => ResX L σ Fz H own env' c
    | .no => False) : tE L e σ H Q := by
  refine ⟨Fz, env, own, I, ?_⟩
  cases ee : ev L.fc e env with
  | ok ds e1 =>
    rw [ee] at h
    obtain ⟨d, e2, k⟩ := h
    exact ⟨d, e2, fun v H' Fz' own' S a b c d e f g => k v H' Fz' own' S ⟨a, e, f⟩ b ⟨c, d, g⟩⟩
  | exc c e1 => rw [ee] at h; exact h
  | no => rw [ee] at h; exact h
theorem tE_get {e : E} {Q : VK} (h : tE L e σ H Q) : ∃ Fz env own, RE L.G L.Γ L.PV Fz H env σ own ∧ match ev L.fc e env with
    | .ok ds env' => ∃ d, ds = [d] ∧ ∀ v H' Fz' own' S, Stp L σ Fz H own (eff e) Fz' H' env' own' → RO L.G Fz' H' (nty L.rt e) d v S → Hd Fz H own (eff e) Fz' own' S → Q v H'
    | .exc c env' => ResX L σ Fz H own env' c
    | .no => False := by
  obtain ⟨Fz, env, own, I, h⟩ := h
  refine ⟨Fz, env, own, I, ?_⟩
  cases ee : ev L.fc e env with
  | ok ds e1 =>
    rw [ee] at h
    obtain ⟨d, e2, k⟩ := h
    exact ⟨d, e2, fun v H' Fz' own' S a b c => k v H' Fz' own' S a.re b c.nf c.dj a.fr a.ow c.fr⟩
  | exc c e1 => rw [ee] at h; exact h
  | no => rw [ee] at h; exact h
theorem tP_mk {e : E} {Q : VK} (I : RE L.G L.Γ L.PV Fz H env σ own) (h : match ev L.fc e env with
    | .ok ds env' => ∃ d, ds = [d] ∧ ∀ v H' Fz' own', Stp L σ Fz H own (eff e) Fz' H' env' own' → RB L.G Fz' H' d v → (bor L.Γ e = false → RF L.G Fz' H' d v) → Q v H'
    | .exc c env' => ResX L σ Fz H own env' c
    | .no => False) : tP L e σ H Q := by
  refine ⟨Fz, env, own, I, ?_⟩
  cases ee : ev L.fc e env with
  | ok ds e1 =>
    rw [ee] at h
    obtain ⟨d, e2, k⟩ := h
    exact ⟨d, e2, fun v H' Fz' own' a b c d e => k v H' Fz' own' ⟨a, d, e⟩ b c⟩
  | exc c e1 => rw [ee] at h; exact h
  | no => rw [ee] at h; exact h
theorem tP_get {e : E} {Q : VK} (h : tP L e σ H Q) : ∃ Fz env own, RE L.G L.Γ L.PV Fz H env σ own ∧ match ev L.fc e env with
    | .ok ds env' => ∃ d, ds = [d] ∧ ∀ v H' Fz' own', Stp L σ Fz H own (eff e) Fz' H' env' own' → RB L.G Fz' H' d v → (bor L.Γ e = false → RF L.G Fz' H' d v) → Q v H'
    | .exc c env' => ResX L σ Fz H own env' c
    | .no => False := by
  obtain ⟨Fz, env, own, I, h⟩ := h
  refine ⟨Fz, env, own, I, ?_⟩
  cases ee : ev L.fc e env with
  | ok ds e1 =>
    rw [ee] at h
    obtain ⟨d, e2, k⟩ := h
    exact ⟨d, e2, fun v H' Fz' own' a b c => k v H' Fz' own' a.re b c a.fr a.ow⟩
  | exc c e1 => rw [ee] at h; exact h
  | no => rw [ee] at h; exact h
/-- what is in hand is held for good from now on -/
theorem tP_tE {e : E} {Q : VK} (hb : bor L.Γ e = false) (h : tP L e σ H Q) : tE L e σ H Q := by
  obtain ⟨Fz, env, own, I, h⟩ := tP_get h
  refine tE_mk I ?_
  cases ee : ev L.fc e env with
  | ok ds e1 =>
    rw [ee] at h
    obtain ⟨d, e2, k⟩ := h
    refine ⟨d, e2, fun v H' Fz' own' S a b c => ?_⟩
    have rf := b.freeze
    exact k v H' _ own' ⟨a.re.more c.dj, a.fr.more c.fr, a.ow⟩ rf.rb fun _ => rf
  | exc c e1 => rw [ee] at h; exact h
  | no => rw [ee] at h; exact h
end
section
variable {X : Cx} {L : Lx} {U : Fx} {k : Nat} {N : List Str} {sc : Scope} {GL : Str → D → Bool}
theorem pe_P {e : E} {ast : Expr} (hb : bor L.Γ e = false) (h : PE X ast (tE L e)) : PE X ast (tP L e) := PE.imp h fun _ _ _ q => tP_tE hb q
theorem pe_varE (C : Ct L U N k sc GL X) {i : Nat} {x : Str} {pos : Pos} (hN : N[i]? = some x) (hv : vis sc x = true) (h1 : (x == ("__debug__" : Str)) = false) (h2 : (x == ("__classdict__" : Str)) = false) (ht : L.Γ.getD i .a = .a) : PE X (.Name x pos) (tE L (.var i)) := by
  refine PE.imp (pe_var (i := i) (by rw [C.hN]; exact hN) (C.hv x hv) h1 h2) fun σ H Q q => ?_
  obtain ⟨Fz, env, own, I, h⟩ := tE_get q
  simp only [ev] at h
  have hne : env.getD i .unset ≠ .unset := by
    intro z; rw [z] at h; exact h
  obtain ⟨v, e1, r⟩ := I.val i hne
  rw [ht] at r
  refine ⟨v, e1, ?_⟩
  split at h
  · rename_i ds env' heq
    split at heq
    · cases heq
    · cases heq
      obtain ⟨d, e2, kk⟩ := h
      cases e2
      exact kk v H Fz own _ (.refl I) (show RO L.G Fz H .a _ v _ from ⟨r.1, fun _ => id⟩) .none
  · rename_i heq
    split at heq <;> cases heq
  · exact h.elim
theorem pe_varP (C : Ct L U N k sc GL X) {i : Nat} {x : Str} {pos : Pos} (hnn : L.Γ.getD i .a ≠ .n) (hN : N[i]? = some x) (hv : vis sc x = true) (h1 : (x == ("__debug__" : Str)) = false) (h2 : (x == ("__classdict__" : Str)) = false) : PE X (.Name x pos) (tP L (.var i)) := by
  refine PE.imp (pe_var (i := i) (by rw [C.hN]; exact hN) (C.hv x hv) h1 h2) fun σ H Q q => ?_
  obtain ⟨Fz, env, own, I, h⟩ := tP_get q
  simp only [ev] at h
  have hne : env.getD i .unset ≠ .unset := by
    intro z; rw [z] at h; exact h
  obtain ⟨v, e1, r⟩ := I.val i hne
  refine ⟨v, e1, ?_⟩
  split at h
  · rename_i ds env' heq
    split at heq
    · cases heq
    · cases heq
      obtain ⟨d, e2, kk⟩ := h
      cases e2
      refine kk v H Fz own (.refl I) (RO.rb hnn r) fun hb => ?_
      have ht : L.Γ.getD i .a = .a := by
        cases e : L.Γ.getD i .a with
        | a => rfl
        | o => simp only [bor, e] at hb; exact absurd hb (by decide)
        | n => exact absurd e hnn
      rw [ht] at r
      exact r.1
  · rename_i heq
    split at heq <;> cases heq
  · exact h.elim
end
end Eg

end
section
set_option maxHeartbeats 8000000
namespace Eg
open PySem PySem.Spec PyProof.Rows L2
section
variable {L : Lx} {σ : L2.St} {Fz Fz1 Fz2 S : Addr → Prop} {H H1 H2 : Hp} {env env1 env2 : List D} {own own1 own2 : Nat → Addr → Prop} {e1 e2 ef : Bool} {Q : VK}
theorem Cont.mk {t : Ty} {d : D} (s1 : Stp L σ Fz H own ef Fz1 H1 env1 own1) (k : ∀ v H' Fz' own' S, Stp L σ Fz H own ef Fz' H' env1 own' → RO L.G Fz' H' t d v S → Hd Fz H own ef Fz' own' S → Q v H') : Cont L.G t Fz1 H1 d Q :=
  fun v H' Fz' S r n z f => k v H' Fz' own1 S ⟨s1.re.fr0 f, s1.fr.trans f (fun _ z => z.elim), s1.ow⟩ r ⟨n, fun i b ob sb => (by
    obtain ⟨u, e⟩ := s1.re.trk ob
    rw [z b sb] at e; cases e), fun b sb => Eg.back s1.fr (z b sb)⟩
theorem tPs_mk {e : E} {Q : List V → Hp → Prop} (hl : lok L.Γ e = true) (I : RE L.G L.Γ L.PV Fz H env σ own) (h : match ev L.fc e env with
      | .ok ds env' => ∀ vs H' Fz' own', Stp L σ Fz H own (eff e) Fz' H' env' own' → RBs L.G Fz' H' ds vs → (noOwn L.Γ e = true → RFs L.G Fz' H' ds vs) → Q vs H'
      | .exc c env' => ResX L σ Fz H own env' c
      | .no => False) : tPs L e σ H Q := by
  refine tPs_ok e hl I ?_
  cases ee : ev L.fc e env with
  | ok ds e1 =>
    rw [ee] at h
    exact fun vs H' Fz' own' a b c d f => h vs H' Fz' own' ⟨a, d, f⟩ b c
  | exc c e1 => rw [ee] at h; exact h
  | no => rw [ee] at h; exact h
def elen : E → Nat
  | .cons _ r => elen r + 1
  | _ => 0
theorem ev_len {fc : Nat → List D → CR} : ∀ (e : E) {env ds env'}, lok Γ e = true → ev fc e env = .ok ds env' → ds.length = elen e := by
  intro e
  induction e with
  | nil => intro env ds env' _ h; simp only [ev, R.ok.injEq] at h; rw [← h.1]; rfl
  | cons a r _ ihr =>
    intro env ds env' hl h
    simp only [lok, Bool.and_eq_true] at hl
    simp only [ev, R.bind] at h
    split at h
    · split at h
      · split at h
        · rename_i q
          simp only [R.ok.injEq] at h
          rw [← h.1, List.length_cons, ihr hl.2 q]
          rfl
        · cases h
        · cases h
      · cases h
    · cases h
    · cases h
  | _ => intro env ds env' hl; simp [lok] at hl
theorem RO.bl {t : Ty} {b : Bool} {v : V} {G : Gx} (h : RO G Fz H t (.bl b) v S) : v = .bl b ∧ ∀ x, ¬ S x := by
  cases t <;> exact h
theorem RO.int {t : Ty} {b : Int} {v : V} {G : Gx} (h : RO G Fz H t (.int b) v S) : v = .int b ∧ ∀ x, ¬ S x := by
  cases t <;> exact h
/-- what is evaluated without a change -/
theorem tE_still {e : E} {d : D} {v : V} (hv : ∀ env, ev L.fc e env = .ok [d] env) (ht : nty L.rt e = .a) (hr : ∀ Fz H, RF L.G Fz H d v) (h : tE L e σ H Q) : Q v H := by
  obtain ⟨Fz, env, own, I, h⟩ := tE_get h
  rw [hv] at h
  obtain ⟨d', e', k⟩ := h
  cases e'
  refine k v H Fz own (fun _ => False) (.refl I) ?_ .none
  rw [ht]
  exact ⟨hr _ _, fun _ => id⟩
end
def tT (L : Lx) (e : E) : TT := fun σ H Q => tP L e σ H fun v H' => ∃ c, v = .bl c ∧ Q c H'
def ckCon : D → Expr → Bool
  | .non, .Constant .none _ _ => true
  | .bl b, .Constant (.bool c) _ _ => b == c
  | .int i, .Constant (.int j) _ _ => decide (i = j)
  | .str x, .Constant (.str y) _ _ => decide (x = y)
  | _, _ => false
/-- an expression whose test is its value's -/
def plainT : Expr → Bool
  | .BoolOp _ _ _ => false
  | .UnaryOp .Not _ _ => false
  | .Compare _ _ _ _ => false
  | .IfExp _ _ _ _ => false
  | .NamedExpr _ _ _ => false
  | _ => true
theorem PT.imp {X : Cx} {e : Expr} {t t' : TT} (h : PT X e t) (i : ∀ σ H Q, t' σ H Q → t σ H Q) : PT X e t' := ⟨fun pins s σ H Q I q => h.run pins s σ H Q I (i σ H Q q)⟩
theorem PW.imp {X : Cx} {e : Expr} {t t' : TT} (h : PW X e t) (i : ∀ σ H Q, t' σ H Q → t σ H Q) : PW X e t' := ⟨fun wh pins s σ H Q I q => h.run wh pins s σ H Q I (i σ H Q q)⟩
section
variable {X : Cx} {L : Lx} {U : Fx} {k : Nat} {N : List Str} {sc : Scope} {GL : Str → D → Bool}
theorem pe_conE {d : D} {ast : Expr} (h : ckCon d ast = true) : PE X ast (tE L (.con d)) := by
  have st : ∀ {v : V}, PE X ast (tC v) → (∀ Fz H, RF L.G Fz H d v) → PE X ast (tE L (.con d)) := fun p r => PE.imp p fun σ H Q q => tE_still (e := .con d) (fun _ => rfl) rfl r q
  unfold ckCon at h
  split at h
  · exact st pe_non fun _ _ => rfl
  · rename_i b c _ _
    have : b = c := by simpa using h
    subst this
    exact st pe_bl fun _ _ => rfl
  · have := of_decide_eq_true h
    subst this
    exact st pe_int fun _ _ => rfl
  · have := of_decide_eq_true h
    subst this
    exact st pe_str fun _ _ => rfl
  · cases h
theorem pe_globE (C : Ct L U N k sc GL X) {x : Str} {d : D} {pos : Pos} (hg : gl sc x = true) (hd : GL x d = true) (h1 : (x == ("__debug__" : Str)) = false) : PE X (.Name x pos) (tE L (.glob x d)) := by
  obtain ⟨u, v, e, r, f⟩ := C.gc x d hd
  exact PE.imp (pe_glob (C.hg x hg) e r h1) fun σ H Q q => tE_still (e := .glob x d) (fun _ => rfl) rfl f q
theorem pe_tupE {a : E} {es : List Expr} {x1 : Nat} {pos : Pos} (h : PA X es (tPs L a)) (hl : lok L.Γ a = true) (hn : noOwn L.Γ a = true) (hz : elen a ≤ 1000) : PE X (.Tuple es x1 pos) (tE L (.tup a)) := by
  refine PE.imp (pe_tup h) fun σ H Q q => ?_
  obtain ⟨Fz, env, own, I, h⟩ := tE_get q
  refine tPs_mk hl I ?_
  simp only [ev, R.bind] at h
  cases ea : ev L.fc a env with
  | no => rw [ea] at h; exact h
  | exc c e1 => rw [ea] at h; exact h
  | ok ds e1 =>
    rw [ea] at h
    obtain ⟨d, e', kk⟩ := h
    cases e'
    intro vs H1 Fz1 own1 s1 rbs rfs
    have rf := rfs hn
    refine ⟨?_, fun p hp => Cont.tup (Cont.mk (t := .a) s1 kk) rf hp⟩
    rw [rf.length, ev_len a hl ea, sizeLine_eq]; omega
theorem pe_lstE {a : E} {es : List Expr} {pos : Pos} (h : PA X es (tPs L a)) (hl : lok L.Γ a = true) (hn : noOwn L.Γ a = true) (hz : elen a ≤ 1000) : PE X (.List es pos) (tE L (.lst a)) := by
  refine PE.imp (pe_lst h) fun σ H Q q => ?_
  obtain ⟨Fz, env, own, I, h⟩ := tE_get q
  refine tPs_mk hl I ?_
  simp only [ev, R.bind] at h
  cases ea : ev L.fc a env with
  | no => rw [ea] at h; exact h
  | exc c e1 => rw [ea] at h; exact h
  | ok ds e1 =>
    rw [ea] at h
    obtain ⟨d, e', kk⟩ := h
    cases e'
    intro vs H1 Fz1 own1 s1 rbs rfs
    have rf := rfs hn
    refine ⟨?_, fun p hp => Cont.lst (Cont.mk (t := .o) s1 kk) rf hp⟩
    rw [rf.length, ev_len a hl ea, sizeLine_eq]; omega
/-- of the kind a, what is read is the value -/
theorem tE_tP {e : E} {σ : L2.St} {H : Hp} {Q : VK} (hb : bor L.Γ e = false) (ht : nty L.rt e = .a) (h : tE L e σ H Q) : tP L e σ H Q := by
  obtain ⟨Fz, env, own, I, h⟩ := tE_get h
  refine tP_mk I ?_
  cases ee : ev L.fc e env with
  | ok ds e1 =>
    rw [ee] at h
    obtain ⟨d, e2, k⟩ := h
    exact ⟨d, e2, fun v H' Fz' own' a b c => k v H' Fz' own' (fun _ => False) a (by rw [ht]; exact ⟨c hb, fun _ => id⟩) .none⟩
  | exc c e1 => rw [ee] at h; exact h
  | no => rw [ee] at h; exact h
theorem pe_E {e : E} {ast : Expr} (hb : bor L.Γ e = false) (ht : nty L.rt e = .a) (h : PE X ast (tP L e)) : PE X ast (tE L e) := PE.imp h fun _ _ _ q => tE_tP hb ht q
/-! ### and, or, not, if -/
theorem tT_and {a b : E} {σ : L2.St} {H : Hp} {Q : Bool → Hp → Prop} (hb : bor L.Γ b = false) (q : tT L (.and a b) σ H Q) : tAnd (tT L a) (tT L b) σ H Q := by
  obtain ⟨Fz, env, own, I, h⟩ := tP_get q
  refine tP_mk I ?_
  simp only [ev, R.bind] at h
  cases ea : ev L.fc a env with
  | no => rw [ea] at h; exact h
  | exc c e1 => rw [ea] at h; exact h
  | ok ds e1 =>
    rw [ea] at h
    simp only at h
    split at h
    · rename_i ds' env' heq
      split at heq
      · refine ⟨_, rfl, fun v H1 Fz1 own1 s1 rb rf => ⟨true, rb, ?_⟩⟩
        refine tP_mk s1.re ?_
        rw [heq]
        obtain ⟨d, e', kk⟩ := h
        exact ⟨d, e', fun v2 H2 Fz2 own2 s2 rb2 rf2 => kk v2 H2 Fz2 own2 (s1.trans s2) rb2 fun _ => rf2 hb⟩
      · cases heq
        obtain ⟨d, e', kk⟩ := h
        cases e'
        refine ⟨_, rfl, fun v H1 Fz1 own1 s1 rb rf => ⟨false, rb, ?_⟩⟩
        obtain ⟨c, ec, hc⟩ := kk v H1 Fz1 own1 (s1.mono (by intro z; simp [eff, z])) rb fun _ => rb
        rw [show v = .bl false from rb] at ec
        cases ec
        exact hc
      · cases heq
    · rename_i c env' heq
      split at heq
      · refine ⟨_, rfl, fun v H1 Fz1 own1 s1 rb rf => ⟨true, rb, ?_⟩⟩
        refine tP_mk s1.re ?_
        rw [heq]
        exact ResX.of s1 h
      · cases heq
      · cases heq
    · exact h.elim
theorem tP_and {a b : E} {σ : L2.St} {H : Hp} {Q : VK} (hb : bor L.Γ b = false) (q : tP L (.and a b) σ H Q) : tAndV (tP L a) (tP L b) σ H Q := by
  obtain ⟨Fz, env, own, I, h⟩ := tP_get q
  refine tP_mk I ?_
  simp only [ev, R.bind] at h
  cases ea : ev L.fc a env with
  | no => rw [ea] at h; exact h
  | exc c e1 => rw [ea] at h; exact h
  | ok ds e1 =>
    rw [ea] at h
    simp only at h
    split at h
    · rename_i ds' env' heq
      split at heq
      · refine ⟨_, rfl, fun v H1 Fz1 own1 s1 rb rf => ⟨true, rb, ?_⟩⟩
        refine tP_mk s1.re ?_
        rw [heq]
        obtain ⟨d, e', kk⟩ := h
        exact ⟨d, e', fun v2 H2 Fz2 own2 s2 rb2 rf2 => kk v2 H2 Fz2 own2 (s1.trans s2) rb2 fun _ => rf2 hb⟩
      · cases heq
        obtain ⟨d, e', kk⟩ := h
        cases e'
        exact ⟨_, rfl, fun v H1 Fz1 own1 s1 rb rf => ⟨false, rb, kk (.bl false) H1 Fz1 own1 (s1.mono (by intro z; simp [eff, z])) rfl fun _ => rfl⟩⟩
      · cases heq
    · rename_i c env' heq
      split at heq
      · refine ⟨_, rfl, fun v H1 Fz1 own1 s1 rb rf => ⟨true, rb, ?_⟩⟩
        refine tP_mk s1.re ?_
        rw [heq]
        exact ResX.of s1 h
      · cases heq
      · cases heq
    · exact h.elim
theorem tT_or {a b : E} {σ : L2.St} {H : Hp} {Q : Bool → Hp → Prop} (hb : bor L.Γ b = false) (q : tT L (.or a b) σ H Q) : tOr (tT L a) (tT L b) σ H Q := by
  obtain ⟨Fz, env, own, I, h⟩ := tP_get q
  refine tP_mk I ?_
  simp only [ev, R.bind] at h
  cases ea : ev L.fc a env with
  | no => rw [ea] at h; exact h
  | exc c e1 => rw [ea] at h; exact h
  | ok ds e1 =>
    rw [ea] at h
    simp only at h
    split at h
    · rename_i ds' env' heq
      split at heq
      · refine ⟨_, rfl, fun v H1 Fz1 own1 s1 rb rf => ⟨false, rb, ?_⟩⟩
        refine tP_mk s1.re ?_
        rw [heq]
        obtain ⟨d, e', kk⟩ := h
        exact ⟨d, e', fun v2 H2 Fz2 own2 s2 rb2 rf2 => kk v2 H2 Fz2 own2 (s1.trans s2) rb2 fun _ => rf2 hb⟩
      · cases heq
        obtain ⟨d, e', kk⟩ := h
        cases e'
        refine ⟨_, rfl, fun v H1 Fz1 own1 s1 rb rf => ⟨true, rb, ?_⟩⟩
        obtain ⟨c, ec, hc⟩ := kk v H1 Fz1 own1 (s1.mono (by intro z; simp [eff, z])) rb fun _ => rb
        rw [show v = .bl true from rb] at ec
        cases ec
        exact hc
      · cases heq
    · rename_i c env' heq
      split at heq
      · refine ⟨_, rfl, fun v H1 Fz1 own1 s1 rb rf => ⟨false, rb, ?_⟩⟩
        refine tP_mk s1.re ?_
        rw [heq]
        exact ResX.of s1 h
      · cases heq
      · cases heq
    · exact h.elim
theorem tP_or {a b : E} {σ : L2.St} {H : Hp} {Q : VK} (hb : bor L.Γ b = false) (q : tP L (.or a b) σ H Q) : tOrV (tP L a) (tP L b) σ H Q := by
  obtain ⟨Fz, env, own, I, h⟩ := tP_get q
  refine tP_mk I ?_
  simp only [ev, R.bind] at h
  cases ea : ev L.fc a env with
  | no => rw [ea] at h; exact h
  | exc c e1 => rw [ea] at h; exact h
  | ok ds e1 =>
    rw [ea] at h
    simp only at h
    split at h
    · rename_i ds' env' heq
      split at heq
      · refine ⟨_, rfl, fun v H1 Fz1 own1 s1 rb rf => ⟨false, rb, ?_⟩⟩
        refine tP_mk s1.re ?_
        rw [heq]
        obtain ⟨d, e', kk⟩ := h
        exact ⟨d, e', fun v2 H2 Fz2 own2 s2 rb2 rf2 => kk v2 H2 Fz2 own2 (s1.trans s2) rb2 fun _ => rf2 hb⟩
      · cases heq
        obtain ⟨d, e', kk⟩ := h
        cases e'
        exact ⟨_, rfl, fun v H1 Fz1 own1 s1 rb rf => ⟨true, rb, kk (.bl true) H1 Fz1 own1 (s1.mono (by intro z; simp [eff, z])) rfl fun _ => rfl⟩⟩
      · cases heq
    · rename_i c env' heq
      split at heq
      · refine ⟨_, rfl, fun v H1 Fz1 own1 s1 rb rf => ⟨false, rb, ?_⟩⟩
        refine tP_mk s1.re ?_
        rw [heq]
        exact ResX.of s1 h
      · cases heq
      · cases heq
    · exact h.elim
theorem tP_not {a : E} {σ : L2.St} {H : Hp} {Q : VK} (q : tP L (.not a) σ H Q) : tNotV (tP L a) σ H Q := by
  obtain ⟨Fz, env, own, I, h⟩ := tP_get q
  refine tP_mk I ?_
  simp only [ev, R.bind] at h
  cases ea : ev L.fc a env with
  | no => rw [ea] at h; exact h
  | exc c e1 => rw [ea] at h; exact h
  | ok ds e1 =>
    rw [ea] at h
    simp only at h
    split at h
    · rename_i ds' env' heq
      split at heq
      · cases heq
        obtain ⟨d, e', kk⟩ := h
        cases e'
        exact ⟨_, rfl, fun v H1 Fz1 own1 s1 rb rf => ⟨_, rb, kk _ H1 Fz1 own1 s1 rfl fun _ => rfl⟩⟩
      · cases heq
    · rename_i heq
      split at heq <;> cases heq
    · exact h.elim
theorem tT_not {a : E} {σ : L2.St} {H : Hp} {Q : Bool → Hp → Prop} (q : tT L (.not a) σ H Q) : tNot (tT L a) σ H Q := by
  obtain ⟨Fz, env, own, I, h⟩ := tP_get q
  refine tP_mk I ?_
  simp only [ev, R.bind] at h
  cases ea : ev L.fc a env with
  | no => rw [ea] at h; exact h
  | exc c e1 => rw [ea] at h; exact h
  | ok ds e1 =>
    rw [ea] at h
    simp only at h
    split at h
    · rename_i ds' env' heq
      split at heq
      · cases heq
        obtain ⟨d, e', kk⟩ := h
        cases e'
        refine ⟨_, rfl, fun v H1 Fz1 own1 s1 rb rf => ⟨_, rb, ?_⟩⟩
        obtain ⟨c, ec, hc⟩ := kk _ H1 Fz1 own1 s1 rfl fun _ => rfl
        cases ec
        exact hc
      · cases heq
    · rename_i heq
      split at heq <;> cases heq
    · exact h.elim
theorem tP_ite {c a b : E} {σ : L2.St} {H : Hp} {Q : VK} (ha : bor L.Γ a = false) (hb : bor L.Γ b = false) (q : tP L (.ite c a b) σ H Q) : tIf (tT L c) (tP L a) (tP L b) σ H Q := by
  obtain ⟨Fz, env, own, I, h⟩ := tP_get q
  refine tP_mk I ?_
  simp only [ev, R.bind] at h
  cases ea : ev L.fc c env with
  | no => rw [ea] at h; exact h
  | exc c e1 => rw [ea] at h; exact h
  | ok ds e1 =>
    rw [ea] at h
    simp only at h
    split at h
    · rename_i ds' env' heq
      obtain ⟨d, e', kk⟩ := h
      split at heq
      · refine ⟨_, rfl, fun v H1 Fz1 own1 s1 rb rf => ⟨true, rb, ?_⟩⟩
        refine tP_mk s1.re ?_
        rw [heq]
        exact ⟨d, e', fun v2 H2 Fz2 own2 s2 rb2 rf2 => kk v2 H2 Fz2 own2 ((s1.trans s2).mono (by intro z; simp only [eff]; revert z; cases eff c <;> cases eff a <;> simp)) rb2 fun _ => rf2 ha⟩
      · refine ⟨_, rfl, fun v H1 Fz1 own1 s1 rb rf => ⟨false, rb, ?_⟩⟩
        refine tP_mk s1.re ?_
        rw [heq]
        exact ⟨d, e', fun v2 H2 Fz2 own2 s2 rb2 rf2 => kk v2 H2 Fz2 own2 ((s1.trans s2).mono (by intro z; simp only [eff]; revert z; cases eff c <;> cases eff b <;> simp)) rb2 fun _ => rf2 hb⟩
      · cases heq
    · rename_i c env' heq
      split at heq
      · refine ⟨_, rfl, fun v H1 Fz1 own1 s1 rb rf => ⟨true, rb, ?_⟩⟩
        refine tP_mk s1.re ?_
        rw [heq]
        exact ResX.of s1 h
      · refine ⟨_, rfl, fun v H1 Fz1 own1 s1 rb rf => ⟨false, rb, ?_⟩⟩
        refine tP_mk s1.re ?_
        rw [heq]
        exact ResX.of s1 h
      · cases heq
    · exact h.elim
theorem pt_plain {e : E} {ast : Expr} (h : PE X ast (tP L e)) (hp : plainT ast = true) : PT X ast (tT L e) :=
  pt_val h fun whole => by cases ast <;> first | rfl | (simp [plainT] at hp; done) | (rename_i op _ _; cases op <;> first | rfl | simp [plainT] at hp)
end
end Eg

end
section
set_option maxHeartbeats 8000000
namespace Eg
open PySem PySem.Spec PyProof.Rows L2
/-! ### calls of the text's own defs -/
def tCs (L : Lx) : E → TA
  | .cons a r => tCons (match byNm a with
    | some i => tVar i
    | none => tP L a) (tCs L r)
  | _ => tNil
def CA (G : Gx) (σ : L2.St) (Fz : Addr → Prop) (H : Hp) : E → List D → List V → Prop
  | .cons a r, d :: ds, v :: vs => (match byNm a with
    | some i => σ[i]? = some (some v)
    | none => RF G Fz H d v) ∧ CA G σ Fz H r ds vs
  | .nil, [], [] => True
  | _, _, _ => False
def cok (Γ : List Ty) : E → Bool
  | .nil => true
  | .cons a r => ((byNm a).isSome || !bor Γ a) && cok Γ r
  | _ => false
theorem byNm_cases (a : E) : (∃ i, a = .io i) ∨ (∃ i, a = .bw i) ∨ (byNm a = none ∧ isIo a = none ∧ isBw a = none) := by
  cases a <;> simp [byNm, isIo, isBw]
section
variable {L : Lx} {σ : L2.St} {Fz Fz1 Fz2 S : Addr → Prop} {H H1 H2 : Hp} {env env1 env2 : List D} {own own1 own2 : Nat → Addr → Prop} {e1 e2 ef : Bool}
theorem CA.le {G : Gx} (l : Le Fz H Fz1 H1) : ∀ (e : E) {ds : List D} {vs : List V}, CA G σ Fz H e ds vs → CA G σ Fz1 H1 e ds vs := by
  intro e
  induction e with
  | nil =>
    intro ds vs h
    match ds, vs, h with
    | [], [], _ => trivial
  | cons a r _ ih =>
    intro ds vs h
    match ds, vs, h with
    | d :: ds, v :: vs, h =>
      refine ⟨?_, ih h.2⟩
      have h1 := h.1
      split
      · rename_i i q; rw [q] at h1; exact h1
      · rename_i q; rw [q] at h1; exact RF.le l d h1
  | _ => intro ds vs h; exact h.elim
theorem tCs_mk : ∀ (e : E) {Q : List V → Hp → Prop} {Fz H env own}, cok L.Γ e = true → RE L.G L.Γ L.PV Fz H env σ own → (match ev L.fc e env with
      | .ok ds env' => ∀ vs H' Fz' own', Stp L σ Fz H own (eff e) Fz' H' env' own' → CA L.G σ Fz' H' e ds vs → Q vs H'
      | .exc c env' => ResX L σ Fz H own env' c
      | .no => False) → tCs L e σ H Q := by
  intro e
  induction e with
  | nil =>
    intro Q Fz H env own _ I h
    simp only [ev] at h
    exact h [] H Fz own (.refl I) trivial
  | cons a r iha ihr =>
    intro Q Fz H env own hl I h
    simp only [cok, Bool.and_eq_true] at hl
    simp only [ev, R.bind] at h
    -- by name
    have byn : ∀ i, byNm a = some i → (∀ e, ev L.fc a e = match e.getD i .unset with
        | .unset => .no
        | _ => .ok [.unset] e) → eff a = false → tCs L (.cons a r) σ H Q := fun i hi he hf => by
      show tCons (match byNm a with
        | some i => tVar i
        | none => tP L a) (tCs L r) σ H Q
      rw [hi]
      have hne : env.getD i .unset ≠ .unset := by
        intro z; rw [he env, z] at h; exact h
      have hee : ev L.fc a env = .ok [.unset] env := by
        rw [he env]; split
        · exact absurd ‹_› hne
        · rfl
      rw [hee] at h
      obtain ⟨v, e1, ro⟩ := I.val i hne
      have h' : (match ev L.fc r env with
        | .ok y e2 => ∀ vs H' Fz' own', Stp L σ Fz H own (eff (.cons a r)) Fz' H' e2 own' → CA L.G σ Fz' H' (.cons a r) (.unset :: y) vs → Q vs H'
        | .exc c e2 => ResX L σ Fz H own e2 c
        | .no => False) := by
        cases er : ev L.fc r env with
        | no => simp only [er] at h
        | exc c e2 => simp only [er] at h; exact h
        | ok ds e2 => simp only [er] at h; exact h
      refine ⟨v, e1, ihr hl.2 I ?_⟩
      cases er : ev L.fc r env with
      | no => rw [er] at h'; exact h'
      | exc c e2 => rw [er] at h'; exact h'
      | ok ds e2 =>
        rw [er] at h'
        intro vs H' Fz' own' s1 ca
        refine h' (v :: vs) H' Fz' own' (s1.mono fun z => by simp [eff, z]) ⟨?_, ca⟩
        rw [hi]
        exact e1
    rcases byNm_cases a with ⟨i, rfl⟩ | ⟨i, rfl⟩ | ⟨hn, _, _⟩
    · exact byn i rfl (fun _ => rfl) rfl
    · exact byn i rfl (fun _ => rfl) rfl
    · show tCons (match byNm a with
        | some i => tVar i
        | none => tP L a) (tCs L r) σ H Q
      have hb : bor L.Γ a = false := by
        have := hl.1
        rw [hn] at this
        simpa using this
      rw [hn]
      refine tP_mk I ?_
      cases ea : ev L.fc a env with
      | no => rw [ea] at h; exact h
      | exc c e1 => rw [ea] at h; exact h
      | ok ds e1 =>
        rw [ea] at h
        simp only at h
        match ds, h with
        | [], h => exact h.elim
        | _ :: _ :: _, h => exact h.elim
        | [d], h =>
          refine ⟨d, rfl, fun v H1 Fz1 own1 s1 rb rf => ihr hl.2 s1.re ?_⟩
          cases er : ev L.fc r e1 with
          | no => simp only [er] at h
          | exc c e2 => simp only [er] at h; exact ResX.of s1 h
          | ok es e2 =>
            simp only [er] at h
            intro vs H2 Fz2 own2 s2 ca
            refine h (v :: vs) H2 Fz2 own2 (s1.trans s2) ⟨?_, ca⟩
            rw [hn]
            exact RF.le (s2.le s1.re) d (rf hb)
  | _ => intro Q Fz H env own hl; simp [cok] at hl
/-- what each argument owns -/
def SsOf (own : Nat → Addr → Prop) : E → List (Addr → Prop)
  | .cons a r => (match isIo a with
    | some i => own i
    | none => fun _ => False) :: SsOf own r
  | _ => []
def ptok (Γ : List Ty) : E → List Ty → Bool
  | .nil, [] => true
  | .cons a r, t :: ts => (match isIo a with
    | some i => t == .o && Γ.getD i .a == .o
    | none => t == .a) && (match isBw a with
    | some i => !(Γ.getD i .a == .a)
    | none => true) && ptok Γ r ts
  | _, _ => false
def bwF (own : Nat → Addr → Prop) (a : E) : Addr → Prop := fun b => ∃ i ∈ bwS a, own i b
theorem isU_eq {d : D} (h : isU d = false) : d ≠ .unset := by intro z; subst z; cases h
theorem setAll_get {is : List Nat} {i : Nat} (h : setAll is env = true) (m : i ∈ is) : env.getD i .unset ≠ .unset := by
  have := List.all_eq_true.mp h i m
  exact isU_eq (by simpa using this)
theorem RF.ne {G : Gx} {d : D} {v : V} (h : RF G Fz H d v) : d ≠ .unset := by intro z; subst z; exact h
theorem RO.ne {G : Gx} {t : Ty} {d : D} {v : V} (h : RO G Fz H t d v S) : d ≠ .unset := by intro z; subst z; cases t <;> exact h.1
theorem ar_ok (I : RE L.G L.Γ L.PV Fz H env σ own) {B : Addr → Prop} : ∀ (e : E) {ds : List D} {vs : List V} {ts : List Ty}, CA L.G σ Fz H e ds vs → ptok L.Γ e ts = true → setAll (ioS e) env = true → setAll (bwS e) env = true → (∀ i ∈ bwS e, ∀ b, own i b → B b) →
    AR L.G (fun b => Fz b ∨ B b) H ts (fillA e ds env) vs (SsOf own e) := by
  have l : Le Fz H (fun b => Fz b ∨ B b) H := fun b o x e => ⟨.inl x, e⟩
  intro e
  induction e with
  | nil =>
    intro ds vs ts ca hp _ _ _
    match ds, vs, ts, ca, hp with
    | [], [], [], _, _ => trivial
  | cons a r _ ih =>
    intro ds vs ts ca hp s1 s2 hB
    match ds, vs, ts, ca, hp with
    | d :: ds, v :: vs, t :: ts, ca, hp =>
      simp only [ptok, Bool.and_eq_true] at hp
      obtain ⟨⟨p1, p2⟩, p3⟩ := hp
      rcases byNm_cases a with ⟨i, rfl⟩ | ⟨i, rfl⟩ | ⟨hn, hi, hb⟩
      · simp only [isIo, Bool.and_eq_true, beq_iff_eq] at p1
        obtain ⟨p1, pg⟩ := p1
        subst p1
        simp only [ioS, isIo] at s1
        have hne := setAll_get s1 (i := i) List.mem_cons_self
        obtain ⟨u, e1, ro⟩ := I.val i hne
        have e2 : σ[i]? = some (some v) := ca.1
        rw [e2] at e1
        cases e1
        rw [pg] at ro
        refine ⟨ro.le l (fun b o _ q => q), hne, ih ca.2 p3 ?_ s2 hB⟩
        simp only [setAll, List.all_cons, Bool.and_eq_true] at s1
        exact s1.2
      · simp only [isIo, beq_iff_eq] at p1
        subst p1
        have s2' := s2
        simp only [bwS, isBw] at s2
        have hne := setAll_get s2 (i := i) List.mem_cons_self
        obtain ⟨u, e1, ro⟩ := I.val i hne
        have e2 : σ[i]? = some (some v) := ca.1
        rw [e2] at e1
        cases e1
        have hB' : ∀ b, own i b → B b := fun b ob => hB i (by simp [bwS, isBw]) b ob
        refine ⟨⟨RF.le (fun b o x e => ⟨x.imp id (hB' b), e⟩) _ ro.freeze, fun _ z => z⟩, hne, ih ca.2 p3 s1 ?_ fun j hj b ob => hB j (by simp only [bwS, isBw]; exact List.mem_cons_of_mem _ hj) b ob⟩
        simp only [setAll, List.all_cons, Bool.and_eq_true] at s2
        exact s2.2
      · rw [hi] at p1
        simp only [beq_iff_eq] at p1
        subst p1
        simp only [ioS, hi] at s1
        simp only [bwS, hb] at s2 hB
        have c1 : RF L.G Fz H d v := by
          have := ca.1
          rw [hn] at this
          exact this
        show RO _ _ _ _ (match byNm a with
          | some i => env.getD i .unset
          | none => d) _ (match isIo a with
          | some i => own i
          | none => fun _ => False) ∧ _ ∧ _
        rw [hn, hi]
        exact ⟨⟨RF.le l d c1, fun _ z => z⟩, c1.ne, ih ca.2 p3 s1 s2 hB⟩
  | _ => intro ds vs ts ca; exact ca.elim
def ioAt : E → Nat → Option Nat
  | .cons a _, 0 => isIo a
  | .cons _ r, n + 1 => ioAt r n
  | _, _ => none
theorem ownL_of {p : Nat} {b : Addr} : ∀ {e : E} {p : Nat}, ownL (SsOf own e) p b → ∃ i, ioAt e p = some i ∧ own i b := by
  intro e
  induction e with
  | cons a r _ ih =>
    intro p h
    obtain ⟨S, e1, sb⟩ := h
    cases p with
    | zero =>
      simp only [SsOf, List.getElem?_cons_zero, Option.some.injEq] at e1
      subst e1
      show ∃ i, isIo a = some i ∧ _
      cases hi : isIo a with
      | some i => rw [hi] at sb; exact ⟨i, rfl, sb⟩
      | none => rw [hi] at sb; exact sb.elim
    | succ p =>
      simp only [SsOf, List.getElem?_cons_succ] at e1
      exact ih (p := p) ⟨S, e1, sb⟩
  | _ => intro p h; obtain ⟨S, e1, sb⟩ := h; simp [SsOf] at e1
theorem ioAt_mem : ∀ {e : E} {p i : Nat}, ioAt e p = some i → i ∈ ioS e := by
  intro e
  induction e with
  | cons a r _ ih =>
    intro p i h
    cases p with
    | zero => simp only [ioAt] at h; simp [ioS, h]
    | succ p =>
      simp only [ioAt] at h
      simp only [ioS]
      split
      · exact List.mem_cons_of_mem _ (ih h)
      · exact ih h
  | _ => intro p i h; simp [ioAt] at h
theorem ioAt_inj : ∀ {e : E} {p q i : Nat}, (ioS e).Nodup → ioAt e p = some i → ioAt e q = some i → p = q := by
  intro e
  induction e with
  | cons a r _ ih =>
    intro p q i nd h1 h2
    cases p with
    | zero =>
      cases q with
      | zero => rfl
      | succ q =>
        simp only [ioAt] at h1 h2
        simp only [ioS, h1, List.nodup_cons] at nd
        exact absurd (ioAt_mem h2) nd.1
    | succ p =>
      cases q with
      | zero =>
        simp only [ioAt] at h1 h2
        simp only [ioS, h2, List.nodup_cons] at nd
        exact absurd (ioAt_mem h1) nd.1
      | succ q =>
        simp only [ioAt] at h1 h2
        have nd' : (ioS r).Nodup := by
          simp only [ioS] at nd
          split at nd
          · exact (List.nodup_cons.mp nd).2
          · exact nd
        rw [ih nd' h1 h2]
  | _ => intro p q i _ h; simp [ioAt] at h
theorem ioP_at : ∀ {e : E} {n j i : Nat}, (ioS e)[j]? = some i → ∃ p, (ioP n e)[j]? = some (n + p) ∧ ioAt e p = some i := by
  intro e
  induction e with
  | cons a r _ ih =>
    intro n j i h
    simp only [ioS] at h
    cases ha : isIo a with
    | none =>
      rw [ha] at h
      obtain ⟨p, e1, e2⟩ := ih (n := n + 1) h
      exact ⟨p + 1, by simp only [ioP, ha]; rw [e1]; congr 1; omega, e2⟩
    | some i' =>
      rw [ha] at h
      cases j with
      | zero =>
        simp only [List.getElem?_cons_zero, Option.some.injEq] at h
        subst h
        exact ⟨0, by simp [ioP, ha], ha⟩
      | succ j =>
        simp only [List.getElem?_cons_succ] at h
        obtain ⟨p, e1, e2⟩ := ih (n := n + 1) h
        exact ⟨p + 1, by simp only [ioP, ha, List.getElem?_cons_succ]; rw [e1]; congr 1; omega, e2⟩
  | _ => intro n j i h; simp [ioS] at h
theorem ioP_len : ∀ {e : E} {n : Nat}, (ioP n e).length = (ioS e).length := by
  intro e
  induction e with
  | cons a r _ ih =>
    intro n
    simp only [ioP, ioS]
    cases isIo a with
    | none => exact ih
    | some i => simp [ih]
  | _ => intro n; rfl
theorem ca_at {G : Gx} : ∀ {e : E} {ds : List D} {vs : List V} {p i : Nat}, CA G σ Fz H e ds vs → ioAt e p = some i → ∃ v, vs[p]? = some v ∧ σ[i]? = some (some v) := by
  intro e
  induction e with
  | cons a r _ ih =>
    intro ds vs p i h q
    match ds, vs, h with
    | d :: ds, v :: vs, h =>
      cases p with
      | zero =>
        simp only [ioAt] at q
        cases a with
        | io j => cases q; exact ⟨v, rfl, h.1⟩
        | _ => simp [isIo] at q
      | succ p =>
        simp only [ioAt] at q
        obtain ⟨u, e1, e2⟩ := ih (p := p) h.2 q
        exact ⟨u, by simpa using e1, e2⟩
  | _ => intro ds vs p i h q; simp [ioAt] at q
theorem setMany_len : ∀ {is : List Nat} {ps env : List D}, (setMany env is ps).length = env.length
  | [], _, _ => by simp [setMany]
  | i :: is, [], _ => by simp [setMany]
  | i :: is, p :: ps, env => by rw [setMany, setMany_len, List.length_set]
theorem setMany_out : ∀ {is : List Nat} {ps env : List D} {i : Nat}, i ∉ is → (setMany env is ps).getD i .unset = env.getD i .unset
  | [], _, _, _, _ => by simp [setMany]
  | j :: is, [], _, _, _ => by simp [setMany]
  | j :: is, p :: ps, env, i, h => by
    rw [setMany, setMany_out (fun z => h (List.mem_cons_of_mem _ z))]
    have : j ≠ i := fun z => h (z ▸ List.mem_cons_self)
    rw [List.getD_eq_getElem?_getD, List.getD_eq_getElem?_getD, List.getElem?_set_ne this]
theorem getD_lt {i : Nat} (h : env.getD i .unset ≠ .unset) : i < env.length := by
  by_cases z : i < env.length
  · exact z
  · rw [List.getD_eq_getElem?_getD, List.getElem?_eq_none (by omega)] at h
    exact absurd rfl h
theorem setMany_in : ∀ {is : List Nat} {ps env : List D} {i j : Nat} {d : D}, is.Nodup → is[j]? = some i → ps[j]? = some d → i < env.length → (setMany env is ps).getD i .unset = d
  | [], _, _, _, _, _, _, h, _, _ => by simp at h
  | k :: is, [], _, _, _, _, _, _, h, _ => by simp at h
  | k :: is, p :: ps, env, i, 0, d, nd, h1, h2, hl => by
    simp only [List.getElem?_cons_zero, Option.some.injEq] at h1 h2
    subst h1 h2
    rw [setMany, setMany_out (List.nodup_cons.mp nd).1, List.getD_eq_getElem?_getD, List.getElem?_set_self (by omega)]
    rfl
  | k :: is, p :: ps, env, i, j + 1, d, nd, h1, h2, hl => by
    rw [setMany]
    exact setMany_in (List.nodup_cons.mp nd).2 (by simpa using h1) (by simpa using h2) (by rw [List.length_set]; exact hl)
mutual
theorem RF.less {G : Gx} {R : Addr → Prop} (hF : ∀ b, Fz b → ¬ R b → Fz1 b) (hR : ∀ b, R b → ∃ xs, H b = some (.lst xs)) : ∀ (d : D) {v : V}, noL d = true → RF G Fz H d v → RF G Fz1 H d v
  | .unset, _, _, h => h
  | .non, _, _, h => h
  | .bl _, _, _, h => h
  | .int _, _, _, h => h
  | .str _, _, _, h => h
  | .tup ds, _, n, ⟨a, xs, e, h, r⟩ => ⟨a, xs, e, h.imp (fun ⟨x, y⟩ => ⟨hF a x fun z => (by
      obtain ⟨ys, e⟩ := hR a z
      rcases y with y | ⟨o, y⟩ <;> rw [y] at e <;> cases e), y⟩) id, RFs.less hF hR ds (by simpa [noL] using n) r⟩
  | .lst _, _, n, _ => by simp [noL] at n
  | .fl _, _, n, _ => by simp [noL] at n
  | .dct _, _, _, h => h
  | .ins _ _, _, _, h => h
  | .exc _, _, _, h => h
theorem RFs.less {G : Gx} {R : Addr → Prop} (hF : ∀ b, Fz b → ¬ R b → Fz1 b) (hR : ∀ b, R b → ∃ xs, H b = some (.lst xs)) : ∀ (ds : List D) {vs : List V}, noLs ds = true → RFs G Fz H ds vs → RFs G Fz1 H ds vs
  | [], _, _, h => h
  | d :: ds, _, n, ⟨v, r, e, h, t⟩ => by
    simp only [noLs, Bool.and_eq_true] at n
    exact ⟨v, r, e, RF.less hF hR d n.1 h, RFs.less hF hR ds n.2 t⟩
end
theorem RO.less {G : Gx} {R : Addr → Prop} (hF : ∀ b, Fz b → ¬ R b → Fz1 b) (hR : ∀ b, R b → ∃ xs, H b = some (.lst xs)) {t : Ty} {d : D} {v : V} (n : okRes (t == .o) d = true ∨ ∀ b, ¬ R b) (h : RO G Fz H t d v S) : RO G Fz1 H t d v S := by
  rcases n with n | n
  · cases t with
    | a => exact ⟨RF.less hF hR d (by simpa [okRes] using n) h.1, h.2⟩
    | n =>
      rcases h.casesN with ⟨ds, a, xs, T, e1, e2, hh, r, q⟩ | ⟨r, q, e⟩
      · subst e1; exact absurd n (by simp [okRes, noL])
      · exact .of_rfN (RF.less hF hR d (by simpa [okRes] using n) r) q e
    | o =>
      rcases h.cases with ⟨ds, a, xs, e1, e2, hh, r, q⟩ | h'
      · subst e1
        exact ⟨a, xs, e2, hh, RFs.less hF hR ds (by simpa [okRes] using n) r, q⟩
      · cases d with
        | lst ds => obtain ⟨a, xs, _, _, _, q⟩ := h; exact absurd ((q a).mpr rfl) (h'.2 a)
        | _ => exact ⟨RF.less hF hR _ (by simpa [okRes] using n) h'.1, h'.2⟩
  · exact h.le (fun b o x e => ⟨hF b x (n b), e⟩) fun b o _ q => q
end
end Eg

end
section
set_option maxHeartbeats 8000000
namespace Eg
open PySem PySem.Spec PyProof.Rows L2
/-- the slots' owners after a call -/
def ownC (is : List Nat) (own own' : Nat → Addr → Prop) : Nat → Addr → Prop := fun i b => (∃ j, is[j]? = some i ∧ own' j b) ∨ (i ∉ is ∧ own i b)
section
variable {L : Lx} {σ : L2.St} {Fz Fz1 Fz2 Fz' S : Addr → Prop} {H H1 H2 H' : Hp} {env env1 env2 : List D} {own own1 own2 own' : Nat → Addr → Prop} {e1 e2 ef : Bool} {a : E} {ds ps : List D} {vs : List V}
theorem ownL_io {p : Nat} {b : Addr} (h : ownL (SsOf own a) p b) : ∃ i ∈ ioS a, own i b := by
  obtain ⟨i, e1, o⟩ := ownL_of (p := p) (b := b) h
  exact ⟨i, ioAt_mem e1, o⟩
/-- behind a call -/
theorem call_fin (ht : ∀ i ∈ ioS a, L.Γ.getD i .a = .o) (nd : (ioS a).Nodup) (dj : ∀ i ∈ bwS a, i ∉ ioS a) (s1 : Stp L σ Fz H own (eff a) Fz1 H1 env1 own1) (ca : CA L.G σ Fz1 H1 a ds vs) (hs1 : setAll (ioS a) env1 = true) (hs2 : setAll (bwS a) env1 = true)
    (hres : (bwS a).isEmpty = true ∨ ps.all (okRes true) = true) (io : IoR L.G Fz' H' (ioP 0 a) ps vs own') (nf' : ∀ j b, own' j b → ¬ Fz' b) (dj' : ∀ i j b, own' i b → own' j b → i = j)
    (f : Fr (fun b => Fz1 b ∨ bwF own1 a b) H1 (OW (ownL (SsOf own1 a))) Fz' H') (o' : ∀ b, OW own' b → OW (ownL (SsOf own1 a)) b ∨ H1 b = none) :
    Stp L σ Fz H own (!(ioS a).isEmpty || eff a) (fun b => Fz' b ∧ ¬ bwF own1 a b) H' (setMany env1 (ioS a) ps) (ownC (ioS a) own1 own') ∧
      (∀ b, ¬ bwF own1 a b → Fz' b → Fz' b ∧ ¬ bwF own1 a b) ∧ (∀ b, bwF own1 a b → ∃ xs, H' b = some (.lst xs)) ∧ (∀ i b, i ∉ ioS a → own1 i b → ¬ OW (ownL (SsOf own1 a)) b) ∧ (∀ b, OW (ownL (SsOf own1 a)) b → MM own (!(ioS a).isEmpty || eff a) b ∨ H b = none) := by
  have I1 := s1.re
  obtain ⟨hlen, hio, hlt⟩ := io
  have hlen : ps.length = (ioS a).length := by rw [hlen, ioP_len]
  have notL : ∀ i b, i ∉ ioS a → own1 i b → ¬ OW (ownL (SsOf own1 a)) b := fun i b hi ob ⟨p, q⟩ => by
    obtain ⟨i', m, o⟩ := ownL_io q
    exact hi (I1.dj i i' b ob o ▸ m)
  have keepO : ∀ i b o, i ∉ ioS a → own1 i b → H1 b = some o → H' b = some o := fun i b o hi ob e => f.keep b o e (notL i b hi ob)
  have bwl : ∀ b, bwF own1 a b → ∃ xs, H' b = some (.lst xs) := fun b ⟨i, m, ob⟩ => by
    have hne := setAll_get hs2 m
    obtain ⟨v, _, ro⟩ := I1.val i hne
    obtain ⟨xs, hh⟩ := ro.own_lst b ob
    exact ⟨xs, keepO i b _ (dj i m) ob hh⟩
  have mm : ∀ b, OW (ownL (SsOf own1 a)) b → MM own (!(ioS a).isEmpty || eff a) b ∨ H b = none := fun b ⟨p, q⟩ => by
    obtain ⟨i, m, o⟩ := ownL_io q
    refine (s1.ow b ⟨i, o⟩).imp (fun z => ⟨?_, z⟩) id
    cases hq : ioS a with
    | nil => rw [hq] at m; cases m
    | cons _ _ => rfl
  have le1 : Le Fz1 H1 (fun b => Fz' b ∧ ¬ bwF own1 a b) H' := fun b o hb e => by
    have nL : ¬ OW (ownL (SsOf own1 a)) b := fun ⟨p, q⟩ => by
      obtain ⟨i, m, o⟩ := ownL_io q
      exact I1.nf i b o hb
    exact ⟨⟨f.fz b o (.inl hb) e nL, fun ⟨i, m, ob⟩ => I1.nf i b ob hb⟩, f.keep b o e nL⟩
  have nfF : ∀ i b, i ∉ ioS a → own1 i b → ¬ (Fz' b ∧ ¬ bwF own1 a b) := fun i b hi ob ⟨z, nb⟩ => by
    rcases f.fzn b z with (q | q) | q | q
    · exact I1.nf i b ob q
    · exact nb q
    · exact notL i b hi ob q
    · obtain ⟨u, e⟩ := I1.trk ob
      rw [e] at q; cases q
  have RE2 : RE L.G L.Γ L.PV (fun b => Fz' b ∧ ¬ bwF own1 a b) H' (setMany env1 (ioS a) ps) σ (ownC (ioS a) own1 own') := by
    have inC : ∀ i, i ∈ ioS a → ∃ j d v p, (ioS a)[j]? = some i ∧ ps[j]? = some d ∧ (setMany env1 (ioS a) ps).getD i .unset = d ∧ σ[i]? = some (some v) ∧ d ≠ .unset ∧ RO L.G (fun b => Fz' b ∧ ¬ bwF own1 a b) H' .o d v (own' j) ∧ p = j := fun i m => by
      obtain ⟨j, hj⟩ := List.getElem?_of_mem m
      have hjl : j < ps.length := by
        rw [hlen]
        exact (List.getElem?_eq_some_iff.mp hj).1
      obtain ⟨p, e1, e2⟩ := ioP_at (n := 0) hj
      rw [Nat.zero_add] at e1
      obtain ⟨hne, v, e3, ro⟩ := hio j p ps[j] e1 (List.getElem?_eq_getElem hjl)
      obtain ⟨v', e4, e5⟩ := ca_at ca e2
      rw [e3] at e4
      cases e4
      refine ⟨j, ps[j], v, j, hj, List.getElem?_eq_getElem hjl, ?_, e5, hne, ?_, rfl⟩
      · exact setMany_in nd hj (List.getElem?_eq_getElem hjl) (getD_lt (setAll_get hs1 m))
      · refine ro.less (R := bwF own1 a) (fun b z n => ⟨z, n⟩) bwl ?_
        rcases hres with q | q
        · right
          rintro b ⟨i, m, _⟩
          rw [List.isEmpty_iff] at q
          rw [q] at m; cases m
        · left
          exact List.all_eq_true.mp q _ (List.getElem_mem hjl)
    have ownIn : ∀ i j b, (ioS a)[j]? = some i → (ownC (ioS a) own1 own' i b ↔ own' j b) := fun i j b hj => by
      constructor
      · rintro (⟨j', e, o⟩ | ⟨n, _⟩)
        · have : j' = j := by
            obtain ⟨l1, e1⟩ := List.getElem?_eq_some_iff.mp e
            obtain ⟨l2, e2⟩ := List.getElem?_eq_some_iff.mp hj
            exact (List.getElem_inj nd).mp (e1.trans e2.symm)
          rw [this] at o; exact o
        · exact absurd (List.mem_of_getElem? hj) n
      · exact fun o => .inl ⟨j, hj, o⟩
    refine ⟨fun i hne => ?_, fun i he b ob => ?_, fun i b ob => ?_, fun i j b oi oj => ?_, I1.pv, by rw [setMany_len]; exact I1.len⟩
    · by_cases m : i ∈ ioS a
      · obtain ⟨j, d, v, p, hj, hp, hd, hv, hn, ro, _⟩ := inC i m
        refine ⟨v, hv, ?_⟩
        rw [hd, ht i m]
        have : ownC (ioS a) own1 own' i = own' j := by funext b; exact propext (ownIn i j b hj)
        rw [this]
        exact ro
      · rw [setMany_out m] at hne ⊢
        obtain ⟨v, e1, ro⟩ := I1.val i hne
        have : ownC (ioS a) own1 own' i = own1 i := by
          funext b
          refine propext ⟨?_, fun o => .inr ⟨m, o⟩⟩
          rintro (⟨j', e, o⟩ | ⟨_, o⟩)
          · exact absurd (List.mem_of_getElem? e) m
          · exact o
        rw [this]
        exact ⟨v, e1, ro.le le1 fun b o sb e => keepO i b o m sb e⟩
    · by_cases m : i ∈ ioS a
      · obtain ⟨j, d, v, p, hj, hp, hd, hv, hn, ro, _⟩ := inC i m
        rw [hd] at he
        exact hn he
      · rw [setMany_out m] at he
        rcases ob with ⟨j', e, o⟩ | ⟨_, o⟩
        · exact absurd (List.mem_of_getElem? e) m
        · exact I1.emp i he b o
    · rcases ob with ⟨j', e, o⟩ | ⟨m, o⟩
      · exact fun z => nf' j' b o z.1
      · exact nfF i b m o
    · have mix : ∀ i j j' b, (ioS a)[j']? = some i → own' j' b → j ∉ ioS a → own1 j b → False := fun i j j' b e o m o2 => by
        rcases o' b ⟨j', o⟩ with z | z
        · exact notL j b m o2 z
        · obtain ⟨u, e⟩ := I1.trk o2
          rw [e] at z; cases z
      rcases oi with ⟨i', ei, o1⟩ | ⟨m1, o1⟩ <;> rcases oj with ⟨j', ej, o2⟩ | ⟨m2, o2⟩
      · have := dj' i' j' b o1 o2
        subst this
        rw [ei] at ej
        exact Option.some.inj ej
      · exact (mix i j i' b ei o1 m2 o2).elim
      · exact (mix j i j' b ej o2 m1 o1).elim
      · exact I1.dj i j b o1 o2
  refine ⟨⟨RE2, ⟨fun b o hb e nm => ?_, fun b o e nm => ?_, fun b hz => ?_⟩, fun b ob => ?_⟩, fun b n z => ⟨z, n⟩, bwl, notL, mm⟩
  · exact (le1 b o (s1.fr.fz b o hb e fun z => nm ⟨by rw [z.1, Bool.or_true], z.2⟩) (s1.fr.keep b o e fun z => nm ⟨by rw [z.1, Bool.or_true], z.2⟩)).1
  · refine f.keep b o (s1.fr.keep b o e fun z => nm ⟨by rw [z.1, Bool.or_true], z.2⟩) fun z => ?_
    rcases mm b z with q | q
    · exact nm q
    · rw [e] at q; cases q
  · rcases f.fzn b hz.1 with (q | q) | q | q
    · rcases s1.fr.fzn b q with z | z | z
      · exact .inl z
      · exact .inr (.inl ⟨by rw [z.1, Bool.or_true], z.2⟩)
      · exact .inr (.inr z)
    · exact absurd q hz.2
    · exact .inr (mm b q)
    · exact .inr ((Eg.back s1.fr q).imp (fun z => ⟨by rw [z.1, Bool.or_true], z.2⟩) id)
  · obtain ⟨i, q⟩ := ob
    rcases q with ⟨j', e, o⟩ | ⟨m, o⟩
    · rcases o' b ⟨j', o⟩ with z | z
      · exact (mm b z).imp (fun q => q.2) id
      · exact s1.back z
    · exact s1.ow b ⟨i, o⟩
end
end Eg

end
section
set_option maxHeartbeats 8000000
namespace Eg
open PySem PySem.Spec PyProof.Rows L2
/-- a call's own conditions -/
def callOk (U : Fx) (Γ : List Ty) (f : Nat) (o : Bool) (a : E) : Bool :=
  cok Γ a && ptok Γ a (U.pt f) && decide (U.io f = ioP 0 a) && decide ((ioS a).Nodup) && (bwS a).all (fun i => !(ioS a).contains i) && (o == (U.rt f == .o))
section
variable {X : Cx} {L : Lx} {U : Fx} {k : Nat} {N : List Str} {sc : Scope} {GL : Str → D → Bool}
theorem pt_io : ∀ {e : E} {ts : List Ty} {i : Nat}, ptok L.Γ e ts = true → (i ∈ ioS e → L.Γ.getD i .a = .o) := by
  intro e
  induction e with
  | cons a r _ ih =>
    intro ts i h
    cases ts with
    | nil => simp [ptok] at h
    | cons t ts =>
      simp only [ptok, Bool.and_eq_true] at h
      obtain ⟨⟨h1, h2⟩, h3⟩ := h
      have q1 := ih (i := i) h3
      rcases byNm_cases a with ⟨j, rfl⟩ | ⟨j, rfl⟩ | ⟨hn, hi, hb⟩
      · simp only [isIo, Bool.and_eq_true, beq_iff_eq] at h1
        intro m
        simp only [ioS, isIo, List.mem_cons] at m
        rcases m with m | m
        · rw [m]; exact h1.2
        · exact q1 m
      · exact fun m => q1 (by simpa [ioS, isIo] using m)
      · exact fun m => q1 (by simpa [ioS, hi] using m)
  | _ => intro ts i h; exact fun m => by simp [ioS] at m
/-- the reading of a call, by the evaluation -/
theorem tCall_of {f : Nat} {o : Bool} {a : E} (hrt : ∀ f, L.rt f = U.rt f) (hc : callOk U L.Γ f o a = true) {σ : L2.St} {H : Hp} {Q : VK} (q : tE L (.call f o a) σ H Q) : tCallS (spF L.G (U.pt f) (U.rt f) (U.io f) (L.fc f)) (WE L.W) (tCs L a) σ H Q := by
  simp only [callOk, Bool.and_eq_true] at hc
  obtain ⟨⟨⟨⟨⟨h1, h2⟩, h3⟩, h4⟩, h5⟩, h6⟩ := hc
  have h3 := of_decide_eq_true h3
  have h4 := of_decide_eq_true h4
  have h6 : o = (U.rt f == .o) := by simpa using h6
  have h5 : ∀ i ∈ bwS a, i ∉ ioS a := fun i m z => by
    have := List.all_eq_true.mp h5 i m
    simp at this
    exact this z
  obtain ⟨Fz, env, own, I, h⟩ := tE_get q
  refine tCs_mk a h1 I ?_
  simp only [ev, R.bind] at h
  cases ea : ev L.fc a env with
  | no => rw [ea] at h; exact h
  | exc c e1 => rw [ea] at h; exact h
  | ok ds e1 =>
    rw [ea] at h
    simp only at h
    intro vs H1 Fz1 own1 s1 ca
    by_cases hz : (!(setAll (ioS a) e1 && setAll (bwS a) e1)) = true
    · rw [if_pos hz] at h; exact h.elim
    rw [if_neg hz] at h
    have hz : setAll (ioS a) e1 = true ∧ setAll (bwS a) e1 = true := by simpa using hz
    have I1 := s1.re
    refine ⟨fun b => Fz1 b ∨ bwF own1 a b, fillA a ds e1, SsOf own1 a, ar_ok I1 a ca h2 hz.1 hz.2 (fun i m b ob => ⟨i, m, ob⟩), fun i j b oi oj => ?_, fun i b oi z => ?_, ?_⟩
    · obtain ⟨i', e1, o1⟩ := ownL_of (p := i) (b := b) oi
      obtain ⟨j', e2, o2⟩ := ownL_of (p := i) (b := b) oj
      have := I1.dj i' j' b o1 o2
      subst this
      exact ioAt_inj h4 e1 e2
    · obtain ⟨i', m, o1⟩ := ownL_io oi
      rcases z with z | ⟨j, m2, o2⟩
      · exact I1.nf i' b o1 z
      · exact h5 j m2 (I1.dj i' j b o1 o2 ▸ m)
    · have hio : ∀ i ∈ ioS a, L.Γ.getD i .a = .o := fun i m => pt_io h2 m
      cases er : L.fc f (fillA a ds e1) with
      | no => rw [er] at h; exact h
      | exc c ps =>
        rw [er] at h
        simp only at h ⊢
        intro H' Fz' own' io nf' dj' fr' o'
        by_cases hb : (bwS a).isEmpty || ps.all (okRes true)
        · rw [if_pos hb] at h
          obtain ⟨s2, _⟩ := call_fin hio h4 h5 s1 ca hz.1 hz.2 (by simpa using hb) (h3 ▸ io) nf' dj' fr' o'
          exact h H' _ _ s2.re (s2.fr.mono fun b m => m.2) s2.ow
        · rw [if_neg hb] at h; exact h.elim
      | ok d ps =>
        rw [er] at h
        simp only at h ⊢
        intro v H' Fz' own' S ro nS io nfdj dj' fr' o'
        by_cases hb : (bwS a).isEmpty || (okRes o d && ps.all (okRes true))
        · rw [if_pos hb] at h
          obtain ⟨d', e', kk⟩ := h
          cases e'
          have hres : (bwS a).isEmpty = true ∨ ps.all (okRes true) = true := by
            rcases (Bool.or_eq_true _ _).mp hb with z | z
            · exact .inl z
            · exact .inr ((Bool.and_eq_true _ _).mp z).2
          obtain ⟨s2, hF, hR, hN, hM⟩ := call_fin hio h4 h5 s1 ca hz.1 hz.2 hres (h3 ▸ io) (fun j b z => (nfdj j b z).1) dj' fr' (fun b z => o' b (.inl z))
          refine kk v H' _ _ S s2 ?_ ⟨fun b sb z => nS b sb z.1, fun i b ob sb => ?_, fun b sb => ?_⟩
          · show RO L.G _ H' (L.rt f) d v S
            rw [hrt f]
            refine ro.less (R := bwF own1 a) (fun b z n => ⟨z, n⟩) hR ?_
            rcases (Bool.or_eq_true _ _).mp hb with z | z
            · right
              rintro b ⟨i, m, _⟩
              rw [List.isEmpty_iff] at z
              rw [z] at m; cases m
            · left
              rw [← h6]
              exact ((Bool.and_eq_true _ _).mp z).1
          · rcases ob with ⟨j, _, ob⟩ | ⟨m, ob⟩
            · exact (nfdj j b ob).2 sb
            · rcases o' b (.inr sb) with z | z
              · exact hN i b m ob z
              · obtain ⟨u, e⟩ := I1.trk ob
                rw [e] at z; cases z
          · rcases o' b (.inr sb) with z | z
            · exact hM b z
            · exact (Eg.back s1.fr z).imp (fun q => ⟨by show (!(ioS a).isEmpty || eff a) = true; rw [q.1, Bool.or_true], q.2⟩) id
        · rw [if_neg hb] at h; exact h.elim
/-- the arguments' texts -/
def CPE (X : Cx) (L : Lx) : E → List Expr → Prop
  | .nil, [] => True
  | .cons a r, e :: es => (match byNm a with
    | some i => PE X e (tVar i)
    | none => PE X e (tP L a)) ∧ noStar e = true ∧ CPE X L r es
  | _, _ => False
theorem CPE.pa : ∀ {a : E} {es : List Expr}, CPE X L a es → PA X es (tCs L a) := by
  intro a
  induction a with
  | nil =>
    intro es h
    cases es with
    | nil => exact pa_nil
    | cons _ _ => exact h.elim
  | cons x r _ ih =>
    intro es h
    cases es with
    | nil => exact h.elim
    | cons e es =>
      refine pa_cons ?_ (ih h.2.2) (star_cons h.2.1)
      have := h.1
      split
      · rename_i i q; rw [q] at this; exact this
      · rename_i q; rw [q] at this; exact this
  | _ => intro es h; cases es <;> exact h.elim
theorem CPE.stars : ∀ {a : E} {es : List Expr}, CPE X L a es → ∀ e ∈ es, noStar e = true := by
  intro a
  induction a with
  | cons x r _ ih =>
    intro es h
    cases es with
    | nil => exact h.elim
    | cons e es =>
      intro y m
      rcases List.mem_cons.mp m with m | m
      · rw [m]; exact h.2.1
      · exact ih h.2.2 y m
  | nil =>
    intro es h
    cases es with
    | nil => intro e m; cases m
    | cons _ _ => exact h.elim
  | _ => intro es h; cases es <;> exact h.elim
theorem pe_callE (C : Ct L U N k sc GL X) (hh : L.hot = false) {f : Nat} (hdom : U.dom f = true) {o : Bool} {a : E} {p pos : Pos} {e : Expr} {es : List Expr} (hg : gl sc (U.nm f) = true) (hd : (U.nm f == ("__debug__" : Str)) = false) (hc : callOk U L.Γ f o a = true) (h : CPE X L a (e :: es)) : PE X (.Call (.Name (U.nm f) p) (e :: es) [] pos) (tE L (.call f o a)) := by
  obtain ⟨ad, fd, ps, m, kp, b, F⟩ := C.fk hh f hdom
  refine PE.imp (pe_callS F (C.room hh) (C.hg _ hg) m kp b (E := WE L.W) (fun σ => L2N.passAt C.tk σ) h.pa hd (star_cons (h.stars e List.mem_cons_self)) (any_star _ _ _ fun z hz => h.stars z (List.mem_cons_of_mem _ hz))) fun σ H Q q => tCall_of C.rt hc q
/-- a call of what has a rule -/
theorem pe_rul {x : Str} {f : Addr} {R : List V → Hp → VK → Prop} {q pos : Pos} {e : Expr} {es : List Expr} {t : TA} (F : CallR X (.ref f) R) (hg : Gl X x) (hm : X.mg x = some (.ref f)) (hk : PySem.W.keepIn X.K (.ref f) = true) (ha : PA X (e :: es) t)
    (hd : (x == ("__debug__" : Str)) = false) (he : starEach (e :: es) X.env = (false, eval e X.env) :: starEach es X.env) (hp : (backTo pos (starEach es X.env)).any (·.1) = false) : PE X (.Call (.Name x q) (e :: es) [] pos) fun σ H Q => t σ H fun vs H1 => R vs H1 Q := by
  refine ⟨fun pins s σ H Q I h => wpAny_Call_Name_kw (ld_glob I hg hm ?_ hd)⟩
  exact PySem.W.callWith_K (h₀ := X.base) I.ok.mod.kin hk (thn (ha.run pos pins s σ H _ I h) fun us s1 ⟨vs, H1, J, r, z⟩ => ⟨J.kIn, F pins s1 σ H1 vs us Q J r z⟩) he hp
/-- a call while an exception is in hand -/
theorem pe_callEH (C : Ct L U N k sc GL X) (hh : L.hot = true) {f : Nat} (hf : U.hd f = true) {o : Bool} {a : E} {p pos : Pos} {e : Expr} {es : List Expr} (hg : gl sc (U.nm f) = true) (hd : (U.nm f == ("__debug__" : Str)) = false) (hc : callOk U L.Γ f o a = true) (h : CPE X L a (e :: es)) : PE X (.Call (.Name (U.nm f) p) (e :: es) [] pos) (tE L (.call f o a)) := by
  obtain ⟨hw, hp⟩ := C.fp hh
  obtain ⟨ad, m, kp, F⟩ := hp f hf
  refine PE.imp (pe_rul F (C.hg _ hg) m kp h.pa hd (star_cons (h.stars e List.mem_cons_self)) (any_star _ _ _ fun z hz => h.stars z (List.mem_cons_of_mem _ hz))) fun σ H Q q => ?_
  have := tCall_of C.rt hc q
  rw [hw] at this
  exact this
end
end Eg

end
section
set_option maxHeartbeats 8000000
namespace Eg
open PySem PySem.Spec PyProof.Rows L2
section
variable {X : Cx} {L : Lx} {U : Fx} {k : Nat} {N : List Str} {sc : Scope} {GL : Str → D → Bool}
/-- moved away -/
theorem pe_mvE (C : Ct L U N k sc GL X) {i : Nat} {x : Str} {pos : Pos} (hN : N[i]? = some x) (hv : vis sc x = true) (h1 : (x == ("__debug__" : Str)) = false) (h2 : (x == ("__classdict__" : Str)) = false) (ht : L.Γ.getD i .a = .o) : PE X (.Name x pos) (tE L (.mv i)) := by
  refine PE.imp (pe_var (i := i) (by rw [C.hN]; exact hN) (C.hv x hv) h1 h2) fun σ H Q q => ?_
  obtain ⟨Fz, env, own, I, h⟩ := tE_get q
  have hne : env.getD i .unset ≠ .unset := by
    intro z; simp only [ev] at h; rw [z] at h; exact h
  have hee : ev L.fc (.mv i) env = .ok [env.getD i .unset] (env.set i .unset) := by
    simp only [ev]
  rw [hee] at h
  obtain ⟨d', e', kk⟩ := h
  cases e'
  obtain ⟨v, e1, r⟩ := I.val i hne
  rw [ht] at r
  refine ⟨v, e1, ?_⟩
  have hl := getD_lt hne
  refine kk v H Fz (fun j b => j ≠ i ∧ own j b) (own i) ⟨⟨fun j hj => ?_, fun j he b ob => ?_, fun j b ob => I.nf j b ob.2, fun j j' b o1 o2 => I.dj j j' b o1.2 o2.2, I.pv, by rw [List.length_set]; exact I.len⟩, .refl, fun b ⟨j, _, ob⟩ => .inl ⟨j, ob⟩⟩ r ⟨fun b o => I.nf i b o, fun j b o1 o2 => o1.1 (I.dj j i b o1.2 o2), fun b o => .inl ⟨rfl, i, o⟩⟩
  · by_cases z : j = i
    · subst z
      rw [List.getD_eq_getElem?_getD, List.getElem?_set_self hl] at hj
      exact absurd rfl hj
    · have e : (env.set i .unset).getD j .unset = env.getD j .unset := by
        rw [List.getD_eq_getElem?_getD, List.getD_eq_getElem?_getD, List.getElem?_set_ne (Ne.symm z)]
      rw [e] at hj ⊢
      obtain ⟨v, e1, r⟩ := I.val j hj
      have : (fun b => j ≠ i ∧ own j b) = own j := by funext b; simp [z]
      rw [this]
      exact ⟨v, e1, r⟩
  · by_cases z : j = i
    · exact ob.1 z
    · have e : (env.set i .unset).getD j .unset = env.getD j .unset := by
        rw [List.getD_eq_getElem?_getD, List.getD_eq_getElem?_getD, List.getElem?_set_ne (Ne.symm z)]
      rw [e] at he
      exact I.emp j he b ob.2
/-- by name -/
theorem pe_byNm (C : Ct L U N k sc GL X) {i : Nat} {x : Str} {pos : Pos} (hN : N[i]? = some x) (hv : vis sc x = true) (h1 : (x == ("__debug__" : Str)) = false) (h2 : (x == ("__classdict__" : Str)) = false) : PE X (.Name x pos) (tVar i) :=
  pe_var (i := i) (by rw [C.hN]; exact hN) (C.hv x hv) h1 h2
/-! ### a[x:y] -/
theorem tP_sl3 {x y z : E} {σ : L2.St} {H : Hp} {Q : VK} (hx : bor L.Γ x = false ∨ (eff y = false ∧ eff z = false)) (q : tE L (.sl3 x y z) σ H Q) : tSl (rSl L.G) (tP L x) (tPart (tP L y)) (tPart (tP L z)) σ H Q := by
  obtain ⟨Fz, env, own, I, h⟩ := tE_get q
  refine tP_mk I ?_
  simp only [ev, R.bind] at h
  cases ex : ev L.fc x env with
  | no => rw [ex] at h; exact h
  | exc c e1 => rw [ex] at h; exact h
  | ok ds e1 =>
    rw [ex] at h
    simp only at h
    match ds, h with
    | [], h => exact h.elim
    | _ :: _ :: _, h => exact h.elim
    | [d], h =>
      refine ⟨d, rfl, fun v H1 Fz1 own1 s1 rb rf => ?_⟩
      simp only at h
      refine tP_mk s1.re ?_
      cases ey : ev L.fc y e1 with
      | no => rw [ey] at h; exact h
      | exc c e2 => rw [ey] at h; exact ResX.of s1 h
      | ok ds e2 =>
        rw [ey] at h
        simp only at h
        match ds, h with
        | [.int i], h =>
          refine ⟨_, rfl, fun v2 H2 Fz2 own2 s2 rb2 rf2 => ⟨i, rb2, ?_⟩⟩
          simp only at h
          refine tP_mk s2.re ?_
          have s12 := s1.trans s2
          cases ez : ev L.fc z e2 with
          | no => rw [ez] at h; exact h
          | exc c e3 => rw [ez] at h; exact ResX.of s12 h
          | ok ds e3 =>
            rw [ez] at h
            simp only at h
            match ds, h with
            | [.int j], h =>
              refine ⟨_, rfl, fun v3 H3 Fz3 own3 s3 rb3 rf3 => ⟨j, rb3, ?_⟩⟩
              simp only at h
              cases ec : cut2 d (some i) (some j) with
              | none => rw [ec] at h; exact h.elim
              | some r =>
                rw [ec] at h
                obtain ⟨d', e', kk⟩ := h
                cases e'
                refine ⟨Fz3, d, r, ?_, ec, Cont.mk (t := .o) (s12.trans s3) kk⟩
                rcases hx with hx | ⟨hy, hz⟩
                · exact (RF.le (s3.le s2.re) d (RF.le (s2.le s1.re) d (rf hx))).rb
                · have f2 := s2.fr
                  have f3 := s3.fr
                  rw [hy, MM.false] at f2
                  rw [hz, MM.false] at f3
                  exact (rb.le (f2.le fun _ z => z.elim) f2.none).le (f3.le fun _ z => z.elim) f3.none
/-! ### a op b op' c -/
theorem or_cmpK (C : Ct L U N k sc GL X) {o : BI} {op : CmpOp} (h : kd o = .cmp op) : OpR X (compareOp op) (fun x y H Q => rB L.G o [x, y] H Q) := by
  have u64 : X.A.units + 64 < cLine := by have := C.un; omega
  have u65 : X.A.units + 65 < cLine := by have := C.un; omega
  have u0 : X.A.units < cLine := by have := C.un; omega
  cases o <;> simp only [kd] at h <;> first | (cases h; done) | skip
  all_goals cases h
  · exact or_eq C.hK u64
  · exact or_ne C.hK u64
  · exact or_lt C.hK u0
  · exact or_le
  · exact or_gt
  · exact or_ge
  · exact or_is
  · exact or_isnot
  · exact or_in C.hK u65
  · exact or_notin C.hK u65
theorem pt_cmpK (C : Ct L U N k sc GL X) {o : BI} {op : CmpOp} {a : E} {l r : Expr} {pos : Pos} (ho : kd o = .cmp op) (h : APE X L a [l, r]) (hl : lok L.Γ a = true) (hn : noSet r = true) (hb : bty o = .a) : PT X (.Compare l [op] [r] pos) (tT L (.bi o a)) := by
  obtain ⟨x, y, rfl, h1, h2, _, _⟩ := h.two
  refine PT.imp (pt_cmpR (or_cmpK C ho) h1 h2 (not_behind hn)) fun σ H Q q => ?_
  have q1 : tE L (.bi o (.cons x (.cons y .nil))) σ H fun v H' => ∃ c, v = .bl c ∧ Q c H' := tP_tE rfl q
  exact tB_of hl q1
def chOk (Γ : List Ty) (o p : BI) (x y z : E) : Bool := (!bor Γ x || (!eff y && !eff z)) && (!bor Γ y || !eff z) && decide (bty o = .a) && decide (bty p = .a)
theorem tP_chn {o p : BI} {x y z : E} {σ : L2.St} {H : Hp} {Q : VK} (hc : chOk L.Γ o p x y z = true) (q : tP L (.chn o p x y z) σ H Q) : tChain (fun a b H Q => rB L.G o [a, b] H Q) (fun a b H Q => rB L.G p [a, b] H Q) (tP L x) (tP L y) (tP L z) σ H Q := by
  simp only [chOk, Bool.and_eq_true, Bool.or_eq_true, Bool.not_eq_true', decide_eq_true_eq] at hc
  obtain ⟨⟨⟨hx, hy⟩, bo⟩, bp⟩ := hc
  obtain ⟨Fz, env, own, I, h⟩ := tP_get q
  refine tP_mk I ?_
  simp only [ev, R.bind] at h
  cases ex : ev L.fc x env with
  | no => rw [ex] at h; exact h
  | exc c e1 => rw [ex] at h; exact h
  | ok ds e1 =>
    rw [ex] at h
    simp only at h
    match ds, h with
    | [], h => exact h.elim
    | _ :: _ :: _, h => exact h.elim
    | [d1], h =>
      refine ⟨d1, rfl, fun v1 H1 Fz1 own1 s1 rb1 rf1 => ?_⟩
      simp only at h
      refine tP_mk s1.re ?_
      cases ey : ev L.fc y e1 with
      | no => rw [ey] at h; exact h
      | exc c e2 => rw [ey] at h; exact ResX.of s1 h
      | ok ds e2 =>
        rw [ey] at h
        simp only at h
        match ds, h with
        | [], h => exact h.elim
        | _ :: _ :: _, h => exact h.elim
        | [d2], h =>
          refine ⟨d2, rfl, fun v2 H2 Fz2 own2 s2 rb2 rf2 => ?_⟩
          simp only at h
          have s12 := s1.trans s2
          have r1 : RB L.G Fz2 H2 d1 v1 := by
            rcases hx with hx | ⟨hx, _⟩
            · exact (RF.le (s2.le s1.re) d1 (rf1 hx)).rb
            · have f2 := s2.fr
              rw [hx, MM.false] at f2
              exact rb1.le (f2.le fun _ z => z.elim) f2.none
          cases eo : F2 o d1 d2 with
          | none => rw [eo] at h; exact h.elim
          | some r =>
            rw [eo] at h
            refine ⟨Fz2, [d1, d2], r, ⟨v1, _, rfl, r1, v2, _, rfl, rb2, rfl⟩, eo, ?_⟩
            rw [bo]
            intro w H3 Fz3 S ro nS hS f3
            have s3 : Stp L σ Fz H own (eff x || eff y) Fz3 H3 e2 own2 := ⟨s12.re.fr0 f3, s12.fr.trans f3 (fun _ z => z.elim), s12.ow⟩
            match r, h with
            | .bl true, h =>
              simp only at h
              refine ⟨true, ro.1, ?_⟩
              refine tP_mk s3.re ?_
              cases ez : ev L.fc z e2 with
              | no => rw [ez] at h; exact h
              | exc c e3 => rw [ez] at h; exact ResX.of s3 h
              | ok ds e3 =>
                rw [ez] at h
                simp only at h
                match ds, h with
                | [], h => exact h.elim
                | _ :: _ :: _, h => exact h.elim
                | [d3], h =>
                  refine ⟨d3, rfl, fun v4 H4 Fz4 own4 s4 rb4 rf4 => ?_⟩
                  simp only at h
                  cases ep : F2 p d2 d3 with
                  | none => rw [ep] at h; exact h.elim
                  | some r2 =>
                    rw [ep] at h
                    match r2, h with
                    | .bl kk2, h =>
                      obtain ⟨d', e', kk⟩ := h
                      cases e'
                      refine ⟨Fz4, [d2, d3], _, ⟨v2, _, rfl, ?_, v4, _, rfl, rb4, rfl⟩, ep, ?_⟩
                      · have r3 : RB L.G Fz3 H3 d2 v2 := rb2.le (f3.le fun _ z => z.elim) f3.none
                        rcases hy with hy | hy
                        · exact (RF.le (s4.le s3.re) d2 (RF.le (f3.le fun _ z => z.elim) d2 (rf2 hy))).rb
                        · have f4 := s4.fr
                          rw [hy, MM.false] at f4
                          exact r3.le (f4.le fun _ z => z.elim) f4.none
                      · rw [bp]
                        intro w5 H5 Fz5 S5 ro5 nS5 hS5 f5
                        have s5 := s3.trans s4
                        exact kk w5 H5 Fz5 own4 ⟨s5.re.fr0 f5, s5.fr.trans f5 (fun _ z => z.elim), s5.ow⟩ ro5.1.rb fun _ => ro5.1
            | .bl false, h =>
              obtain ⟨d', e', kk⟩ := h
              cases e'
              refine ⟨false, ro.1, ?_⟩
              exact kk (.bl false) H3 Fz3 own2 (s3.mono (by intro z; simp only [eff]; revert z; cases eff x <;> cases eff y <;> simp)) rfl fun _ => rfl
theorem last_marks {op op' : CmpOp} {b c : Expr} (h : noSet c = true) : lastMarks [op, op'] [b, c] = false := by
  show lastMarks [op'] [c] = false
  exact not_behind h
end
end Eg

end
section
set_option maxHeartbeats 8000000
namespace Eg
open PySem PySem.Spec PyProof.Rows L2
/-! ### what is walked -/
/-- all that is tracked stands -/
def Kp (H H' : Hp) : Prop := ∀ b o, H b = some o → H' b = some o
structure WkD (G : Gx) (kp : Bool) (J : It) (its : List D) (Fz : Addr → Prop) (H : Hp) : Prop where
  wk : ∃ (Gd : Hp → Prop) (Y : Nat → Hp → V → Hp → Prop), Walk J its.length Gd Y ∧ (∀ Fz2 H2, Le Fz H Fz2 H2 → (kp = true → Kp H H2) → Gd H2) ∧
    ∀ i H2 Fz2 x H3, i < its.length → Le Fz H Fz2 H2 → Y i H2 x H3 → ∃ Fz3, Fr Fz2 H2 (fun _ => False) Fz3 H3 ∧ ∃ d, its[i]? = some d ∧ RF G Fz3 H3 d x
def kpI (Γ : List Ty) : E → Bool
  | .bi o a => isIt o && !(noOwn Γ a)
  | e => bor Γ e
def tI (L : Lx) (it : E) : TI := fun σ H R => ∃ Fz env own, RE L.G L.Γ L.PV Fz H env σ own ∧ match ev L.fc it env with
  | .ok ds env' => ∃ d its, ds = [d] ∧ items d = some its ∧ ∀ J H' Fz' own', Stp L σ Fz H own (eff it) Fz' H' env' own' → WkD L.G (kpI L.Γ it) J its Fz' H' → R J H'
  | .exc c env' => ResX L σ Fz H own env' c
  | .no => False
theorem walk_len {J : It} {n m : Nat} {Gd : Hp → Prop} {Y : Nat → Hp → V → Hp → Prop} (e : n = m) (w : Walk J m Gd Y) : Walk J n Gd Y := e ▸ w
section
variable {G : Gx} {Fz Fz2 : Addr → Prop} {H H2 : Hp} {a : Addr} {ds es : List D} {xs ys : List V} {kp : Bool}
theorem rfs_at {i : Nat} {x : V} (r : RFs G Fz H ds xs) (h : xs[i]? = some x) : ∃ d, ds[i]? = some d ∧ RF G Fz H d x := by
  have hl := r.length
  obtain ⟨hi, e⟩ := List.getElem?_eq_some_iff.mp h
  have hi' : i < ds.length := by omega
  obtain ⟨v, e1, q⟩ := r.get (List.getElem?_eq_getElem hi')
  rw [h] at e1
  cases e1
  exact ⟨_, List.getElem?_eq_getElem hi', q⟩
theorem wkd_list (q : ∀ Fz2 H2, Le Fz H Fz2 H2 → (kp = true → Kp H H2) → SqL G.K H2 a xs) (r : RFs G Fz H ds xs) : WkD G kp (Itl G.K a) ds Fz H :=
  ⟨⟨_, _, walk_len r.length.symm walk_list, q, fun i H2 Fz2 x H3 _ l y => by
    obtain ⟨y1, y2⟩ := y
    subst y1
    exact ⟨Fz2, .refl, rfs_at (RFs.le l ds r) y2⟩⟩⟩
theorem wkd_tup (q : ∀ Fz2 H2, Le Fz H Fz2 H2 → SqT G.K H2 a xs) (r : RFs G Fz H ds xs) : WkD G kp (Itt G.K a) ds Fz H :=
  ⟨⟨_, _, walk_len r.length.symm walk_tup, fun Fz2 H2 l _ => q Fz2 H2 l, fun i H2 Fz2 x H3 _ l y => by
    obtain ⟨y1, y2⟩ := y
    subst y1
    exact ⟨Fz2, .refl, rfs_at (RFs.le l ds r) y2⟩⟩⟩
theorem upFrom_len : ∀ (n : Nat) (lo : Int), (upFrom lo n).length = n
  | 0, _ => rfl
  | n + 1, lo => by rw [upFrom, List.length_cons, upFrom_len]
theorem upFrom_at : ∀ (n : Nat) (lo : Int) (i : Nat), i < n → (upFrom lo n)[i]? = some (lo + i)
  | 0, _, _, h => by omega
  | n + 1, lo, 0, _ => by simp [upFrom]
  | n + 1, lo, i + 1, h => by
    rw [upFrom, List.getElem?_cons_succ, upFrom_at n (lo + 1) i (by omega)]
    congr 1
    push_cast
    omega
theorem byStep_len : ∀ (n : Nat) (lo c : Int), (byStep lo c n).length = n
  | 0, _, _ => rfl
  | n + 1, lo, c => by rw [byStep, List.length_cons, byStep_len]
theorem byStep_at : ∀ (n : Nat) (lo c : Int) (i : Nat), i < n → (byStep lo c n)[i]? = some (lo + i * c)
  | 0, _, _, _, h => by omega
  | n + 1, lo, c, 0, _ => by simp [byStep]
  | n + 1, lo, c, i + 1, h => by
    rw [byStep, List.getElem?_cons_succ, byStep_at n (lo + c) c i (by omega)]
    congr 1
    rw [Int.add_assoc]
    congr 1
    rw [show ((i + 1 : Nat) : Int) = (i : Int) + 1 from rfl, Int.add_mul, Int.one_mul, Int.add_comm]
theorem wkd_rng {lo : Int} {n : Nat} : WkD G kp (Itr lo n) (intsD (upFrom lo n)) Fz H := by
  have hl : (intsD (upFrom lo n)).length = n := by rw [intsD, List.length_map, upFrom_len]
  refine ⟨⟨_, _, walk_len hl walk_range, fun _ _ _ _ => trivial, fun i H2 Fz2 x H3 hi l y => ?_⟩⟩
  obtain ⟨y1, y2⟩ := y
  subst y1
  rw [hl] at hi
  refine ⟨Fz2, .refl, .int (lo + i), ?_, y2⟩
  rw [intsD, List.getElem?_map, upFrom_at n lo i hi]
  rfl
theorem wkd_rngC {lo c : Int} {n : Nat} : WkD G kp (Itc lo c n) (intsD (byStep lo c n)) Fz H := by
  have hl : (intsD (byStep lo c n)).length = n := by rw [intsD, List.length_map, byStep_len]
  refine ⟨⟨_, _, walk_len hl walk_rangeC, fun _ _ _ _ => trivial, fun i H2 Fz2 x H3 hi l y => ?_⟩⟩
  obtain ⟨y1, y2⟩ := y
  subst y1
  rw [hl] at hi
  refine ⟨Fz2, .refl, .int (lo + i * c), ?_, y2⟩
  rw [intsD, List.getElem?_map, byStep_at n lo c i hi]
  rfl
theorem wkd_rev (q : ∀ Fz2 H2, Le Fz H Fz2 H2 → (kp = true → Kp H H2) → SqL G.K H2 a xs) (r : RFs G Fz H ds xs) : WkD G kp (Itv G.K a xs.length) ds.reverse Fz H := by
  have hl : ds.reverse.length = xs.length := by rw [List.length_reverse, r.length]
  refine ⟨⟨_, _, walk_len hl walk_rev, q, fun i H2 Fz2 x H3 hi l y => ?_⟩⟩
  obtain ⟨y1, y2⟩ := y
  subst y1
  rw [hl] at hi
  obtain ⟨d, e, q⟩ := rfs_at (RFs.le l ds r) y2
  refine ⟨Fz2, .refl, d, ?_, q⟩
  rw [List.getElem?_reverse (by rw [← r.length]; exact hi), ← r.length]
  exact e
theorem enumF_len : ∀ (ds : List D) (n : Int), (enumF n ds).length = ds.length
  | [], _ => rfl
  | _ :: r, n => by rw [enumF, List.length_cons, List.length_cons, enumF_len]
theorem enumF_at : ∀ (ds : List D) (n : Int) (i : Nat) (d : D), ds[i]? = some d → (enumF n ds)[i]? = some (.tup [.int (n + i), d])
  | [], _, _, _, h => by simp at h
  | x :: r, n, 0, d, h => by
    simp at h
    subst h
    simp [enumF]
  | x :: r, n, i + 1, d, h => by
    rw [enumF, List.getElem?_cons_succ, enumF_at r (n + 1) i d (by simpa using h)]
    congr 4
    push_cast
    omega
theorem fr_pair {T : Addr} {o : HO} (hT : H T = none) : Fr Fz H (fun _ => False) (fun b => Fz b ∨ b = T) (upd H T o) :=
  ⟨fun b u h _ _ => .inl h, fun b u e _ => by rw [upd_ne (ne_of_none e hT)]; exact e, fun b h => h.imp id fun e => .inr (by rw [e]; exact hT)⟩
theorem rf_pair {T : Addr} {d e : D} {x y : V} (hT : H T = none) (r1 : RF G Fz H d x) (r2 : RF G Fz H e y) : RF G (fun b => Fz b ∨ b = T) (upd H T (.tup [x, y])) (.tup [d, e]) (.ref T) := by
  have l : Le Fz H (fun b => Fz b ∨ b = T) (upd H T (.tup [x, y])) := (fr_pair hT).le fun _ z => z.elim
  exact ⟨T, _, rfl, .inl ⟨.inr rfl, .inl upd_same⟩, _, _, rfl, RF.le l d r1, _, _, rfl, RF.le l e r2, rfl⟩
theorem wkd_enum (q : ∀ Fz2 H2, Le Fz H Fz2 H2 → (kp = true → Kp H H2) → SqL G.K H2 a xs) (r : RFs G Fz H ds xs) : WkD G kp (Ite G.K a) (enumF 0 ds) Fz H := by
  have hl : (enumF 0 ds).length = xs.length := by rw [enumF_len, r.length]
  refine ⟨⟨_, _, walk_len hl walk_enum, q, fun i H2 Fz2 x H3 hi l y => ?_⟩⟩
  obtain ⟨T, u, v, e1, e2, e3, e4, e5⟩ := y
  cases e4
  subst e1 e3
  obtain ⟨d, e, qd⟩ := rfs_at (RFs.le l ds r) e5
  refine ⟨_, fr_pair e2, .tup [.int i, d], ?_, rf_pair e2 rfl qd⟩
  rw [enumF_at ds 0 i d e, Int.zero_add]
theorem wkd_enumT (q : ∀ Fz2 H2, Le Fz H Fz2 H2 → SqT G.K H2 a xs) (r : RFs G Fz H ds xs) : WkD G kp (IteT G.K a) (enumF 0 ds) Fz H := by
  have hl : (enumF 0 ds).length = xs.length := by rw [enumF_len, r.length]
  refine ⟨⟨_, _, walk_len hl walk_enumT, fun Fz2 H2 l _ => q Fz2 H2 l, fun i H2 Fz2 x H3 hi l y => ?_⟩⟩
  obtain ⟨T, u, v, e1, e2, e3, e4, e5⟩ := y
  cases e4
  subst e1 e3
  obtain ⟨d, e, qd⟩ := rfs_at (RFs.le l ds r) e5
  refine ⟨_, fr_pair e2, .tup [.int i, d], ?_, rf_pair e2 rfl qd⟩
  rw [enumF_at ds 0 i d e, Int.zero_add]
theorem zipF_len : ∀ (ds es : List D), (zipF ds es).length = min ds.length es.length
  | [], _ => by simp [zipF]
  | _ :: _, [] => by simp [zipF]
  | _ :: r, _ :: q => by rw [zipF, List.length_cons, zipF_len]; simp [Nat.succ_min_succ]
theorem zipF_at : ∀ (ds es : List D) (i : Nat) (d e : D), ds[i]? = some d → es[i]? = some e → (zipF ds es)[i]? = some (.tup [d, e])
  | [], _, _, _, _, h, _ => by simp at h
  | _ :: _, [], _, _, _, _, h => by simp at h
  | x :: r, y :: q, 0, d, e, h1, h2 => by
    simp at h1 h2
    subst h1 h2
    simp [zipF]
  | x :: r, y :: q, i + 1, d, e, h1, h2 => by
    rw [zipF, List.getElem?_cons_succ, zipF_at r q i d e (by simpa using h1) (by simpa using h2)]
theorem wkd_zip {b : Addr} (q : ∀ Fz2 H2, Le Fz H Fz2 H2 → (kp = true → Kp H H2) → SqL G.K H2 a xs ∧ SqL G.K H2 b ys) (r : RFs G Fz H ds xs) (r2 : RFs G Fz H es ys) : WkD G kp (Itz G.K a b) (zipF ds es) Fz H := by
  have hl : (zipF ds es).length = min xs.length ys.length := by rw [zipF_len, r.length, r2.length]
  refine ⟨⟨_, _, walk_zip hl, q, fun i H2 Fz2 x H3 hi l y => ?_⟩⟩
  obtain ⟨T, u, v, e1, e2, e3, e4, e5⟩ := y
  subst e1 e3
  obtain ⟨d, e, qd⟩ := rfs_at (RFs.le l ds r) e4
  obtain ⟨d2, e', qd2⟩ := rfs_at (RFs.le l es r2) e5
  exact ⟨_, fr_pair e2, .tup [d, d2], zipF_at ds es i d d2 e e', rf_pair e2 qd qd2⟩
theorem wkd_ez {b : Addr} (q : ∀ Fz2 H2, Le Fz H Fz2 H2 → (kp = true → Kp H H2) → SqL G.K H2 a xs ∧ SqL G.K H2 b ys) (r : RFs G Fz H ds xs) (r2 : RFs G Fz H es ys) : WkD G kp (Iez G.K a b) (enumF 0 (zipF ds es)) Fz H := by
  have hl : (enumF 0 (zipF ds es)).length = min xs.length ys.length := by rw [enumF_len, zipF_len, r.length, r2.length]
  refine ⟨⟨_, _, walk_ez hl, q, fun i H2 Fz2 x H3 hi l y => ?_⟩⟩
  obtain ⟨T, P, u, v, e1, e2, e3, e4, e5, e6, e7⟩ := y
  subst e1 e5
  obtain ⟨d, e, qd⟩ := rfs_at (RFs.le l ds r) e6
  obtain ⟨d2, e', qd2⟩ := rfs_at (RFs.le l es r2) e7
  have rp := rf_pair (G := G) e2 qd qd2
  have hP : (upd H2 T (.tup [u, v])) P = none := by rw [upd_ne e4]; exact e3
  refine ⟨_, (fr_pair (Fz := Fz2) e2).trans (fr_pair hP) fun _ z => z.elim, .tup [.int i, .tup [d, d2]], ?_, rf_pair hP rfl rp⟩
  rw [enumF_at (zipF ds es) 0 i _ (zipF_at ds es i d d2 e e'), Int.zero_add]
end
section
variable {X : Cx} {L : Lx} {U : Fx} {k : Nat} {N : List Str} {sc : Scope} {GL : Str → D → Bool} {tg : Expr}
/-- a list in hand stands -/
theorem sq_stand {Fz : Addr → Prop} {H : Hp} {a : Addr} {xs : List V} {kp b : Bool} (hb : b = true → kp = true) (h : H a = some (.lst xs)) (hf : b = false → Fz a) : ∀ Fz2 H2, Le Fz H Fz2 H2 → (kp = true → Kp H H2) → SqL L.G.K H2 a xs := fun Fz2 H2 l kk => by
  cases b with
  | false => exact .inl (.inl (l a _ (hf rfl) h).2)
  | true => exact .inl (.inl (kk (hb rfl) a _ h))
theorem fzl_stand {Fz : Addr → Prop} {H : Hp} {a : Addr} {xs : List V} {P : Hp → Prop} (h : FzL L.G.K Fz H a xs) : ∀ Fz2 H2, Le Fz H Fz2 H2 → P H2 → SqL L.G.K H2 a xs := fun Fz2 H2 l _ => by
  rcases h with ⟨f, r⟩ | r
  · exact .inl (Rd.le2 l f r).2
  · exact .inr r
theorem fzt_stand {Fz : Addr → Prop} {H : Hp} {a : Addr} {xs : List V} (h : FzT L.G.K Fz H a xs) : ∀ Fz2 H2, Le Fz H Fz2 H2 → SqT L.G.K H2 a xs := fun Fz2 H2 l => by
  rcases h with ⟨f, r⟩ | r
  · exact .inl (Rd.le2 l f r).2
  · exact .inr r
/-- a sequence by its value -/
theorem pi_seqE {it : E} {ast : Expr} (C : Ct L U N k sc GL X) (hk : bor L.Γ it = true → kpI L.Γ it = true) (h : PE X ast (tP L it)) : PI X tg ast (tI L it) := by
  refine ⟨fun pins s σ H R I hh => ?_⟩
  obtain ⟨Fz, env, own, RE0, hh⟩ := hh
  cases ei : ev L.fc it env with
  | no => rw [ei] at hh; exact hh.elim
  | exc c e1 =>
    rw [ei] at hh
    exact (pi_list (tg := tg) h).run pins s σ H R I (tP_mk RE0 (by rw [ei]; exact hh))
  | ok ds e1 =>
    rw [ei] at hh
    obtain ⟨d, its, rfl, hi, kk⟩ := hh
    cases d <;> simp only [items] at hi <;> first | (cases hi; done) | skip
    · cases hi
      refine (pi_tup (tg := tg) h).run pins s σ H R I (tP_mk RE0 ?_)
      rw [ei]
      refine ⟨_, rfl, fun v H1 Fz1 own1 s1 rb rf => ?_⟩
      obtain ⟨a, xs, e, q, r⟩ := rb
      refine ⟨a, e, ⟨xs, by rw [C.hK]; exact q.sq⟩, ?_⟩
      rw [C.hK]
      exact kk _ H1 Fz1 own1 s1 (wkd_tup (fzt_stand q) r)
    · cases hi
      refine (pi_list (tg := tg) h).run pins s σ H R I (tP_mk RE0 ?_)
      rw [ei]
      refine ⟨_, rfl, fun v H1 Fz1 own1 s1 rb rf => ?_⟩
      obtain ⟨a, xs, e, q, r⟩ := rb
      refine ⟨a, e, ⟨xs, .inl (.inl q)⟩, ?_⟩
      rw [C.hK]
      refine kk _ H1 Fz1 own1 s1 (wkd_list (sq_stand hk q fun hb => ?_) r)
      obtain ⟨a', xs', e', q', _⟩ := rf hb
      rw [e] at e'
      cases e'
      exact q'.1
    · cases hi
      refine (pi_list (tg := tg) h).run pins s σ H R I (tP_mk RE0 ?_)
      rw [ei]
      refine ⟨_, rfl, fun v H1 Fz1 own1 s1 rb rf => ?_⟩
      obtain ⟨a, xs, e, q, r⟩ := rb
      refine ⟨a, e, ⟨xs, by rw [C.hK]; exact q.sq⟩, ?_⟩
      rw [C.hK]
      exact kk _ H1 Fz1 own1 s1 (wkd_list (fzl_stand q) r)
/-- the iterators' frame: arguments read, then walked -/
theorem tI_args {o : BI} {a : E} {σ : L2.St} {H : Hp} {RR : It → Hp → Prop} {P : List V → Hp → Prop} (ho : isIt o = true) (hl : lok L.Γ a = true) (h : tI L (.bi o a) σ H RR)
    (c : ∀ ds d its vs H1 Fz1, bop o ds = some d → items d = some its → RBs L.G Fz1 H1 ds vs → (noOwn L.Γ a = true → RFs L.G Fz1 H1 ds vs) → (∀ J, WkD L.G (!(noOwn L.Γ a)) J its Fz1 H1 → RR J H1) → P vs H1) : tPs L a σ H P := by
  obtain ⟨Fz, env, own, RE0, hh⟩ := h
  refine tPs_mk hl RE0 ?_
  simp only [ev, R.bind] at hh
  cases ea : ev L.fc a env with
  | no => rw [ea] at hh; exact hh
  | exc c e1 => rw [ea] at hh; exact hh
  | ok ds e1 =>
    rw [ea] at hh
    simp only at hh
    intro vs H1 Fz1 own1 s1 rbs rfs
    cases eb : bop o ds with
    | none => rw [eb] at hh; exact hh.elim
    | some d =>
      rw [eb] at hh
      obtain ⟨d', its, e', hi, kk⟩ := hh
      cases e'
      refine c ds d its vs H1 Fz1 eb hi rbs rfs fun J w => kk J H1 Fz1 own1 s1 ?_
      simpa [kpI, ho] using w
theorem stars_1 {e : Expr} {env : Env} (h : noStar e = true) : starEach [e] env = [(false, PySem.eval e env)] := star_cons h
theorem pi_it (C : Ct L U N k sc GL X) {o : BI} {a : E} {e : Expr} {es : List Expr} (ho : isIt o = true) (hl : lok L.Γ a = true) (h : APE X L a es) (hd : dIt sc o e = some es) (ht : (o = .enumI ∨ o = .zipI ∨ o = .enumT ∨ o = .enumZ) → ∃ el kk tp, tg = .Tuple el kk tp) : PI X tg e (tI L (.bi o a)) := by
  cases o with
  | rng1 =>
    simp only [dIt] at hd
    split at hd
    · rename_i x q
      cases hd
      obtain ⟨p, x', as, pos, rfl, e2, g⟩ := dFn_inv q
      cases e2
      refine ⟨fun pins s σ H R I hh => (pi_range1 (tg := tg) (C.hg _ g) (C.mb "range" (by decide)) h.pa (stars_1 (h.stars x List.mem_cons_self))).run pins s σ H R I (tI_args ho hl hh fun ds d its vs H1 Fz1 eb hi rbs rfs kk => ?_)⟩
      obtain ⟨y, rfl, _, _⟩ := h.one
      match ds, rbs, eb with
      | [], _, eb => simp [bop] at eb
      | [d1], ⟨v, r, e1, r1, r2⟩, eb =>
        cases r2
        subst e1
        cases d1 <;> simp [bop, F1, fInt1] at eb
        obtain ⟨e1, eb⟩ := eb
        subst eb
        cases hi
        obtain ⟨l1, l2⟩ := inLim_iff e1
        exact ⟨_, by rw [show v = _ from r1], l1, l2, kk _ wkd_rng⟩
      | d1 :: d2 :: r, ⟨v, q, e1, r1, ⟨v2, q2, e2, _⟩⟩, eb =>
        match r, eb with
        | [], eb => simp [bop, F2] at eb
        | [d3], eb => simp [bop, F3] at eb
        | _ :: _ :: _, eb => simp [bop] at eb
    · cases hd
  | rng2 =>
    simp only [dIt] at hd
    split at hd
    · rename_i x y q
      cases hd
      obtain ⟨p, x', as, pos, rfl, e2, g⟩ := dFn_inv q
      cases e2
      have hx := h.stars x List.mem_cons_self
      have hy := h.stars y (by simp)
      refine ⟨fun pins s σ H R I hh => (pi_range2 (tg := tg) (C.hg _ g) (C.mb "range" (by decide)) h.pa (by rw [star_cons hx, stars_1 hy]) (stars_1 hy)).run pins s σ H R I (tI_args ho hl hh fun ds d its vs H1 Fz1 eb hi rbs rfs kk => ?_)⟩
      match ds, rbs, eb with
      | [], _, eb => simp [bop] at eb
      | [d1], _, eb => simp [bop, F1] at eb
      | [d1, d2], ⟨v, r, e1, r1, ⟨v2, r', e2, r2, r3⟩⟩, eb =>
        cases r3
        subst e2
        subst e1
        cases d1 <;> cases d2 <;> simp [bop, F2, fInt2] at eb
        obtain ⟨⟨e1, e2⟩, eb⟩ := eb
        subst eb
        cases hi
        obtain ⟨l1, l2⟩ := inLim_iff e1
        obtain ⟨l3, l4⟩ := inLim_iff e2
        exact ⟨_, _, by rw [show v = _ from r1, show v2 = _ from r2], ⟨l1, l2, l3, l4⟩, kk _ wkd_rng⟩
      | d1 :: d2 :: d3 :: r, _, eb =>
        match r, eb with
        | [], eb => simp [bop, F3] at eb
        | _ :: _, eb => simp [bop] at eb
    · cases hd
  | rng3 =>
    simp only [dIt] at hd
    split at hd
    · rename_i x y z q
      cases hd
      obtain ⟨p, x', as, pos, rfl, e2, g⟩ := dFn_inv q
      cases e2
      have hx := h.stars x List.mem_cons_self
      refine ⟨fun pins s σ H R I hh => (pi_range3 (tg := tg) (C.hg _ g) (C.mb "range" (by decide)) h.pa (star_cons hx) (any_star _ _ _ fun z hz => h.stars z (List.mem_cons_of_mem _ hz))).run pins s σ H R I (tI_args ho hl hh fun ds d its vs H1 Fz1 eb hi rbs rfs kk => ?_)⟩
      match ds, rbs, eb with
      | [], _, eb => simp [bop] at eb
      | [d1], _, eb => simp [bop, F1] at eb
      | [d1, d2], _, eb => simp [bop, F2] at eb
      | [d1, d2, d3], ⟨v, r, e1, r1, ⟨v2, r', e2, r2, ⟨v3, r'', e3, r3, r4⟩⟩⟩, eb =>
        cases r4
        subst e3
        subst e2
        subst e1
        simp only [bop, F3] at eb
        unfold fRng3 at eb
        split at eb
        · split at eb
          · rename_i i j hlim
            cases eb
            cases hi
            simp only [Bool.and_eq_true] at hlim
            obtain ⟨l1, l2⟩ := inLim_iff hlim.1
            obtain ⟨l3, l4⟩ := inLim_iff hlim.2
            exact ⟨_, _, _, _, by rw [show v = _ from r1, show v2 = _ from r2, show v3 = _ from r3], RgC.neg l1 l2 l3 l4, kk _ wkd_rngC⟩
          · cases eb
        · cases eb
      | d1 :: d2 :: d3 :: d4 :: r, _, eb => simp [bop] at eb
    · cases hd
  | enumI =>
    simp only [dIt] at hd
    split at hd
    · rename_i x q
      cases hd
      obtain ⟨p, x', as, pos, rfl, e2, g⟩ := dFn_inv q
      cases e2
      obtain ⟨el, kk', tp, rfl⟩ := ht (.inl rfl)
      refine ⟨fun pins s σ H R I hh => (pi_enum (C.hg _ g) (C.mb "enumerate" (by decide)) h.pa (stars_1 (h.stars x List.mem_cons_self))).run pins s σ H R I (tI_args ho hl hh fun ds d its vs H1 Fz1 eb hi rbs rfs kk => ?_)⟩
      match ds, rbs, rfs, eb with
      | [], _, _, eb => simp [bop] at eb
      | [d1], ⟨v, r, e1, r1, r2⟩, rfs, eb =>
        cases r2
        subst e1
        cases d1 <;> simp [bop, F1, fLst] at eb
        subst eb
        cases hi
        obtain ⟨ad, xs, e, q, r⟩ := r1
        refine ⟨ad, xs, by rw [e], .inl (.inl q), ?_⟩
        rw [C.hK]
        refine kk _ (wkd_enum (sq_stand (b := !(noOwn L.Γ a)) (fun z => z) q fun hb => ?_) r)
        obtain ⟨v', _, e1, ⟨a', xs', e', q', _⟩, _⟩ := rfs (by simpa using hb)
        cases e1
        rw [e] at e'
        cases e'
        exact q'.1
      | d1 :: d2 :: r, _, _, eb =>
        match r, eb with
        | [], eb => simp [bop, F2] at eb
        | [d3], eb => simp [bop, F3] at eb
        | _ :: _ :: _, eb => simp [bop] at eb
    · cases hd
  | enumT =>
    simp only [dIt] at hd
    split at hd
    · rename_i x q
      cases hd
      obtain ⟨p, x', as, pos, rfl, e2, g⟩ := dFn_inv q
      cases e2
      obtain ⟨el, kk', tp, rfl⟩ := ht (.inr (.inr (.inl rfl)))
      refine ⟨fun pins s σ H R I hh => (pi_enumT (C.hg _ g) (C.mb "enumerate" (by decide)) h.pa (stars_1 (h.stars x List.mem_cons_self))).run pins s σ H R I (tI_args ho hl hh fun ds d its vs H1 Fz1 eb hi rbs rfs kk => ?_)⟩
      match ds, rbs, rfs, eb with
      | [], _, _, eb => simp [bop] at eb
      | [d1], ⟨v, r, e1, r1, r2⟩, rfs, eb =>
        cases r2
        subst e1
        cases d1 <;> simp [bop, F1, fTup] at eb
        subst eb
        cases hi
        obtain ⟨ad, xs, e, q, r⟩ := r1
        rw [C.hK]
        exact ⟨ad, xs, by rw [e], q.sq, kk _ (wkd_enumT (fzt_stand q) r)⟩
      | d1 :: d2 :: r, _, _, eb =>
        match r, eb with
        | [], eb => simp [bop, F2] at eb
        | [d3], eb => simp [bop, F3] at eb
        | _ :: _ :: _, eb => simp [bop] at eb
    · cases hd
  | zipI =>
    simp only [dIt] at hd
    split at hd
    · rename_i x y q
      cases hd
      obtain ⟨p, x', as, pos, rfl, e2, g⟩ := dFn_inv q
      cases e2
      obtain ⟨el, kk', tp, rfl⟩ := ht (.inr (.inl rfl))
      have hx := h.stars x List.mem_cons_self
      refine ⟨fun pins s σ H R I hh => (pi_zip (C.hg _ g) (C.mb "zip" (by decide)) h.pa (star_cons hx) (any_star _ _ _ fun z hz => h.stars z (List.mem_cons_of_mem _ hz))).run pins s σ H R I (tI_args ho hl hh fun ds d its vs H1 Fz1 eb hi rbs rfs kk => ?_)⟩
      match ds, rbs, rfs, eb with
      | [], _, _, eb => simp [bop] at eb
      | [d1], _, _, eb => simp [bop, F1] at eb
      | [d1, d2], ⟨v, r, e1, r1, ⟨v2, r', e2, r2, r3⟩⟩, rfs, eb =>
        cases r3
        subst e2
        subst e1
        cases d1 <;> cases d2 <;> simp [bop, F2, fZip] at eb
        subst eb
        cases hi
        obtain ⟨a1, xs, e, q, r⟩ := r1
        obtain ⟨a2, ys, e2, q2, r2⟩ := r2
        refine ⟨a1, a2, xs, ys, by rw [e, e2], .inl (.inl q), .inl (.inl q2), ?_⟩
        rw [C.hK]
        have st1 := sq_stand (L := L) (kp := !(noOwn L.Γ a)) (b := !(noOwn L.Γ a)) (Fz := Fz1) (fun z => z) q fun hb => by
          obtain ⟨v', _, e1, ⟨a', xs', e', q', _⟩, _⟩ := rfs (by simpa using hb)
          cases e1
          rw [e] at e'
          cases e'
          exact q'.1
        have st2 := sq_stand (L := L) (kp := !(noOwn L.Γ a)) (b := !(noOwn L.Γ a)) (Fz := Fz1) (fun z => z) q2 fun hb => by
          obtain ⟨v', _, e1, _, ⟨v'', _, e3, ⟨a', xs', e', q', _⟩, _⟩⟩ := rfs (by simpa using hb)
          cases e1
          cases e3
          rw [e2] at e'
          cases e'
          exact q'.1
        exact kk _ (wkd_zip (fun Fz2 H2 l k => ⟨st1 Fz2 H2 l k, st2 Fz2 H2 l k⟩) r r2)
      | d1 :: d2 :: d3 :: r, _, _, eb =>
        match r, eb with
        | [], eb => simp [bop, F3] at eb
        | _ :: _, eb => simp [bop] at eb
    · cases hd
  | enumZ =>
    simp only [dIt] at hd
    split at hd
    · rename_i w q0
      split at hd
      case h_2 => cases hd
      rename_i x y q
      cases hd
      obtain ⟨p0, x0, as0, pos0, rfl, e0, g0⟩ := dFn_inv q0
      cases e0
      obtain ⟨p, x', as, pos, rfl, e2, g⟩ := dFn_inv q
      cases e2
      obtain ⟨el, kk', tp, rfl⟩ := ht (.inr (.inr (.inr rfl)))
      have hx := h.stars x List.mem_cons_self
      refine ⟨fun pins s σ H R I hh => (pi_ez (C.hg _ g0) (C.mb "enumerate" (by decide)) (C.hg _ g) (C.mb "zip" (by decide)) h.pa (star_cons hx) (any_star _ _ _ fun z hz => h.stars z (List.mem_cons_of_mem _ hz))).run pins s σ H R I (tI_args ho hl hh fun ds d its vs H1 Fz1 eb hi rbs rfs kk => ?_)⟩
      match ds, rbs, rfs, eb with
      | [], _, _, eb => simp [bop] at eb
      | [d1], _, _, eb => simp [bop, F1] at eb
      | [d1, d2], ⟨v, r, e1, r1, ⟨v2, r', e2, r2, r3⟩⟩, rfs, eb =>
        cases r3
        subst e2
        subst e1
        cases d1 <;> cases d2 <;> simp [bop, F2, fEz] at eb
        subst eb
        cases hi
        obtain ⟨a1, xs, e, q, r⟩ := r1
        obtain ⟨a2, ys, e2, q2, r2⟩ := r2
        refine ⟨a1, a2, xs, ys, by rw [e, e2], .inl (.inl q), .inl (.inl q2), ?_⟩
        rw [C.hK]
        have st1 := sq_stand (L := L) (kp := !(noOwn L.Γ a)) (b := !(noOwn L.Γ a)) (Fz := Fz1) (fun z => z) q fun hb => by
          obtain ⟨v', _, e1, ⟨a', xs', e', q', _⟩, _⟩ := rfs (by simpa using hb)
          cases e1
          rw [e] at e'
          cases e'
          exact q'.1
        have st2 := sq_stand (L := L) (kp := !(noOwn L.Γ a)) (b := !(noOwn L.Γ a)) (Fz := Fz1) (fun z => z) q2 fun hb => by
          obtain ⟨v', _, e1, _, ⟨v'', _, e3, ⟨a', xs', e', q', _⟩, _⟩⟩ := rfs (by simpa using hb)
          cases e1
          cases e3
          rw [e2] at e'
          cases e'
          exact q'.1
        exact kk _ (wkd_ez (fun Fz2 H2 l k => ⟨st1 Fz2 H2 l k, st2 Fz2 H2 l k⟩) r r2)
      | d1 :: d2 :: d3 :: r, _, _, eb =>
        match r, eb with
        | [], eb => simp [bop, F3] at eb
        | _ :: _, eb => simp [bop] at eb
    · cases hd
  | revI =>
    simp only [dIt] at hd
    split at hd
    · rename_i x q
      cases hd
      obtain ⟨p, x', as, pos, rfl, e2, g⟩ := dFn_inv q
      cases e2
      refine ⟨fun pins s σ H R I hh => (pi_reversed (tg := tg) (C.hg _ g) (C.mb "reversed" (by decide)) h.pa (stars_1 (h.stars x List.mem_cons_self))).run pins s σ H R I (tI_args ho hl hh fun ds d its vs H1 Fz1 eb hi rbs rfs kk => ?_)⟩
      match ds, rbs, rfs, eb with
      | [], _, _, eb => simp [bop] at eb
      | [d1], ⟨v, r, e1, r1, r2⟩, rfs, eb =>
        cases r2
        subst e1
        cases d1 <;> simp [bop, F1, fLst] at eb
        subst eb
        cases hi
        obtain ⟨ad, xs, e, q, r⟩ := r1
        refine ⟨ad, xs, by rw [e], .inl (.inl q), ?_⟩
        rw [C.hK]
        refine kk _ (wkd_rev (sq_stand (b := !(noOwn L.Γ a)) (fun z => z) q fun hb => ?_) r)
        obtain ⟨v', _, e1, ⟨a', xs', e', q', _⟩, _⟩ := rfs (by simpa using hb)
        cases e1
        rw [e] at e'
        cases e'
        exact q'.1
      | d1 :: d2 :: r, _, _, eb =>
        match r, eb with
        | [], eb => simp [bop, F2] at eb
        | [d3], eb => simp [bop, F3] at eb
        | _ :: _ :: _, eb => simp [bop] at eb
    · cases hd
  | _ => cases ho
end
end Eg

end
section
set_option maxHeartbeats 8000000
namespace Eg
open PySem PySem.Spec PyProof.Rows L2
/-! ### names set -/
def tnN : TN → List Nat
  | .nm i => [i]
  | .nil => []
  | .cons a b => tnN a ++ tnN b
  | .tp t => tnN t
/-- one target, a row of targets -/
def GOk (L : Lx) (t : TN) (g : TG) : Prop := ∀ v σ H Fz env own d env' (K : L2.St → Hp → Prop), RE L.G L.Γ L.PV Fz H env σ own → RF L.G Fz H d v → asgN t [d] env = some env' →
  (∀ σ', RE L.G L.Γ L.PV Fz H env' σ' own → (∀ vs, (∀ n ∈ tnN t, n ∈ vs) → wipe σ' vs = wipe σ vs) → K σ' H) → g v σ H K
def GsOk (L : Lx) (t : TN) (g : TGs) : Prop := ∀ xs σ H Fz env own ds env' (K : L2.St → Hp → Prop), RE L.G L.Γ L.PV Fz H env σ own → RFs L.G Fz H ds xs → asgN t ds env = some env' →
  (∀ σ', RE L.G L.Γ L.PV Fz H env' σ' own → (∀ vs, (∀ n ∈ tnN t, n ∈ vs) → wipe σ' vs = wipe σ vs) → K σ' H) → g xs σ H K
def tnLen : TN → Nat
  | .cons _ b => tnLen b + 1
  | _ => 0
section
variable {L : Lx} {Fz : Addr → Prop} {H : Hp} {env : List D} {σ : L2.St} {own : Nat → Addr → Prop}
theorem wipe_set {i : Nat} {x : Option V} : ∀ {vs : List Nat} {σ : L2.St}, i ∈ vs → wipe (σ.set i x) vs = wipe σ vs
  | [], _, h => by cases h
  | v :: vs, σ, h => by
    show (wipe (σ.set i x) vs).set v none = (wipe σ vs).set v none
    by_cases e : i ∈ vs
    · rw [wipe_set e]
    · have : i = v := (List.mem_cons.mp h).resolve_right e
      subst this
      have w : ∀ (us : List Nat) (τ : L2.St), (wipe (τ.set i x) us).set i none = (wipe τ us).set i none := by
        intro us
        induction us with
        | nil => intro τ; show (τ.set i x).set i none = τ.set i none; rw [List.set_set]
        | cons u us ih =>
          intro τ
          show ((wipe (τ.set i x) us).set u none).set i none = ((wipe τ us).set u none).set i none
          by_cases q : u = i
          · subst q
            rw [List.set_set, List.set_set, ih]
          · rw [List.set_comm _ _ q, ih, List.set_comm _ _ (Ne.symm q)]
      exact w vs σ
theorem getD_set_ne {i j : Nat} {d : D} (h : j ≠ i) : (env.set i d).getD j .unset = env.getD j .unset := by
  rw [List.getD_eq_getElem?_getD, List.getD_eq_getElem?_getD, List.getElem?_set_ne (Ne.symm h)]
theorem getD_set_self {i : Nat} {d : D} (h : i < env.length) : (env.set i d).getD i .unset = d := by
  rw [List.getD_eq_getElem?_getD, List.getElem?_set_self h]; rfl
/-- a slot of the kind a owns nothing -/
theorem RE.own_a (I : RE L.G L.Γ L.PV Fz H env σ own) {i : Nat} (h : L.Γ.getD i .a = .a) (b : Addr) : ¬ own i b := fun o => by
  by_cases e : env.getD i .unset = .unset
  · exact I.emp i e b o
  · obtain ⟨v, _, r⟩ := I.val i e
    rw [h] at r
    exact r.2 b o
theorem RE.set_a (I : RE L.G L.Γ L.PV Fz H env σ own) {i : Nat} {d : D} {v : V} (h : L.Γ.getD i .a = .a) (hp : ∀ p ∈ L.PV, p.1 ≠ i) (r : RF L.G Fz H d v) : RE L.G L.Γ L.PV Fz H (env.set i d) (σ.set i (some v)) own := by
  by_cases hl : i < env.length
  case neg =>
    rw [List.set_eq_of_length_le (by omega), List.set_eq_of_length_le (by rw [← I.len]; omega)]
    exact I
  exact {
  val := fun j hj => by
    by_cases e : j = i
    · subst e
      refine ⟨v, by rw [List.getElem?_set_self (by rw [← I.len]; exact hl)], ?_⟩
      rw [getD_set_self hl, h]
      exact ⟨r, I.own_a h⟩
    · rw [getD_set_ne e] at hj ⊢
      obtain ⟨u, e1, q⟩ := I.val j hj
      exact ⟨u, by rw [List.getElem?_set_ne (Ne.symm e)]; exact e1, q⟩
  emp := fun j hj => by
    by_cases e : j = i
    · subst e; exact I.own_a h
    · rw [getD_set_ne e] at hj; exact I.emp j hj
  nf := I.nf
  dj := I.dj
  pv := fun p hp' => by rw [List.getElem?_set_ne (Ne.symm (hp p hp'))]; exact I.pv p hp'
  len := by rw [List.length_set, List.length_set]; exact I.len }
theorem g_name {i : Nat} (h : L.Γ.getD i .a = .a) (hp : ∀ p ∈ L.PV, p.1 ≠ i) : GOk L (.nm i) (gName i) := fun v σ H Fz env own d env' K I r e k => by
  simp only [asgN, Option.some.injEq] at e
  subst e
  exact k _ (I.set_a h hp r) fun vs hv => wipe_set (hv i (List.mem_singleton.mpr rfl))
theorem g_nil : GsOk L .nil gNil := fun xs σ H Fz env own ds env' K I r e k => by
  cases ds with
  | nil =>
    simp only [asgN, Option.some.injEq] at e
    subst e
    exact ⟨r, k σ I fun _ _ => rfl⟩
  | cons _ _ => simp [asgN] at e
theorem g_cons {a b : TN} {g : TG} {gs : TGs} (h1 : GOk L a g) (h2 : GsOk L b gs) : GsOk L (.cons a b) (gCons g gs) := fun xs σ H Fz env own ds env' K I r e k => by
  cases ds with
  | nil => simp [asgN] at e
  | cons d ds =>
    simp only [asgN] at e
    split at e
    · rename_i e1 q
      obtain ⟨v, rr, ex, r1, r2⟩ := r
      refine ⟨v, rr, ex, h1 v σ H Fz env own d e1 _ I r1 q fun σ' I' w => ?_⟩
      exact h2 rr σ' H Fz e1 own ds env' K I' r2 e fun σ2 I2 w2 => k σ2 I2 fun vs hv => (w2 vs fun n hn => hv n (List.mem_append_right _ hn)).trans (w vs fun n hn => hv n (List.mem_append_left _ hn))
    · cases e
/-- what is unpacked -/
theorem rf_items {d : D} {ds : List D} {v : V} (r : RF L.G Fz H d v) (e : items d = some ds) : ∃ a xs, v = .ref a ∧ (SqT L.G.K H a xs ∨ SqL L.G.K H a xs) ∧ RFs L.G Fz H ds xs := by
  cases d <;> simp only [items, Option.some.injEq] at e <;> first | (cases e; done) | skip
  · subst e
    obtain ⟨a, xs, ev, q, rr⟩ := r
    exact ⟨a, xs, ev, .inl q.sq, rr⟩
  · subst e
    obtain ⟨a, xs, ev, q, rr⟩ := r
    exact ⟨a, xs, ev, .inr (.inl (.inl q.2)), rr⟩
  · subst e
    obtain ⟨a, xs, ev, q, rr⟩ := r
    exact ⟨a, xs, ev, .inr q.sq, rr⟩
/-- a tuple, a list -/
def gTL (K : PySem.W.Frag) (n : Nat) (t : TGs) : TG := fun v σ H Q => gTup K n t v σ H Q ∨ gLst K n t v σ H Q
theorem pg_tl {X : Cx} {es : List Expr} {kk : Nat} {pos : Pos} {t : TGs} {n : Nat} (hc : X.calm = true) (h : PGs X es t) (hn : (assignEach es X.env).length = n) (hst : (assignEach es X.env).findIdx? (·.1) = none) : PG X (.Tuple es kk pos) (gTL X.K n t) :=
  ⟨fun pins s σ H v u Q I r hw => hw.elim (fun z => (pg_tup hc h hn hst).run pins s σ H v u Q I r z) (fun z => (pg_lst hc h hn hst).run pins s σ H v u Q I r z)⟩
theorem g_tup {t : TN} {gs : TGs} {n : Nat} {K : PySem.W.Frag} (hK : K = L.G.K) (hn : ∀ ds env env', asgN t ds env = some env' → ds.length = n) (h : GsOk L t gs) : GOk L (.tp t) (gTL K n gs) := fun v σ H Fz env own d env' K I r e k => by
  simp only [asgN] at e
  split at e
  · rename_i ds hi
    obtain ⟨a, xs, ev, q, rr⟩ := rf_items r hi
    rw [← hK] at q
    exact q.imp (fun q => ⟨a, xs, ev, q, by rw [rr.length]; exact hn _ _ _ e, h xs σ H Fz env own ds env' K I rr e k⟩) fun q => ⟨a, xs, ev, q, by rw [rr.length]; exact hn _ _ _ e, h xs σ H Fz env own ds env' K I rr e k⟩
  · cases e
end
mutual
def tnG (K : PySem.W.Frag) : TN → TG
  | .nm i => gName i
  | .tp t => gTL K (tnLen t) (tnGs K t)
  | .nil => fun _ _ _ _ => False
  | .cons _ _ => fun _ _ _ _ => False
def tnGs (K : PySem.W.Frag) : TN → TGs
  | .nil => gNil
  | .cons a b => gCons (tnG K a) (tnGs K b)
  | .nm _ => fun _ _ _ _ => False
  | .tp _ => fun _ _ _ _ => False
end
/-- the texts of targets: one, or a row -/
def ckTN (Γ : List Ty) (pins : List Nat) (sc : Scope) (N : List Str) : Bool → TN → List Expr → Bool
  | false, .nm i, [.Name x _] => decide (N[i]? = some x) && sto sc x && decide (Γ.getD i .a = .a) && !pins.contains i
  | true, .nil, [] => true
  | true, .cons a b, e :: es => noStar e && ckTN Γ pins sc N false a [e] && ckTN Γ pins sc N true b es
  | false, .tp t, [.Tuple es _ _] => ckTN Γ pins sc N true t es
  | _, _, _ => false
theorem assign_map : ∀ {es : List Expr} {env : Env}, (∀ e ∈ es, noStar e = true) → (assignEach es env).map (·.2) = es.map (fun e => assign e env) ∧ (assignEach es env).length = es.length ∧ (assignEach es env).findIdx? (·.1) = none
  | [], _, _ => ⟨rfl, rfl, rfl⟩
  | e :: es, env, h => by
    obtain ⟨h1, h2, h3⟩ := assign_map (es := es) (env := env) fun x hx => h x (List.mem_cons_of_mem _ hx)
    have he := h e List.mem_cons_self
    have : assignEach (e :: es) env = (false, assign e env) :: assignEach es env := by cases e <;> first | rfl | simp [noStar] at he
    rw [this]
    refine ⟨by rw [List.map_cons, h1]; rfl, by rw [List.length_cons, h2]; rfl, ?_⟩
    rw [List.findIdx?_cons, h3]
    rfl
section
variable {X : Cx} {L : Lx} {U : Fx} {k : Nat} {N : List Str} {sc : Scope} {GL : Str → D → Bool} {pins : List Nat}
theorem tn_len : ∀ (t : TN) {es : List Expr}, ckTN L.Γ pins sc N true t es = true → (∀ e ∈ es, noStar e = true) ∧ es.length = tnLen t ∧ ∀ ds env env', asgN t ds env = some env' → ds.length = tnLen t := by
  intro t
  induction t with
  | nil =>
    intro es h
    cases es with
    | nil =>
      refine ⟨fun e m => (by cases m), rfl, fun ds env env' h => ?_⟩
      cases ds with
      | nil => rfl
      | cons _ _ => simp [asgN] at h
    | cons _ _ => simp [ckTN] at h
  | cons a b _ ihb =>
    intro es h
    cases es with
    | nil => simp [ckTN] at h
    | cons e es =>
      simp only [ckTN, Bool.and_eq_true] at h
      obtain ⟨⟨h1, h2⟩, h3⟩ := h
      obtain ⟨q1, q2, q3⟩ := ihb h3
      refine ⟨fun x m => (List.mem_cons.mp m).elim (fun z => z ▸ h1) (q1 x), by rw [List.length_cons, q2]; rfl, fun ds env env' h => ?_⟩
      cases ds with
      | nil => simp [asgN] at h
      | cons d ds =>
        simp only [asgN] at h
        split at h
        · rw [List.length_cons, q3 _ _ _ h]; rfl
        · cases h
  | nm i => intro es h; cases es <;> simp [ckTN] at h
  | tp t _ => intro es h; cases es <;> simp [ckTN] at h
theorem g_ok (hp : ∀ p ∈ L.PV, p.1 ∈ pins) : ∀ (t : TN), (∀ {e : Expr}, ckTN L.Γ pins sc N false t [e] = true → GOk L t (tnG L.G.K t)) ∧ (∀ {es : List Expr}, ckTN L.Γ pins sc N true t es = true → GsOk L t (tnGs L.G.K t)) := by
  intro t
  induction t with
  | nm i =>
    refine ⟨fun {e} h => ?_, fun {es} h => by cases es <;> simp [ckTN] at h⟩
    cases e <;> simp only [ckTN, Bool.and_eq_true, decide_eq_true_eq] at h <;> first | (cases h; done) | skip
    obtain ⟨⟨⟨h1, h2⟩, h3⟩, h4⟩ := h
    exact g_name h3 fun p m z => by
      have := hp p m
      rw [z] at this
      simp [this] at h4
  | nil => exact ⟨fun {e} h => by cases e <;> simp [ckTN] at h, fun {es} h => g_nil⟩
  | cons a b iha ihb =>
    refine ⟨fun {e} h => by cases e <;> simp [ckTN] at h, fun {es} h => ?_⟩
    cases es with
    | nil => simp [ckTN] at h
    | cons e es =>
      simp only [ckTN, Bool.and_eq_true] at h
      exact g_cons (iha.1 h.1.2) (ihb.2 h.2)
  | tp t iht =>
    refine ⟨fun {e} h => ?_, fun {es} h => by cases es <;> simp [ckTN] at h⟩
    cases e <;> simp only [ckTN] at h <;> first | (cases h; done) | skip
    exact g_tup rfl (tn_len t h).2.2 (iht.2 h)
theorem pg_ok (C : Ct L U N k sc GL X) (hh : L.hot = false) : ∀ (t : TN), (∀ {e : Expr}, ckTN L.Γ pins sc N false t [e] = true → PG X e (tnG L.G.K t)) ∧ (∀ {es : List Expr}, ckTN L.Γ pins sc N true t es = true → PGs X es (tnGs L.G.K t)) := by
  intro t
  induction t with
  | nm i =>
    refine ⟨fun {e} h => ?_, fun {es} h => by cases es <;> simp [ckTN] at h⟩
    cases e <;> simp only [ckTN, Bool.and_eq_true, decide_eq_true_eq] at h <;> first | (cases h; done) | skip
    obtain ⟨⟨⟨h1, h2⟩, h3⟩, h4⟩ := h
    obtain ⟨s1, s2⟩ := C.hs _ h2
    exact pg_name (by rw [C.hN]; exact C.nd) (by rw [C.hN]; exact h1) s1 s2
  | nil =>
    refine ⟨fun {e} h => by cases e <;> simp [ckTN] at h, fun {es} h => ?_⟩
    cases es with
    | nil => exact pgs_nil
    | cons _ _ => simp [ckTN] at h
  | cons a b iha ihb =>
    refine ⟨fun {e} h => by cases e <;> simp [ckTN] at h, fun {es} h => ?_⟩
    have st := (tn_len (L := L) _ h).1
    cases es with
    | nil => simp [ckTN] at h
    | cons e es =>
      simp only [ckTN, Bool.and_eq_true] at h
      refine pgs_cons (iha.1 h.1.2) (ihb.2 h.2) ?_
      rw [(assign_map st).1, (assign_map fun x hx => st x (List.mem_cons_of_mem _ hx)).1]
      rfl
  | tp t iht =>
    refine ⟨fun {e} h => ?_, fun {es} h => by cases es <;> simp [ckTN] at h⟩
    cases e <;> simp only [ckTN] at h <;> first | (cases h; done) | skip
    obtain ⟨q1, q2, q3⟩ := tn_len (L := L) t h
    rw [← C.hK]
    have := iht.2 h
    rw [← C.hK] at this
    exact pg_tl (C.calm hh) this (by rw [(assign_map q1).2.1, q2]) (assign_map q1).2.2
end
end Eg

end
section
set_option maxHeartbeats 8000000
namespace Eg
open PySem PySem.Spec PyProof.Rows L2
/-! ### comprehensions -/
/-- nothing is raised in it -/
abbrev Lx.in0 (L : Lx) : Lx := { L with W := fun _ _ _ _ => False }
section
variable {L : Lx} {Fz Fz1 Fz2 : Addr → Prop} {H H1 H2 : Hp} {env env1 env2 : List D} {σ : L2.St} {own own1 own2 : Nat → Addr → Prop} {ts : List Nat}
theorem wipeE_len : ∀ {ts : List Nat} {env : List D}, (wipeE ts env).length = env.length
  | [], _ => rfl
  | i :: is, env => by rw [wipeE, wipeE_len, List.length_set]
theorem wipeE_out : ∀ {ts : List Nat} {env : List D} {i : Nat}, i ∉ ts → (wipeE ts env).getD i .unset = env.getD i .unset
  | [], _, _, _ => rfl
  | j :: is, env, i, h => by
    rw [wipeE, wipeE_out fun z => h (List.mem_cons_of_mem _ z), getD_set_ne fun z => h (by rw [z]; exact List.mem_cons_self)]
theorem wipeE_in : ∀ {ts : List Nat} {env : List D} {i : Nat}, i ∈ ts → (wipeE ts env).getD i .unset = .unset
  | [], _, _, h => by cases h
  | j :: is, env, i, h => by
    rw [wipeE]
    by_cases q : i ∈ is
    · exact wipeE_in q
    · have : i = j := (List.mem_cons.mp h).resolve_right q
      subst this
      rw [wipeE_out q]
      by_cases hl : i < env.length
      · exact getD_set_self hl
      · rw [List.set_eq_of_length_le (by omega), List.getD_eq_getElem?_getD, List.getElem?_eq_none (by omega)]
        rfl
theorem wipe_out : ∀ {vs : List Nat} {σ : L2.St} {i : Nat}, i ∉ vs → (wipe σ vs)[i]? = σ[i]?
  | [], _, _, _ => rfl
  | v :: vs, σ, i, h => by
    show ((wipe σ vs).set v none)[i]? = _
    rw [List.getElem?_set_ne fun z => h (by rw [z]; exact List.mem_cons_self), wipe_out fun z => h (List.mem_cons_of_mem _ z)]
theorem wipe_wipe {vs us : List Nat} (h : ∀ n ∈ vs, n ∈ us) {σ : L2.St} : wipe (wipe σ vs) us = wipe σ us := by
  induction vs with
  | nil => rfl
  | cons v vs ih =>
    show wipe ((wipe σ vs).set v none) us = _
    rw [wipe_set (h v List.mem_cons_self), ih fun n hn => h n (List.mem_cons_of_mem _ hn)]
theorem RE.wipe (I : RE L.G L.Γ L.PV Fz H env σ own) (hp : ∀ p ∈ L.PV, p.1 ∉ ts) (ha : ∀ i ∈ ts, L.Γ.getD i .a = .a) : RE L.G L.Γ L.PV Fz H (wipeE ts env) (L2.wipe σ ts) own where
  val := fun i hi => by
    by_cases m : i ∈ ts
    · rw [wipeE_in m] at hi; exact absurd rfl hi
    · rw [wipeE_out m] at hi ⊢
      rw [wipe_out m]
      exact I.val i hi
  emp := fun i hi => by
    by_cases m : i ∈ ts
    · exact I.own_a (ha i m)
    · rw [wipeE_out m] at hi; exact I.emp i hi
  nf := I.nf
  dj := I.dj
  pv := fun p m => by rw [wipe_out (hp p m)]; exact I.pv p m
  len := by rw [wipeE_len, wipe_length]; exact I.len
theorem RE.unwipe (I1 : RE L.G L.Γ L.PV Fz1 H1 env1 σ own1) (I2 : RE L.G L.Γ L.PV Fz2 H2 env2 (L2.wipe σ ts) own2) (f : Le Fz1 H1 Fz2 H2) (nd : ts.Nodup) (ha : ∀ i ∈ ts, L.Γ.getD i .a = .a) :
    RE L.G L.Γ L.PV Fz2 H2 (setMany env2 ts (ts.map fun i => env1.getD i .unset)) σ own2 := by
  have uns : ∀ i ∈ ts, env2.getD i .unset = .unset := fun i m => by
    by_cases e : env2.getD i .unset = .unset
    · exact e
    · obtain ⟨v, e1, _⟩ := I2.val i e
      exact absurd m (wipe_some e1).2
  have inn : ∀ i ∈ ts, (setMany env2 ts (ts.map fun i => env1.getD i .unset)).getD i .unset ≠ .unset → env1.getD i .unset ≠ .unset ∧ (setMany env2 ts (ts.map fun i => env1.getD i .unset)).getD i .unset = env1.getD i .unset := fun i m hi => by
    obtain ⟨j, hj⟩ := List.getElem?_of_mem m
    have hl : i < env2.length := by rw [← setMany_len (is := ts) (ps := ts.map fun i => env1.getD i .unset)]; exact getD_lt hi
    have e := setMany_in (ps := ts.map fun i => env1.getD i .unset) (d := env1.getD i .unset) nd hj (by rw [List.getElem?_map, hj]; rfl) hl
    rw [e] at hi
    exact ⟨hi, e⟩
  refine ⟨fun i hi => ?_, fun i hi => ?_, I2.nf, I2.dj, I1.pv, by rw [setMany_len, I2.len, wipe_length]⟩
  · by_cases m : i ∈ ts
    · obtain ⟨h1, h2⟩ := inn i m hi
      rw [h2]
      obtain ⟨v, e1, r⟩ := I1.val i h1
      rw [ha i m] at r ⊢
      exact ⟨v, e1, RF.le f _ r.1, I2.emp i (uns i m)⟩
    · rw [setMany_out m] at hi ⊢
      obtain ⟨v, e1, r⟩ := I2.val i hi
      rw [wipe_out m] at e1
      exact ⟨v, e1, r⟩
  · by_cases m : i ∈ ts
    · exact I2.emp i (uns i m)
    · rw [setMany_out m] at hi
      exact I2.emp i hi
end
theorem rel_lookup {P : Str → Bool} : ∀ {names : List (Str × NameKind)} {x : Str}, (names.map fun (n, k) => if (k == NameKind.free && P n) = true then (n, NameKind.cell) else (n, k)).lookup x = (names.lookup x).map fun k => if (k == NameKind.free && P x) = true then .cell else k
  | [], _ => rfl
  | (n, k) :: r, x => by
    have ih := rel_lookup (P := P) (names := r) (x := x)
    rw [List.map_cons]
    by_cases q : (x == n) = true
    · have : x = n := by simpa using q
      subst this
      by_cases c : (k == NameKind.free && P x) = true
      · simp only [if_pos c, List.lookup_cons, q, Option.map_some]
      · simp only [if_neg c, List.lookup_cons, q, Option.map_some]
    · have q : (x == n) = false := by simpa using q
      by_cases c : (k == NameKind.free && P n) = true
      · simp only [c, if_true, List.lookup_cons, q]; exact ih
      · simp only [if_neg c, List.lookup_cons, q]; exact ih
section
variable {X : Cx} {L : Lx} {U : Fx} {k : Nat} {N : List Str} {sc : Scope} {GL : Str → D → Bool} {pins : List Nat}
theorem relS_lookup {scope sc : Scope} {x : Str} : ∃ b : Bool, (relS scope sc).names.lookup x = (scope.names.lookup x).map fun k => if (k == NameKind.free && b) = true then .cell else k := by
  refine ⟨sc.kind == .function && sc.names.lookup x == some .cell, ?_⟩
  have := rel_lookup (P := fun n => sc.kind == .function && sc.names.lookup n == some .cell) (names := scope.names) (x := x)
  simp only [← Bool.and_assoc] at this ⊢
  exact this
theorem Ct.blk (C : Ct L U N k sc GL X) (hh : L.hot = false) (scope : Scope) (s : Shared) (H : Hp) (A : Addr) (cl : List (Str × Addr)) (fp : List Addr) : Ct L.in0 U N k scope GL (X.blk s H scope (compEnvC scope cl A X.env) fp) where
  hN := C.hN
  nd := C.nd
  hv := fun x h => by
    obtain ⟨b, e⟩ := relS_lookup (scope := scope) (sc := X.env.scope) (x := x)
    show Vis (relS scope X.env.scope) x
    unfold Vis
    rw [e]
    unfold vis at h
    split at h <;> first | (cases h; done) | skip
    · rename_i q; rw [q]; exact .inl rfl
    · rename_i q; rw [q]; exact .inr (.inl rfl)
    · rename_i q; rw [q]; cases b
      · exact .inr (.inr rfl)
      · exact .inr (.inl rfl)
  hg := fun x h => by
    obtain ⟨b, e⟩ := relS_lookup (scope := scope) (sc := X.env.scope) (x := x)
    show (relS scope X.env.scope).names.lookup x = _
    rw [e]
    unfold gl at h
    rw [of_decide_eq_true h]
    rfl
  hs := fun x h => by
    obtain ⟨b, e⟩ := relS_lookup (scope := scope) (sc := X.env.scope) (x := x)
    show L2.Loc (relS scope X.env.scope) x ∧ ((scope.names.lookup x == some .cell) = true ∨ (relS scope X.env.scope).names.lookup x = some .local)
    unfold L2.Loc
    rw [e]
    unfold sto at h
    split at h <;> first | (cases h; done) | skip
    · rename_i q; rw [q]; exact ⟨.inl rfl, .inr rfl⟩
    · rename_i q; rw [q]; exact ⟨.inr rfl, .inl rfl⟩
  hK := C.hK
  calm := C.calm
  tk := fun _ _ x => by
    obtain ⟨_, _, _, _, _, _, _, _, _, _, _, _, _, _, _, _, z⟩ := x
    exact z.elim
  anyC := cr_any (C.calm hh)
  xi := fun z => by rw [show L.hot = true from z] at hh; cases hh
  un := C.un
  mb := C.mb
  gc := C.gc
  hc := fun x h => by
    obtain ⟨b, e⟩ := relS_lookup (scope := scope) (sc := X.env.scope) (x := x)
    show (relS scope X.env.scope).names.lookup x = _ ∨ (relS scope X.env.scope).names.lookup x = _
    rw [e]
    rcases h with h | h
    · rw [h]; exact .inl rfl
    · rw [h]; cases b
      · exact .inr rfl
      · exact .inl rfl
  room := C.room
  fk := C.fk
  fq := C.fq
  fp := fun z => by rw [show L.hot = true from z] at hh; cases hh
  rt := C.rt
def ownOf (N : List Str) (ts : List Nat) : List (Str × Nat) := ts.map fun i => (N.getD i "", i)
theorem ownOf_snd {ts : List Nat} : (ownOf N ts).map (·.2) = ts := by
  rw [ownOf, List.map_map]
  exact List.map_id ts
theorem Ct.blkOk (C : Ct L U N k sc GL X) {scope : Scope} {own : List (Str × Nat)} (h : blkC N sc scope own = true) : BlkOk X.N X.env.scope scope own := by
  have q := blkOk_by h
  rw [C.hN]
  exact ⟨q.kind, q.uniq, q.ix, fun y hy e => C.hc y.1 (q.free y hy e), q.own⟩
/-- the tests' reading -/
def tIfs (L : Lx) : Bool → E → TT
  | true, c => tT L c
  | false, _ => tYes
theorem tLc_of {ts : List Nat} {t : TN} {it c el : E} {b : Bool} {σ : L2.St} {H : Hp} {Q : VK} (hk : (eff c || eff el) = true → kpI L.Γ it = false) (hb : bor L.Γ el = false) (nd : ts.Nodup) (ha : ∀ i ∈ ts, L.Γ.getD i .a = .a) (hp : ∀ p ∈ L.PV, p.1 ∉ ts) (ht : ∀ n ∈ tnN t, n ∈ ts)
    (hg : GOk L.in0 t (tnG L.G.K t)) (hcb : b = false → c = .con (.bl true)) (q : tE L (.comp ts t it c el) σ H Q) : tLc (tI L it) (tnG L.G.K t) (tIfs L.in0 b c) (tP L.in0 el) ts σ H Q := by
  have hc : eff c = true → (eff c || eff el) = true := fun z => by rw [z]; rfl
  have he : eff el = true → (eff c || eff el) = true := fun z => by rw [z, Bool.or_true]
  have hee : (eff c || eff el) = true → eff (.comp ts t it c el) = true := fun z => by simp only [eff, Bool.or_assoc, z, Bool.or_true]
  generalize hE : (eff c || eff el) = ee at hk hc he hee
  obtain ⟨Fz, env, own, I, h⟩ := tE_get q
  refine ⟨Fz, env, own, I, ?_⟩
  simp only [ev, R.bind] at h
  cases ei : ev L.fc it env with
  | no => rw [ei] at h; exact h
  | exc c e1 => rw [ei] at h; exact h
  | ok ds e1 =>
    rw [ei] at h
    simp only at h
    match ds, h with
    | [], h => exact h.elim
    | _ :: _ :: _, h => exact h.elim
    | [d], h =>
      simp only at h
      cases hi : items d with
      | none => rw [hi] at h; exact h.elim
      | some its =>
        rw [hi] at h
        simp only at h
        by_cases hle : le its.length maxLen = true
        case neg => rw [if_neg hle] at h; exact h.elim
        rw [if_pos hle] at h
        have hle : its.length ≤ 16777216 := of_decide_eq_true hle
        refine ⟨d, its, rfl, hi, fun J H1 Fz1 own1 s1 wk A hA => ?_⟩
        cases ec : evComp (ev L.fc c) (ev L.fc el) ts t its (wipeE ts e1) with
        | no => rw [ec] at h; exact h.elim
        | exc c e2 => rw [ec] at h; exact h.elim
        | ok ys e2 =>
          rw [ec] at h
          obtain ⟨d', e', kk⟩ := h
          cases e'
          obtain ⟨Gd, Y, w, hG, hY⟩ := wk.wk
          have I1 := s1.re
          have hA1 : ¬ OW own1 A := fun ⟨i, o⟩ => by
            obtain ⟨u, e⟩ := I1.trk o
            rw [hA] at e; cases e
          refine lc_it w (fun i H' => ∃ Fz2 own2 ei acc ads rest, RE L.G L.Γ L.PV Fz2 H' ei (L2.wipe σ ts) own2 ∧ Fr Fz1 H1 (MM own1 ee) Fz2 H' ∧ (∀ b, OW own2 b → OW own1 b ∨ H1 b = none) ∧ H' A = some (.lst acc) ∧ RFs L.G Fz2 H' ads acc ∧ ¬ Fz2 A ∧ ¬ OW own2 A ∧ acc.length ≤ i ∧
            evComp (ev L.fc c) (ev L.fc el) ts t (its.drop i) ei = .ok rest e2 ∧ ys = ads ++ rest) ?_ ?_ ?_ ?_
          · refine ⟨fun b => Fz1 b ∧ b ≠ A, own1, wipeE ts e1, [], [], ys, (I1.wipe hp ha).fr0 (fr_new hA), (fr_new hA).mono (fun _ z => z.elim), fun b o => .inl o, upd_same, rfl, fun z => z.2 rfl, hA1, Nat.le_refl _, ec, rfl⟩
          · rintro i H' _ ⟨Fz2, own2, _, _, _, _, _, f, _⟩
            exact hG Fz2 H' (f.le (MM.nf I1)) fun z b o e => f.keep b o e fun m => by rw [hk m.1] at z; cases z
          · rintro i x H' H'' hlt ⟨Fz2, own2, ei', acc, ads, rest, I2, f2, o2, hD, racc, nF, nO, hlen, hev, hys⟩ hy
            obtain ⟨Fz3, f3, d3, hd3, r3⟩ := hY i H' Fz2 x H'' hlt (f2.le (MM.nf I1)) hy
            have I3 := I2.fr0 f3
            have hD3 : H'' A = some (.lst acc) := f3.none A _ hD
            have nF3 : ¬ Fz3 A := fun z => by
              rcases f3.fzn A z with q | q | q
              · exact nF q
              · exact q
              · rw [hD] at q; cases q
            have f13 : Fr Fz1 H1 (MM own1 ee) Fz3 H'' := f2.trans f3 fun _ z => z.elim
            obtain ⟨hil, hid⟩ := List.getElem?_eq_some_iff.mp hd3
            rw [List.drop_eq_getElem_cons hil, hid] at hev
            simp only [evComp] at hev
            cases ea : asgN t [d3] ei' with
            | none => rw [ea] at hev; cases hev
            | some e4 =>
              rw [ea] at hev
              simp only at hev
              refine hg x _ H'' Fz3 ei' own2 d3 e4 _ I3 r3 ea fun σ4 I4 hw => ?_
              have hw := (hw ts ht).trans (wipe_wipe fun n hn => hn)
              refine ⟨hw, ?_⟩
              -- a turn's end, without and with an item
              have fin : ∀ {ef : Bool} {H5 Fz5 own5 e5 rest5}, (ef = true → ee = true) → Stp L.in0 σ4 Fz3 H'' own2 ef Fz5 H5 e5 own5 → evComp (ev L.fc c) (ev L.fc el) ts t (its.drop (i + 1)) (wipeE ts e5) = .ok rest5 e2 → ys = ads ++ rest5 →
                  ∃ Fz2 own2 ei acc ads rest, RE L.G L.Γ L.PV Fz2 H5 ei (L2.wipe σ ts) own2 ∧ Fr Fz1 H1 (MM own1 ee) Fz2 H5 ∧ (∀ b, OW own2 b → OW own1 b ∨ H1 b = none) ∧ H5 A = some (.lst acc) ∧ RFs L.G Fz2 H5 ads acc ∧ ¬ Fz2 A ∧ ¬ OW own2 A ∧ acc.length ≤ i + 1 ∧
                    evComp (ev L.fc c) (ev L.fc el) ts t (its.drop (i + 1)) ei = .ok rest e2 ∧ ys = ads ++ rest := fun {ef H5 Fz5 own5 e5 rest5} hef s5 hev5 hys5 => by
                have f5 := s5.fr
                have f15 := f13.trans f5 fun b m => (o2 b m.2).imp (fun z => (⟨hef m.1, z⟩ : MM own1 ee b)) id
                have I5 : RE L.G L.Γ L.PV Fz5 H5 (wipeE ts e5) (L2.wipe σ4 ts) own5 := RE.wipe (L := L) s5.re hp ha
                rw [hw] at I5
                refine ⟨Fz5, own5, wipeE ts e5, acc, ads, rest5, I5, f15, fun b ob => ?_, f5.keep A _ hD3 (fun m => nO m.2), RFs.le (f5.le (MM.nf I3)) ads (RFs.le (f3.le fun _ z => z.elim) ads racc), fun z => ?_, fun ob => ?_, Nat.le_succ_of_le hlen, hev5, hys5⟩
                · rcases s5.ow b ob with z | z
                  · exact o2 b z
                  · exact (Eg.back f13 z).imp (fun m => m.2) id
                · rcases f5.fzn A z with q | q | q
                  · exact nF3 q
                  · exact nO q.2
                  · rw [hD3] at q; cases q
                · rcases s5.ow A ob with z | z
                  · exact nO z
                  · rw [hD3] at z; cases z
              have item : ∀ {ef : Bool} {H5 Fz5 own5 e5}, (ef = true → ee = true) → Stp L.in0 σ4 Fz3 H'' own2 ef Fz5 H5 e5 own5 → (match ev L.fc el e5 with
                  | .ok [x] e3 => match evComp (ev L.fc c) (ev L.fc el) ts t (its.drop (i + 1)) (wipeE ts e3) with
                    | .ok ys e4 => .ok (x :: ys) e4
                    | _ => .no
                  | _ => .no : R) = .ok rest e2 → tP L.in0 el σ4 H5 fun y H4 => ∃ acc, H4 A = some (.lst acc) ∧ acc.length < sizeLine ∧ ∃ Fz2 own2 ei acc' ads rest, RE L.G L.Γ L.PV Fz2 (upd H4 A (.lst (acc ++ [y]))) ei (L2.wipe σ ts) own2 ∧ Fr Fz1 H1 (MM own1 ee) Fz2 (upd H4 A (.lst (acc ++ [y]))) ∧ (∀ b, OW own2 b → OW own1 b ∨ H1 b = none) ∧ upd H4 A (.lst (acc ++ [y])) A = some (.lst acc') ∧ RFs L.G Fz2 (upd H4 A (.lst (acc ++ [y]))) ads acc' ∧ ¬ Fz2 A ∧ ¬ OW own2 A ∧ acc'.length ≤ i + 1 ∧
                    evComp (ev L.fc c) (ev L.fc el) ts t (its.drop (i + 1)) ei = .ok rest e2 ∧ ys = ads ++ rest := fun {ef H5 Fz5 own5 e5} hef s5 hev5 => by
                refine tP_mk s5.re ?_
                show match ev L.fc el e5 with
                  | .ok ds env' => _
                  | .exc c env' => _
                  | .no => False
                split at hev5
                · rename_i y e6 eqel
                  rw [eqel]
                  refine ⟨y, rfl, fun v H6 Fz6 own6 s6 rb rf => ?_⟩
                  have rf := rf hb
                  have s56 := s5.trans s6
                  have hef6 : (ef || eff el) = true → ee = true := fun z => (Bool.or_eq_true _ _ ▸ z).elim hef he
                  have f6 := s56.fr
                  have hD6 : H6 A = some (.lst acc) := f6.keep A _ hD3 fun m => nO m.2
                  have nF6 : ¬ Fz6 A := fun z => by
                    rcases f6.fzn A z with q | q | q
                    · exact nF3 q
                    · exact nO q.2
                    · rw [hD3] at q; cases q
                  have nO6 : ¬ OW own6 A := fun ob => by
                    rcases s56.ow A ob with z | z
                    · exact nO z
                    · rw [hD3] at z; cases z
                  refine ⟨acc, hD6, by rw [sizeLine_eq]; omega, ?_⟩
                  split at hev5
                  · rename_i ys7 e7 eq7
                    cases hev5
                    have fD : Fr Fz6 H6 (fun b => b = A) Fz6 (upd H6 A (.lst (acc ++ [v]))) := ⟨fun b o z _ _ => z, fun b o e n => by rw [upd_ne n]; exact e, fun b z => .inl z⟩
                    have lD : Le Fz6 H6 Fz6 (upd H6 A (.lst (acc ++ [v]))) := fD.le fun b e z => nF6 (e ▸ z)
                    have I6 : RE L.G L.Γ L.PV Fz6 (upd H6 A (.lst (acc ++ [v]))) e6 σ4 own6 := s56.re.fr fD (fun b ob e => nO6 (e ▸ ob)) fun b e z => nF6 (e ▸ z)
                    have I7 : RE L.G L.Γ L.PV Fz6 (upd H6 A (.lst (acc ++ [v]))) (wipeE ts e6) (L2.wipe σ4 ts) own6 := RE.wipe (L := L) I6 hp ha
                    rw [hw] at I7
                    have f16 := f13.trans f6 fun b m => (o2 b m.2).imp (fun z => (⟨hef6 m.1, z⟩ : MM own1 ee b)) id
                    refine ⟨Fz6, own6, wipeE ts e6, acc ++ [v], ads ++ [y], ys7, I7, f16.trans fD fun b e => .inr (e ▸ hA), fun b ob => ?_, upd_same, RFs.append (RFs.le lD ads (RFs.le (f6.le (MM.nf I3)) ads (RFs.le (f3.le fun _ z => z.elim) ads racc))) ⟨v, [], rfl, RF.le lD y rf, rfl⟩, nF6, nO6, by rw [List.length_append]; simp; omega, eq7, by rw [hys, List.append_assoc]; rfl⟩
                    rcases s56.ow b ob with z | z
                    · exact o2 b z
                    · exact (Eg.back f13 z).imp (fun m => m.2) id
                  · cases hev5
                · cases hev5
              cases b with
              | false =>
                have hcc := hcb rfl
                subst hcc
                simp only [ev] at hev
                simp only [tIfs, tYes, if_true]
                exact item (ef := false) (fun z => by cases z) (.refl I4) hev
              | true =>
                show tT L.in0 c σ4 H'' _
                refine tP_mk I4 ?_
                show match ev L.fc c e4 with
                  | .ok ds env' => _
                  | .exc c env' => _
                  | .no => False
                split at hev
                · rename_i e5 eqc
                  rw [eqc]
                  refine ⟨_, rfl, fun v H5 Fz5 own5 s5 rb rf => ⟨true, rb, ?_⟩⟩
                  simp only [if_true]
                  exact item hc s5 hev
                · rename_i e5 eqc
                  rw [eqc]
                  refine ⟨_, rfl, fun v H5 Fz5 own5 s5 rb rf => ⟨false, rb, ?_⟩⟩
                  simp only [Bool.false_eq_true, if_false]
                  exact fin hc s5 hev hys
                · cases hev
          · rintro H' ⟨Fz2, own2, ei', acc, ads, rest, I2, f2, o2, hD, racc, nF, nO, hlen, hev, hys⟩
            rw [List.drop_length] at hev
            simp only [evComp, R.ok.injEq] at hev
            obtain ⟨hr, he2⟩ := hev
            subst hr
            subst he2
            rw [List.append_nil] at hys
            subst hys
            refine kk (.ref A) H' Fz2 own2 (fun b => b = A) ⟨I1.unwipe I2 (f2.le (MM.nf I1)) nd ha, ?_, ?_⟩ ⟨A, acc, rfl, hD, racc, fun b => Iff.rfl⟩ ⟨fun b e z => nF (e ▸ z), fun i b ob e => nO ⟨i, e ▸ ob⟩, fun b e => ?_⟩
            · exact (s1.fr.mono fun b m => (⟨by simp [eff, m.1], m.2⟩ : MM own (eff (.comp ts t it c el)) b)).trans f2 fun b m => (s1.ow b m.2).imp (fun z => ⟨hee m.1, z⟩) id
            · intro b ob
              rcases o2 b ob with z | z
              · exact s1.ow b z
              · exact s1.back z
            · subst e
              exact (Eg.back s1.fr hA).imp (fun m => ⟨by simp [eff, m.1], m.2⟩) id
end
end Eg

end
section
set_option maxHeartbeats 8000000
namespace Eg
open PySem PySem.Spec PyProof.Rows L2
section
variable {L : Lx} {σ σ1 σ2 : L2.St} {Fz Fz1 Fz2 S : Addr → Prop} {H H1 H2 : Hp} {env env1 env2 : List D} {own own1 own2 : Nat → Addr → Prop} {e1 e2 ef : Bool} {wf : Nat} {r : Ty}
/-- an owned list written -/
theorem RE.upd (I : RE L.G L.Γ L.PV Fz H env σ own) {i : Nat} {ds : List D} (hi : env.getD i .unset = .lst ds) (hΓ : L.Γ.getD i .a = .o) : ∃ a xs, σ[i]? = some (some (.ref a)) ∧ H a = some (.lst xs) ∧ RFs L.G Fz H ds xs ∧
    ∀ ds' ys, RFs L.G Fz H ds' ys → Stp L σ Fz H own true Fz (upd H a (.lst ys)) (env.set i (.lst ds')) own := by
  obtain ⟨v, e1, ro⟩ := I.val i (by rw [hi]; intro z; cases z)
  rw [hΓ, hi] at ro
  obtain ⟨a, xs, rfl, hh, rr, n⟩ := ro
  have oi : own i a := (n a).mpr rfl
  have nf : ¬ Fz a := I.nf i a oi
  refine ⟨a, xs, e1, hh, rr, fun ds' ys r' => ?_⟩
  have f : Fr Fz H (fun b => b = a) Fz (L2.upd H a (.lst ys)) := ⟨fun b o z _ _ => z, fun b o e n => by rw [upd_ne n]; exact e, fun b z => .inl z⟩
  have l : Le Fz H Fz (L2.upd H a (.lst ys)) := f.le fun b e z => nf (e ▸ z)
  have hl : i < env.length := getD_lt (by rw [hi]; intro z; cases z)
  refine ⟨⟨fun j hj => ?_, fun j hj b ob => ?_, I.nf, I.dj, I.pv, by rw [List.length_set]; exact I.len⟩, f.mono fun b e => ⟨rfl, i, e ▸ oi⟩, fun b => .inl⟩
  · by_cases q : j = i
    · subst q
      rw [getD_set_self hl, hΓ]
      exact ⟨_, e1, a, ys, rfl, upd_same, RFs.le l ds' r', n⟩
    · rw [getD_set_ne q] at hj ⊢
      obtain ⟨u, e2, ro⟩ := I.val j hj
      exact ⟨u, e2, ro.le l fun b o sb e => by rw [upd_ne (fun z => q (I.dj j i b sb (by rw [z]; exact oi)))]; exact e⟩
  · by_cases q : j = i
    · subst q; rw [getD_set_self hl] at hj; cases hj
    · rw [getD_set_ne q] at hj; exact I.emp j hj b ob
theorem RFs.eraseIdx {G : Gx} : ∀ {ds : List D} {vs : List V} (i : Nat), RFs G Fz H ds vs → RFs G Fz H (ds.eraseIdx i) (vs.eraseIdx i)
  | [], _, _, h => by rw [show _ = [] from h]; simp [RFs]
  | _ :: _, _, 0, ⟨v, r, e, h, t⟩ => by subst e; exact t
  | _ :: _, _, i + 1, ⟨v, r, e, h, t⟩ => by subst e; exact ⟨v, _, rfl, h, RFs.eraseIdx i t⟩
theorem RFs.getV {G : Gx} {ds : List D} {vs : List V} {i : Nat} (h : RFs G Fz H ds vs) (hi : i < ds.length) : ∃ v, vs[i]? = some v ∧ RF G Fz H (ds.getD i .unset) v := by
  obtain ⟨v, h1, h2⟩ := h.get (List.getElem?_eq_getElem hi)
  refine ⟨v, h1, ?_⟩
  rw [List.getD_eq_getElem?_getD, List.getElem?_eq_getElem hi]
  exact h2
theorem dropLast_erase {α : Type} : ∀ (l : List α), l.dropLast = l.eraseIdx (l.length - 1)
  | [] => rfl
  | [x] => rfl
  | x :: y :: l => by
    have := dropLast_erase (y :: l)
    simp only [List.dropLast_cons_cons, List.length_cons, Nat.add_sub_cancel] at this ⊢
    rw [this, List.eraseIdx_cons_succ]
/-! ### x.pop(k), x.pop() -/
theorem tE_pop {i : Nat} {a : E} {Q : VK} (hb : bor L.Γ a = false) (hΓ : L.Γ.getD i .a = .o) (q : tE L (.pop i a) σ H Q) : tBM L.G.K "list" rPopAt (tVar i) (tCons (tP L a) tNil) σ H Q := by
  obtain ⟨Fz, env, own, I, h⟩ := tE_get q
  simp only [ev, R.bind] at h
  cases h0 : env.getD i .unset with
  | lst ds0 =>
    rw [h0] at h
    simp only at h
    obtain ⟨ad, xs, q1, q2, q3, q4⟩ := I.upd h0 hΓ
    refine ⟨_, q1, .inl ⟨rfl, _, .inl (.inl q2)⟩, tP_mk I ?_⟩
    cases ee : ev L.fc a env with
    | no => rw [ee] at h; exact h
    | exc c e1 => rw [ee] at h; exact h
    | ok ds e1 =>
      rw [ee] at h
      simp only at h
      rcases ds with _ | ⟨d, _ | ⟨d2, ds⟩⟩
      · exact h.elim
      · cases d with
        | int j =>
          cases h1 : e1.getD i .unset with
          | lst xs1 =>
            rw [h1] at h
            simp only at h
            cases hn : L2.ixN xs1.length j with
            | none => rw [hn] at h; exact h.elim
            | some n =>
              rw [hn] at h
              simp only at h
              by_cases hl : inLim j = true
              case neg => rw [if_neg hl] at h; exact h.elim
              rw [if_pos hl] at h
              obtain ⟨l1, l2⟩ : -4611686018427387904 ≤ j ∧ j < 4611686018427387904 := by
                simp only [inLim, Eg.lim, Bool.and_eq_true] at hl
                exact ⟨of_decide_eq_true hl.1, of_decide_eq_true hl.2⟩
              obtain ⟨d', e', kk⟩ := h
              cases e'
              refine ⟨_, rfl, fun v H1 Fz1 own1 s1 rb rf => ?_⟩
              have rv := rf hb
              obtain ⟨a', ys, p1, p2, p3, p4⟩ := s1.re.upd h1 hΓ
              rw [q1] at p1
              cases p1
              obtain ⟨k1, k2, k3, k4⟩ := ixN_seq hn
              obtain ⟨y, hy, ry⟩ := p3.getV k2
              have lx := p3.length
              refine ⟨ad, ys, j, n, y, rfl, by rw [show v = _ from rv], p2, by omega, by omega, by rw [lx]; exact k1, hy, ?_⟩
              have s2 := p4 (xs1.eraseIdx n) (ys.eraseIdx n) (p3.eraseIdx n)
              have s3 := s1.trans s2
              exact kk y _ _ _ (fun _ => False) (s3.mono fun _ => rfl) ⟨RF.le (s2.le s1.re) _ ry, fun _ z => z⟩ .none
          | _ => rw [h1] at h; exact h.elim
        | _ => exact h.elim
      · revert h
        split
        · rename_i q
          split at q
          · rename_i z _; cases z
          · cases q
        · rename_i q
          split at q
          · rename_i z _; cases z
          · cases q
        · exact fun h => h.elim
  | _ => rw [h0] at h; exact h.elim
theorem tE_pop0 {i : Nat} {Q : VK} (hΓ : L.Γ.getD i .a = .o) (q : tE L (.pop0 i) σ H Q) : tBM0 L.G.K "list" rPop (tVar i) σ H Q := by
  obtain ⟨Fz, env, own, I, h⟩ := tE_get q
  simp only [ev] at h
  cases h0 : env.getD i .unset with
  | lst ds0 =>
    rw [h0] at h
    simp only at h
    by_cases hz : ds0.isEmpty = true
    case pos => rw [if_pos hz] at h; exact h.elim
    rw [if_neg hz] at h
    obtain ⟨d', e', kk⟩ := h
    cases e'
    obtain ⟨ad, xs, q1, q2, q3, q4⟩ := I.upd h0 hΓ
    have hl : ds0.length - 1 < ds0.length := by
      cases ds0 with
      | nil => exact absurd rfl hz
      | cons _ _ => simp
    obtain ⟨y, hy, ry⟩ := q3.getV hl
    have lx := q3.length
    refine ⟨_, q1, .inl ⟨rfl, _, .inl (.inl q2)⟩, ad, xs, y, rfl, rfl, q2, by rw [lx]; exact hy, ?_⟩
    have s2 := q4 ds0.dropLast xs.dropLast (by rw [dropLast_erase, dropLast_erase, lx]; exact q3.eraseIdx _)
    exact kk y _ _ _ (fun _ => False) (s2.mono fun _ => rfl) ⟨RF.le (s2.le I) _ ry, fun _ z => z⟩ .none
  | _ => rw [h0] at h; exact h.elim
/-! ### three comparisons in a row -/
def tChain3 (r r' r'' : R2) (ta tb tc td : TE) : TE := fun σ H Q => ta σ H fun x H1 => tb σ H1 fun y H2 => r x y H2 fun z H3 => ∃ k, z = .bl k ∧
  (if k = true then tc σ H3 fun w H4 => r' y w H4 fun u H5 => ∃ k2, u = .bl k2 ∧ (if k2 = true then td σ H5 fun t H6 => r'' w t H6 Q else Q (.bl false) H5) else Q (.bl false) H3)
section
variable {X : Cx} {a b c d : Expr} {ta tb tc td : TE} {o1 o2 o3 : CmpOp} {r1 r2 r3 : R2} {pos : Pos}
theorem pe_chain3 (h1 : OpR X (compareOp o1) r1) (h2 : OpR X (compareOp o2) r2) (h3 : OpR X (compareOp o3) r3) (ha : PE X a ta) (hb : PE X b tb) (hc : PE X c tc) (hd : PE X d td) (hm : lastMarks [o1, o2, o3] [b, c, d] = false) :
    PE X (.Compare a [o1, o2, o3] [b, c, d] pos) (tChain3 r1 r2 r3 ta tb tc td) := by
  refine ⟨fun pins s σ H Q I h => Compare_chain (thn (ha.run pins s σ H _ I h) ?_) hm⟩
  rintro va s1 ⟨x, H1, I1, e1, q1⟩
  refine chain_link (thn (hb.run pins s1 σ H1 _ I1 q1) ?_)
  rintro vb s2 ⟨y, H2, I2, e2, q2⟩
  refine thn (h1 pins s2 σ H2 x y va vb _ I2 e1 e2 q2) ?_
  rintro w1 s3 ⟨z, H3, I3, e3, k, rfl, q3⟩
  cases e3
  refine wpAny_truthy_bool ?_
  cases k with
  | false => exact ite_ff ⟨.bl false, H3, I3, rfl, q3⟩
  | true =>
    refine ite_tt (chain_link (thn (hc.run pins s3 σ H3 _ I3 q3) ?_))
    rintro vc s4 ⟨w, H4, I4, e4, q4⟩
    refine thn (h2 pins s4 σ H4 y w vb vc _ I4 e2 e4 q4) ?_
    rintro w2 s5 ⟨u, H5, I5, e5, k2, rfl, q5⟩
    cases e5
    refine wpAny_truthy_bool ?_
    cases k2 with
    | false => exact ite_ff ⟨.bl false, H5, I5, rfl, q5⟩
    | true =>
      refine ite_tt (chain_last (thn (hd.run pins s5 σ H5 _ I5 q5) ?_))
      rintro vd s6 ⟨t, H6, I6, e6, q6⟩
      exact h3 pins s6 σ H6 w t vc vd Q I6 e4 e6 q6
theorem pt_chain3 (h1 : OpR X (compareOp o1) r1) (h2 : OpR X (compareOp o2) r2) (h3 : OpR X (compareOp o3) r3) (ha : PE X a ta) (hb : PE X b tb) (hc : PE X c tc) (hd : PE X d td) (hm : lastMarks [o1, o2, o3] [b, c, d] = false) :
    PT X (.Compare a [o1, o2, o3] [b, c, d] pos) (tTest (tChain3 r1 r2 r3 ta tb tc td)) := by
  refine ⟨fun pins s σ H Q I h => isTrue_chain (thn (ha.run pins s σ H _ I h) ?_) hm⟩
  rintro va s1 ⟨x, H1, I1, e1, q1⟩
  refine test_link (thn (hb.run pins s1 σ H1 _ I1 q1) ?_)
  rintro vb s2 ⟨y, H2, I2, e2, q2⟩
  refine thn (h1 pins s2 σ H2 x y va vb _ I2 e1 e2 q2) ?_
  rintro w1 s3 ⟨z, H3, I3, e3, k, rfl, q3⟩
  cases e3
  refine wpAny_truthy_bool ?_
  cases k with
  | false =>
    obtain ⟨k', e', q'⟩ := q3
    cases e'
    exact ite_ff ⟨H3, I3, q'⟩
  | true =>
    refine ite_tt (test_link (thn (hc.run pins s3 σ H3 _ I3 q3) ?_))
    rintro vc s4 ⟨w, H4, I4, e4, q4⟩
    refine thn (h2 pins s4 σ H4 y w vb vc _ I4 e2 e4 q4) ?_
    rintro w2 s5 ⟨u, H5, I5, e5, k2, rfl, q5⟩
    cases e5
    refine wpAny_truthy_bool ?_
    cases k2 with
    | false =>
      obtain ⟨k', e', q'⟩ := q5
      cases e'
      exact ite_ff ⟨H5, I5, q'⟩
    | true =>
      refine ite_tt (test_last (thn (hd.run pins s5 σ H5 _ I5 q5) ?_))
      rintro vd s6 ⟨t, H6, I6, e6, q6⟩
      refine thn (h3 pins s6 σ H6 w t vc vd _ I6 e4 e6 q6) ?_
      rintro w3 s7 ⟨u3, H7, I7, e7, k3, rfl, q7⟩
      cases e7
      exact wpAny_truthy_bool ⟨H7, I7, q7⟩
end
def chOk3 (o p q : BI) (x y z w : E) : Bool := !eff x && !eff y && !eff z && !eff w && decide (bty o = .a) && decide (bty p = .a) && decide (bty q = .a)
theorem RB.keepS {d : D} {v : V} (s : Stp L σ Fz1 H1 own1 false Fz2 H2 env2 own2) (h : RB L.G Fz1 H1 d v) : RB L.G Fz2 H2 d v := by
  have f := s.fr
  rw [MM.false] at f
  exact h.le (f.le fun _ z => z.elim) f.none
theorem tP_chn3 {o p q : BI} {x y z w : E} {Q : VK} (hc : chOk3 o p q x y z w = true) (qq : tP L (.chn3 o p q x y z w) σ H Q) : tChain3 (fun a b H Q => rB L.G o [a, b] H Q) (fun a b H Q => rB L.G p [a, b] H Q) (fun a b H Q => rB L.G q [a, b] H Q) (tP L x) (tP L y) (tP L z) (tP L w) σ H Q := by
  simp only [chOk3, Bool.and_eq_true, Bool.not_eq_true', decide_eq_true_eq] at hc
  obtain ⟨⟨⟨⟨⟨⟨hx, hy⟩, hz⟩, hw⟩, bo⟩, bp⟩, bq⟩ := hc
  obtain ⟨Fz, env, own, I, h⟩ := tP_get qq
  have hE : eff (.chn3 o p q x y z w) = false := by simp only [eff, hx, hy, hz, hw, Bool.or_false]
  rw [hE] at h
  simp only [ev, R.bind] at h
  refine tP_mk I ?_
  cases ex : ev L.fc x env with
  | no => rw [ex] at h; exact h
  | exc c e1 => rw [ex] at h; exact h
  | ok ds e1 =>
    rw [ex] at h
    simp only at h
    match ds, h with
    | [], h => exact h.elim
    | _ :: _ :: _, h => exact h.elim
    | [d1], h =>
      refine ⟨d1, rfl, fun v1 H1 Fz1 own1 s1 rb1 rf1 => ?_⟩
      rw [hx] at s1
      simp only at h
      refine tP_mk s1.re ?_
      cases ey : ev L.fc y e1 with
      | no => rw [ey] at h; exact h
      | exc c e2 => rw [ey] at h; exact ResX.of s1 h
      | ok ds e2 =>
        rw [ey] at h
        simp only at h
        match ds, h with
        | [], h => exact h.elim
        | _ :: _ :: _, h => exact h.elim
        | [d2], h =>
          refine ⟨d2, rfl, fun v2 H2 Fz2 own2 s2 rb2 rf2 => ?_⟩
          rw [hy] at s2
          simp only at h
          have s12 : Stp L σ Fz H own false Fz2 H2 e2 own2 := s1.trans s2
          cases eo : F2 o d1 d2 with
          | none => rw [eo] at h; exact h.elim
          | some r =>
            rw [eo] at h
            refine ⟨Fz2, [d1, d2], r, ⟨v1, _, rfl, rb1.keepS s2, v2, _, rfl, rb2, rfl⟩, eo, ?_⟩
            rw [bo]
            intro w1 H3 Fz3 S3 ro nS3 hS3 f3
            have s3' : Stp L σ Fz2 H2 own2 false Fz3 H3 e2 own2 := ⟨s12.re.fr0 f3, f3.mono (fun _ z => z.elim), fun _ => .inl⟩
            have s3 : Stp L σ Fz H own false Fz3 H3 e2 own2 := s12.trans s3'
            match r, h with
            | .bl true, h =>
              simp only at h
              refine ⟨true, ro.1, ?_⟩
              show tP L z σ H3 _
              refine tP_mk s3.re ?_
              cases ez : ev L.fc z e2 with
              | no => rw [ez] at h; exact h
              | exc c e3 => rw [ez] at h; exact ResX.of s3 h
              | ok ds e3 =>
                rw [ez] at h
                simp only at h
                match ds, h with
                | [], h => exact h.elim
                | _ :: _ :: _, h => exact h.elim
                | [d3], h =>
                  refine ⟨d3, rfl, fun v3 H4 Fz4 own4 s4 rb4 rf4 => ?_⟩
                  rw [hz] at s4
                  simp only at h
                  cases ep : F2 p d2 d3 with
                  | none => rw [ep] at h; exact h.elim
                  | some r2 =>
                    rw [ep] at h
                    refine ⟨Fz4, [d2, d3], r2, ⟨v2, _, rfl, (rb2.keepS s3').keepS s4, v3, _, rfl, rb4, rfl⟩, ep, ?_⟩
                    rw [bp]
                    intro w2 H5 Fz5 S5 ro5 nS5 hS5 f5
                    have s34 : Stp L σ Fz H own false Fz4 H4 e3 own4 := s3.trans s4
                    have s5' : Stp L σ Fz4 H4 own4 false Fz5 H5 e3 own4 := ⟨s34.re.fr0 f5, f5.mono (fun _ z => z.elim), fun _ => .inl⟩
                    have s5 : Stp L σ Fz H own false Fz5 H5 e3 own4 := s34.trans s5'
                    match r2, h with
                    | .bl true, h =>
                      simp only at h
                      refine ⟨true, ro5.1, ?_⟩
                      show tP L w σ H5 _
                      refine tP_mk s5.re ?_
                      cases ew : ev L.fc w e3 with
                      | no => rw [ew] at h; exact h
                      | exc c e4 => rw [ew] at h; exact ResX.of s5 h
                      | ok ds e4 =>
                        rw [ew] at h
                        simp only at h
                        match ds, h with
                        | [], h => exact h.elim
                        | _ :: _ :: _, h => exact h.elim
                        | [d4], h =>
                          refine ⟨d4, rfl, fun v4 H6 Fz6 own6 s6 rb6 rf6 => ?_⟩
                          rw [hw] at s6
                          simp only at h
                          cases eq : F2 q d3 d4 with
                          | none => rw [eq] at h; exact h.elim
                          | some r3 =>
                            rw [eq] at h
                            match r3, h with
                            | .bl kk2, h =>
                              obtain ⟨d', e', kk⟩ := h
                              cases e'
                              refine ⟨Fz6, [d3, d4], _, ⟨v3, _, rfl, (rb4.keepS s5').keepS s6, v4, _, rfl, rb6, rfl⟩, eq, ?_⟩
                              rw [bq]
                              intro w3 H7 Fz7 S7 ro7 nS7 hS7 f7
                              have s7 : Stp L σ Fz H own false Fz6 H6 e4 own6 := s5.trans s6
                              exact kk w3 H7 Fz7 own6 ⟨s7.re.fr0 f7, s7.fr.trans f7 (fun _ z => z.elim), s7.ow⟩ ro7.1.rb fun _ => ro7.1
                    | .bl false, h =>
                      obtain ⟨d', e', kk⟩ := h
                      cases e'
                      exact ⟨false, ro5.1, kk (.bl false) H5 Fz5 own4 s5 rfl fun _ => rfl⟩
            | .bl false, h =>
              obtain ⟨d', e', kk⟩ := h
              cases e'
              exact ⟨false, ro.1, kk (.bl false) H3 Fz3 own2 s3 rfl fun _ => rfl⟩
theorem last_marks3 {o1 o2 o3 : CmpOp} {b c d : Expr} (h : noSet d = true) : lastMarks [o1, o2, o3] [b, c, d] = false := by
  show lastMarks [o3] [d] = false
  exact not_behind h
/-! ### what is not told -/
theorem pe_badP {X : Cx} {ast : Expr} : PE X ast (tP L .bad) := ⟨fun pins s σ H Q I q => by
  obtain ⟨_, _, _, _, h⟩ := q
  exact h.elim⟩
theorem pe_badE {X : Cx} {ast : Expr} : PE X ast (tE L .bad) := ⟨fun pins s σ H Q I q => by
  obtain ⟨_, _, _, _, h⟩ := q
  exact h.elim⟩
theorem pt_bad {X : Cx} {ast : Expr} : PT X ast (tT L .bad) := ⟨fun pins s σ H Q I q => by
  obtain ⟨_, _, _, _, h⟩ := q
  exact h.elim⟩
theorem pw_bad {X : Cx} {ast : Expr} : PW X ast (tT L .bad) := ⟨fun wh pins s σ H Q I q => by
  obtain ⟨_, _, _, _, h⟩ := q
  exact h.elim⟩
end
end Eg

end
section
set_option maxHeartbeats 8000000
namespace Eg
open PySem PySem.Spec PyProof.Rows L2
/-! ### x > e: two lists of whole numbers; x is owned, e may change what is owned -/
theorem firstLt_map {e r : Nat → Bool} {fin : Bool} {f : Nat → Nat} : ∀ l : List Nat, PySem.SeqAt.firstLt e r fin (l.map f) = PySem.SeqAt.firstLt (fun j => e (f j)) (fun j => r (f j)) fin l
  | [] => rfl
  | j :: l => by
    rw [List.map_cons]
    unfold PySem.SeqAt.firstLt
    rw [firstLt_map l]
theorem firstLt_lex : ∀ ns ms : List Int, PySem.SeqAt.firstLt (fun j => ns.getD j 0 == ms.getD j 0) (fun j => decide (ms.getD j 0 < ns.getD j 0)) (decide (ns.length > ms.length)) (List.range (min ns.length ms.length)) = lexLt ms ns
  | [], [] => rfl
  | [], _ :: _ => by simp [PySem.SeqAt.firstLt, lexLt]
  | _ :: _, [] => by simp [PySem.SeqAt.firstLt, lexLt]
  | n :: ns, m :: ms => by
    have ih := firstLt_lex ns ms
    have e1 : min (n :: ns).length (m :: ms).length = min ns.length ms.length + 1 := by simp only [List.length_cons]; omega
    rw [e1, List.range_succ_eq_map]
    unfold PySem.SeqAt.firstLt
    rw [firstLt_map]
    have e2 : decide ((n :: ns).length > (m :: ms).length) = decide (ns.length > ms.length) := by simp
    rw [e2]
    have e3 : lexLt (m :: ms) (n :: ns) = if m = n then lexLt ms ns else decide (m < n) := rfl
    rw [e3]
    by_cases h : n = m
    · subst h
      simp only [List.getD_cons_zero, beq_self_eq_true, if_true, List.getD_cons_succ]
      exact ih
    · have h' : ¬ m = n := fun z => h z.symm
      simp [h, h']
def rGtL : R2 := fun x y H Q => ∃ a b ns ms, x = .ref a ∧ y = .ref b ∧ H a = some (.lst (ns.map V.int)) ∧ H b = some (.lst (ms.map V.int)) ∧ Q (.bl (lexLt ms ns)) H
theorem ia_at {vs : List Value} {ns : List Int} (h : IntsAre vs ns) {j : Nat} (h1 : j < vs.length) : ∃ t, vs[j] = .int (ns.getD j 0) t := by
  obtain ⟨t, e⟩ := IntsAre.int_at h j vs[j] (List.getElem?_eq_getElem h1)
  exact ⟨t, e⟩
theorem op_gtL {X : Cx} (hu : X.A.units < cLine) : OpR X (compareOp .Gt) rGtL := by
  intro pins s σ H x y v u Q I rx ry h
  obtain ⟨a, b, ns, ms, rfl, rfl, ha, hb, q⟩ := h
  cases rx
  cases ry
  obtain ⟨z, its, n, r, hl, e⟩ := I.lstM ha
  obtain ⟨z2, its2, n2, r2, hl2, e2⟩ := I.lstM hb
  have i1 : IntsAre its.toArray.toList ns := intsAre_of r
  have i2 : IntsAre its2.toArray.toList ms := intsAre_of r2
  have l1 : its.toArray.size = ns.length := by rw [List.size_toArray]; exact i1.length
  have l2 : its2.toArray.size = ms.length := by rw [List.size_toArray]; exact i2.length
  have k := firstLt_lex ns ms
  rw [← l1, ← l2] at k
  refine PySem.SeqAt.RcOp.lists_gt (A := X.A) (s := s) (e := fun j => ns.getD j 0 == ms.getD j 0) (r := fun j => decide (ms.getD j 0 < ns.getD j 0)) ⟨_, e, rfl, n, rfl⟩ ⟨_, e2, rfl, n2, rfl⟩ hu (fun j h1 h2 => ?_) (fun j h1 h2 _ => ?_) X.prog X.w _ _ ⟨.bl (lexLt ms ns), H, I, ?_, q⟩
  · obtain ⟨t, e1⟩ := ia_at i1 (j := j) (by simpa using h1)
    obtain ⟨t', e2⟩ := ia_at i2 (j := j) (by simpa using h2)
    have e1' : its.toArray[j] = .int (ns.getD j 0) t := by simpa using e1
    have e2' : its2.toArray[j] = .int (ms.getD j 0) t' := by simpa using e2
    rw [e1', e2']
    exact PySem.SeqAt.EqAt.int_int _ _ _ _
  · obtain ⟨t, e1⟩ := ia_at i1 (j := j) (by simpa using h1)
    obtain ⟨t', e2⟩ := ia_at i2 (j := j) (by simpa using h2)
    have e1' : its.toArray[j] = .int (ns.getD j 0) t := by simpa using e1
    have e2' : its2.toArray[j] = .int (ms.getD j 0) t' := by simpa using e2
    rw [e1', e2']
    intro prog w E Q hq
    exact PySem.P.gt_int hq
  · rw [k]
    rfl
section
variable {L : Lx} {σ : L2.St} {H : Hp}
theorem tE_gtL {i : Nat} {a : E} {Q : VK} (ha : nty L.rt a ≠ .n) (hΓ : L.Γ.getD i .a = .o) (q : tE L (.gtL i a) σ H Q) : tOp rGtL (tVar i) (tE L a) σ H Q := by
  obtain ⟨Fz, env, own, I, h⟩ := tE_get q
  simp only [ev, R.bind] at h
  have hne : env.getD i .unset ≠ .unset := by
    intro z; rw [z] at h; exact h
  obtain ⟨v, e1, _⟩ := I.val i hne
  have h : match (match ev L.fc a env with
      | .ok x e => (match x with
        | [d] => match gtF (e.getD i .unset) d with
          | some b => R.ok [b] e
          | none => .no
        | _ => .no)
      | .exc c e => .exc c e
      | .no => .no) with
    | .ok ds env' => ∃ d, ds = [d] ∧ ∀ v H' Fz' own' S, Stp L σ Fz H own (eff a) Fz' H' env' own' → RO L.G Fz' H' .a d v S → Hd Fz H own (eff a) Fz' own' S → Q v H'
    | .exc c env' => ResX L σ Fz H own env' c
    | .no => False := by
    generalize env.getD i .unset = d0 at h hne
    cases d0 <;> first | exact absurd rfl hne | exact h
  refine ⟨v, e1, tE_mk I ?_⟩
  cases ea : ev L.fc a env with
  | no => rw [ea] at h; exact h
  | exc c e2 => rw [ea] at h; exact h
  | ok ds e2 =>
    rw [ea] at h
    simp only at h
    rcases ds with _ | ⟨d, _ | ⟨_, _⟩⟩
    · exact h.elim
    · refine ⟨d, rfl, fun v2 H2 Fz2 own2 S2 s2 ro hd => ?_⟩
      cases h0 : e2.getD i .unset <;> rw [h0] at h <;> first | exact h.elim | skip
      rename_i xs
      cases d <;> first | exact h.elim | skip
      rename_i ys
      simp only [gtF] at h
      cases ex : toInts xs with
      | none => rw [ex] at h; exact h.elim
      | some l =>
        cases ey : toInts ys with
        | none => rw [ex, ey] at h; exact h.elim
        | some r =>
          rw [ex, ey] at h
          obtain ⟨d', e', kk⟩ := h
          cases e'
          obtain ⟨v', e1', rv⟩ := s2.re.val i (by rw [h0]; intro z; cases z)
          rw [e1] at e1'
          cases e1'
          rw [h0, hΓ] at rv
          obtain ⟨p, us, rfl, hp, ru, _⟩ := rv
          obtain ⟨p2, us2, rfl, hp2, ru2⟩ := ro.rb ha
          have z1 := RFs.toInts ru ex
          have z2 := RFs.toInts ru2 ey
          subst z1 z2
          exact ⟨p, p2, l, r, rfl, rfl, hp, hp2, kk (.bl (lexLt r l)) _ _ _ (fun _ => False) s2 ⟨rfl, fun _ => id⟩ .none⟩
    · exact h.elim
end
end Eg

end
section
set_option maxHeartbeats 8000000
namespace Eg
open PySem PySem.Spec PyProof.Rows L2
/-! ### a call whose first argument is a list just made, which the def changes -/
def elenN : E → Nat
  | .cons _ r => elenN r + 1
  | _ => 0
def callFOk (U : Fx) (Γ : List Ty) (f : Nat) (a : E) : Bool :=
  lok Γ a && noOwn Γ a && !eff a && decide (U.pt f = .o :: List.replicate (elenN a) .a) && decide (U.io f = [0])
section
variable {X : Cx} {L : Lx} {U : Fx} {k : Nat} {N : List Str} {sc : Scope} {GL : Str → D → Bool}
theorem ar_vals {G : Gx} {Fz : Addr → Prop} {H : Hp} : ∀ {ds : List D} {vs : List V}, RFs G Fz H ds vs → AR G Fz H (List.replicate ds.length .a) ds vs (List.replicate ds.length fun _ => False)
  | [], vs, h => by rw [show vs = [] from h]; trivial
  | d :: ds, vs, ⟨v, r, e, h, t⟩ => by
    subst e
    refine ⟨⟨h, fun _ => id⟩, ?_, ar_vals t⟩
    intro z
    subst z
    exact h
theorem evN_len {fc : Nat → List D → CR} : ∀ {a : E} {env ds e1 : List D}, (∃ Γ, lok Γ a = true) → ev fc a env = .ok ds e1 → ds.length = elenN a := by
  intro a
  induction a with
  | nil =>
    intro env ds e1 _ h
    simp only [ev, R.ok.injEq] at h
    rw [← h.1]
    rfl
  | cons x r _ ih =>
    intro env ds e1 hl h
    obtain ⟨Γ, hl⟩ := hl
    simp only [lok, Bool.and_eq_true] at hl
    simp only [ev, R.bind] at h
    cases ex : ev fc x env with
    | no => rw [ex] at h; cases h
    | exc c e2 => rw [ex] at h; cases h
    | ok xs e2 =>
      rw [ex] at h
      simp only at h
      rcases xs with _ | ⟨d, _ | ⟨_, _⟩⟩ <;> first | (cases h; done) | skip
      simp only at h
      cases er : ev fc r e2 with
      | no => rw [er] at h; cases h
      | exc c e3 => rw [er] at h; cases h
      | ok ys e3 =>
        rw [er] at h
        simp only [R.ok.injEq] at h
        rw [← h.1, List.length_cons, ih ⟨Γ, hl.2⟩ er]
        rfl
  | _ => intro env ds e1 hl; obtain ⟨Γ, hl⟩ := hl; simp [lok] at hl
theorem tE_callF {f : Nat} {e a : E} (hrt : ∀ f, L.rt f = U.rt f) (hn : nty L.rt e = .o) (hc : callFOk U L.Γ f a = true) {σ : L2.St} {H : Hp} {Q : VK} (q : tE L (.callF f e a) σ H Q) : tCallS (spF L.G (U.pt f) (U.rt f) (U.io f) (L.fc f)) (WE L.W) (tCons (tE L e) (tPs L a)) σ H Q := by
  simp only [callFOk, Bool.and_eq_true, Bool.not_eq_true', decide_eq_true_eq] at hc
  obtain ⟨⟨⟨⟨h1, h2⟩, h3⟩, h4⟩, h5⟩ := hc
  obtain ⟨Fz, env, own, I, h⟩ := tE_get q
  refine tE_mk I ?_
  simp only [ev, R.bind] at h
  cases ee : ev L.fc e env with
  | no => rw [ee] at h; exact h
  | exc c e1 => rw [ee] at h; exact h
  | ok xs e1 =>
    rw [ee] at h
    simp only at h
    rcases xs with _ | ⟨d, _ | ⟨_, _⟩⟩
    · exact h.elim
    · refine ⟨d, rfl, fun v H1 Fz1 own1 S1 s1 ro hd => ?_⟩
      rw [hn] at ro
      refine tPs_mk h1 s1.re ?_
      simp only at h
      cases ea : ev L.fc a e1 with
      | no => rw [ea] at h; exact h
      | exc c e2 => rw [ea] at h; exact ResX.of s1 h
      | ok ds e2 =>
        rw [ea] at h
        simp only at h
        intro vs H2 Fz2 own2 s2 rbs rfs
        have rf := rfs h2
        have hlen := evN_len ⟨_, h1⟩ ea
        have f2 : Fr Fz1 H1 (fun _ => False) Fz2 H2 := s2.fr.mono fun b m => by rw [h3] at m; cases m.1
        have ro2 : RO L.G Fz2 H2 .o d v S1 := ro.le (f2.le fun _ z => z.elim) fun b o _ e => f2.none b o e
        have s12 : Stp L σ Fz H own (eff e || eff a) Fz2 H2 e2 own2 := s1.trans s2
        have hS1 : ∀ b, S1 b → MM own (eff e || eff a) b ∨ H b = none := fun b z => (hd.fr b z).imp (fun m => ⟨by rw [m.1]; rfl, m.2⟩) id
        have nF2 : ∀ b, S1 b → ¬ Fz2 b := fun b z q => by
          rcases f2.fzn b q with q | q | q
          · exact hd.nf b z q
          · exact q
          · obtain ⟨o, e⟩ := ro.trk b z
            rw [e] at q; cases q
        have nO2 : ∀ i b, own2 i b → ¬ S1 b := fun i b o z => by
          rcases s2.ow b ⟨i, o⟩ with ⟨j, q⟩ | q
          · exact hd.dj j b q z
          · obtain ⟨o, e⟩ := ro.trk b z
            rw [e] at q; cases q
        have hOw : ∀ b, OW (ownL (S1 :: List.replicate ds.length fun _ => False)) b → S1 b := fun b hq => by
          obtain ⟨i, S, e, z⟩ := hq
          cases i with
          | zero => simp only [List.getElem?_cons_zero, Option.some.injEq] at e; rw [e]; exact z
          | succ i =>
            simp only [List.getElem?_cons_succ] at e
            have := List.eq_of_mem_replicate (List.mem_of_getElem? e)
            rw [this] at z
            exact z.elim
        have hO0 : ∀ i b, ownL (S1 :: List.replicate ds.length fun _ => False) i b → i = 0 := fun i b hq => by
          obtain ⟨S, e, z⟩ := hq
          cases i with
          | zero => rfl
          | succ i =>
            simp only [List.getElem?_cons_succ] at e
            have := List.eq_of_mem_replicate (List.mem_of_getElem? e)
            rw [this] at z
            exact z.elim
        have post : ∀ {Fz' : Addr → Prop} {H' : Hp}, Fr Fz2 H2 (OW (ownL (S1 :: List.replicate ds.length fun _ => False))) Fz' H' → Stp L σ Fz H own (eff e || eff a) Fz' H' e2 own2 := fun {Fz' H'} f => by
          have f := f.mono hOw
          refine ⟨s12.re.fr f (fun b ⟨i, o⟩ => nO2 i b o) nF2, s12.fr.trans f hS1, s12.ow⟩
        refine ⟨Fz2, d :: ds, S1 :: List.replicate ds.length fun _ => False, ?_, fun i j b x y => (hO0 i b x).trans (hO0 j b y).symm, fun i b x => nF2 b (hOw b ⟨i, x⟩), ?_⟩
        · rw [h4, ← hlen]
          exact ⟨ro2, ro2.ne, ar_vals rf⟩
        · cases er : L.fc f (d :: ds) with
          | no => rw [er] at h; exact h
          | exc c ps =>
            rw [er] at h
            intro H' Fz' own' _ _ _ fr' _
            have s3 := post fr'
            exact h H' Fz' own2 s3.re (s3.fr.mono fun b m => m.2) s3.ow
          | ok r ps =>
            rw [er] at h
            obtain ⟨d', e', kk⟩ := h
            cases e'
            intro v' H' Fz' own' S ror nS _ nfdj _ fr' o'
            have s3 := post fr'
            refine kk v' H' Fz' own2 S s3 (by show RO L.G _ _ (L.rt f) _ _ _; rw [hrt f]; exact ror) ⟨nS, fun i b o z => ?_, fun b z => ?_⟩
            · rcases o' b (.inr z) with q | q
              · exact nO2 i b o (hOw b q)
              · obtain ⟨u, e⟩ := s12.re.trk o
                rw [e] at q; cases q
            · rcases o' b (.inr z) with q | q
              · exact hS1 b (hOw b q)
              · exact Eg.back s12.fr q
    · exact h.elim
theorem pe_callF (C : Ct L U N k sc GL X) (hh : L.hot = false) {f : Nat} (hdom : U.dom f = true) {e0 a : E} {p pos : Pos} {e : Expr} {es : List Expr} (hg : gl sc (U.nm f) = true) (hd : (U.nm f == ("__debug__" : Str)) = false) (hn : nty L.rt e0 = .o) (hc : callFOk U L.Γ f a = true) (h0 : PE X e (tE L e0)) (hs : noStar e = true) (h : APE X L a es) : PE X (.Call (.Name (U.nm f) p) (e :: es) [] pos) (tE L (.callF f e0 a)) := by
  obtain ⟨ad, fd, ps, m, kp, b, F⟩ := C.fk hh f hdom
  exact PE.imp (pe_callS F (C.room hh) (C.hg _ hg) m kp b (E := WE L.W) (fun σ => L2N.passAt C.tk σ) (pa_cons h0 h.pa (star_cons hs)) hd (star_cons hs) (any_star _ _ _ fun z hz => h.stars z hz)) fun σ H Q q => tE_callF C.rt hn hc q
end
end Eg

end
section
set_option maxHeartbeats 8000000
namespace Eg
open PySem PySem.Spec PyProof.Rows L2
/-! ### lists of lists that are owned; what is frozen for one expression -/
/-- slots read as they stand for good -/
def frG : List Nat → List Ty → List Ty
  | [], Γ => Γ
  | i :: is, Γ => frG is (Γ.set i .a)
theorem frG_in : ∀ {is : List Nat} {Γ : List Ty} {j : Nat}, j ∈ is → (frG is Γ).getD j .a = .a
  | [], _, _, h => by cases h
  | i :: is, Γ, j, h => by
    rw [frG]
    by_cases m : j ∈ is
    · exact frG_in m
    · have e : j = i := (List.mem_cons.mp h).resolve_right m
      subst e
      have out : ∀ {is : List Nat} {Γ : List Ty} {j : Nat}, j ∉ is → (frG is Γ).getD j .a = Γ.getD j .a := by
        intro is
        induction is with
        | nil => intro Γ j _; rfl
        | cons k ks ih =>
          intro Γ j hj
          rw [frG, ih fun z => hj (List.mem_cons_of_mem _ z), List.getD_eq_getElem?_getD, List.getD_eq_getElem?_getD, List.getElem?_set_ne fun z => hj (by rw [z]; exact List.mem_cons_self)]
      rw [out m, List.getD_eq_getElem?_getD]
      by_cases hl : j < Γ.length
      · rw [List.getElem?_set_self hl]; rfl
      · rw [List.getElem?_eq_none (by rw [List.length_set]; omega)]; rfl
theorem frG_out : ∀ {is : List Nat} {Γ : List Ty} {j : Nat}, j ∉ is → (frG is Γ).getD j .a = Γ.getD j .a
  | [], _, _, _ => rfl
  | k :: ks, Γ, j, hj => by
    rw [frG, frG_out fun z => hj (List.mem_cons_of_mem _ z), List.getD_eq_getElem?_getD, List.getD_eq_getElem?_getD, List.getElem?_set_ne fun z => hj (by rw [z]; exact List.mem_cons_self)]
abbrev Lx.fz (L : Lx) (is : List Nat) : Lx := { L with Γ := frG is L.Γ }
section
variable {L : Lx} {σ σ1 : L2.St} {Fz Fz1 Fz2 S : Addr → Prop} {H H1 H2 : Hp} {env env1 env2 : List D} {own own1 own2 : Nat → Addr → Prop} {e1 e2 ef : Bool}
def frS (own : Nat → Addr → Prop) (is : List Nat) : Addr → Prop := fun b => ∃ i ∈ is, own i b
def frO (own : Nat → Addr → Prop) (is : List Nat) : Nat → Addr → Prop := fun j b => j ∉ is ∧ own j b
theorem RE.fz (I : RE L.G L.Γ L.PV Fz H env σ own) (is : List Nat) : RE (L.fz is).G (L.fz is).Γ (L.fz is).PV (fun b => Fz b ∨ frS own is b) H env σ (frO own is) where
  val := fun j hj => by
    obtain ⟨v, e1, r⟩ := I.val j hj
    refine ⟨v, e1, ?_⟩
    by_cases m : j ∈ is
    · show RO L.G _ H ((frG is L.Γ).getD j .a) _ _ _
      rw [frG_in m]
      exact ⟨RF.le (fun b o x e => ⟨x.imp id fun z => ⟨j, m, z⟩, e⟩) _ r.freeze, fun b z => z.1 m⟩
    · show RO L.G _ H ((frG is L.Γ).getD j .a) _ _ _
      rw [frG_out m]
      have : frO own is j = own j := by funext b; simp [frO, m]
      rw [this]
      exact r.le (fun b o x e => ⟨.inl x, e⟩) fun b o _ e => e
  emp := fun j hj b z => I.emp j hj b z.2
  nf := fun j b z q => q.elim (I.nf j b z.2) fun ⟨i, m, o⟩ => z.1 (I.dj i j b o z.2 ▸ m)
  dj := fun i j b x y => I.dj i j b x.2 y.2
  pv := I.pv
  len := I.len
/-- .. and back -/
theorem fz_back (I : RE L.G L.Γ L.PV Fz H env σ own) {is : List Nat} (f : Fr (fun b => Fz b ∨ frS own is b) H (fun _ => False) Fz2 H2) :
    Fr Fz H (fun _ => False) (fun b => Fz2 b ∧ ¬ frS own is b) H2 ∧ ∀ b, frS own is b → ∃ xs, H2 b = some (.lst xs) :=
  ⟨⟨fun b o h e _ => ⟨f.fz b o (.inl h) e id, fun ⟨i, m, z⟩ => I.nf i b z h⟩, f.keep, fun b z => (f.fzn b z.1).imp (fun q => q.resolve_right z.2) id⟩, fun b ⟨i, m, z⟩ => by
    by_cases e : env.getD i .unset = .unset
    · exact absurd z (I.emp i e b)
    · obtain ⟨v, _, r⟩ := I.val i e
      obtain ⟨xs, q⟩ := r.own_lst b z
      exact ⟨xs, f.keep b _ q id⟩⟩
theorem tP_frz {is : List Nat} {e : E} {Q : VK} (he : eff e = false) (hb : bor (L.fz is).Γ e = false) (q : tP L (.frz is e) σ H Q) : tP (L.fz is) e σ H Q := by
  obtain ⟨Fz, env, own, I, h⟩ := tP_get q
  refine tP_mk (I.fz is) ?_
  simp only [ev] at h
  show match ev L.fc e env with
    | .ok ds env' => _
    | .exc c env' => _
    | .no => False
  have fm : ∀ {Fz' : Addr → Prop} {H' : Hp}, Fr (fun b => Fz b ∨ frS own is b) H (MM (frO own is) (eff e)) Fz' H' → Fr (fun b => Fz b ∨ frS own is b) H (fun _ => False) Fz' H' := fun f => f.mono fun b m => by rw [he] at m; cases m.1
  cases ee : ev L.fc e env with
  | no => rw [ee] at h; exact h
  | exc c e1 =>
    rw [ee] at h
    exact h.elim
  | ok ds e1 =>
    rw [ee] at h
    match ds, h with
    | [], h => exact h.elim
    | _ :: _ :: _, h => exact h.elim
    | [d], h =>
      simp only at h
      by_cases hn : noL d = true
      case neg => rw [if_neg hn] at h; exact h.elim
      rw [if_pos hn] at h
      obtain ⟨d', e', kk⟩ := h
      cases e'
      refine ⟨d, rfl, fun v H' Fz' own' s1 rb rf => ?_⟩
      obtain ⟨f, hl⟩ := fz_back I (fm s1.fr)
      have r : RF L.G (fun b => Fz' b ∧ ¬ frS own is b) H' d v := RF.less (R := frS own is) (fun b z n => ⟨z, n⟩) hl d hn (rf hb)
      exact kk v H' _ own ⟨I.fr0 f, f.mono fun _ z => z.elim, fun b o => .inl o⟩ r.rb fun _ => r
/-- where a value read is the test -/
theorem tT_frz {is : List Nat} {e : E} {Q : Bool → Hp → Prop} (he : eff e = false) (hb : bor (L.fz is).Γ e = false) (q : tT L (.frz is e) σ H Q) : tT (L.fz is) e σ H Q := tP_frz he hb q
/-- a slot's list and its rows, changed -/
theorem RE.updN (I : RE L.G L.Γ L.PV Fz H env σ own) {i : Nat} {ds : List D} (hi : env.getD i .unset = .lst ds) (hΓ : L.Γ.getD i .a = .n) : ∃ a xs T, σ[i]? = some (some (.ref a)) ∧ H a = some (.lst xs) ∧ RN L.G Fz H ds xs T ∧ (∀ k, ¬ T k a) ∧ (∀ b, own i b ↔ b = a ∨ ∃ k, T k b) := by
  obtain ⟨v, e1, ro⟩ := I.val i (by rw [hi]; intro z; cases z)
  rw [hΓ, hi] at ro
  obtain ⟨a, xs, T, rfl, h⟩ := ro
  exact ⟨a, xs, T, e1, h⟩
theorem RN.same {G : Gx} {ds : List D} {xs ys : List V} {T : Nat → Addr → Prop} {H : Hp} (h : RN G Fz H ds xs T) : xs.length = ds.length := h.len
/-- one more row -/
theorem RN.app {G : Gx} {ds : List D} {xs : List V} {T : Nat → Addr → Prop} {H : Hp} {d : D} {v : V} (h : RN G Fz H ds xs T) (r : ROo G Fz H d v S) (n : ∀ k b, T k b → ¬ S b) : RN G Fz H (ds ++ [d]) (xs ++ [v]) (fun k b => if k = ds.length then S b else T k b) where
  len := by rw [List.length_append, List.length_append, h.len]; rfl
  row := fun k d' v' e1 e2 => by
    by_cases q : k = ds.length
    · subst q
      rw [List.getElem?_append_right (Nat.le_refl _), Nat.sub_self] at e1
      rw [List.getElem?_append_right (by rw [h.len]; exact Nat.le_refl _), h.len, Nat.sub_self] at e2
      cases e1
      cases e2
      simpa using r
    · have hk : k < ds.length := by
        have := (List.getElem?_eq_some_iff.mp e1).1
        rw [List.length_append] at this
        simp only [List.length_cons, List.length_nil] at this
        omega
      rw [List.getElem?_append_left hk] at e1
      rw [List.getElem?_append_left (by rw [h.len]; exact hk)] at e2
      simpa [q] using h.row k d' v' e1 e2
  out := fun k hk b => by
    rw [List.length_append] at hk
    simp only [List.length_cons, List.length_nil] at hk
    rw [if_neg (by omega)]
    exact h.out k (by omega) b
  dj := fun j k b x y => by
    by_cases p : j = ds.length <;> by_cases q : k = ds.length
    · rw [p, q]
    · rw [if_pos p] at x; rw [if_neg q] at y; exact absurd x (n k b y)
    · rw [if_neg p] at x; rw [if_pos q] at y; exact absurd y (n j b x)
    · rw [if_neg p] at x; rw [if_neg q] at y; exact h.dj j k b x y
/-- a row in another's place -/
theorem RN.set {G : Gx} {ds : List D} {xs : List V} {T : Nat → Addr → Prop} {H : Hp} {d : D} {v : V} {m : Nat} {H' : Hp} (h : RN G Fz H ds xs T) (l : Le Fz H Fz1 H') (s : ∀ k b o, k ≠ m → T k b → H b = some o → H' b = some o) (hv : xs[m]? = some v) (r : ROo G Fz1 H' d v S) (n : ∀ k b, k ≠ m → T k b → ¬ S b) : RN G Fz1 H' (ds.set m d) xs (fun k b => if k = m then S b else T k b) where
  len := by rw [List.length_set]; exact h.len
  row := fun k d' v' e1 e2 => by
    by_cases q : k = m
    · subst q
      have hk : k < ds.length := by
        have := (List.getElem?_eq_some_iff.mp e1).1
        rwa [List.length_set] at this
      rw [List.getElem?_set_self hk] at e1
      cases e1
      rw [hv] at e2
      cases e2
      simpa using r
    · rw [List.getElem?_set_ne (Ne.symm q)] at e1
      simpa [q] using (h.row k d' v' e1 e2).le l (s k · · q)
  out := fun k hk b => by
    rw [List.length_set] at hk
    have hm : m < ds.length := by rw [← h.len]; exact (List.getElem?_eq_some_iff.mp hv).1
    rw [if_neg (by omega)]
    exact h.out k hk b
  dj := fun j k b x y => by
    by_cases p : j = m <;> by_cases q : k = m
    · rw [p, q]
    · rw [if_pos p] at x; rw [if_neg q] at y; exact absurd x (n k b q y)
    · rw [if_neg p] at x; rw [if_pos q] at y; exact absurd y (n j b p x)
    · rw [if_neg p] at x; rw [if_neg q] at y; exact h.dj j k b x y
/-- what a slot owns, put anew -/
theorem Stp.setN (s1 : Stp L σ Fz H own e1 Fz1 H1 env1 own1) {i : Nat} {d : Eg.D} {v : V} {T : Ty} (hT : L.Γ.getD i .a = T) (hne : d ≠ .unset) (hv : σ[i]? = some (some v)) {M : Addr → Prop} (f : Fr Fz1 H1 M Fz1 H2) (hM : ∀ b, M b → own1 i b) (ro : RO L.G Fz1 H2 T d v S) (nf : ∀ b, S b → ¬ Fz1 b) (dj : ∀ j b, j ≠ i → own1 j b → ¬ S b) (fr : ∀ b, S b → OW own b ∨ H b = none) : Stp L σ Fz H own true Fz1 H2 (env1.set i d) (fun j b => if j = i then S b else own1 j b) := by
  have I := s1.re
  have hl : i < env1.length := by rw [I.len]; exact (List.getElem?_eq_some_iff.mp hv).1
  have mf : ∀ b, M b → ¬ Fz1 b := fun b m => I.nf i b (hM b m)
  refine ⟨⟨fun j hj => ?_, fun j hj b ob => ?_, fun j b ob => ?_, fun j j' b o1 o2 => ?_, I.pv, by rw [List.length_set]; exact I.len⟩, (s1.fr.mono fun b m => (⟨rfl, m.2⟩ : MM own true b)).trans f fun b m => (s1.ow b ⟨i, hM b m⟩).imp (fun z => ⟨rfl, z⟩) id, fun b ⟨j, ob⟩ => ?_⟩
  · by_cases q : j = i
    · subst q
      rw [getD_set_self hl, hT]
      simp only [if_true]
      exact ⟨v, hv, ro⟩
    · rw [getD_set_ne q] at hj ⊢
      simp only [if_neg q]
      obtain ⟨u, e2, r⟩ := I.val j hj
      exact ⟨u, e2, r.le (f.le mf) fun b o sb e => f.keep b o e fun m => q (I.dj j i b sb (hM b m))⟩
  · by_cases q : j = i
    · subst q; rw [getD_set_self hl] at hj; exact hne hj
    · rw [getD_set_ne q] at hj; simp only [if_neg q] at ob; exact I.emp j hj b ob
  · by_cases q : j = i
    · simp only [if_pos q] at ob; exact nf b ob
    · simp only [if_neg q] at ob; exact I.nf j b ob
  · by_cases q : j = i <;> by_cases q' : j' = i
    · rw [q, q']
    · simp only [if_pos q] at o1; simp only [if_neg q'] at o2; exact absurd o1 (dj j' b q' o2)
    · simp only [if_neg q] at o1; simp only [if_pos q'] at o2; exact absurd o2 (dj j b q o1)
    · simp only [if_neg q] at o1; simp only [if_neg q'] at o2; exact I.dj j j' b o1 o2
  · by_cases q : j = i
    · simp only [if_pos q] at ob; exact fr b ob
    · simp only [if_neg q] at ob; exact s1.ow b ⟨j, ob⟩
end
section
variable {X : Cx} {L : Lx} {U : Fx} {k : Nat} {N : List Str} {sc : Scope} {GL : Str → D → Bool}
theorem Ct.gp (C : Ct L U N k sc GL X) (Γ : List Ty) (PV : List (Nat × V)) : Ct { L with Γ := Γ, PV := PV } U N k sc GL X :=
  ⟨C.hN, C.nd, C.hv, C.hg, C.hs, C.hK, C.calm, C.tk, C.anyC, C.xi, C.un, C.mb, C.gc, C.hc, C.room, C.fk, C.fq, C.fp, C.rt⟩
/-- moved away with its rows -/
theorem pe_mvN (C : Ct L U N k sc GL X) {i : Nat} {x : Str} {pos : Pos} (hN : N[i]? = some x) (hv : vis sc x = true) (h1 : (x == ("__debug__" : Str)) = false) (h2 : (x == ("__classdict__" : Str)) = false) (ht : L.Γ.getD i .a = .n) : PE X (.Name x pos) (tE L (.mvN i)) := by
  refine PE.imp (pe_var (i := i) (by rw [C.hN]; exact hN) (C.hv x hv) h1 h2) fun σ H Q q => ?_
  obtain ⟨Fz, env, own, I, h⟩ := tE_get q
  have hne : env.getD i .unset ≠ .unset := by
    intro z; simp only [ev] at h; rw [z] at h; exact h
  have hee : ev L.fc (.mvN i) env = .ok [env.getD i .unset] (env.set i .unset) := by
    simp only [ev]
  rw [hee] at h
  obtain ⟨d', e', kk⟩ := h
  cases e'
  obtain ⟨v, e1, r⟩ := I.val i hne
  rw [ht] at r
  refine ⟨v, e1, ?_⟩
  have hl := getD_lt hne
  refine kk v H Fz (fun j b => j ≠ i ∧ own j b) (own i) ⟨⟨fun j hj => ?_, fun j he b ob => ?_, fun j b ob => I.nf j b ob.2, fun j j' b o1 o2 => I.dj j j' b o1.2 o2.2, I.pv, by rw [List.length_set]; exact I.len⟩, .refl, fun b ⟨j, _, ob⟩ => .inl ⟨j, ob⟩⟩ r ⟨fun b o => I.nf i b o, fun j b o1 o2 => o1.1 (I.dj j i b o1.2 o2), fun b o => .inl ⟨rfl, i, o⟩⟩
  · by_cases z : j = i
    · subst z
      rw [List.getD_eq_getElem?_getD, List.getElem?_set_self hl] at hj
      exact absurd rfl hj
    · have e : (env.set i .unset).getD j .unset = env.getD j .unset := by
        rw [List.getD_eq_getElem?_getD, List.getD_eq_getElem?_getD, List.getElem?_set_ne (Ne.symm z)]
      rw [e] at hj ⊢
      obtain ⟨v, e1, r⟩ := I.val j hj
      have : (fun b => j ≠ i ∧ own j b) = own j := by funext b; simp [z]
      rw [this]
      exact ⟨v, e1, r⟩
  · by_cases z : j = i
    · exact ob.1 z
    · have e : (env.set i .unset).getD j .unset = env.getD j .unset := by
        rw [List.getD_eq_getElem?_getD, List.getD_eq_getElem?_getD, List.getElem?_set_ne (Ne.symm z)]
      rw [e] at he
      exact I.emp j he b ob.2
theorem RN.nil {G : Gx} {Fz : Addr → Prop} {H : Hp} : RN G Fz H [] [] (fun _ _ => False) := ⟨rfl, (fun k d v e => by cases e), (fun _ _ _ => id), fun _ _ _ z => z.elim⟩
/-- [] -/
theorem pe_emN {pos : Pos} : PE X (.List [] pos) (tE L .emN) := by
  refine PE.imp (pe_lst pa_nil) fun σ H Q q => ?_
  obtain ⟨Fz, env, own, I, h⟩ := tE_get q
  simp only [ev] at h
  obtain ⟨d, e', kk⟩ := h
  cases e'
  refine ⟨Nat.zero_le _, fun p hp => ?_⟩
  have f : Fr Fz H (fun _ => False) (fun b => Fz b ∧ b ≠ p) (upd H p (.lst [])) := fr_new hp
  refine kk (.ref p) _ _ own (fun b => b = p) ⟨I.fr0 f, f.mono fun _ z => z.elim, fun b o => .inl o⟩ ⟨p, [], fun _ _ => False, rfl, upd_same, RN.nil, fun _ => id, fun b => ⟨.inl, fun z => z.elim id fun ⟨_, z⟩ => z.elim⟩⟩ ⟨fun b e z => z.2 e, fun i b ob e => ?_, fun b e => .inr (e ▸ hp)⟩
  obtain ⟨u, q⟩ := I.trk ob
  rw [e, hp] at q
  cases q
end
end Eg

end
section
set_option maxHeartbeats 8000000
namespace Eg
open PySem PySem.Spec PyProof.Rows L2
section
variable {L : Lx} {Fz Fz1 Fz2 : Addr → Prop} {H H1 H2 : Hp} {env env1 env2 : List D} {σ : L2.St} {own own1 own2 : Nat → Addr → Prop} {ts : List Nat}
/-- a comprehension whose items are lists just made -/
theorem tLcN_of {ts : List Nat} {t : TN} {it el : E} {σ : L2.St} {H : Hp} {Q : VK} (he : eff el = false) (hn : nty L.rt el = .o) (nd : ts.Nodup) (ha : ∀ i ∈ ts, L.Γ.getD i .a = .a) (hp : ∀ p ∈ L.PV, p.1 ∉ ts) (ht : ∀ n ∈ tnN t, n ∈ ts)
    (hg : GOk L.in0 t (tnG L.G.K t)) (q : tE L (.compN ts t it el) σ H Q) : tLc (tI L it) (tnG L.G.K t) tYes (tE L.in0 el) ts σ H Q := by
  obtain ⟨Fz, env, own, I, h⟩ := tE_get q
  refine ⟨Fz, env, own, I, ?_⟩
  simp only [ev, R.bind] at h
  cases ei : ev L.fc it env with
  | no => rw [ei] at h; exact h
  | exc c e1 => rw [ei] at h; exact h
  | ok ds e1 =>
    rw [ei] at h
    simp only at h
    match ds, h with
    | [], h => exact h.elim
    | _ :: _ :: _, h => exact h.elim
    | [d], h =>
      simp only at h
      cases hi : items d with
      | none => rw [hi] at h; exact h.elim
      | some its =>
        rw [hi] at h
        simp only at h
        by_cases hle : le its.length maxLen = true
        case neg => rw [if_neg hle] at h; exact h.elim
        rw [if_pos hle] at h
        have hle : its.length ≤ 16777216 := of_decide_eq_true hle
        refine ⟨d, its, rfl, hi, fun J H1 Fz1 own1 s1 wk A hA => ?_⟩
        cases ec : evComp (fun e => .ok [.bl true] e) (ev L.fc el) ts t its (wipeE ts e1) with
        | no => rw [ec] at h; exact h.elim
        | exc c e2 => rw [ec] at h; exact h.elim
        | ok ys e2 =>
          rw [ec] at h
          obtain ⟨d', e', kk⟩ := h
          cases e'
          obtain ⟨Gd, Y, w, hG, hY⟩ := wk.wk
          have I1 := s1.re
          have hA1 : ¬ OW own1 A := fun ⟨i, o⟩ => by
            obtain ⟨u, e⟩ := I1.trk o
            rw [hA] at e; cases e
          refine lc_it w (fun i H' => ∃ Fz2 own2 ei acc ads rest T, RE L.G L.Γ L.PV Fz2 H' ei (L2.wipe σ ts) own2 ∧ Fr Fz1 H1 (fun _ => False) Fz2 H' ∧ (∀ b, OW own2 b → OW own1 b ∨ H1 b = none) ∧ H' A = some (.lst acc) ∧ RN L.G Fz2 H' ads acc T ∧ (∀ k b, T k b → b ≠ A ∧ ¬ Fz2 b ∧ ¬ OW own2 b ∧ H1 b = none) ∧ ¬ Fz2 A ∧ ¬ OW own2 A ∧ acc.length ≤ i ∧
            evComp (fun e => .ok [.bl true] e) (ev L.fc el) ts t (its.drop i) ei = .ok rest e2 ∧ ys = ads ++ rest) ?_ ?_ ?_ ?_
          · refine ⟨fun b => Fz1 b ∧ b ≠ A, own1, wipeE ts e1, [], [], ys, fun _ _ => False, (I1.wipe hp ha).fr0 (fr_new hA), fr_new hA, fun b o => .inl o, upd_same, RN.nil, (fun _ _ z => z.elim), fun z => z.2 rfl, hA1, Nat.le_refl _, ec, rfl⟩
          · rintro i H' _ ⟨Fz2, own2, _, _, _, _, _, _, f, _⟩
            exact hG Fz2 H' (f.le fun _ z => z.elim) fun z b o e => f.keep b o e id
          · rintro i x H' H'' hlt ⟨Fz2, own2, ei', acc, ads, rest, T, I2, f2, o2, hD, racc, rT, nF, nO, hlen, hev, hys⟩ hy
            obtain ⟨Fz3, f3, d3, hd3, r3⟩ := hY i H' Fz2 x H'' hlt (f2.le fun _ z => z.elim) hy
            have I3 := I2.fr0 f3
            have hD3 : H'' A = some (.lst acc) := f3.none A _ hD
            have nF3 : ¬ Fz3 A := fun z => by
              rcases f3.fzn A z with q | q | q
              · exact nF q
              · exact q
              · rw [hD] at q; cases q
            have f13 : Fr Fz1 H1 (fun _ => False) Fz3 H'' := f2.trans f3 fun _ z => z.elim
            -- what the rows own is tracked
            have trT : ∀ k b, T k b → ∃ o, H' b = some o := fun k b z => by
              by_cases hk : k < ads.length
              · have hk2 : k < acc.length := by rw [racc.len]; exact hk
                obtain ⟨xs, q⟩ := (roo_iff.mp (racc.row k _ _ (List.getElem?_eq_getElem hk) (List.getElem?_eq_getElem hk2))).own_lst b z
                exact ⟨_, q⟩
              · exact absurd z (racc.out k (by omega) b)
            obtain ⟨hil, hid⟩ := List.getElem?_eq_some_iff.mp hd3
            rw [List.drop_eq_getElem_cons hil, hid] at hev
            simp only [evComp] at hev
            cases ea : asgN t [d3] ei' with
            | none => rw [ea] at hev; cases hev
            | some e4 =>
              rw [ea] at hev
              simp only at hev
              refine hg x _ H'' Fz3 ei' own2 d3 e4 _ I3 r3 ea fun σ4 I4 hw => ?_
              have hw := (hw ts ht).trans (wipe_wipe fun n hn => hn)
              refine ⟨hw, ?_⟩
              simp only [tYes, if_true]
              refine tE_mk I4 ?_
              show match ev L.fc el e4 with
                | .ok ds env' => _
                | .exc c env' => _
                | .no => False
              split at hev
              · rename_i y e6 eqel
                rw [eqel]
                refine ⟨y, rfl, fun v H6 Fz6 own6 S6 s6 ro hd => ?_⟩
                have ro : ROo L.G Fz6 H6 y v S6 := roo_iff.mpr (hn ▸ ro)
                have f6 : Fr Fz3 H'' (fun _ => False) Fz6 H6 := s6.fr.mono fun b m => by rw [he] at m; cases m.1
                have f36 := f3.trans f6 fun _ z => z.elim
                have hD6 : H6 A = some (.lst acc) := f6.none A _ hD3
                have nF6 : ¬ Fz6 A := fun z => by
                  rcases f6.fzn A z with q | q | q
                  · exact nF3 q
                  · exact q
                  · rw [hD3] at q; cases q
                have nO6 : ¬ OW own6 A := fun ob => by
                  rcases s6.ow A ob with z | z
                  · exact nO z
                  · rw [hD3] at z; cases z
                have s6n : ∀ b, S6 b → H'' b = none := fun b z => (hd.fr b z).resolve_left fun m => by rw [he] at m; cases m.1
                refine ⟨acc, hD6, by rw [sizeLine_eq]; omega, ?_⟩
                split at hev
                · rename_i ys7 e7 eq7
                  cases hev
                  have fD : Fr Fz6 H6 (fun b => b = A) Fz6 (upd H6 A (.lst (acc ++ [v]))) := ⟨fun b o z _ _ => z, fun b o e n => by rw [upd_ne n]; exact e, fun b z => .inl z⟩
                  have lD : Le Fz6 H6 Fz6 (upd H6 A (.lst (acc ++ [v]))) := fD.le fun b e z => nF6 (e ▸ z)
                  have I6 : RE L.G L.Γ L.PV Fz6 (upd H6 A (.lst (acc ++ [v]))) e6 σ4 own6 := s6.re.fr fD (fun b ob e => nO6 (e ▸ ob)) fun b e z => nF6 (e ▸ z)
                  have I7 : RE L.G L.Γ L.PV Fz6 (upd H6 A (.lst (acc ++ [v]))) (wipeE ts e6) (L2.wipe σ4 ts) own6 := RE.wipe (L := L) I6 hp ha
                  rw [hw] at I7
                  have sA : ∀ b, S6 b → b ≠ A := fun b z e => by
                    have := s6n b z
                    rw [e, hD3] at this
                    cases this
                  have r6 : RN L.G Fz6 (upd H6 A (.lst (acc ++ [v]))) ads acc T := (racc.le (f36.le fun _ z => z.elim) fun k b o _ e => f36.none b o e).le lD fun k b o z e => by rw [upd_ne (rT k b z).1]; exact e
                  have rv : ROo L.G Fz6 (upd H6 A (.lst (acc ++ [v]))) y v S6 := ro.le lD fun b o z e => by rw [upd_ne (sA b z)]; exact e
                  refine ⟨Fz6, own6, wipeE ts e6, acc ++ [v], ads ++ [y], ys7, _, I7, ?_, fun b ob => ?_, upd_same, r6.app rv fun k b z s => ?_, fun k b z => ?_, nF6, nO6, by rw [List.length_append]; simp; omega, eq7, by rw [hys, List.append_assoc]; rfl⟩
                  · exact ((f13.trans f6 fun _ z => z.elim).trans (M1 := fun b => b = A) fD fun b e => .inr (e ▸ hA))
                  · rcases s6.ow b ob with z | z
                    · exact o2 b z
                    · exact (Eg.back f13 z).imp (fun m => m.elim) id
                  · obtain ⟨o, e⟩ := trT k b z
                    have := s6n b s
                    rw [f3.none b o e] at this
                    cases this
                  · by_cases q : k = ads.length
                    · rw [if_pos q] at z
                      refine ⟨sA b z, hd.nf b z, fun ⟨i, o⟩ => hd.dj i b o z, ?_⟩
                      exact (Eg.back f13 (s6n b z)).resolve_left id
                    · rw [if_neg q] at z
                      obtain ⟨o, e⟩ := trT k b z
                      obtain ⟨t1, t2, t3, t4⟩ := rT k b z
                      refine ⟨t1, fun q => ?_, fun q => ?_, t4⟩
                      · rcases f36.fzn b q with q | q | q
                        · exact t2 q
                        · exact q
                        · rw [e] at q; cases q
                      · rcases s6.ow b q with q | q
                        · exact t3 q
                        · rw [f3.none b o e] at q; cases q
                · cases hev
              · cases hev
          · rintro H' ⟨Fz2, own2, ei', acc, ads, rest, T, I2, f2, o2, hD, racc, rT, nF, nO, hlen, hev, hys⟩
            rw [List.drop_length] at hev
            simp only [evComp, R.ok.injEq] at hev
            obtain ⟨hr, he2⟩ := hev
            subst hr
            subst he2
            rw [List.append_nil] at hys
            subst hys
            have eE : eff (.compN ts t it el) = eff it := by simp [eff, he]
            refine kk (.ref A) H' Fz2 own2 (fun b => b = A ∨ ∃ k, T k b) ⟨I1.unwipe I2 (f2.le fun _ z => z.elim) nd ha, ?_, ?_⟩ ⟨A, acc, T, rfl, hD, racc, fun k z => (rT k A z).1 rfl, fun b => Iff.rfl⟩ ⟨fun b e z => ?_, fun i b ob e => ?_, fun b e => ?_⟩
            · rw [eE]
              exact s1.fr.trans f2 fun b m => m.elim
            · intro b ob
              rcases o2 b ob with z | z
              · exact s1.ow b z
              · exact s1.back z
            · rcases e with e | ⟨k, e⟩
              · exact nF (e ▸ z)
              · exact (rT k b e).2.1 z
            · rcases e with e | ⟨k, e⟩
              · exact nO ⟨i, e ▸ ob⟩
              · exact (rT k b e).2.2.1 ⟨i, ob⟩
            · rw [eE]
              rcases e with e | ⟨k, e⟩
              · subst e; exact Eg.back s1.fr hA
              · exact Eg.back s1.fr (rT k b e).2.2.2
end
end Eg

end
section
set_option maxHeartbeats 8000000
namespace Eg
open PySem PySem.Spec PyProof.Rows L2
/-! ### lists of lists put together: [e], a + b, a[k:] -/
section
variable {G : Gx} {Fz : Addr → Prop} {H : Hp}
theorem RN.append {ds es : List D} {xs ys : List V} {T U : Nat → Addr → Prop} (h : RN G Fz H ds xs T) (k : RN G Fz H es ys U) (n : ∀ i j b, T i b → ¬ U j b) : RN G Fz H (ds ++ es) (xs ++ ys) (fun i b => if i < ds.length then T i b else U (i - ds.length) b) where
  len := by rw [List.length_append, List.length_append, h.len, k.len]
  row := fun i d v e1 e2 => by
    have hl := h.len
    by_cases q : i < ds.length
    · rw [List.getElem?_append_left q] at e1
      rw [List.getElem?_append_left (by omega)] at e2
      have : (fun b => if i < ds.length then T i b else U (i - ds.length) b) = T i := by funext b; rw [if_pos q]
      rw [this]
      exact h.row i d v e1 e2
    · rw [List.getElem?_append_right (by omega)] at e1
      rw [List.getElem?_append_right (by omega), hl] at e2
      have : (fun b => if i < ds.length then T i b else U (i - ds.length) b) = U (i - ds.length) := by funext b; rw [if_neg q]
      rw [this]
      exact k.row _ d v e1 e2
  out := fun i hi b => by
    rw [List.length_append] at hi
    rw [if_neg (by omega)]
    exact k.out _ (by omega) b
  dj := fun i j b x y => by
    by_cases p : i < ds.length <;> by_cases q : j < ds.length
    · rw [if_pos p] at x; rw [if_pos q] at y; exact h.dj i j b x y
    · rw [if_pos p] at x; rw [if_neg q] at y; exact absurd y (n i _ b x)
    · rw [if_neg p] at x; rw [if_pos q] at y; exact absurd x (n j _ b y)
    · rw [if_neg p] at x; rw [if_neg q] at y
      have := k.dj _ _ b x y
      omega
theorem RN.drop {ds : List D} {xs : List V} {T : Nat → Addr → Prop} (h : RN G Fz H ds xs T) (m : Nat) : RN G Fz H (ds.drop m) (xs.drop m) (fun i => T (i + m)) where
  len := by rw [List.length_drop, List.length_drop, h.len]
  row := fun i d v e1 e2 => by
    rw [List.getElem?_drop] at e1 e2
    rw [Nat.add_comm]
    exact h.row (m + i) d v e1 e2
  out := fun i hi b => by
    rw [List.length_drop] at hi
    exact h.out (i + m) (by omega) b
  dj := fun i j b x y => by
    have := h.dj _ _ b x y
    omega
theorem RN.one {d : D} {v : V} {S : Addr → Prop} (r : ROo G Fz H d v S) : RN G Fz H [d] [v] (fun k b => k = 0 ∧ S b) where
  len := rfl
  row := fun k d' v' e1 e2 => by
    cases k with
    | zero =>
      simp only [List.getElem?_cons_zero, Option.some.injEq] at e1 e2
      subst e1 e2
      have : (fun b => (0 : Nat) = 0 ∧ S b) = S := by funext b; simp
      rw [this]
      exact r
    | succ k => simp at e1
  out := fun k hk b z => by
    have := z.1
    simp only [List.length_cons, List.length_nil] at hk
    omega
  dj := fun i j b x y => by rw [x.1, y.1]
end
section
variable {X : Cx} {L : Lx} {U : Fx} {k : Nat} {N : List Str} {sc : Scope} {GL : Str → D → Bool}
theorem pe_lst1 {e : E} {x : Expr} {pos : Pos} (hn : nty L.rt e = .o) (hs : noStar x = true) (h : PE X x (tE L e)) : PE X (.List [x] pos) (tE L (.lst1 e)) := by
  refine PE.imp (pe_lst (pa_cons h pa_nil (star_cons hs))) fun σ H Q q => ?_
  obtain ⟨Fz, env, own, I, h⟩ := tE_get q
  refine tE_mk I ?_
  simp only [ev, R.bind] at h
  cases ee : ev L.fc e env with
  | no => rw [ee] at h; exact h
  | exc c e1 => rw [ee] at h; exact h
  | ok ds e1 =>
    rw [ee] at h
    simp only at h
    rcases ds with _ | ⟨d, _ | ⟨_, _⟩⟩
    · exact h.elim
    · obtain ⟨d', e', kk⟩ := h
      cases e'
      refine ⟨d, rfl, fun v H1 Fz1 own1 S1 s1 ro hd => ?_⟩
      have ro : ROo L.G Fz1 H1 d v S1 := roo_iff.mpr (hn ▸ ro)
      refine ⟨by simp [sizeLine_eq], fun p hp => ?_⟩
      have f : Fr Fz1 H1 (fun _ => False) (fun b => Fz1 b ∧ b ≠ p) (upd H1 p (.lst [v])) := fr_new hp
      have trS : ∀ b, S1 b → b ≠ p := fun b z e => by
        obtain ⟨o, q⟩ := (roo_iff.mp ro).trk b z
        rw [e, hp] at q; cases q
      have r2 := RN.one (ro.le (le_new (o := .lst [v]) hp) fun b o z e => by rw [upd_ne (trS b z)]; exact e)
      have nO : ∀ i b, own1 i b → b ≠ p := fun i b ob e => by
        obtain ⟨u, q⟩ := s1.re.trk ob
        rw [e, hp] at q; cases q
      refine kk (.ref p) _ _ own1 (fun b => b = p ∨ S1 b) ⟨s1.re.fr0 f, s1.fr.trans f fun _ z => z.elim, s1.ow⟩ ⟨p, [v], _, rfl, upd_same, r2, fun k z => trS p z.2 rfl, fun b => ⟨fun z => z.imp id fun z => ⟨0, rfl, z⟩, fun z => z.imp id fun ⟨_, z⟩ => z.2⟩⟩ ⟨fun b z q => ?_, fun i b ob z => ?_, fun b z => ?_⟩
      · rcases z with z | z
        · exact q.2 z
        · exact hd.nf b z q.1
      · rcases z with z | z
        · exact nO i b ob z
        · exact hd.dj i b ob z
      · rcases z with z | z
        · subst z; exact Eg.back s1.fr hp
        · exact hd.fr b z
    · exact h.elim
theorem addF_inv {d1 d2 r : D} (h : addF d1 d2 = some r) : ∃ xs ys, d1 = .lst xs ∧ d2 = .lst ys ∧ r = .lst (xs ++ ys) ∧ xs.length + ys.length ≤ 16777216 := by
  unfold addF at h
  split at h
  · rename_i xs ys
    split at h
    · rename_i hl
      cases h
      exact ⟨xs, ys, rfl, rfl, rfl, by simpa [maxLen] using hl⟩
    · cases h
  · cases h
theorem pe_addN {a b : E} {x y : Expr} {pos : Pos} (ha : nty L.rt a = .n) (hb : nty L.rt b = .n) (h1 : PE X x (tE L a)) (h2 : PE X y (tE L b)) : PE X (.BinOp x .Add y pos) (tE L (.addN a b)) := by
  refine PE.imp (pe_op op_cat h1 h2) fun σ H Q q => ?_
  obtain ⟨Fz, env, own, I, h⟩ := tE_get q
  refine tE_mk I ?_
  simp only [ev, R.bind] at h
  cases ea : ev L.fc a env with
  | no => rw [ea] at h; exact h
  | exc c e1 => rw [ea] at h; exact h
  | ok ds e1 =>
    rw [ea] at h
    simp only at h
    rcases ds with _ | ⟨d1, _ | ⟨_, _⟩⟩
    · exact h.elim
    · refine ⟨d1, rfl, fun v H1 Fz1 own1 S1 s1 ro1 hd1 => ?_⟩
      rw [ha] at ro1
      refine tE_mk s1.re ?_
      simp only at h
      cases eb : ev L.fc b e1 with
      | no => rw [eb] at h; exact h
      | exc c e2 => rw [eb] at h; exact ResX.of s1 h
      | ok es e2 =>
        rw [eb] at h
        simp only at h
        rcases es with _ | ⟨d2, _ | ⟨_, _⟩⟩
        · exact h.elim
        · refine ⟨d2, rfl, fun w H2 Fz2 own2 S2 s2 ro2 hd2 => ?_⟩
          rw [hb] at ro2
          simp only at h
          cases er : addF d1 d2 with
          | none => rw [er] at h; exact h.elim
          | some r =>
            rw [er] at h
            obtain ⟨d', e', kk⟩ := h
            cases e'
            obtain ⟨xs, ys, rfl, rfl, rfl, hlen⟩ := addF_inv er
            have nM : ∀ c, S1 c → ¬ MM own1 (eff b) c := fun c z m => by obtain ⟨_, k, o⟩ := m; exact hd1.dj k c o z
            have tr : ∀ c, S1 c → ∃ o, H1 c = some o := fun c z => ro1.trk c z
            have ro1' : RO L.G Fz2 H2 .n (.lst xs) v S1 := ro1.le (s2.le s1.re) fun c o z e => s2.fr.keep c o e (nM c z)
            have nn : ∀ c, S1 c → ¬ S2 c := fun c z z2 => by
              rcases hd2.fr c z2 with q | q
              · exact nM c z q
              · obtain ⟨o, e⟩ := tr c z; rw [e] at q; cases q
            have nF1 : ∀ c, S1 c → ¬ Fz2 c := fun c z q => by
              rcases s2.fr.fzn c q with q | q | q
              · exact hd1.nf c z q
              · exact nM c z q
              · obtain ⟨o, e⟩ := tr c z; rw [e] at q; cases q
            have nO1 : ∀ i c, own2 i c → ¬ S1 c := fun i c o z => by
              rcases s2.ow c ⟨i, o⟩ with ⟨j, q⟩ | q
              · exact hd1.dj j c q z
              · obtain ⟨o, e⟩ := tr c z; rw [e] at q; cases q
            have s12 := s1.trans s2
            have hf1 : ∀ c, S1 c → MM own (eff a || eff b) c ∨ H c = none := fun c z => (hd1.fr c z).imp (fun m => ⟨by rw [m.1]; rfl, m.2⟩) id
            have hf2 : ∀ c, S2 c → MM own (eff a || eff b) c ∨ H c = none := fun c z => (Hd.trans s1 hd2).fr c z
            obtain ⟨p1, us, T, rfl, g1, g2, g3, g4⟩ := ro1'
            obtain ⟨p2, ws, U', rfl, k1, k2, k3, k4⟩ := ro2
            refine ⟨p1, p2, us, ws, rfl, rfl, g1, k1, by rw [g2.len, k2.len, sizeLine_eq]; exact hlen, fun p hp => ?_⟩
            have f : Fr Fz2 H2 (fun _ => False) (fun c => Fz2 c ∧ c ≠ p) (upd H2 p (.lst (us ++ ws))) := fr_new hp
            have tT : ∀ i c, T i c → c ≠ p := fun i c z e => by
              obtain ⟨o, q⟩ := tr c ((g4 c).mpr (.inr ⟨i, z⟩))
              have := s2.fr.keep c o q (nM c ((g4 c).mpr (.inr ⟨i, z⟩)))
              rw [e, hp] at this; cases this
            have tU : ∀ i c, U' i c → c ≠ p := fun i c z e => by
              have : RO L.G Fz2 H2 .n (.lst ys) (.ref p2) S2 := ⟨p2, ws, U', rfl, k1, k2, k3, k4⟩
              obtain ⟨o, q⟩ := this.trk c ((k4 c).mpr (.inr ⟨i, z⟩))
              rw [e, hp] at q; cases q
            have rn := (g2.le (le_new (o := .lst (us ++ ws)) hp) fun i c o z e => by rw [upd_ne (tT i c z)]; exact e).append (k2.le (le_new (o := .lst (us ++ ws)) hp) fun i c o z e => by rw [upd_ne (tU i c z)]; exact e) fun i j c x y => nn c ((g4 c).mpr (.inr ⟨i, x⟩)) ((k4 c).mpr (.inr ⟨j, y⟩))
            have nO : ∀ i c, own2 i c → c ≠ p := fun i c ob e => by
              obtain ⟨u, q⟩ := s12.re.trk ob
              rw [e, hp] at q; cases q
            refine kk (.ref p) _ _ own2 (fun c => c = p ∨ (∃ i, T i c) ∨ ∃ i, U' i c) ⟨s12.re.fr0 f, s12.fr.trans f fun _ z => z.elim, s12.ow⟩ ⟨p, us ++ ws, _, rfl, upd_same, rn, fun i z => ?_, fun c => ?_⟩ ⟨fun c z q => ?_, fun i c ob z => ?_, fun c z => ?_⟩
            · split at z
              · exact tT i p z rfl
              · exact tU _ p z rfl
            · constructor
              · rintro (z | ⟨i, z⟩ | ⟨i, z⟩)
                · exact .inl z
                · refine .inr ⟨i, ?_⟩
                  have : i < xs.length := Nat.lt_of_not_le fun q => g2.out i q c z
                  rw [if_pos this]; exact z
                · refine .inr ⟨xs.length + i, ?_⟩
                  rw [if_neg (by omega), show xs.length + i - xs.length = i by omega]; exact z
              · rintro (z | ⟨i, z⟩)
                · exact .inl z
                · split at z
                  · exact .inr (.inl ⟨_, z⟩)
                  · exact .inr (.inr ⟨_, z⟩)
            · rcases z with z | ⟨i, z⟩ | ⟨i, z⟩
              · exact q.2 z
              · exact nF1 c ((g4 c).mpr (.inr ⟨i, z⟩)) q.1
              · exact hd2.nf c ((k4 c).mpr (.inr ⟨i, z⟩)) q.1
            · rcases z with z | ⟨j, z⟩ | ⟨j, z⟩
              · exact nO i c ob z
              · exact nO1 i c ob ((g4 c).mpr (.inr ⟨j, z⟩))
              · exact hd2.dj i c ob ((k4 c).mpr (.inr ⟨j, z⟩))
            · rcases z with z | ⟨j, z⟩ | ⟨j, z⟩
              · subst z; exact Eg.back s12.fr hp
              · exact hf1 c ((g4 c).mpr (.inr ⟨j, z⟩))
              · exact hf2 c ((k4 c).mpr (.inr ⟨j, z⟩))
        · exact h.elim
    · exact h.elim
end
end Eg

end
section
set_option maxHeartbeats 8000000
namespace Eg
open PySem PySem.Spec PyProof.Rows L2
/-! ### the text of an expression against its form: the check -/
structure CkP where
  Γ : List Ty
  pins : List Nat
  N : List Str
  U : Fx
  GL : Str → D → Bool
  hot : Bool
  rt : Nat → Ty
def nmOk (sc : Scope) (x : Str) : Bool := vis sc x && !(x == ("__debug__" : Str)) && !(x == ("__classdict__" : Str))
def isV : E → Bool
  | .nil => false
  | .cons _ _ => false
  | .io _ => false
  | .bw _ => false
  | .bi o _ => !isIt o
  | _ => true
def allV : E → Bool
  | .nil => true
  | .cons a r => isV a && allV r
  | _ => false
def isRow : E → Bool
  | .nil => true
  | .cons _ _ => true
  | _ => false
def joinOk : BI → E → Bool
  | .join, .cons (.con (.str _)) _ => true
  | .join, _ => false
  | .indexL, a => isSim a
  | .cntL, a => isSim a
  | _, _ => true
def isTru : E → Bool
  | .con (.bl true) => true
  | _ => false
def isTup : Expr → Bool
  | .Tuple _ _ _ => true
  | _ => false
/-- what may be walked -/
def itOk (o : E) (tg : Expr) : Bool := match o with
  | .bi .enumI _ => isTup tg
  | .bi .enumT _ => isTup tg
  | .bi .enumZ _ => isTup tg
  | .bi .zipI _ => isTup tg
  | .bi _ _ => true
  | e => isV e
def ckCmp (P : CkP) (o : BI) (op : CmpOp) : Bool := match kd o with
  | .cmp q => decide (q = op) && decide (bty o = .a)
  | _ => false
def compOk (P : CkP) (ts : List Nat) (t : TN) (it c el : E) : Bool :=
  decide ts.Nodup && ts.all (fun i => decide (P.Γ.getD i .a = .a) && !P.pins.contains i) && (tnN t).all (fun n => ts.contains n) && (!(eff c || eff el) || !kpI P.Γ it) && !bor P.Γ el
def okBad : Expr → Bool
  | .ListComp _ _ _ _ => false
  | .SetComp _ _ _ _ => false
  | .DictComp _ _ _ _ _ => false
  | .GeneratorExp _ _ _ _ => false
  | _ => true
def ck : CkP → Scope → E → List Expr → Bool
  | P, sc, .var i, [.Name x _] => decide (P.N[i]? = some x) && nmOk sc x && decide (P.Γ.getD i .a ≠ .n)
  | P, sc, .bw i, [.Name x _] => decide (P.N[i]? = some x) && nmOk sc x
  | P, sc, .io i, [.Name x _] => decide (P.N[i]? = some x) && nmOk sc x
  | P, sc, .mv i, [.Name x _] => decide (P.N[i]? = some x) && nmOk sc x && decide (P.Γ.getD i .a = .o)
  | _, _, .con d, [e] => ckCon d e
  | P, sc, .glob x d, [.Name y _] => decide (x = y) && gl sc x && P.GL x d && !(x == ("__debug__" : Str))
  | _, _, .nil, [] => true
  | P, sc, .cons a b, e :: es => noStar e && (isV a || (byNm a).isSome) && isRow b && ck P sc a [e] && ck P sc b es
  | P, sc, .tup a, [.Tuple es _ _] => allV a && lok P.Γ a && noOwn P.Γ a && le (elen a) 1000 && ck P sc a es
  | P, sc, .lst a, [.List es _] => allV a && lok P.Γ a && noOwn P.Γ a && le (elen a) 1000 && ck P sc a es
  | P, sc, .bi o a, [e] => allV a && lok P.Γ a && joinOk o a && okHot P.hot P.U o && (match dec sc o e with
    | some es => ck P sc a es
    | none => false)
  | P, sc, .and a b, [.BoolOp .And (x :: y :: r) p] => isV a && isV b && !bor P.Γ b && tstOk x && tstOk y && ck P sc a [x] && (match r with
    | [] => ck P sc b [y]
    | _ :: _ => ck P sc b [.BoolOp .And (y :: r) p])
  | P, sc, .or a b, [.BoolOp .Or (x :: y :: r) p] => isV a && isV b && !bor P.Γ b && tstOk x && tstOk y && ck P sc a [x] && (match r with
    | [] => ck P sc b [y]
    | _ :: _ => ck P sc b [.BoolOp .Or (y :: r) p])
  | P, sc, .not a, [.UnaryOp .Not x _] => isV a && tstOk x && ck P sc a [x]
  | P, sc, .ite c a b, [.IfExp x y z _] => isV a && isV b && isV c && tstOk x && !bor P.Γ a && !bor P.Γ b && ck P sc c [x] && ck P sc a [y] && ck P sc b [z]
  | P, sc, .call f o a, [.Call (.Name x _) (e :: es) [] _] => decide (x = P.U.nm f) && gl sc x && !(x == ("__debug__" : Str)) && callOk P.U P.Γ f o a && isRow a && ck P sc a (e :: es) && (bif P.hot then P.U.hd f else P.U.dom f)
  | P, sc, .sl3 x y z, [e] => isV x && isV y && isV z && (!bor P.Γ x || (!eff y && !eff z)) && (match dSlLU e with
    | some [a, b, c] => ck P sc x [a] && ck P sc y [b] && ck P sc z [c]
    | _ => false)
  | P, sc, .chn o p x y z, [.Compare a [op, op'] [b, c] _] => ckCmp P o op && ckCmp P p op' && noSet c && chOk P.Γ o p x y z && isV x && isV y && isV z && ck P sc x [a] && ck P sc y [b] && ck P sc z [c]
  | _, _, .bad, [e] => okBad e
  | P, sc, .mvN i, [.Name x _] => decide (P.N[i]? = some x) && nmOk sc x && decide (P.Γ.getD i .a = .n)
  | _, _, .emN, [.List [] _] => true
  | P, sc, .frz is e, [x] => okBad x && isV e && !eff e && !bor (frG is P.Γ) e && ck { P with Γ := frG is P.Γ } sc e [x]
  | P, sc, .compN ts t it el, [.ListComp elt [⟨tg, iter, [], as⟩] scope _] => !P.hot && decide (as = 0) && blkC P.N sc scope (ownOf P.N ts) && compOk P ts t it .nil el && !eff el && decide (nty P.rt el = .o) && ckTN P.Γ P.pins scope P.N false t [tg] && itOk it tg && isV el && noSet iter && ck P sc it [iter] && ck P scope el [elt]
  | P, sc, .pop i a, [.Call (.Attribute (.Name x _) m ap) [v] [] cp] => !P.hot && decide (m = "pop") && (ap.endLine == cp.line) && decide (P.N[i]? = some x) && nmOk sc x && decide (P.Γ.getD i .a = .o) && noStar v && isV a && !bor P.Γ a && ck P sc a [v]
  | P, sc, .lst1 x, [.List [e] _] => noStar e && isV x && !bor P.Γ x && decide (nty P.rt x = .o) && ck P sc x [e]
  | P, sc, .addN a b, [.BinOp x .Add y _] => isV a && isV b && !bor P.Γ a && !bor P.Γ b && decide (nty P.rt a = .n) && decide (nty P.rt b = .n) && ck P sc a [x] && ck P sc b [y]
  | P, sc, .callF f x a, [.Call (.Name y _) (e :: es) [] _] => !P.hot && decide (y = P.U.nm f) && gl sc y && !(y == ("__debug__" : Str)) && callFOk P.U P.Γ f a && allV a && isV x && !bor P.Γ x && decide (nty P.rt x = .o) && noStar e && P.U.dom f && ck P sc x [e] && ck P sc a es
  | P, sc, .gtL i a, [.Compare (.Name x _) [.Gt] [b] _] => decide (P.N[i]? = some x) && nmOk sc x && decide (P.Γ.getD i .a = .o) && decide (nty P.rt a ≠ .n) && isV a && !bor P.Γ a && noSet b && ck P sc a [b]
  | P, sc, .pop0 i, [.Call (.Attribute (.Name x _) m ap) [] [] cp] => !P.hot && decide (m = "pop") && (ap.endLine == cp.line) && decide (P.N[i]? = some x) && nmOk sc x && decide (P.Γ.getD i .a = .o)
  | P, sc, .chn3 o p q x y z w, [.Compare a [o1, o2, o3] [b, c, d] _] => ckCmp P o o1 && ckCmp P p o2 && ckCmp P q o3 && noSet d && chOk3 o p q x y z w && isV x && isV y && isV z && isV w && ck P sc x [a] && ck P sc y [b] && ck P sc z [c] && ck P sc w [d]
  | P, sc, .comp ts t it c el, [.ListComp elt [⟨tg, iter, ifs, as⟩] scope _] => !P.hot && decide (as = 0) && blkC P.N sc scope (ownOf P.N ts) && compOk P ts t it c el && ckTN P.Γ P.pins scope P.N false t [tg] && itOk it tg && isV el && isV c && noSet iter && ck P sc it [iter] && ck P scope el [elt] && (match ifs with
    | [] => isTru c
    | [x] => tstOk x && ck P scope c [x]
    | _ => false)
  | _, _, _, _ => false
where
  tstOk : Expr → Bool
    | .IfExp _ _ _ _ => false
    | .NamedExpr _ _ _ => false
    | _ => true
def boolOp : Expr → Bool
  | .BoolOp _ _ _ => true
  | _ => false
/-- what the check gives -/
def Sd (X : Cx) (L : Lx) (sc : Scope) (e : E) (asts : List Expr) : Prop :=
  (isV e = true → ∃ ast, asts = [ast] ∧ (bor L.Γ e = false → PE X ast (tE L e)) ∧ PE X ast (tP L e) ∧ (ck.tstOk ast = true → PT X ast (tT L e)) ∧ (boolOp ast = true → PW X ast (tT L e))) ∧
  (allV e = true → APE X L e asts) ∧ (isRow e = true → CPE X L e asts) ∧ (∀ i, byNm e = some i → ∃ ast, asts = [ast] ∧ PE X ast (tVar i)) ∧
  (∀ o a, e = .bi o a → isIt o = true → ∃ ast es, asts = [ast] ∧ dIt sc o ast = some es ∧ APE X L a es ∧ lok L.Γ a = true)
section
variable {X : Cx} {L : Lx} {U : Fx} {k : Nat} {N : List Str} {sc : Scope} {GL : Str → D → Bool} {pins : List Nat}
theorem Sd.val {e : E} {ast : Expr} (h1 : PE X ast (tP L e)) (h0 : bor L.Γ e = false → PE X ast (tE L e)) (h2 : ck.tstOk ast = true → PT X ast (tT L e)) (h3 : boolOp ast = true → PW X ast (tT L e)) (ha : allV e = false) (hr : isRow e = false) (hb : byNm e = none) (hi : ∀ o a, e = .bi o a → isIt o = false) : Sd X L sc e [ast] :=
  ⟨fun _ => ⟨ast, rfl, h0, h1, h2, h3⟩, (fun h => by rw [ha] at h; cases h), (fun h => by rw [hr] at h; cases h), (fun i h => by rw [hb] at h; cases h), (fun o a h h' => by rw [hi o a h] at h'; cases h')⟩
/-- a plain value, by tE -/
theorem Sd.ofE {e : E} {ast : Expr} (hb : bor L.Γ e = false) (h0 : PE X ast (tE L e)) (hp : plainT ast = true) (ha : allV e = false) (hr : isRow e = false) (hn : byNm e = none) (hi : ∀ o a, e = .bi o a → isIt o = false) : Sd X L sc e [ast] :=
  Sd.val (pe_P hb h0) (fun _ => h0) (fun _ => pt_plain (pe_P hb h0) hp) (fun h => by cases ast <;> first | (simp [boolOp] at h; done) | simp [plainT] at hp) ha hr hn hi
theorem nmOk_inv {x : Str} (h : nmOk sc x = true) : vis sc x = true ∧ (x == ("__debug__" : Str)) = false ∧ (x == ("__classdict__" : Str)) = false := by
  simp only [nmOk, Bool.and_eq_true, Bool.not_eq_true'] at h
  exact ⟨h.1.1, h.1.2, h.2⟩
theorem dec_plainT {o : BI} {e : Expr} {es : List Expr} (h : dec sc o e = some es) (hc : ∀ op, kd o ≠ .cmp op) : plainT e = true := by
  unfold dec at h
  revert h
  cases hk : kd o <;> intro h <;> simp only at h
  · obtain ⟨l, r, pos, rfl, _⟩ := dBin_inv h; rfl
  · exact absurd hk (hc _)
  · obtain ⟨x, pos, rfl, _⟩ := dNeg_inv h; rfl
  · obtain ⟨v, i, pos, rfl, _⟩ := dIdx_inv h; rfl
  · obtain ⟨v, i, p, pos, rfl, _⟩ := dSlL_inv h; rfl
  · obtain ⟨v, i, p, pos, rfl, _⟩ := dSlU_inv h; rfl
  · obtain ⟨v, k, p1, p2, p3, pos, rfl, _⟩ := dSlRev_inv h; rfl
  · obtain ⟨p, a, as, pos, rfl, _⟩ := dFn_inv h; rfl
  · obtain ⟨p, a, as, pos, rfl, _⟩ := dFn_inv h; rfl
  · obtain ⟨p, a, p2, pos, rfl, _⟩ := dIsi_inv h; rfl
  · obtain ⟨p, a, p2, pos, rfl, _⟩ := dIsx_inv h; rfl
  · obtain ⟨s, ap, a, pos, rfl, _⟩ := dMt_inv h; rfl
  · obtain ⟨p, p2, a, pos, pos2, rfl, _⟩ := dRg1_inv h; rfl
  · obtain ⟨p, p2, a, b, pos, pos2, rfl, _⟩ := dRg2_inv h; rfl
  · obtain ⟨p, p2, a, b, pos, pos2, rfl, _⟩ := dRg2_inv h; rfl
  · obtain ⟨s, ap, a, pos, rfl, _⟩ := dMt_inv h; rfl
  · unfold dIt at h
    split at h <;> first | (cases h; done) | skip
    all_goals (split at h <;> first | (cases h; done) | skip)
    all_goals (rename_i q; obtain ⟨p, a, as, pos, rfl, _⟩ := dFn_inv q; rfl)
theorem joinOk_inv {o : BI} {a : E} (h : joinOk o a = true) : o = .join → ∃ t r, a = .cons (.con (.str t)) r := by
  intro e
  subst e
  cases a with
  | cons x r =>
    cases x with
    | con d =>
      cases d with
      | str t => exact ⟨t, r, rfl⟩
      | _ => simp [joinOk] at h
    | _ => simp [joinOk] at h
  | _ => simp [joinOk] at h
/-- an operation -/
theorem bi_ok (C : Ct L U N k sc GL X) {o : BI} (hq : okHot L.hot U o = true) {a : E} {ast : Expr} {es : List Expr} (hl : lok L.Γ a = true) (hj : joinOk o a = true) (hd : dec sc o ast = some es) (h : APE X L a es) : Sd X L sc (.bi o a) [ast] := by
  cases hi : isIt o with
  | true =>
    refine ⟨fun h => by simp [isV, hi] at h, fun h => by simp [allV] at h, fun h => by simp [isRow] at h, fun i h => by simp [byNm] at h, fun o' a' e' _ => ?_⟩
    cases e'
    refine ⟨ast, es, rfl, ?_, h, hl⟩
    unfold dec at hd
    unfold isIt at hi
    split at hi
    · rename_i q; rw [q] at hd; exact hd
    · cases hi
  | false =>
    have p : PE X ast (tE L (.bi o a)) := by
      by_cases hL : o = .indexL
      · subst hL
        exact pe_ixL C hj hl h hd
      by_cases hL2 : o = .cntL
      · subst hL2
        exact pe_ctL C hj hl h hd
      · exact PE.imp (pe_bi C hL hL2 hq h hi (joinOk_inv hj) hd) fun σ H Q q => tB_of hl q
    have pP := pe_P (L := L) (e := .bi o a) rfl p
    have notB : boolOp ast = true → False := fun hb => by
      by_cases hc : ∃ op, kd o = .cmp op
      · obtain ⟨op, hc⟩ := hc
        unfold dec at hd
        rw [hc] at hd
        obtain ⟨l, r, pos, rfl, _⟩ := dCmp_inv hd
        cases hb
      · have := dec_plainT hd fun op z => hc ⟨op, z⟩
        cases ast <;> first | (simp [boolOp] at hb; done) | simp [plainT] at this
    refine Sd.val pP (fun _ => p) (fun ht => ?_) (fun hb => (notB hb).elim) rfl rfl rfl (fun o' a' e' => by cases e'; exact hi)
    by_cases hc : ∃ op, kd o = .cmp op
    · obtain ⟨op, hc⟩ := hc
      unfold dec at hd
      rw [hc] at hd
      obtain ⟨l, r, pos, rfl, rfl, hn⟩ := dCmp_inv hd
      exact pt_cmpK C hc h hl hn (by cases o <;> first | rfl | simp [kd] at hc)
    · exact pt_plain pP (dec_plainT hd fun op z => hc ⟨op, z⟩)
theorem walk_ok (C : Ct L U N k sc GL X) {it : E} {iter tg : Expr} (h : itOk it tg = true) (s : Sd X L sc it [iter]) : PI X tg iter (tI L it) := by
  have seq : isV it = true → (bor L.Γ it = true → kpI L.Γ it = true) → PI X tg iter (tI L it) := fun hv hk => by
    obtain ⟨ast, e1, _, p, _⟩ := s.1 hv
    cases e1
    exact pi_seqE C hk p
  cases it with
  | bi o a =>
    cases hi : isIt o with
    | true =>
      obtain ⟨ast, es, e1, hd, ha, hl⟩ := s.2.2.2.2 o a rfl hi
      cases e1
      refine pi_it C hi hl ha hd fun z => ?_
      have ht : isTup tg = true := by
        rcases z with z | z | z | z <;> subst z <;> exact h
      cases tg <;> first | (simp [isTup] at ht; done) | exact ⟨_, _, _, rfl⟩
    | false => exact seq (by simp [isV, hi]) fun z => by simp [bor] at z
  | nil => simp [itOk, isV] at h
  | cons a b => simp [itOk, isV] at h
  | io i => simp [itOk, isV] at h
  | bw i => simp [itOk, isV] at h
  | _ => exact seq rfl fun z => z
theorem isTru_eq {c : E} (h : isTru c = true) : c = .con (.bl true) := by
  cases c with
  | con d =>
    cases d with
    | bl b => cases b <;> first | rfl | simp [isTru] at h
    | _ => simp [isTru] at h
  | _ => simp [isTru] at h
theorem ck_ok0 : ∀ (e : E) (P : CkP), P.U = U → P.N = N → P.GL = GL → ∀ {X : Cx} {L : Lx} {sc : Scope} {asts : List Expr}, P.rt = L.rt → P.Γ = L.Γ → P.hot = L.hot → (∀ p ∈ L.PV, p.1 ∈ P.pins) → Ct L U N k sc GL X → ck P sc e asts = true → Sd X L sc e asts := by
  intro e
  induction e with
  | var i =>
    intro P hU hN hG X L sc asts hr hΓ hh hp C h
    subst hU hN hG
    rcases asts with _ | ⟨ast, _ | ⟨_, _⟩⟩ <;> first | (simp [ck] at h; done) | skip
    cases ast <;> first | (simp [ck] at h; done) | skip
    simp only [ck, Bool.and_eq_true, decide_eq_true_eq] at h
    obtain ⟨⟨h1, h2⟩, h3⟩ := h
    obtain ⟨v1, v2, v3⟩ := nmOk_inv h2
    rename_i x pos
    have h3 : L.Γ.getD i .a ≠ .n := hΓ ▸ h3
    have p := pe_varP (pos := pos) C h3 h1 v1 v2 v3
    refine Sd.val p (fun hb => pe_varE C h1 v1 v2 v3 ?_) (fun _ => pt_plain p rfl) (fun z => by cases z) rfl rfl rfl (fun o a z => (by cases z))
    cases e : L.Γ.getD i .a with
    | a => rfl
    | o => simp only [bor, e] at hb; exact absurd hb (by decide)
    | n => exact absurd e h3
  | mvN i =>
    intro P hU hN hG X L sc asts hr hΓ hh hp C h
    subst hU hN hG
    rcases asts with _ | ⟨ast, _ | ⟨_, _⟩⟩ <;> first | (simp [ck] at h; done) | skip
    cases ast <;> first | (simp [ck] at h; done) | skip
    simp only [ck, Bool.and_eq_true, decide_eq_true_eq] at h
    obtain ⟨⟨h1, h2⟩, h3⟩ := h
    obtain ⟨v1, v2, v3⟩ := nmOk_inv h2
    exact Sd.ofE rfl (pe_mvN C h1 v1 v2 v3 (hΓ ▸ h3)) rfl rfl rfl rfl (fun o a z => (by cases z))
  | emN =>
    intro P hU hN hG X L sc asts hr hΓ hh hp C h
    subst hU hN hG
    rcases asts with _ | ⟨ast, _ | ⟨_, _⟩⟩ <;> first | (simp [ck] at h; done) | skip
    cases ast <;> first | (simp [ck] at h; done) | skip
    rename_i es p
    cases es <;> first | (simp [ck] at h; done) | skip
    exact Sd.ofE rfl pe_emN rfl rfl rfl rfl (fun o a z => (by cases z))
  | frz is e ihe =>
    intro P hU hN hG X L sc asts hr hΓ hh hp C h
    subst hU hN hG
    rcases asts with _ | ⟨ast, _ | ⟨_, _⟩⟩ <;> first | (simp [ck] at h; done) | skip
    simp only [ck, Bool.and_eq_true, Bool.not_eq_true', hΓ] at h
    obtain ⟨⟨⟨⟨h0, h1⟩, h2⟩, h3⟩, h4⟩ := h
    obtain ⟨_, e1, _, pa, ta, wa⟩ := (ihe { P with Γ := frG is L.Γ } rfl rfl rfl (L := L.fz is) hr rfl hh hp (C.gp (frG is L.Γ) L.PV) h4).1 h1
    cases e1
    have pP : PE X ast (tP L (.frz is e)) := PE.imp pa fun σ H Q q => tP_frz h2 h3 q
    exact Sd.val pP (fun _ => pe_E rfl rfl pP) (fun z => PT.imp (ta z) fun σ H Q q => tT_frz h2 h3 q) (fun z => PW.imp (wa z) fun σ H Q q => tT_frz h2 h3 q) rfl rfl rfl (fun o a z => (by cases z))
  | compN ts t it el ihi ihe =>
    intro P hU hN hG X L sc asts hr hΓ hh hp C h
    subst hU hN hG
    rcases asts with _ | ⟨ast, _ | ⟨_, _⟩⟩ <;> first | (simp [ck] at h; done) | skip
    cases ast <;> first | (simp [ck] at h; done) | skip
    rename_i elt gs scope pos
    rcases gs with _ | ⟨⟨tg, iter, ifs, as⟩, _ | ⟨_, _⟩⟩ <;> first | (simp [ck] at h; done) | skip
    cases ifs <;> first | (simp [ck] at h; done) | skip
    simp only [ck, Bool.and_eq_true, Bool.not_eq_true', decide_eq_true_eq] at h
    obtain ⟨⟨⟨⟨⟨⟨⟨⟨⟨⟨⟨h11, h0⟩, h1⟩, h2⟩, e1⟩, e2⟩, h3⟩, h4⟩, h5⟩, h7⟩, h8⟩, h9⟩ := h
    have h11 : L.hot = false := hh ▸ h11
    subst h0
    simp only [compOk, Bool.and_eq_true, Bool.not_eq_true', decide_eq_true_eq, List.all_eq_true, hΓ] at h2
    obtain ⟨⟨⟨⟨q1, q2⟩, q3⟩, q45⟩, q6⟩ := h2
    rw [hΓ] at h3
    have hpp : ∀ p ∈ L.PV, p.1 ∉ ts := fun p m z => by
      have := (q2 p.1 z).2
      simp [hp p m] at this
    have pi := walk_ok C h4 (ihi P rfl rfl rfl hr hΓ hh hp C h8)
    have hel : ∀ (s : Shared) (H : Hp) (A : Addr) (cl : List (Str × Addr)) (fp : List Addr), PE (X.blk s H scope (compEnvC scope cl A X.env) fp) elt (tE L.in0 el) := fun s H A cl fp => by
      obtain ⟨_, e1, p, _⟩ := (ihe P rfl rfl rfl (L := L.in0) hr hΓ hh hp (C.blk h11 scope s H A cl fp) h9).1 h5
      cases e1
      exact p q6
    have p : PE X (.ListComp elt [⟨tg, iter, [], 0⟩] scope pos) (tE L (.compN ts t it el)) := by
      refine PE.imp (pe_lc (C.calm h11) (by rw [C.hN]; exact C.nd) pi (C.blkOk h1) (fun s H A cl fp => (pg_ok (L := L.in0) (C.blk h11 scope s H A cl fp) h11 t).1 h3) (fun s H A cl fp => pts_nil) hel (folded h7 _)) fun σ H Q q => ?_
      rw [ownOf_snd]
      refine tLcN_of e1 (hr ▸ e2) q1 (fun i m => (q2 i m).1) hpp (fun n hn => ?_) ((g_ok (L := L.in0) hp t).1 h3) q
      have := q3 n hn
      simpa using this
    exact Sd.ofE rfl p rfl rfl rfl rfl (fun o a z => (by cases z))
  | con d =>
    intro P hU hN hG X L sc asts hr hΓ hh hp C h
    subst hU hN hG
    rcases asts with _ | ⟨ast, _ | ⟨_, _⟩⟩ <;> first | (simp [ck] at h; done) | skip
    simp only [ck] at h
    refine Sd.ofE rfl (pe_conE h) ?_ rfl rfl rfl (fun o a z => (by cases z))
    unfold ckCon at h
    split at h <;> first | rfl | cases h
  | glob x d =>
    intro P hU hN hG X L sc asts hr hΓ hh hp C h
    subst hU hN hG
    rcases asts with _ | ⟨ast, _ | ⟨_, _⟩⟩ <;> first | (simp [ck] at h; done) | skip
    cases ast <;> first | (simp [ck] at h; done) | skip
    simp only [ck, Bool.and_eq_true, decide_eq_true_eq, Bool.not_eq_true'] at h
    obtain ⟨⟨⟨h1, h2⟩, h3⟩, h4⟩ := h
    subst h1
    exact Sd.ofE rfl (pe_globE C h2 h3 h4) rfl rfl rfl rfl (fun o a z => (by cases z))
  | mv i =>
    intro P hU hN hG X L sc asts hr hΓ hh hp C h
    subst hU hN hG
    rcases asts with _ | ⟨ast, _ | ⟨_, _⟩⟩ <;> first | (simp [ck] at h; done) | skip
    cases ast <;> first | (simp [ck] at h; done) | skip
    simp only [ck, Bool.and_eq_true, decide_eq_true_eq] at h
    obtain ⟨⟨h1, h2⟩, h3⟩ := h
    obtain ⟨v1, v2, v3⟩ := nmOk_inv h2
    exact Sd.ofE rfl (pe_mvE C h1 v1 v2 v3 (hΓ ▸ h3)) rfl rfl rfl rfl (fun o a z => (by cases z))
  | io i =>
    intro P hU hN hG X L sc asts hr hΓ hh hp C h
    subst hU hN hG
    rcases asts with _ | ⟨ast, _ | ⟨_, _⟩⟩ <;> first | (simp [ck] at h; done) | skip
    cases ast <;> first | (simp [ck] at h; done) | skip
    simp only [ck, Bool.and_eq_true, decide_eq_true_eq] at h
    obtain ⟨h1, h2⟩ := h
    obtain ⟨v1, v2, v3⟩ := nmOk_inv h2
    exact ⟨fun z => (by cases z), fun z => (by cases z), fun z => (by cases z), fun j z => (by cases z; exact ⟨_, rfl, pe_byNm C h1 v1 v2 v3⟩), fun o a z => (by cases z)⟩
  | bw i =>
    intro P hU hN hG X L sc asts hr hΓ hh hp C h
    subst hU hN hG
    rcases asts with _ | ⟨ast, _ | ⟨_, _⟩⟩ <;> first | (simp [ck] at h; done) | skip
    cases ast <;> first | (simp [ck] at h; done) | skip
    simp only [ck, Bool.and_eq_true, decide_eq_true_eq] at h
    obtain ⟨h1, h2⟩ := h
    obtain ⟨v1, v2, v3⟩ := nmOk_inv h2
    exact ⟨fun z => (by cases z), fun z => (by cases z), fun z => (by cases z), fun j z => (by cases z; exact ⟨_, rfl, pe_byNm C h1 v1 v2 v3⟩), fun o a z => (by cases z)⟩
  | nil =>
    intro P hU hN hG X L sc asts hr hΓ hh hp C h
    subst hU hN hG
    rcases asts with _ | ⟨ast, r⟩ <;> first | (simp [ck] at h; done) | skip
    exact ⟨fun z => (by cases z), fun _ => trivial, fun _ => trivial, fun j z => (by cases z), fun o a z => (by cases z)⟩
  | cons a b iha ihb =>
    intro P hU hN hG X L sc asts hr hΓ hh hp C h
    subst hU hN hG
    rcases asts with _ | ⟨ast, r⟩ <;> first | (simp [ck] at h; done) | skip
    simp only [ck, Bool.and_eq_true] at h
    obtain ⟨⟨⟨⟨h1, h2⟩, h3⟩, h4⟩, h5⟩ := h
    have ha := iha P rfl rfl rfl hr hΓ hh hp C h4
    have hb := ihb P rfl rfl rfl hr hΓ hh hp C h5
    refine ⟨fun z => (by cases z), fun z => ?_, fun _ => ?_, fun j z => (by cases z), fun o a z => (by cases z)⟩
    · simp only [allV, Bool.and_eq_true] at z
      obtain ⟨ast', e1, _, p, _⟩ := ha.1 z.1
      cases e1
      exact ⟨p, h1, hb.2.1 z.2⟩
    · refine ⟨?_, h1, hb.2.2.1 h3⟩
      split
      · rename_i i q
        obtain ⟨ast', e1, p⟩ := ha.2.2.2.1 i q
        cases e1
        exact p
      · rename_i q
        rw [q] at h2
        obtain ⟨ast', e1, _, p, _⟩ := ha.1 (by simpa using h2)
        cases e1
        exact p
  | tup a iha =>
    intro P hU hN hG X L sc asts hr hΓ hh hp C h
    subst hU hN hG
    rcases asts with _ | ⟨ast, _ | ⟨_, _⟩⟩ <;> first | (simp [ck] at h; done) | skip
    cases ast <;> first | (simp [ck] at h; done) | skip
    simp only [ck, Bool.and_eq_true, hΓ] at h
    obtain ⟨⟨⟨⟨h1, h2⟩, h3⟩, h4⟩, h5⟩ := h
    exact Sd.ofE rfl (pe_tupE ((iha P rfl rfl rfl hr hΓ hh hp C h5).2.1 h1).pa h2 h3 (of_decide_eq_true h4)) rfl rfl rfl rfl (fun o a z => (by cases z))
  | lst a iha =>
    intro P hU hN hG X L sc asts hr hΓ hh hp C h
    subst hU hN hG
    rcases asts with _ | ⟨ast, _ | ⟨_, _⟩⟩ <;> first | (simp [ck] at h; done) | skip
    cases ast <;> first | (simp [ck] at h; done) | skip
    simp only [ck, Bool.and_eq_true, hΓ] at h
    obtain ⟨⟨⟨⟨h1, h2⟩, h3⟩, h4⟩, h5⟩ := h
    exact Sd.ofE rfl (pe_lstE ((iha P rfl rfl rfl hr hΓ hh hp C h5).2.1 h1).pa h2 h3 (of_decide_eq_true h4)) rfl rfl rfl rfl (fun o a z => (by cases z))
  | bi o a iha =>
    intro P hU hN hG X L sc asts hr hΓ hh hp C h
    subst hU hN hG
    rcases asts with _ | ⟨ast, _ | ⟨_, _⟩⟩ <;> first | (simp [ck] at h; done) | skip
    simp only [ck, Bool.and_eq_true, hΓ] at h
    obtain ⟨⟨⟨⟨h1, h2⟩, h3⟩, hq⟩, h4⟩ := h
    split at h4
    · rename_i es q
      exact bi_ok C (hh ▸ hq) h2 h3 q ((iha P rfl rfl rfl hr hΓ hh hp C h4).2.1 h1)
    · cases h4
  | and a b iha ihb =>
    intro P hU hN hG X L sc asts hr hΓ hh hp C h
    subst hU hN hG
    rcases asts with _ | ⟨ast, _ | ⟨_, _⟩⟩ <;> first | (simp [ck] at h; done) | skip
    cases ast <;> first | (simp [ck] at h; done) | skip
    rename_i op es p
    cases op <;> first | (simp [ck] at h; done) | skip
    rcases es with _ | ⟨x, _ | ⟨y, r⟩⟩ <;> first | (simp [ck] at h; done) | skip
    simp only [ck, Bool.and_eq_true, hΓ, Bool.not_eq_true'] at h
    obtain ⟨⟨⟨⟨⟨⟨h1, h2⟩, h3⟩, g1⟩, g2⟩, h4⟩, h5⟩ := h
    obtain ⟨_, e1, _, pa, ta, _⟩ := (iha P rfl rfl rfl hr hΓ hh hp C h4).1 h1
    cases e1
    have tail : PE X (.BoolOp .And (y :: r) p) (tP L b) ∧ PW X (.BoolOp .And (y :: r) p) (tT L b) := by
      cases r with
      | nil =>
        obtain ⟨_, e1, _, pb, tb, _⟩ := (ihb P rfl rfl rfl hr hΓ hh hp C h5).1 h2
        cases e1
        exact ⟨pe_one pb, pw_and1 (tb g2)⟩
      | cons z r =>
        obtain ⟨_, e1, _, pb, _, wb⟩ := (ihb P rfl rfl rfl hr hΓ hh hp C h5).1 h2
        cases e1
        exact ⟨pb, wb rfl⟩
    have pP : PE X (.BoolOp .And (x :: y :: r) p) (tP L (.and a b)) := PE.imp (pe_and pa tail.1) fun σ H Q q => tP_and h3 q
    have pW : PW X (.BoolOp .And (x :: y :: r) p) (tT L (.and a b)) := PW.imp (pw_and (ta g1) tail.2) fun σ H Q q => tT_and h3 q
    exact Sd.val pP (fun _ => pe_E rfl rfl pP) (fun _ => pW.pt) (fun _ => pW) rfl rfl rfl (fun o a z => (by cases z))
  | or a b iha ihb =>
    intro P hU hN hG X L sc asts hr hΓ hh hp C h
    subst hU hN hG
    rcases asts with _ | ⟨ast, _ | ⟨_, _⟩⟩ <;> first | (simp [ck] at h; done) | skip
    cases ast <;> first | (simp [ck] at h; done) | skip
    rename_i op es p
    cases op <;> first | (simp [ck] at h; done) | skip
    rcases es with _ | ⟨x, _ | ⟨y, r⟩⟩ <;> first | (simp [ck] at h; done) | skip
    simp only [ck, Bool.and_eq_true, hΓ, Bool.not_eq_true'] at h
    obtain ⟨⟨⟨⟨⟨⟨h1, h2⟩, h3⟩, g1⟩, g2⟩, h4⟩, h5⟩ := h
    obtain ⟨_, e1, _, pa, ta, _⟩ := (iha P rfl rfl rfl hr hΓ hh hp C h4).1 h1
    cases e1
    have tail : PE X (.BoolOp .Or (y :: r) p) (tP L b) ∧ PW X (.BoolOp .Or (y :: r) p) (tT L b) := by
      cases r with
      | nil =>
        obtain ⟨_, e1, _, pb, tb, _⟩ := (ihb P rfl rfl rfl hr hΓ hh hp C h5).1 h2
        cases e1
        exact ⟨pe_one pb, pw_or1 (tb g2)⟩
      | cons z r =>
        obtain ⟨_, e1, _, pb, _, wb⟩ := (ihb P rfl rfl rfl hr hΓ hh hp C h5).1 h2
        cases e1
        exact ⟨pb, wb rfl⟩
    have pP : PE X (.BoolOp .Or (x :: y :: r) p) (tP L (.or a b)) := PE.imp (pe_or pa tail.1) fun σ H Q q => tP_or h3 q
    have pW : PW X (.BoolOp .Or (x :: y :: r) p) (tT L (.or a b)) := PW.imp (pw_or (ta g1) tail.2) fun σ H Q q => tT_or h3 q
    exact Sd.val pP (fun _ => pe_E rfl rfl pP) (fun _ => pW.pt) (fun _ => pW) rfl rfl rfl (fun o a z => (by cases z))
  | not a iha =>
    intro P hU hN hG X L sc asts hr hΓ hh hp C h
    subst hU hN hG
    rcases asts with _ | ⟨ast, _ | ⟨_, _⟩⟩ <;> first | (simp [ck] at h; done) | skip
    cases ast <;> first | (simp [ck] at h; done) | skip
    rename_i op x p
    cases op <;> first | (simp [ck] at h; done) | skip
    simp only [ck, Bool.and_eq_true] at h
    obtain ⟨⟨h1, h2⟩, h3⟩ := h
    obtain ⟨_, e1, _, pa, ta, _⟩ := (iha P rfl rfl rfl hr hΓ hh hp C h3).1 h1
    cases e1
    have pP : PE X (.UnaryOp .Not x p) (tP L (.not a)) := PE.imp (pe_not pa) fun σ H Q q => tP_not q
    exact Sd.val pP (fun _ => pe_E rfl rfl pP) (fun _ => PT.imp (pt_not (ta h2)) fun σ H Q q => tT_not q) (fun z => by cases z) rfl rfl rfl (fun o a z => (by cases z))
  | ite c a b ihc iha ihb =>
    intro P hU hN hG X L sc asts hr hΓ hh hp C h
    subst hU hN hG
    rcases asts with _ | ⟨ast, _ | ⟨_, _⟩⟩ <;> first | (simp [ck] at h; done) | skip
    cases ast <;> first | (simp [ck] at h; done) | skip
    rename_i x y z p
    simp only [ck, Bool.and_eq_true, hΓ, Bool.not_eq_true'] at h
    obtain ⟨⟨⟨⟨⟨⟨⟨⟨h1, h2⟩, h3⟩, h4⟩, h5⟩, h6⟩, h7⟩, h8⟩, h9⟩ := h
    obtain ⟨_, e1, _, pc, tc, _⟩ := (ihc P rfl rfl rfl hr hΓ hh hp C h7).1 h3
    cases e1
    obtain ⟨_, e1, _, pa, _, _⟩ := (iha P rfl rfl rfl hr hΓ hh hp C h8).1 h1
    cases e1
    obtain ⟨_, e1, _, pb, _, _⟩ := (ihb P rfl rfl rfl hr hΓ hh hp C h9).1 h2
    cases e1
    have pP : PE X (.IfExp x y z p) (tP L (.ite c a b)) := PE.imp (pe_ifExp (tc h4) pa pb) fun σ H Q q => tP_ite h5 h6 q
    exact Sd.val pP (fun _ => pe_E rfl rfl pP) (fun z => by cases z) (fun z => by cases z) rfl rfl rfl (fun o a z => (by cases z))
  | call f o a iha =>
    intro P hU hN hG X L sc asts hr hΓ hh hp C h
    subst hU hN hG
    rcases asts with _ | ⟨ast, _ | ⟨_, _⟩⟩ <;> first | (simp [ck] at h; done) | skip
    cases ast <;> first | (simp [ck] at h; done) | skip
    rename_i fn args kw p
    cases fn <;> first | (simp [ck] at h; done) | skip
    cases kw <;> first | (simp [ck] at h; done) | skip
    cases args <;> first | (simp [ck] at h; done) | skip
    simp only [ck, Bool.and_eq_true, decide_eq_true_eq, Bool.not_eq_true', hΓ] at h
    obtain ⟨⟨⟨⟨⟨⟨h1, h2⟩, h3⟩, h4⟩, h5⟩, h6⟩, h7⟩ := h
    subst h1
    cases hv : P.hot with
    | false =>
      rw [hv] at h7
      exact Sd.ofE rfl (pe_callE C (hh ▸ hv) h7 h2 h3 h4 ((iha P rfl rfl rfl hr hΓ hh hp C h6).2.2.1 h5)) rfl rfl rfl rfl (fun o a z => (by cases z))
    | true =>
      rw [hv] at h7
      exact Sd.ofE rfl (pe_callEH C (hh ▸ hv) h7 h2 h3 h4 ((iha P rfl rfl rfl hr hΓ hh hp C h6).2.2.1 h5)) rfl rfl rfl rfl (fun o a z => (by cases z))
  | sl3 x y z ihx ihy ihz =>
    intro P hU hN hG X L sc asts hr hΓ hh hp C h
    subst hU hN hG
    rcases asts with _ | ⟨ast, _ | ⟨_, _⟩⟩ <;> first | (simp [ck] at h; done) | skip
    simp only [ck, Bool.and_eq_true, hΓ] at h
    obtain ⟨⟨⟨⟨h1, h2⟩, h3⟩, h4⟩, h5⟩ := h
    unfold dSlLU at h5
    split at h5 <;> first | (cases h5; done) | skip
    rename_i q
    split at q <;> first | (cases q; done) | skip
    cases q
    simp only [Bool.and_eq_true] at h5
    obtain ⟨_, e1, _, px, _, _⟩ := (ihx P rfl rfl rfl hr hΓ hh hp C h5.1.1).1 h1
    cases e1
    obtain ⟨_, e1, _, py, _, _⟩ := (ihy P rfl rfl rfl hr hΓ hh hp C h5.1.2).1 h2
    cases e1
    obtain ⟨_, e1, _, pz, _, _⟩ := (ihz P rfl rfl rfl hr hΓ hh hp C h5.2).1 h3
    cases e1
    refine Sd.ofE rfl (PE.imp (pe_slice (sr_cut C.hK) px (po_some py) (po_some pz)) fun σ H Q q => tP_sl3 ?_ q) rfl rfl rfl rfl (fun o a z => (by cases z))
    simpa using h4
  | bad =>
    intro P hU hN hG X L sc asts hr hΓ hh hp C h
    subst hU hN hG
    rcases asts with _ | ⟨ast, _ | ⟨_, _⟩⟩ <;> first | (simp [ck] at h; done) | skip
    exact Sd.val pe_badP (fun _ => pe_badE) (fun _ => pt_bad) (fun _ => pw_bad) rfl rfl rfl (fun o a z => (by cases z))
  | pop i a iha =>
    intro P hU hN hG X L sc asts hr hΓ hh hp C h
    subst hU hN hG
    rcases asts with _ | ⟨ast, _ | ⟨_, _⟩⟩ <;> first | (simp [ck] at h; done) | skip
    cases ast <;> first | (simp [ck] at h; done) | skip
    rename_i f args kws cp
    cases f <;> first | (simp [ck] at h; done) | skip
    rename_i ob m ap
    cases ob <;> first | (simp [ck] at h; done) | skip
    rename_i ox px
    cases kws <;> first | (simp [ck] at h; done) | skip
    rcases args with _ | ⟨v, _ | ⟨_, _⟩⟩ <;> first | (simp [ck] at h; done) | skip
    simp only [ck, Bool.and_eq_true, decide_eq_true_eq, Bool.not_eq_true', hΓ] at h
    obtain ⟨⟨⟨⟨⟨⟨⟨⟨⟨h0, h1⟩, h2⟩, h3⟩, h4⟩, h5⟩, h6⟩, h7⟩, h8⟩, h9⟩ := h
    subst h1
    obtain ⟨v1, v2, v3⟩ := nmOk_inv h4
    obtain ⟨_, e1, _, pa, _, _⟩ := (iha P rfl rfl rfl hr hΓ hh hp C h9).1 h7
    cases e1
    have p : PE X (.Call (.Attribute (.Name ox px) "pop" ap) [v] [] cp) _ := pe_bm PySem.F.plainAttrs_list PySem.F.slot_list_pop PySem.F.type_list_pop mt_popAt (pe_byNm C h3 v1 v2 v3) (pa_cons pa pa_nil (star_cons h6)) (base_super rfl) (few1L h6) h2 (star_cons h6) (any_star _ _ _ (by intro z hz; cases hz))
    rw [C.hK] at p
    exact Sd.ofE rfl (PE.imp p fun σ H Q q => tE_pop h8 h5 q) rfl rfl rfl rfl (fun o a z => (by cases z))
  | lst1 x ihx =>
    intro P hU hN hG X L sc asts hr hΓ hh hp C h
    subst hU hN hG
    rcases asts with _ | ⟨ast, _ | ⟨_, _⟩⟩ <;> first | (simp [ck] at h; done) | skip
    cases ast <;> first | (simp [ck] at h; done) | skip
    rename_i es p
    rcases es with _ | ⟨e, _ | ⟨_, _⟩⟩ <;> first | (simp [ck] at h; done) | skip
    simp only [ck, Bool.and_eq_true, decide_eq_true_eq, Bool.not_eq_true', hΓ, hr] at h
    obtain ⟨⟨⟨⟨h1, h2⟩, h3⟩, h4⟩, h5⟩ := h
    obtain ⟨_, e1, pe, _, _, _⟩ := (ihx P rfl rfl rfl hr hΓ hh hp C h5).1 h2
    cases e1
    exact Sd.ofE rfl (pe_lst1 h4 h1 (pe h3)) rfl rfl rfl rfl (fun o a z => (by cases z))
  | addN a b iha ihb =>
    intro P hU hN hG X L sc asts hr hΓ hh hp C h
    subst hU hN hG
    rcases asts with _ | ⟨ast, _ | ⟨_, _⟩⟩ <;> first | (simp [ck] at h; done) | skip
    cases ast <;> first | (simp [ck] at h; done) | skip
    rename_i l op r p
    cases op <;> first | (simp [ck] at h; done) | skip
    simp only [ck, Bool.and_eq_true, decide_eq_true_eq, Bool.not_eq_true', hΓ, hr] at h
    obtain ⟨⟨⟨⟨⟨⟨⟨h1, h2⟩, h3⟩, h4⟩, h5⟩, h6⟩, h7⟩, h8⟩ := h
    obtain ⟨_, e1, pe1, _, _, _⟩ := (iha P rfl rfl rfl hr hΓ hh hp C h7).1 h1
    cases e1
    obtain ⟨_, e2, pe2, _, _, _⟩ := (ihb P rfl rfl rfl hr hΓ hh hp C h8).1 h2
    cases e2
    exact Sd.ofE rfl (pe_addN h5 h6 (pe1 h3) (pe2 h4)) rfl rfl rfl rfl (fun o a z => (by cases z))
  | callF f x a ihx iha =>
    intro P hU hN hG X L sc asts hr hΓ hh hp C h
    subst hU hN hG
    rcases asts with _ | ⟨ast, _ | ⟨_, _⟩⟩ <;> first | (simp [ck] at h; done) | skip
    cases ast <;> first | (simp [ck] at h; done) | skip
    rename_i fn args kw p
    cases fn <;> first | (simp [ck] at h; done) | skip
    cases kw <;> first | (simp [ck] at h; done) | skip
    cases args <;> first | (simp [ck] at h; done) | skip
    simp only [ck, Bool.and_eq_true, decide_eq_true_eq, Bool.not_eq_true', hΓ, hr] at h
    obtain ⟨⟨⟨⟨⟨⟨⟨⟨⟨⟨⟨⟨h0, h1⟩, h2⟩, h3⟩, h4⟩, h5⟩, h6⟩, h7⟩, h8⟩, h9⟩, h10⟩, h11⟩, h12⟩ := h
    subst h1
    obtain ⟨_, e1, pe, _, _, _⟩ := (ihx P rfl rfl rfl hr hΓ hh hp C h11).1 h6
    cases e1
    exact Sd.ofE rfl (pe_callF C (hh ▸ h0) h10 h2 h3 h8 h4 (pe h7) h9 ((iha P rfl rfl rfl hr hΓ hh hp C h12).2.1 h5)) rfl rfl rfl rfl (fun o a z => (by cases z))
  | gtL i a iha =>
    intro P hU hN hG X L sc asts hr hΓ hh hp C h
    subst hU hN hG
    rcases asts with _ | ⟨ast, _ | ⟨_, _⟩⟩ <;> first | (simp [ck] at h; done) | skip
    cases ast <;> first | (simp [ck] at h; done) | skip
    rename_i l ops rs pos
    cases l <;> first | (simp [ck] at h; done) | skip
    rename_i x px
    rcases ops with _ | ⟨op, _ | ⟨_, _⟩⟩ <;> first | (simp [ck] at h; done) | skip
    cases op <;> first | (simp [ck] at h; done) | skip
    rcases rs with _ | ⟨b, _ | ⟨_, _⟩⟩ <;> first | (simp [ck] at h; done) | skip
    simp only [ck, Bool.and_eq_true, decide_eq_true_eq, Bool.not_eq_true', hΓ, hr] at h
    obtain ⟨⟨⟨⟨⟨⟨⟨h1, h2⟩, h3⟩, h4⟩, h5⟩, h6⟩, h7⟩, h8⟩ := h
    obtain ⟨v1, v2, v3⟩ := nmOk_inv h2
    obtain ⟨_, e1, pe, _, _, _⟩ := (iha P rfl rfl rfl hr hΓ hh hp C h8).1 h5
    cases e1
    have u0 : X.A.units < cLine := by have := C.un; omega
    have p : PE X (.Compare (.Name x px) [.Gt] [b] pos) _ := pe_cmpR (op_gtL u0) (pe_byNm C h1 v1 v2 v3) (pe h6) (not_behind h7)
    have pE : PE X (.Compare (.Name x px) [.Gt] [b] pos) (tE L (.gtL i a)) := PE.imp p fun σ H Q q => tE_gtL h4 h3 q
    have pt : PT X (.Compare (.Name x px) [.Gt] [b] pos) _ := pt_cmpR (op_gtL u0) (pe_byNm C h1 v1 v2 v3) (pe h6) (not_behind h7)
    exact Sd.val (pe_P rfl pE) (fun _ => pE) (fun _ => PT.imp pt fun σ H Q q => tE_gtL h4 h3 (tP_tE rfl q)) (fun z => (by cases z)) rfl rfl rfl (fun o a z => (by cases z))
  | pop0 i =>
    intro P hU hN hG X L sc asts hr hΓ hh hp C h
    subst hU hN hG
    rcases asts with _ | ⟨ast, _ | ⟨_, _⟩⟩ <;> first | (simp [ck] at h; done) | skip
    cases ast <;> first | (simp [ck] at h; done) | skip
    rename_i f args kws cp
    cases f <;> first | (simp [ck] at h; done) | skip
    rename_i ob m ap
    cases ob <;> first | (simp [ck] at h; done) | skip
    rename_i ox px
    cases kws <;> first | (simp [ck] at h; done) | skip
    rcases args with _ | ⟨v, _⟩ <;> first | (simp [ck] at h; done) | skip
    simp only [ck, Bool.and_eq_true, decide_eq_true_eq, Bool.not_eq_true', hΓ] at h
    obtain ⟨⟨⟨⟨⟨h0, h1⟩, h2⟩, h3⟩, h4⟩, h5⟩ := h
    subst h1
    obtain ⟨v1, v2, v3⟩ := nmOk_inv h4
    have p : PE X (.Call (.Attribute (.Name ox px) "pop" ap) [] [] cp) _ := pe_bm0 PySem.F.plainAttrs_list PySem.F.slot_list_pop PySem.F.type_list_pop mt_pop (pe_byNm C h3 v1 v2 v3) (base_super rfl) h2
    rw [C.hK] at p
    exact Sd.ofE rfl (PE.imp p fun σ H Q q => tE_pop0 h5 q) rfl rfl rfl rfl (fun o a z => (by cases z))
  | chn3 o p q x y z w ihx ihy ihz ihw =>
    intro P hU hN hG X L sc asts hr hΓ hh hp C h
    subst hU hN hG
    rcases asts with _ | ⟨ast, _ | ⟨_, _⟩⟩ <;> first | (simp [ck] at h; done) | skip
    cases ast <;> first | (simp [ck] at h; done) | skip
    rename_i a ops es pos
    rcases ops with _ | ⟨o1, _ | ⟨o2, _ | ⟨o3, _ | ⟨_, _⟩⟩⟩⟩ <;> first | (simp [ck] at h; done) | skip
    rcases es with _ | ⟨b, _ | ⟨c, _ | ⟨d, _ | ⟨_, _⟩⟩⟩⟩ <;> first | (simp [ck] at h; done) | skip
    simp only [ck, Bool.and_eq_true, hΓ] at h
    obtain ⟨⟨⟨⟨⟨⟨⟨⟨⟨⟨⟨⟨h1, h2⟩, h3⟩, h4⟩, h5⟩, h6⟩, h7⟩, h8⟩, h9⟩, h10⟩, h11⟩, h12⟩, h13⟩ := h
    obtain ⟨_, e1, _, px, _, _⟩ := (ihx P rfl rfl rfl hr hΓ hh hp C h10).1 h6
    cases e1
    obtain ⟨_, e1, _, py, _, _⟩ := (ihy P rfl rfl rfl hr hΓ hh hp C h11).1 h7
    cases e1
    obtain ⟨_, e1, _, pz, _, _⟩ := (ihz P rfl rfl rfl hr hΓ hh hp C h12).1 h8
    cases e1
    obtain ⟨_, e1, _, pw, _, _⟩ := (ihw P rfl rfl rfl hr hΓ hh hp C h13).1 h9
    cases e1
    have kdo : ∀ {o : BI} {op : CmpOp}, ckCmp P o op = true → kd o = .cmp op := fun {o op} h => by
      unfold ckCmp at h
      split at h
      · rename_i q
        simp only [Bool.and_eq_true, decide_eq_true_eq] at h
        rw [q, h.1]
      · cases h
    have r1 := or_cmpK C (kdo h1)
    have r2 := or_cmpK C (kdo h2)
    have r3 := or_cmpK C (kdo h3)
    have pP : PE X (.Compare a [o1, o2, o3] [b, c, d] pos) (tP L (.chn3 o p q x y z w)) := PE.imp (pe_chain3 r1 r2 r3 px py pz pw (last_marks3 h4)) fun σ H Q q => tP_chn3 h5 q
    refine Sd.val pP (fun _ => pe_E rfl rfl pP) (fun _ => PT.imp (pt_chain3 r1 r2 r3 px py pz pw (last_marks3 h4)) fun σ H Q q => ?_) (fun z => by cases z) rfl rfl rfl (fun o a z => (by cases z))
    exact tP_chn3 h5 q
  | chn o p x y z ihx ihy ihz =>
    intro P hU hN hG X L sc asts hr hΓ hh hp C h
    subst hU hN hG
    rcases asts with _ | ⟨ast, _ | ⟨_, _⟩⟩ <;> first | (simp [ck] at h; done) | skip
    cases ast <;> first | (simp [ck] at h; done) | skip
    rename_i a ops es pos
    rcases ops with _ | ⟨op, _ | ⟨op', _ | ⟨_, _⟩⟩⟩ <;> first | (simp [ck] at h; done) | skip
    rcases es with _ | ⟨b, _ | ⟨c, _ | ⟨_, _⟩⟩⟩ <;> first | (simp [ck] at h; done) | skip
    simp only [ck, Bool.and_eq_true, hΓ] at h
    obtain ⟨⟨⟨⟨⟨⟨⟨⟨⟨h1, h2⟩, h3⟩, h4⟩, h5⟩, h6⟩, h7⟩, h8⟩, h9⟩, h10⟩ := h
    obtain ⟨_, e1, _, px, _, _⟩ := (ihx P rfl rfl rfl hr hΓ hh hp C h8).1 h5
    cases e1
    obtain ⟨_, e1, _, py, _, _⟩ := (ihy P rfl rfl rfl hr hΓ hh hp C h9).1 h6
    cases e1
    obtain ⟨_, e1, _, pz, _, _⟩ := (ihz P rfl rfl rfl hr hΓ hh hp C h10).1 h7
    cases e1
    have kdo : ∀ {o : BI} {op : CmpOp}, ckCmp P o op = true → kd o = .cmp op := fun {o op} h => by
      unfold ckCmp at h
      split at h
      · rename_i q
        simp only [Bool.and_eq_true, decide_eq_true_eq] at h
        rw [q, h.1]
      · cases h
    have r1 := or_cmpK C (kdo h1)
    have r2 := or_cmpK C (kdo h2)
    have pP : PE X (.Compare a [op, op'] [b, c] pos) (tP L (.chn o p x y z)) := PE.imp (pe_chain r1 r2 px py pz (last_marks h3)) fun σ H Q q => tP_chn h4 q
    refine Sd.val pP (fun _ => pe_E rfl rfl pP) (fun _ => PT.imp (pt_chain r1 r2 px py pz (last_marks h3)) fun σ H Q q => ?_) (fun z => by cases z) rfl rfl rfl (fun o a z => (by cases z))
    exact tP_chn h4 q
  | comp ts t it c el ihi ihc ihe =>
    intro P hU hN hG X L sc asts hr hΓ hh hp C h
    subst hU hN hG
    rcases asts with _ | ⟨ast, _ | ⟨_, _⟩⟩ <;> first | (simp [ck] at h; done) | skip
    cases ast <;> first | (simp [ck] at h; done) | skip
    rename_i elt gs scope pos
    rcases gs with _ | ⟨⟨tg, iter, ifs, as⟩, _ | ⟨_, _⟩⟩ <;> first | (simp [ck] at h; done) | skip
    simp only [ck, Bool.and_eq_true, Bool.not_eq_true'] at h
    obtain ⟨⟨⟨⟨⟨⟨⟨⟨⟨⟨⟨h11, h0⟩, h1⟩, h2⟩, h3⟩, h4⟩, h5⟩, h6⟩, h7⟩, h8⟩, h9⟩, h10⟩ := h
    have h11 : L.hot = false := hh ▸ h11
    have h0 := of_decide_eq_true h0
    subst h0
    simp only [compOk, Bool.and_eq_true, Bool.not_eq_true', decide_eq_true_eq, List.all_eq_true, hΓ] at h2
    obtain ⟨⟨⟨⟨q1, q2⟩, q3⟩, q45⟩, q6⟩ := h2
    have q4 : (eff c || eff el) = true → kpI L.Γ it = false := fun z => by rw [z] at q45; simpa using q45
    rw [hΓ] at h3
    have hpp : ∀ p ∈ L.PV, p.1 ∉ ts := fun p m z => by
      have := (q2 p.1 z).2
      simp [hp p m] at this
    have pi := walk_ok C h4 (ihi P rfl rfl rfl hr hΓ hh hp C h8)
    have hel : ∀ (s : Shared) (H : Hp) (A : Addr) (cl : List (Str × Addr)) (fp : List Addr), PE (X.blk s H scope (compEnvC scope cl A X.env) fp) elt (tP L.in0 el) := fun s H A cl fp => by
      obtain ⟨_, e1, _, p, _⟩ := (ihe P rfl rfl rfl (L := L.in0) hr hΓ hh hp (C.blk h11 scope s H A cl fp) h9).1 h5
      cases e1
      exact p
    have hb : ∃ b : Bool, (b = false → c = .con (.bl true)) ∧ ∀ (s : Shared) (H : Hp) (A : Addr) (cl : List (Str × Addr)) (fp : List Addr), PTs (X.blk s H scope (compEnvC scope cl A X.env) fp) ifs (tIfs L.in0 b c) := by
      rcases ifs with _ | ⟨x, _ | ⟨_, _⟩⟩
      · refine ⟨false, fun _ => ?_, fun s H A cl fp => pts_nil⟩
        exact isTru_eq h10
      · simp only [Bool.and_eq_true] at h10
        refine ⟨true, fun z => (by cases z), fun s H A cl fp => ?_⟩
        obtain ⟨_, e1, _, _, p, _⟩ := (ihc P rfl rfl rfl (L := L.in0) hr hΓ hh hp (C.blk h11 scope s H A cl fp) h10.2).1 h6
        cases e1
        exact pts_one (p h10.1)
      · cases h10
    obtain ⟨b, hb1, hb2⟩ := hb
    have p : PE X (.ListComp elt [⟨tg, iter, ifs, 0⟩] scope pos) (tE L (.comp ts t it c el)) := by
      refine PE.imp (pe_lc (C.calm h11) (by rw [C.hN]; exact C.nd) pi (C.blkOk h1) (fun s H A cl fp => (pg_ok (L := L.in0) (C.blk h11 scope s H A cl fp) h11 t).1 h3) hb2 hel (folded h7 _)) fun σ H Q q => ?_
      rw [ownOf_snd]
      refine tLc_of q4 q6 q1 (fun i m => (q2 i m).1) hpp (fun n hn => ?_) ((g_ok (L := L.in0) hp t).1 h3) hb1 q
      have := q3 n hn
      simpa using this
    exact Sd.ofE rfl p rfl rfl rfl rfl (fun o a z => (by cases z))
theorem ck_ok (P : CkP) (hU : P.U = U) (hN : P.N = N) (hG : P.GL = GL) (e : E) {X : Cx} {L : Lx} {sc : Scope} {asts : List Expr} (hr : P.rt = L.rt) (hΓ : P.Γ = L.Γ) (hh : P.hot = L.hot) (hp : ∀ p ∈ L.PV, p.1 ∈ P.pins) (C : Ct L U N k sc GL X) (h : ck P sc e asts = true) : Sd X L sc e asts := ck_ok0 e P hU hN hG hr hΓ hh hp C h
end
end Eg

end
section
set_option maxHeartbeats 8000000
namespace Eg
open PySem PySem.Spec PyProof.Rows L2
/-! ### statements -/
/-- a statement's end, by its outcome -/
def EndO (L : Lx) (r : Ty) (D : Ends) (Fz : Addr → Prop) (H : Hp) (own : Nat → Addr → Prop) : Out → Prop
  | .nx e => ∀ σ' H' Fz' own', Stp L σ' Fz H own true Fz' H' e own' → D.nx σ' H'
  | .bk e => ∀ σ' H' Fz' own', Stp L σ' Fz H own true Fz' H' e own' → D.bk σ' H'
  | .ct e => ∀ σ' H' Fz' own', Stp L σ' Fz H own true Fz' H' e own' → D.ct σ' H'
  | .ret d e => ∀ v σ' H' Fz' own' S, Stp L σ' Fz H own true Fz' H' e own' → RO L.G Fz' H' r d v S → Hd Fz H own true Fz' own' S → D.rt v H'
  | .exc c e => ∀ σ' H' Fz' own', Stp L σ' Fz H own true Fz' H' e own' → L.W (L.G.xv c) none σ' H'
  | .rh i e => ∀ v σ' H' Fz' own', Stp L σ' Fz H own true Fz' H' e own' → σ'[i]? = some (some v) → D.rt v H'
  | .no => False
def tS (L : Lx) (wf : Nat) (r : Ty) (s : S) : TS := fun D σ H => ∃ Fz env own, RE L.G L.Γ L.PV Fz H env σ own ∧ EndO L r D Fz H own (ex L.fc wf s env)
section
variable {L : Lx} {σ σ1 σ2 : L2.St} {Fz Fz1 Fz2 S : Addr → Prop} {H H1 H2 : Hp} {env env1 env2 : List D} {own own1 own2 : Nat → Addr → Prop} {e1 e2 ef : Bool} {wf : Nat} {r : Ty} {D : Ends}
theorem Stp.seq (s1 : Stp L σ1 Fz H own e1 Fz1 H1 env1 own1) (s2 : Stp L σ2 Fz1 H1 own1 e2 Fz2 H2 env2 own2) : Stp L σ2 Fz H own true Fz2 H2 env2 own2 where
  re := s2.re
  fr := (s1.fr.mono fun b m => ⟨rfl, m.2⟩).trans s2.fr fun b m => (s1.ow b m.2).imp (fun z => ⟨rfl, z⟩) id
  ow := fun b o => (s2.ow b o).elim (s1.ow b) s1.back
theorem Hd.seq (s1 : Stp L σ1 Fz H own e1 Fz1 H1 env1 own1) (h : Hd Fz1 H1 own1 e2 Fz2 own2 S) : Hd Fz H own true Fz2 own2 S :=
  ⟨h.nf, h.dj, fun b s => (h.fr b s).elim (fun m => (s1.ow b m.2).imp (fun z => ⟨rfl, z⟩) id) fun z => (Eg.back s1.fr z).imp (fun m => ⟨rfl, m.2⟩) id⟩
theorem ResX.ofS {c : Nat} {env' : List Eg.D} (s1 : Stp L σ1 Fz H own e1 Fz1 H1 env1 own1) (h : ∀ σ' H' Fz' own', Stp L σ' Fz H own true Fz' H' env' own' → L.W (L.G.xv c) none σ' H') : ResX L σ1 Fz1 H1 own1 env' c := fun H' Fz' own' re f o =>
  h σ1 H' Fz' own' (s1.seq (e2 := true) ⟨re, f.mono fun b m => ⟨rfl, m⟩, o⟩)
theorem Stp.refl' (I : RE L.G L.Γ L.PV Fz H env σ own) : Stp L σ Fz H own true Fz H env own := .refl I
theorem EndO.seq {o : Out} (s1 : Stp L σ1 Fz H own e1 Fz1 H1 env1 own1) (h : EndO L r D Fz H own o) : EndO L r D Fz1 H1 own1 o := by
  cases o with
  | nx e2 => exact fun σ2 H2 Fz2 own2 s2 => h σ2 H2 Fz2 own2 (s1.seq s2)
  | bk e2 => exact fun σ2 H2 Fz2 own2 s2 => h σ2 H2 Fz2 own2 (s1.seq s2)
  | ct e2 => exact fun σ2 H2 Fz2 own2 s2 => h σ2 H2 Fz2 own2 (s1.seq s2)
  | ret d e2 => exact fun v σ2 H2 Fz2 own2 S s2 ro hd => h v σ2 H2 Fz2 own2 S (s1.seq s2) ro (hd.seq s1)
  | exc c e2 => exact fun σ2 H2 Fz2 own2 s2 => h σ2 H2 Fz2 own2 (s1.seq s2)
  | rh i e2 => exact fun v σ2 H2 Fz2 own2 s2 => h v σ2 H2 Fz2 own2 (s1.seq s2)
  | no => exact h
theorem tS_at {s : Eg.S} (s1 : Stp L σ1 Fz H own e1 Fz1 H1 env1 own1) (h : EndO L r D Fz H own (ex L.fc wf s env1)) : tS L wf r s D σ1 H1 := ⟨Fz1, env1, own1, s1.re, h.seq s1⟩
theorem tS_seq {a b : Eg.S} (q : tS L wf r (.seq a b) D σ H) : tSeq (tS L wf r a) (tS L wf r b) D σ H := by
  obtain ⟨Fz, env, own, I, h⟩ := q
  refine ⟨Fz, env, own, I, ?_⟩
  simp only [ex] at h
  cases ea : ex L.fc wf a env with
  | nx e1 =>
    rw [ea] at h
    exact fun σ1 H1 Fz1 own1 s1 => tS_at s1 h
  | bk e1 => rw [ea] at h; exact h
  | ct e1 => rw [ea] at h; exact h
  | ret d e1 => rw [ea] at h; exact h
  | exc c e1 => rw [ea] at h; exact h
  | rh i e1 => rw [ea] at h; exact h
  | no => rw [ea] at h; exact h
theorem tS_ifs {c : E} {a b : Eg.S} (q : tS L wf r (.ifs c a b) D σ H) : tIfS (tT L c) (tS L wf r a) (tS L wf r b) D σ H := by
  obtain ⟨Fz, env, own, I, h⟩ := q
  simp only [ex, R.out] at h
  refine tP_mk I ?_
  cases ec : ev L.fc c env with
  | no => rw [ec] at h; exact h
  | exc c e1 => rw [ec] at h; exact ResX.ofS (.refl I (e1 := true)) h
  | ok ds e1 =>
    rw [ec] at h
    rcases ds with _ | ⟨d, _ | ⟨d2, ds⟩⟩
    · exact h.elim
    · cases d <;> first | exact h.elim | skip
      rename_i bb
      cases bb
      · refine ⟨_, rfl, fun v H1 Fz1 own1 s1 rb rf => ⟨false, rb, ?_⟩⟩
        simp only [Bool.false_eq_true, if_false]
        exact tS_at s1 h
      · refine ⟨_, rfl, fun v H1 Fz1 own1 s1 rb rf => ⟨true, rb, ?_⟩⟩
        simp only [if_true]
        exact tS_at s1 h
    · cases d <;> first | exact h.elim | (rename_i b; cases b <;> exact h.elim)
/-- while -/
theorem tS_whl {c : E} {b : Eg.S} (q : tS L wf r (.whl c b) D σ H) : tWhile (tT L c) (tS L wf r b) D σ H := by
  obtain ⟨Fz, env, own, I, h⟩ := q
  simp only [ex] at h
  refine ⟨fun m σ1 H1 => ∃ Fz1 own1 e1, Stp L σ1 Fz H own true Fz1 H1 e1 own1 ∧ EndO L r D Fz H own (evWhile (ev L.fc c) (ex L.fc wf b) m e1), ⟨wf, Fz, own, env, .refl I, h⟩, ?_⟩
  rintro m σ1 H1 ⟨Fz1, own1, e1, s1, h1⟩
  cases m with
  | zero => exact h1.elim
  | succ m =>
    refine tP_mk s1.re ?_
    simp only [evWhile] at h1
    cases ec : ev L.fc c e1 with
    | no => rw [ec] at h1; exact h1
    | exc c e2 => rw [ec] at h1; exact ResX.ofS s1 h1
    | ok ds e2 =>
      rw [ec] at h1
      rcases ds with _ | ⟨d, _ | ⟨d2, ds⟩⟩
      · exact h1.elim
      · cases d <;> first | exact h1.elim | skip
        rename_i bb
        cases bb
        · refine ⟨_, rfl, fun v H2 Fz2 own2 s2 rb rf => ⟨false, rb, ?_⟩⟩
          simp only [Bool.false_eq_true, if_false]
          exact h1 σ1 H2 Fz2 own2 (s1.seq s2)
        · refine ⟨_, rfl, fun v H2 Fz2 own2 s2 rb rf => ⟨true, rb, ?_⟩⟩
          simp only [if_true]
          have s12 := s1.seq s2
          refine ⟨fun σ' H' => ∃ Fz1 own1 e1, Stp L σ' Fz H own true Fz1 H' e1 own1 ∧ EndO L r D Fz H own (evWhile (ev L.fc c) (ex L.fc wf b) m e1), fun σ' H' z => ⟨m, Nat.lt_succ_self m, z⟩, ?_⟩
          refine tS_at s12 ?_
          simp only at h1
          cases eb : ex L.fc wf b e2 with
          | nx e3 => rw [eb] at h1; exact fun σ' H' Fz' own' s => ⟨Fz', own', e3, s, h1⟩
          | ct e3 => rw [eb] at h1; exact fun σ' H' Fz' own' s => ⟨Fz', own', e3, s, h1⟩
          | bk e3 => rw [eb] at h1; exact h1
          | ret d e3 => rw [eb] at h1; exact h1
          | exc c e3 => rw [eb] at h1; exact h1
          | rh i e3 => rw [eb] at h1; exact h1
          | no => rw [eb] at h1; exact h1
      · cases d <;> first | exact h1.elim | (rename_i b; cases b <;> exact h1.elim)
/-- for -/
theorem tS_for {t : TN} {it : E} {b : Eg.S} (hk : kpI L.Γ it = false) (hg : GOk L t (tnG L.G.K t)) (q : tS L wf r (.for_ t it b) D σ H) : tFor (tI L it) (tnG L.G.K t) (tS L wf r b) D σ H := by
  obtain ⟨Fz, env, own, I, h⟩ := q
  simp only [ex, R.out] at h
  refine ⟨Fz, env, own, I, ?_⟩
  cases ei : ev L.fc it env with
  | no => rw [ei] at h; exact h
  | exc c e1 => rw [ei] at h; exact ResX.ofS (.refl I (e1 := true)) h
  | ok ds e1 =>
    rw [ei] at h
    rcases ds with _ | ⟨d, _ | ⟨d2, ds⟩⟩
    · exact h.elim
    · simp only at h
      cases hi : items d with
      | none => rw [hi] at h; exact h.elim
      | some its =>
        rw [hi] at h
        refine ⟨d, its, rfl, hi, fun J H1 Fz1 own1 s1 wk => ?_⟩
        obtain ⟨Gd, Y, w, hG, hY⟩ := wk.wk
        simp only at h
        refine for_it w (fun i σ' H' => ∃ Fz2 own2 e2, Stp L σ' Fz1 H1 own1 true Fz2 H' e2 own2 ∧ EndO L r D Fz H own (evFor (fun d => asgN t [d]) (ex L.fc wf b) (its.drop i) e2)) ⟨Fz1, own1, e1, .refl s1.re, h⟩ ?_ ?_ ?_
        · rintro i σ' H' _ ⟨Fz2, own2, e2, s2, _⟩
          exact hG Fz2 H' (s2.fr.le (MM.nf s1.re)) fun z => by rw [hk] at z; cases z
        · rintro i x σ' H' H'' hlt ⟨Fz2, own2, e2, s2, h2⟩ hy
          obtain ⟨Fz3, f3, d3, hd3, r3⟩ := hY i H' Fz2 x H'' hlt (s2.fr.le (MM.nf s1.re)) hy
          have I3 := s2.re.fr0 f3
          have s3 : Stp L σ' Fz1 H1 own1 true Fz3 H'' e2 own2 := ⟨I3, s2.fr.trans f3 (fun _ z => z.elim), s2.ow⟩
          obtain ⟨hil, hid⟩ := List.getElem?_eq_some_iff.mp hd3
          rw [List.drop_eq_getElem_cons hil, hid] at h2
          simp only [evFor] at h2
          cases ea : asgN t [d3] e2 with
          | none => rw [ea] at h2; exact h2.elim
          | some e4 =>
            rw [ea] at h2
            simp only at h2
            refine hg x σ' H'' Fz3 e2 own2 d3 e4 _ I3 r3 ea fun σ4 I4 _ => ?_
            have s4 : Stp L σ4 Fz1 H1 own1 true Fz3 H'' e4 own2 := ⟨I4, s3.fr, s3.ow⟩
            refine tS_at s4 ?_
            cases eb : ex L.fc wf b e4 with
            | nx e5 => rw [eb] at h2; exact fun σ' H' Fz' own' s => ⟨Fz', own', e5, s, h2⟩
            | ct e5 => rw [eb] at h2; exact fun σ' H' Fz' own' s => ⟨Fz', own', e5, s, h2⟩
            | bk e5 => rw [eb] at h2; exact fun σ' H' Fz' own' s => h2 σ' H' Fz' own' (s1.seq s)
            | ret d e5 => rw [eb] at h2; exact EndO.seq (o := .ret d e5) s1 h2
            | exc c e5 => rw [eb] at h2; exact EndO.seq (o := .exc c e5) s1 h2
            | rh i e5 => rw [eb] at h2; exact EndO.seq (o := .rh i e5) s1 h2
            | no => rw [eb] at h2; exact h2
        · rintro σ' H' ⟨Fz2, own2, e2, s2, h2⟩
          rw [List.drop_length] at h2
          exact h2 σ' H' Fz2 own2 (s1.seq s2)
    · exact h.elim
end
end Eg

end
section
set_option maxHeartbeats 8000000
namespace Eg
open PySem PySem.Spec PyProof.Rows L2
section
variable {L : Lx} {σ σ1 σ2 : L2.St} {Fz Fz1 Fz2 S : Addr → Prop} {H H1 H2 : Hp} {env env1 env2 : List D} {own own1 own2 : Nat → Addr → Prop} {e1 e2 ef : Bool} {wf : Nat} {r : Ty} {D : Ends}
/-- a slot set to what is in hand -/
theorem Stp.set_oX (s1 : Stp L σ Fz H own e1 Fz1 H1 env1 own1) {i : Nat} {d : Eg.D} {v : V} {T : Ty} (hl : i < env1.length) (hΓ : L.Γ.getD i .a = T) (hp : ∀ p ∈ L.PV, p.1 ≠ i) (ro : RO L.G Fz1 H1 T d v S) (hd : Hd Fz H own e1 Fz1 own1 S) : Stp L (σ.set i (some v)) Fz H own true Fz1 H1 (env1.set i d) (fun j b => if j = i then S b else own1 j b) := by
  refine ⟨⟨fun j hj => ?_, fun j hj b ob => ?_, fun j b ob => ?_, fun j j' b o1 o2 => ?_, fun p m => ?_, by rw [List.length_set, List.length_set]; exact s1.re.len⟩, s1.fr.mono fun b m => ⟨rfl, m.2⟩, fun b ⟨j, ob⟩ => ?_⟩
  · by_cases q : j = i
    · subst q
      rw [getD_set_self hl, hΓ]
      simp only [if_true]
      exact ⟨v, by rw [List.getElem?_set_self (by rw [← s1.re.len]; exact hl)], ro⟩
    · rw [getD_set_ne q] at hj ⊢
      simp only [if_neg q]
      obtain ⟨u, e2, r⟩ := s1.re.val j hj
      exact ⟨u, by rw [List.getElem?_set_ne (Ne.symm q)]; exact e2, r⟩
  · by_cases q : j = i
    · subst q; rw [getD_set_self hl] at hj; exact ro.ne hj
    · rw [getD_set_ne q] at hj; simp only [if_neg q] at ob; exact s1.re.emp j hj b ob
  · by_cases q : j = i
    · simp only [if_pos q] at ob; exact hd.nf b ob
    · simp only [if_neg q] at ob; exact s1.re.nf j b ob
  · by_cases q : j = i <;> by_cases q' : j' = i
    · rw [q, q']
    · simp only [if_pos q] at o1
      simp only [if_neg q'] at o2
      exact absurd o1 (hd.dj j' b o2)
    · simp only [if_pos q'] at o2
      simp only [if_neg q] at o1
      exact absurd o2 (hd.dj j b o1)
    · simp only [if_neg q] at o1
      simp only [if_neg q'] at o2
      exact s1.re.dj j j' b o1 o2
  · rw [List.getElem?_set_ne (Ne.symm (hp p m))]; exact s1.re.pv p m
  · by_cases q : j = i
    · simp only [if_pos q] at ob; exact (hd.fr b ob).imp (fun m => m.2) id
    · simp only [if_neg q] at ob; exact s1.ow b ⟨j, ob⟩
theorem Stp.set_o (s1 : Stp L σ Fz H own e1 Fz1 H1 env1 own1) {i : Nat} {d : Eg.D} {v : V} {T : Ty} (hΓ : L.Γ.getD i .a = T) (hp : ∀ p ∈ L.PV, p.1 ≠ i) (ro : RO L.G Fz1 H1 T d v S) (hd : Hd Fz H own e1 Fz1 own1 S) : ∃ own2, Stp L (σ.set i (some v)) Fz H own true Fz1 H1 (env1.set i d) own2 := by
  by_cases hl : i < env1.length
  case neg =>
    have h1 : env1.set i d = env1 := List.set_eq_of_length_le (by omega)
    have h2 : σ.set i (some v) = σ := List.set_eq_of_length_le (by rw [← s1.re.len]; omega)
    rw [h1, h2]
    exact ⟨own1, s1.mono fun _ => rfl⟩
  exact ⟨_, s1.set_oX hl hΓ hp ro hd⟩
theorem Stp.set_a (s1 : Stp L σ Fz H own e1 Fz1 H1 env1 own1) {i : Nat} {d : Eg.D} {v : V} (hΓ : L.Γ.getD i .a = .a) (hp : ∀ p ∈ L.PV, p.1 ≠ i) (r : RF L.G Fz1 H1 d v) : Stp L (σ.set i (some v)) Fz H own true Fz1 H1 (env1.set i d) own1 :=
  ⟨s1.re.set_a hΓ hp r, s1.fr.mono fun b m => ⟨rfl, m.2⟩, s1.ow⟩
/-- a value whose kind is no list -/
def nol : E → Bool
  | .con (.lst _) => false
  | .con _ => true
  | .tup _ => true
  | _ => false
theorem nol_ev {fc : Nat → List Eg.D → CR} {e : E} (h : nol e = true) {env env' : List Eg.D} {d : Eg.D} (he : ev fc e env = .ok [d] env') : ∀ ds, d ≠ .lst ds := by
  cases e with
  | con d' =>
    simp only [ev, R.ok.injEq] at he
    have := (List.cons.inj he.1).1
    subst this
    intro ds z
    subst z
    simp [nol] at h
  | tup a =>
    simp only [ev, R.bind] at he
    split at he
    · simp only [R.ok.injEq] at he
      intro ds z
      rw [← (List.cons.inj he.1).1] at z
      cases z
    · cases he
    · cases he
  | _ => simp [nol] at h
/-- return e: own kind -/
theorem tS_retE {e : E} (hn : nty L.rt e = r) (q : tS L wf r (.ret e) D σ H) : tRet (tE L e) D σ H := by
  obtain ⟨Fz, env, own, I, h⟩ := q
  simp only [ex, R.out] at h
  refine tE_mk I ?_
  cases ee : ev L.fc e env with
  | no => rw [ee] at h; exact h
  | exc c e1 => rw [ee] at h; exact ResX.ofS (.refl I (e1 := true)) h
  | ok ds e1 =>
    rw [ee] at h
    rcases ds with _ | ⟨d, _ | ⟨d2, ds⟩⟩
    · exact h.elim
    · exact ⟨d, rfl, fun v H' Fz' own' S s1 ro hd => h v σ H' Fz' own' S (s1.mono fun _ => rfl) (hn ▸ ro) (hd.mono fun _ => rfl)⟩
    · exact h.elim
/-- .. held for good -/
theorem tS_retP {e : E} (hb : bor L.Γ e = false) (hr : r = .a) (q : tS L wf r (.ret e) D σ H) : tRet (tP L e) D σ H := by
  obtain ⟨Fz, env, own, I, h⟩ := q
  simp only [ex, R.out] at h
  refine tP_mk I ?_
  cases ee : ev L.fc e env with
  | no => rw [ee] at h; exact h
  | exc c e1 => rw [ee] at h; exact ResX.ofS (.refl I (e1 := true)) h
  | ok ds e1 =>
    rw [ee] at h
    rcases ds with _ | ⟨d, _ | ⟨d2, ds⟩⟩
    · exact h.elim
    · refine ⟨d, rfl, fun v H' Fz' own' s1 rb rf => h v σ H' Fz' own' (fun _ => False) (s1.mono fun _ => rfl) ?_ .none⟩
      subst hr
      exact ⟨rf hb, fun _ => id⟩
    · exact h.elim
/-- .. what is no list -/
theorem tS_retN {e : E} (hb : bor L.Γ e = false) (hr : nol e = true) (q : tS L wf r (.ret e) D σ H) : tRet (tP L e) D σ H := by
  obtain ⟨Fz, env, own, I, h⟩ := q
  simp only [ex, R.out] at h
  refine tP_mk I ?_
  cases ee : ev L.fc e env with
  | no => rw [ee] at h; exact h
  | exc c e1 => rw [ee] at h; exact ResX.ofS (.refl I (e1 := true)) h
  | ok ds e1 =>
    rw [ee] at h
    rcases ds with _ | ⟨d, _ | ⟨d2, ds⟩⟩
    · exact h.elim
    · refine ⟨d, rfl, fun v H' Fz' own' s1 rb rf => h v σ H' Fz' own' (fun _ => False) (s1.mono fun _ => rfl) ?_ .none⟩
      exact .of_any (rf hb) (nol_ev hr ee)
    · exact h.elim
theorem tS_retNone (q : tS L wf r (.ret (.con .non)) D σ H) : tRetN D σ H := by
  obtain ⟨Fz, env, own, I, h⟩ := q
  refine h .non σ H Fz own (fun _ => False) (.refl I) ?_ .none
  exact .of_any (d := .non) rfl fun _ z => by cases z
/-- x = e -/
theorem tS_setO {i : Nat} {e : E} {T : Ty} (hΓ : L.Γ.getD i .a = T) (hp : ∀ p ∈ L.PV, p.1 ≠ i) (hn : nty L.rt e = T) (q : tS L wf r (.set i e) D σ H) : tAsg (tE L e) (gName i) D σ H := by
  obtain ⟨Fz, env, own, I, h⟩ := q
  simp only [ex, R.out] at h
  refine tE_mk I ?_
  cases ee : ev L.fc e env with
  | no => rw [ee] at h; exact h
  | exc c e1 => rw [ee] at h; exact ResX.ofS (.refl I (e1 := true)) h
  | ok ds e1 =>
    rw [ee] at h
    rcases ds with _ | ⟨d, _ | ⟨d2, ds⟩⟩
    · exact h.elim
    · refine ⟨d, rfl, fun v H' Fz' own' S s1 ro hd => ?_⟩
      rw [hn] at ro
      obtain ⟨own2, s2⟩ := s1.set_o hΓ hp ro hd
      exact h _ _ _ _ s2
    · exact h.elim
theorem tS_setP {i : Nat} {e : E} (hb : bor L.Γ e = false) (hp : ∀ p ∈ L.PV, p.1 ≠ i) (hΓ : L.Γ.getD i .a = .a ∨ nol e = true) (q : tS L wf r (.set i e) D σ H) : tAsg (tP L e) (gName i) D σ H := by
  obtain ⟨Fz, env, own, I, h⟩ := q
  simp only [ex, R.out] at h
  refine tP_mk I ?_
  cases ee : ev L.fc e env with
  | no => rw [ee] at h; exact h
  | exc c e1 => rw [ee] at h; exact ResX.ofS (.refl I (e1 := true)) h
  | ok ds e1 =>
    rw [ee] at h
    rcases ds with _ | ⟨d, _ | ⟨d2, ds⟩⟩
    · exact h.elim
    · refine ⟨d, rfl, fun v H' Fz' own' s1 rb rf => ?_⟩
      cases e2 : L.Γ.getD i .a with
      | a => exact h _ _ _ _ (s1.set_a e2 hp (rf hb))
      | o =>
        have hn := hΓ.resolve_left (by rw [e2]; intro z; cases z)
        obtain ⟨own2, s2⟩ := s1.set_o e2 hp (.of_any (rf hb) (nol_ev hn ee)) .none
        exact h _ _ _ _ s2
      | n =>
        have hn := hΓ.resolve_left (by rw [e2]; intro z; cases z)
        obtain ⟨own2, s2⟩ := s1.set_o e2 hp (.of_any (rf hb) (nol_ev hn ee)) .none
        exact h _ _ _ _ s2
    · exact h.elim
/-- an expression for its effects -/
theorem tS_exp {e : E} (q : tS L wf r (.exp e) D σ H) : tDrop (tE L e) D σ H := by
  obtain ⟨Fz, env, own, I, h⟩ := q
  simp only [ex, R.out] at h
  refine tE_mk I ?_
  cases ee : ev L.fc e env with
  | no => rw [ee] at h; exact h
  | exc c e1 => rw [ee] at h; exact ResX.ofS (.refl I (e1 := true)) h
  | ok ds e1 =>
    rw [ee] at h
    rcases ds with _ | ⟨d, _ | ⟨d2, ds⟩⟩
    · exact h.elim
    · exact ⟨d, rfl, fun v H' Fz' own' S s1 ro hd => h σ H' Fz' own' (s1.mono fun _ => rfl)⟩
    · exact h.elim
theorem isU_ne {d : Eg.D} (h : ¬ isU d = true) : d ≠ .unset := by intro z; subst z; exact h rfl
/-- .. with the value in hand -/
theorem sub_go {i : Nat} {k : E} {v : V} {d : Eg.D} {K : L2.St → Hp → Prop} (hΓ : L.Γ.getD i .a = .o) (s1 : Stp L σ Fz H own e1 Fz1 H1 env1 own1) (rf : RF L.G Fz1 H1 d v) (hu : env1.getD i .unset ≠ .unset)
    (h : match ev L.fc k env1 with
      | .ok ds e2 => ∃ j xs n, ds = [.int j] ∧ e2.getD i .unset = .lst xs ∧ L2.ixN xs.length j = some n ∧ ∀ H' Fz' own', Stp L σ Fz H own true Fz' H' (e2.set i (.lst (xs.set n d))) own' → K σ H'
      | .exc c e2 => ResX L σ Fz1 H1 own1 e2 c
      | .no => False) : gSub (tVar i) (tP L k) rSetL v σ H1 K := by
  obtain ⟨u, e0, r0⟩ := s1.re.val i hu
  refine ⟨u, e0, tP_mk s1.re ?_⟩
  cases ek : ev L.fc k env1 with
  | no => rw [ek] at h; exact h
  | exc c e2 => rw [ek] at h; exact h
  | ok ds e2 =>
    rw [ek] at h
    obtain ⟨j, ls, n, rfl, h1, h2, h3⟩ := h
    refine ⟨_, rfl, fun w H2 Fz2 own2 s2 rb rf2 => ?_⟩
    obtain ⟨a, xs, q1, q2, q3, q4⟩ := s2.re.upd h1 hΓ
    rw [e0] at q1
    cases q1
    refine ⟨a, xs, j, n, rfl, rb, q2, by rw [q3.length]; exact h2, ?_⟩
    have s3 := q4 (ls.set n d) (xs.set n v) (RFs.set (RF.le (s2.fr.le (MM.nf s1.re)) d rf) n q3)
    exact h3 _ _ _ ((s1.seq s2).seq s3)
/-- x[k] = e -/
theorem tS_sub {i : Nat} {k e : E} (hb : bor L.Γ e = false) (hΓ : L.Γ.getD i .a = .o) (q : tS L wf r (.sub i k e) D σ H) : tAsg (tP L e) (gSub (tVar i) (tP L k) rSetL) D σ H := by
  obtain ⟨Fz, env, own, I, h⟩ := q
  simp only [ex, R.out] at h
  refine tP_mk I ?_
  cases ee : ev L.fc e env with
  | no => rw [ee] at h; exact h
  | exc c e1 => rw [ee] at h; exact ResX.ofS (.refl I (e1 := true)) h
  | ok ds e1 =>
    rw [ee] at h
    rcases ds with _ | ⟨d, _ | ⟨d2, ds⟩⟩
    · exact h.elim
    · refine ⟨d, rfl, fun v H1 Fz1 own1 s1 rb rf => ?_⟩
      simp only at h
      split at h
      · exact h.elim
      · rename_i hu
        refine sub_go hΓ s1 (rf hb) (isU_ne hu) ?_
        cases ek : ev L.fc k e1 with
        | no => rw [ek] at h; exact h
        | exc c e2 => rw [ek] at h; exact ResX.ofS s1 h
        | ok ks e2 =>
          rw [ek] at h
          simp only at h
          split at h
          · rename_i j xs hx
            split at h
            · rename_i n hn
              exact ⟨j, xs, n, rfl, hx, hn, fun H' Fz' own' s => h σ H' Fz' own' s⟩
            · exact h.elim
          · exact h.elim
    · exact h.elim
/-- x.append(e) -/
theorem tS_app {i : Nat} {e : E} (hb : bor L.Γ e = false) (hΓ : L.Γ.getD i .a = .o) (q : tS L wf r (.app i e) D σ H) : tDrop (tBM L.G.K "list" rAppend (tVar i) (tCons (tP L e) tNil)) D σ H := by
  obtain ⟨Fz, env, own, I, h⟩ := q
  simp only [ex, R.out] at h
  split at h
  · rename_i ds0 h0
    obtain ⟨a, xs, q1, q2, q3, q4⟩ := I.upd h0 hΓ
    refine ⟨_, q1, .inl ⟨rfl, _, .inl (.inl q2)⟩, tP_mk I ?_⟩
    cases ee : ev L.fc e env with
    | no => rw [ee] at h; exact h
    | exc c e1 => rw [ee] at h; exact ResX.ofS (.refl I (e1 := true)) h
    | ok ds e1 =>
      rw [ee] at h
      simp only at h
      split at h
      · rename_i d xs1 h1
        split at h
        · rename_i hlt
          refine ⟨d, rfl, fun v H1 Fz1 own1 s1 rb rf => ?_⟩
          obtain ⟨a', ys, p1, p2, p3, p4⟩ := s1.re.upd h1 hΓ
          rw [q1] at p1
          cases p1
          refine ⟨a, ys, v, rfl, rfl, p2, by rw [p3.length, sizeLine_eq]; exact hlt, ?_⟩
          have s2 := p4 (xs1 ++ [d]) (ys ++ [v]) (p3.append ⟨v, [], rfl, rf hb, rfl⟩)
          exact h _ _ _ _ (s1.seq s2)
        · exact h.elim
      · exact h.elim
  · exact h.elim
/-- x.reverse() -/
theorem tS_rev {i : Nat} (hΓ : L.Γ.getD i .a = .o) (q : tS L wf r (.rev i) D σ H) : tDrop (tBM0 L.G.K "list" rReverse (tVar i)) D σ H := by
  obtain ⟨Fz, env, own, I, h⟩ := q
  simp only [ex] at h
  cases h0 : env.getD i .unset with
  | lst ds0 =>
    rw [h0] at h
    obtain ⟨a, xs, q1, q2, q3, q4⟩ := I.upd h0 hΓ
    refine ⟨_, q1, .inl ⟨rfl, _, .inl (.inl q2)⟩, a, xs, rfl, rfl, q2, ?_⟩
    exact h _ _ _ _ (q4 _ _ q3.reverse)
  | _ => rw [h0] at h; exact h.elim
/-- x.extend(e) -/
theorem tS_ext {i : Nat} {e : E} (hΓ : L.Γ.getD i .a = .o) (q : tS L wf r (.ext i e) D σ H) : tDrop (tBM L.G.K "list" rExtend (tVar i) (tCons (tP L e) tNil)) D σ H := by
  obtain ⟨Fz, env, own, I, h⟩ := q
  simp only [ex, R.out] at h
  split at h
  · rename_i ds0 h0
    obtain ⟨a, xs, q1, q2, q3, q4⟩ := I.upd h0 hΓ
    refine ⟨_, q1, .inl ⟨rfl, _, .inl (.inl q2)⟩, tP_mk I ?_⟩
    cases ee : ev L.fc e env with
    | no => rw [ee] at h; exact h
    | exc c e1 => rw [ee] at h; exact ResX.ofS (.refl I (e1 := true)) h
    | ok ds e1 =>
      rw [ee] at h
      simp only at h
      split at h
      · rename_i ys1 xs1 h1
        split at h
        · rename_i hlt
          refine ⟨.lst ys1, rfl, fun v H1 Fz1 own1 s1 rb rf => ?_⟩
          obtain ⟨a', ys, p1, p2, p3, p4⟩ := s1.re.upd h1 hΓ
          rw [q1] at p1
          cases p1
          obtain ⟨b, zs, rfl, hz, rz⟩ := rb
          refine ⟨a, b, ys, zs, rfl, rfl, p2, hz, by rw [p3.length, rz.length, sizeLine_eq]; omega, ?_⟩
          have s2 := p4 (xs1 ++ ys1) (ys ++ zs) (p3.append rz)
          exact h _ _ _ _ (s1.seq s2)
        · exact h.elim
      · exact h.elim
  · exact h.elim
/-- x += e, x -= e -/
def augF : BI → Option (Int → Int → Int)
  | .add => some fun a b => a + b
  | .sub => some fun a b => a - b
  | _ => none
/-- x[k] op= e, k from 0 on -/
def rIdx0 : V → V → Hp → VK → Prop := fun o i H Q => ∃ p xs j v, o = .ref p ∧ i = .int j ∧ H p = some (.lst xs) ∧ 0 ≤ j ∧ L2.atI xs j = some v ∧ Q v H
theorem pg_idx0 {X : Cx} : PGet X rIdx0 := by
  intro pins s σ H o i ov iv Q I ro ri h
  obtain ⟨p, xs, j, z, rfl, rfl, hp, h0, he, q⟩ := h
  cases ro
  obtain ⟨t, rfl⟩ := ri
  obtain ⟨its, n, r, ho, hz⟩ := I.lst hp
  obtain ⟨k, h1, h2, h3, h4, h5⟩ := atI_get he
  obtain ⟨w, ew, rw'⟩ := r.get h2
  have hl := r.length
  have hn := line63
  have hj : j.toNat = k := by
    rw [seqIndex_of h0 h5] at h1
    exact Option.some.inj h1
  have hh : s.heap.IsList p its.toArray := ⟨_, ho, rfl, n, rfl⟩
  exact wpAny_getItem_list hh h0 (by omega) (by rw [hj]; simpa using ew) ⟨z, H, I, rw', q⟩
theorem tS_augs {i : Nat} {k e : E} {o : BI} {f : Int → Int → Int} (hf : augF o = some f) (hb : bor L.Γ k = false) (hΓ : L.Γ.getD i .a = .o) (q : tS L wf r (.augs i k o e) D σ H) : tAugS (tVar i) (tP L k) (tP L e) rIdx0 (ipI f) rSetL D σ H := by
  obtain ⟨Fz, env, own, I, h⟩ := q
  simp only [ex] at h
  split at h
  · exact h.elim
  rename_i hu
  obtain ⟨u, e0, r0⟩ := I.val i (isU_ne hu)
  refine ⟨u, e0, tP_mk I ?_⟩
  simp only [R.out] at h
  cases ek : ev L.fc k env with
  | no => rw [ek] at h; exact h
  | exc c e1 => rw [ek] at h; exact ResX.ofS (.refl I (e1 := true)) h
  | ok ds e1 =>
    rw [ek] at h
    simp only at h
    split at h
    · rename_i j xs1 h1
      split at h
      · rename_i a0 ha
        split at h
        case isFalse => exact h.elim
        rename_i hj0
        refine ⟨_, rfl, fun v H1 Fz1 own1 s1 rb rf => ?_⟩
        obtain ⟨ad, ys, p1, p2, p3, p4⟩ := s1.re.upd h1 hΓ
        rw [e0] at p1
        cases p1
        obtain ⟨w, ew, rw'⟩ := atI_rf p3 ha
        refine ⟨ad, ys, j, w, rfl, rb, p2, hj0, ew, ?_⟩
        refine tP_mk s1.re ?_
        cases ee : ev L.fc e e1 with
        | no => rw [ee] at h; exact h
        | exc c e2 => rw [ee] at h; exact ResX.ofS s1 h
        | ok es e2 =>
          rw [ee] at h
          simp only at h
          split at h
          · rename_i b0 zs h2
            split at h
            · rename_i n hn
              refine ⟨_, rfl, fun v2 H2 Fz2 own2 s2 rb2 rf2 => ?_⟩
              obtain ⟨ad2, ys2, k1, k2, k3, k4⟩ := s2.re.upd h2 hΓ
              rw [e0] at k1
              cases k1
              have fe : f = fun a b => a + b := by simpa [augF] using hf.symm
              subst fe
              refine ⟨a0, b0, rw', rb2, ad, ys2, j, n, rfl, rb, k2, by rw [k3.length]; exact hn, ?_⟩
              have s3 := k4 (zs.set n (.int (a0 + b0))) (ys2.set n (.int (a0 + b0))) (RFs.set (d := .int (a0 + b0)) (v := .int (a0 + b0)) rfl n k3)
              exact h _ _ _ _ ((s1.seq s2).seq s3)
            · rename_i n hn
              refine ⟨_, rfl, fun v2 H2 Fz2 own2 s2 rb2 rf2 => ?_⟩
              obtain ⟨ad2, ys2, k1, k2, k3, k4⟩ := s2.re.upd h2 hΓ
              rw [e0] at k1
              cases k1
              have fe : f = fun a b => a - b := by simpa [augF] using hf.symm
              subst fe
              refine ⟨a0, b0, rw', rb2, ad, ys2, j, n, rfl, rb, k2, by rw [k3.length]; exact hn, ?_⟩
              have s3 := k4 (zs.set n (.int (a0 - b0))) (ys2.set n (.int (a0 - b0))) (RFs.set (d := .int (a0 - b0)) (v := .int (a0 - b0)) rfl n k3)
              exact h _ _ _ _ ((s1.seq s2).seq s3)
            · exact h.elim
          · exact h.elim
      · exact h.elim
    · exact h.elim
theorem tS_aug {i : Nat} {o : BI} {e : E} {f : Int → Int → Int} (hf : augF o = some f) (hp : ∀ p ∈ L.PV, p.1 ≠ i) (q : tS L wf r (.aug i o e) D σ H) : tAug i (tP L e) (ipI f) D σ H := by
  obtain ⟨Fz, env, own, I, h⟩ := q
  simp only [ex, R.out] at h
  split at h
  · rename_i j h0
    obtain ⟨v, q1, ro⟩ := I.val i (by rw [h0]; intro z; cases z)
    rw [h0] at ro
    obtain ⟨rfl, _⟩ := ro.int
    refine ⟨_, q1, tP_mk I ?_⟩
    cases ee : ev L.fc e env with
    | no => rw [ee] at h; exact h
    | exc c e1 => rw [ee] at h; exact ResX.ofS (.refl I (e1 := true)) h
    | ok ds e1 =>
      rw [ee] at h
      simp only at h
      split at h
      · rename_i y
        refine ⟨.int y, rfl, fun v H1 Fz1 own1 s1 rb rf => ⟨j, y, rfl, rb, ?_⟩⟩
        have fin : ∀ z, EndO L r D Fz H own (.nx (e1.set i (.int z))) → D.nx (σ.set i (some (.int z))) H1 := fun z hz => by
          cases e2 : L.Γ.getD i .a with
          | a => exact hz _ _ _ _ (s1.set_a e2 hp rfl)
          | o =>
            obtain ⟨own2, s2⟩ := s1.set_o (d := .int z) (v := .int z) e2 hp (.of_any (d := .int z) rfl fun _ z => by cases z) .none
            exact hz _ _ _ _ s2
          | n =>
            obtain ⟨own2, s2⟩ := s1.set_o (d := .int z) (v := .int z) e2 hp (.of_any (d := .int z) rfl fun _ z => by cases z) .none
            exact hz _ _ _ _ s2
        cases o <;> simp only [augF] at hf <;> first | (cases hf; done) | skip
        · cases hf; exact fin _ h
        · cases hf; exact fin _ h
      · exact h.elim
  · exact h.elim
/-! ### rows of targets -/
def tLenT : T → Nat
  | .cons _ b => tLenT b + 1
  | _ => 0
mutual
def gT (L : Lx) : T → TG
  | .nm i => gName i
  | .sub i k => gSub (tVar i) (tP L k) rSetL
  | .tp t => gTL L.G.K (tLenT t) (gTs L t)
  | .nil => fun _ _ _ _ => False
  | .cons _ _ => fun _ _ _ _ => False
def gTs (L : Lx) : T → TGs
  | .nil => gNil
  | .cons a b => gCons (gT L a) (gTs L b)
  | .nm _ => fun _ _ _ _ => False
  | .sub _ _ => fun _ _ _ _ => False
  | .tp _ => fun _ _ _ _ => False
end
def GTOk (L : Lx) (t : T) (g : TG) : Prop := ∀ v σ H Fz env own d env' (K : L2.St → Hp → Prop), RE L.G L.Γ L.PV Fz H env σ own → RF L.G Fz H d v → asg L.fc t [d] env = some env' →
  (∀ σ' H' Fz' own', Stp L σ' Fz H own true Fz' H' env' own' → K σ' H') → g v σ H K
def GTsOk (L : Lx) (t : T) (g : TGs) : Prop := ∀ xs σ H Fz env own ds env' (K : L2.St → Hp → Prop), RE L.G L.Γ L.PV Fz H env σ own → RFs L.G Fz H ds xs → asg L.fc t ds env = some env' →
  (∀ σ' H' Fz' own', Stp L σ' Fz H own true Fz' H' env' own' → K σ' H') → g xs σ H K
theorem gT_nm {i : Nat} (h : L.Γ.getD i .a = .a) (hp : ∀ p ∈ L.PV, p.1 ≠ i) : GTOk L (.nm i) (gName i) := fun v σ H Fz env own d env' K I r e k => by
  simp only [asg, Option.some.injEq] at e
  subst e
  exact k _ _ _ _ ((Stp.refl I (e1 := true)).set_a h hp r)
theorem gT_sub {i : Nat} {k : E} (h : L.Γ.getD i .a = .o) : GTOk L (.sub i k) (gSub (tVar i) (tP L k) rSetL) := fun v σ H Fz env own d env' K I r e kk => by
  simp only [asg] at e
  split at e
  · cases e
  · rename_i hu
    refine sub_go h (Stp.refl I (e1 := true)) r (isU_ne hu) ?_
    split at e
    · rename_i j e2 ek
      rw [ek]
      split at e
      · rename_i xs hx
        split at e
        · rename_i n hn
          cases e
          exact ⟨j, xs, n, rfl, hx, hn, fun H' Fz' own' s => kk _ _ _ _ s⟩
        · cases e
      · cases e
    · cases e
theorem gT_nil : GTsOk L .nil gNil := fun xs σ H Fz env own ds env' K I r e k => by
  cases ds with
  | nil =>
    simp only [asg, Option.some.injEq] at e
    subst e
    exact ⟨r, k _ _ _ _ (.refl I)⟩
  | cons _ _ => simp [asg] at e
theorem gT_cons {a b : T} {g : TG} {gs : TGs} (h1 : GTOk L a g) (h2 : GTsOk L b gs) : GTsOk L (.cons a b) (gCons g gs) := fun xs σ H Fz env own ds env' K I r e k => by
  cases ds with
  | nil => simp [asg] at e
  | cons d ds =>
    simp only [asg] at e
    split at e
    · rename_i e1 q
      obtain ⟨v, rr, ex, r1, r2⟩ := r
      refine ⟨v, rr, ex, h1 v σ H Fz env own d e1 _ I r1 q fun σ' H' Fz' own' s1 => ?_⟩
      exact h2 rr σ' H' Fz' e1 own' ds env' K s1.re (RFs.le (s1.fr.le (MM.nf I)) ds r2) e fun σ2 H2 Fz2 own2 s2 => k _ _ _ _ (s1.seq s2)
    · cases e
theorem gT_tup {t : T} {gs : TGs} {n : Nat} {K : PySem.W.Frag} (hK : K = L.G.K) (hn : ∀ ds env env', asg L.fc t ds env = some env' → ds.length = n) (h : GTsOk L t gs) : GTOk L (.tp t) (gTL K n gs) := fun v σ H Fz env own d env' K I r e k => by
  simp only [asg] at e
  split at e
  · rename_i ds hi
    obtain ⟨a, xs, ev, q, rr⟩ := rf_items r hi
    rw [← hK] at q
    exact q.imp (fun q => ⟨a, xs, ev, q, by rw [rr.length]; exact hn _ _ _ e, h xs σ H Fz env own ds env' K I rr e k⟩) fun q => ⟨a, xs, ev, q, by rw [rr.length]; exact hn _ _ _ e, h xs σ H Fz env own ds env' K I rr e k⟩
  · cases e
/-- a row of targets = e -/
theorem tS_unp {t : T} {e : E} (hb : bor L.Γ e = false) (hg : GTOk L t (gT L t)) (q : tS L wf r (.unp t e) D σ H) : tAsg (tP L e) (gT L t) D σ H := by
  obtain ⟨Fz, env, own, I, h⟩ := q
  simp only [ex, R.out] at h
  refine tP_mk I ?_
  cases ee : ev L.fc e env with
  | no => rw [ee] at h; exact h
  | exc c e1 => rw [ee] at h; exact ResX.ofS (.refl I (e1 := true)) h
  | ok ds e1 =>
    rw [ee] at h
    rcases ds with _ | ⟨d, _ | ⟨d2, ds⟩⟩
    · exact h.elim
    · refine ⟨d, rfl, fun v H1 Fz1 own1 s1 rb rf => ?_⟩
      simp only at h
      cases ea : asg L.fc t [d] e1 with
      | none => rw [ea] at h; exact h.elim
      | some e2 =>
        rw [ea] at h
        exact hg v σ H1 Fz1 e1 own1 d e2 _ s1.re (rf hb) ea fun σ' H' Fz' own' s2 => h _ _ _ _ (s1.seq s2)
    · exact h.elim
end
end Eg

end
section
set_option maxHeartbeats 8000000
namespace Eg
open PySem PySem.Spec PyProof.Rows L2
/-! ### the text of statements against their form -/
structure Cs (L : Lx) (U : Fx) (N : List Str) (k : Nat) (sc : Scope) (GL : Str → D → Bool) (xn : Nat → Str) (xd : Nat → Bool) (X : Cx) : Prop where
  C : Ct L U N k sc GL X
  hsc : X.env.scope = sc
  kf : sc.kind = .function
  po : PassesOwn (model X.prog X.w) X.A X.env X.xe
  stk : X.stack = X.env :: X.outer
  frm : X.env.frame = some X.env.locals
  noA : L.hot = false → ∀ c v, ¬ L.G.XA c v
  cls : L.hot = false → xd 0 = true → ∀ c, excOk c = true → ∃ D : Addr, L.G.xv c = .ref D ∧ ExcC X.K D
  root : L.hot = false → xd 0 = true → gl sc (xn 0) = true → ∃ cv, Names X (xn 0) cv ∧ ∀ c, excOk c = true → PySem.W.exmOne X.K (L.G.xv c) cv = some true
  xty : L.hot = false → xd 0 = true → ∀ x k, U.xq x k = true → gl sc x = true → ∃ (C : V) (cv : Value), (∀ u, RelV C u → u = cv) ∧ (∀ (a : Addr) (pn : List (Addr × Obj)) (p : Pos), PE (X.suite a pn) (.Name x p) (tC C)) ∧ ∀ c, excOk c = true → ∀ D, L.G.xv c = .ref D → PySem.W.kitOne X.K (.ref D) cv = some (subX c k)
  rz : ∀ c m j p p2 pos, L.hot = false → xd c = true → gl sc (xn c) = true → ∀ pn xe, L2N.PMk (X.tr pn xe) (.Call (.Name (xn c) p) [.Constant (.str m) j p2] [] pos) (fun _ H Q => Q (L.G.xv c) none H)
structure CkS extends CkP where
  ret : Ty
  xn : Nat → Str
  xd : Nat → Bool
  held : List Nat
def noLc : Expr → Bool
  | .ListComp _ _ _ _ => false
  | .SetComp _ _ _ _ => false
  | .DictComp _ _ _ _ _ => false
  | _ => true
def noTup : Expr → Bool
  | .Tuple _ _ _ => false
  | _ => true
def isCall : Expr → Bool
  | .Call _ _ _ _ => true
  | _ => false
def isSeq : S → Bool
  | .seq _ _ => true
  | _ => false
def locOf (sc : Scope) (x : Str) : Bool := decide (sc.names.lookup x = some .local)
/-- the rule of a list comprehension stored at once -/
def swB (sc : Scope) (y : Str) (py : Pos) (scope : Scope) (pos : Pos) : Bool := locOf sc y && (py.line == pos.line) && !(scope.names.any fun (n, k) => n == y && (k == .local || k == .cell))
theorem sw_eq {elt : Expr} {gs : List Comprehension} {scope : Scope} {pos py : Pos} {y : Str} {l : Nat} {env : Env} (hk : env.scope.kind = .function) : swapsWith (.ListComp elt gs scope pos) (some (.Name y py)) l env = pure (swB env.scope y py scope pos) := by
  have hb : env.blockKind = .function := by unfold Env.blockKind; rw [hk]; rfl
  unfold swapsWith
  simp only [hb]
  unfold swB locOf
  show pure _ = pure _
  congr 1
  have : (env.kindOf y == some .local) = decide (env.scope.names.lookup y = some .local) := by
    unfold Env.kindOf
    cases h : env.scope.names.lookup y with
    | none => rfl
    | some k => cases k <;> rfl
  rw [this]
  simp [Expr.pos]
theorem sw_other {e : Expr} {t : Option Expr} {l : Nat} {env : Env} (h : noLc e = true) : swapsWith e t l env = pure false := by
  cases e <;> first | rfl | simp [noLc] at h
theorem sw_tg {e : Expr} {t : Expr} {l : Nat} {env : Env} (h : ∀ x p, t ≠ .Name x p) : swapsWith e (some t) l env = pure false := by
  cases e <;> first | rfl | (cases t <;> first | rfl | exact absurd rfl (h _ _))
theorem sw_none_val {ts : List Expr} {v : Expr} {env : Env} (h : noTup v = true) : swappedStores ts v env = pure none := by
  unfold swappedStores
  cases v <;> first | (simp [noTup] at h; done) | skip
  all_goals (rcases ts with _ | ⟨t, _ | ⟨_, _⟩⟩ <;> first | rfl | (cases t <;> rfl))
theorem sw_none_tg {t v : Expr} {env : Env} (h : ∀ ts k p, t ≠ .Tuple ts k p) (h2 : ∀ ts p, t ≠ .List ts p) : swappedStores [t] v env = pure none := by
  unfold swappedStores
  cases t <;> first | rfl | exact absurd rfl (h _ _ _) | exact absurd rfl (h2 _ _)
def plainN (env : Env) (line : Nat) : Expr → Bool
  | .Name id pos => env.kindOf id == some .local && pos.line == line
  | _ => false
theorem fm_lt {α β : Type} {f : α → Option β} : ∀ {l : List α}, (∃ a ∈ l, f a = none) → (l.filterMap f).length < l.length
  | [], ⟨a, m, _⟩ => by cases m
  | x :: r, ⟨a, m, e⟩ => by
    rcases List.mem_cons.mp m with q | q
    · subst q
      rw [List.filterMap_cons_none e, List.length_cons]
      exact Nat.lt_succ_of_le (List.length_filterMap_le _ _)
    · have := fm_lt (f := f) (l := r) ⟨a, q, e⟩
      rw [List.filterMap_cons]
      split
      · rw [List.length_cons]; omega
      · rw [List.length_cons, List.length_cons]; omega
theorem sw_none_mix {ts vs : List Expr} {k k2 : Nat} {p p2 : Pos} {env : Env} (ht : ∃ t ∈ ts, ∀ line, plainN env line t = false) : swappedStores [.Tuple ts k p] (.Tuple vs k2 p2) env = pure none := by
  unfold swappedStores
  simp only [pure_bind]
  split
  · rfl
  · split
    · rfl
    · rw [if_pos]
      rw [Bool.or_eq_true]
      left
      obtain ⟨t, m, ht⟩ := ht
      rw [bne_iff_ne]
      refine Nat.ne_of_lt (fm_lt ⟨t, m, ?_⟩)
      cases t <;> first | rfl | skip
      rename_i id pos
      have := ht ((ts.head?.map fun x => x.pos.line).getD 0)
      simp only [plainN] at this
      simp only [this]
      rfl
theorem sw_some2 {x y : Str} {px py p p2 : Pos} {a b : Expr} {k k2 : Nat} {env : Env} (hk : env.scope.kind = .function) (hx : env.scope.names.lookup x = some .local) (hy : env.scope.names.lookup y = some .local) (hl : (py.line == px.line) = true) (hne : x ≠ y)
    (ha : noStar a = true) (hb : noStar b = true) (hf : [a, b].all (foldedForSure 8) = false) (hc : [a, b].all (constantsAlone 8) = false) : swappedStores [.Tuple [.Name x px, .Name y py] k p] (.Tuple [a, b] k2 p2) env = pure (some [x, y]) := by
  have hb' : env.blockKind = .function := by unfold Env.blockKind; rw [hk]; rfl
  have kx : env.kindOf x = some .local := hx
  have ky : env.kindOf y = some .local := hy
  have sa : ∀ {e : Expr}, noStar e = true → (match e with | .Starred _ _ => true | _ => false) = false := fun {e} h => by cases e <;> first | rfl | simp [noStar] at h
  have hl' : py.line = px.line := by simpa using hl
  have hne' : (y == x) = false := by simpa using Ne.symm hne
  unfold swappedStores
  simp only [pure_bind]
  rw [if_neg (by simp [hb'])]
  rw [if_neg (by simp only [List.any_cons, List.any_nil]; cases a <;> first | (simp [noStar] at ha; done) | skip; all_goals (cases b <;> first | (simp [noStar] at hb; done) | simp))]
  simp only [List.filterMap_cons, List.filterMap_nil, kx, ky, hl', List.head?_cons, Option.map_some, Option.getD_some, Expr.pos]
  simp [hf, hc, List.eraseDups_cons, hne']
/-- three names from the right -/
theorem sw_some3 {x y z : Str} {px py pz p p2 : Pos} {a b c : Expr} {k k2 : Nat} {env : Env} (hk : env.scope.kind = .function) (hx : env.scope.names.lookup x = some .local) (hy : env.scope.names.lookup y = some .local) (hz : env.scope.names.lookup z = some .local)
    (hl : (py.line == px.line) = true) (hl2 : (pz.line == px.line) = true) (h12 : x ≠ y) (h13 : x ≠ z) (h23 : y ≠ z) (ha : noStar a = true) (hb : noStar b = true) (hc : noStar c = true) (hf : [a, b, c].all (foldedForSure 8) = false) (hcn : [a, b, c].all (constantsAlone 8) = false) :
    swappedStores [.Tuple [.Name x px, .Name y py, .Name z pz] k p] (.Tuple [a, b, c] k2 p2) env = pure (some [x, y, z]) := by
  have eb : env.blockKind = .function := by unfold Env.blockKind; rw [hk]; rfl
  have kx : env.kindOf x = some .local := hx
  have ky : env.kindOf y = some .local := hy
  have kz : env.kindOf z = some .local := hz
  have e1 : py.line = px.line := by simpa using hl
  have e2 : pz.line = px.line := by simpa using hl2
  have n1 : (y == x) = false := by simpa using Ne.symm h12
  have n2 : (z == x) = false := by simpa using Ne.symm h13
  have n3 : (z == y) = false := by simpa using Ne.symm h23
  unfold swappedStores
  simp only [pure_bind]
  rw [if_neg (by simp [eb])]
  rw [if_neg (by
    simp only [List.any_cons, List.any_nil, Bool.or_false, Bool.or_eq_true, not_or]
    refine ⟨fun h => ?_, fun h => ?_, fun h => ?_⟩
    · cases a <;> first | (cases h; done) | (simp [noStar] at ha; done)
    · cases b <;> first | (cases h; done) | (simp [noStar] at hb; done)
    · cases c <;> first | (cases h; done) | (simp [noStar] at hc; done))]
  simp only [List.filterMap_cons, List.filterMap_nil, kx, ky, kz, e1, e2, List.head?_cons, Option.map_some, Option.getD_some, Expr.pos]
  simp [hf, hcn, List.eraseDups_cons, n1, n2, n3]
end Eg

end
section
set_option maxHeartbeats 8000000
namespace Eg
open PySem PySem.Spec PyProof.Rows L2
def augO : BI → Operator → Bool
  | .add, .Add => true
  | .sub, .Sub => true
  | _, _ => false
def okLc : Expr → Bool
  | .SetComp _ _ _ _ => false
  | .DictComp _ _ _ _ _ => false
  | _ => true
/-- a row of targets -/
def ckT (P : CkP) (sc : Scope) : Bool → T → List Expr → Bool
  | false, .nm i, [.Name x _] => decide (P.N[i]? = some x) && sto sc x && decide (P.Γ.getD i .a = .a) && !P.pins.contains i
  | false, .sub i k, [.Subscript (.Name x _) idx _] => decide (P.N[i]? = some x) && nmOk sc x && decide (P.Γ.getD i .a = .o) && plainI idx && isV k && ck P sc k [idx]
  | false, .tp t, [.Tuple es _ _] => ckT P sc true t es
  | true, .nil, [] => true
  | true, .cons a b, e :: es => noStar e && ckT P sc false a [e] && ckT P sc true b es
  | _, _, _ => false
/-- no plain local name -/
def notLoc (sc : Scope) : Expr → Bool
  | .Name x _ => !locOf sc x
  | _ => true
/-- how a row is stored: at once (no), one after another, two names from the right -/
def parOk (P : CkP) (sc : Scope) (t : T) (e : E) (ts : List Expr) (v : Expr) : Bool := match v with
  | .Tuple vs _ _ => ts.any (notLoc sc) || (match t, e, ts, vs with
    | .tp (.cons (.nm i) (.cons (.nm j) .nil)), .tup (.cons _ (.cons _ .nil)), [.Name x px, .Name y py], [a, b] => decide (i ≠ j) && locOf sc x && locOf sc y && (py.line == px.line) && decide (x ≠ y) && noStar a && noStar b && !([a, b].all (foldedForSure 8)) && !([a, b].all (constantsAlone 8))
    | .tp (.cons (.nm i) (.cons (.nm j) (.cons (.nm l) .nil))), .tup (.cons _ (.cons _ (.cons _ .nil))), [.Name x px, .Name y py, .Name z pz], [a, b, c] => decide (i ≠ j) && decide (i ≠ l) && decide (j ≠ l) && locOf sc x && locOf sc y && locOf sc z && (py.line == px.line) && (pz.line == px.line) && decide (x ≠ y) && decide (x ≠ z) && decide (y ≠ z) && noStar a && noStar b && noStar c && !([a, b, c].all (foldedForSure 8)) && !([a, b, c].all (constantsAlone 8))
    | _, _, _, _ => false)
  | _ => true
def ckS (P : CkS) (sc : Scope) : S → List Stmt → Bool
  | .skip, [] => true
  | .skip, [.Pass _] => true
  | .skip, [.Expr (.Constant (.str _) _ _) _] => true
  | .rev i, [.Expr (.Call (.Attribute (.Name x _) m ap) [] [] cp) _] => decide (m = "reverse") && (ap.endLine == cp.line) && decide (P.N[i]? = some x) && nmOk sc x && decide (P.Γ.getD i .a = .o)
  | .augs i k o e, [.AugAssign (.Subscript (.Name x _) idx _) op v _] => !P.hot && decide (P.N[i]? = some x) && nmOk sc x && decide (P.Γ.getD i .a = .o) && plainI idx && isV k && !bor P.Γ k && ck P.toCkP sc k [idx] && augO o op && isV e && ck P.toCkP sc e [v]
  | .seq a b, st :: rest => !isSeq a && ckS P sc a [st] && ckS P sc b rest
  | .ret e, [.Return (some x) _] => isV e && !bor P.Γ e && ck P.toCkP sc e [x] && (decide (nty P.rt e = P.ret) || decide (P.ret = .a) || nol e)
  | .ret (.con .non), [.Return none _] => true
  | .set i e, [.Assign [.Name x p] v q] => decide (P.N[i]? = some x) && sto sc x && !P.pins.contains i && isV e && !bor P.Γ e && ck P.toCkP sc e [v] && okLc v && (decide (P.Γ.getD i .a = .a) || nol e || decide (nty P.rt e = P.Γ.getD i .a))
  | .sub i k e, [.Assign [.Subscript (.Name x _) idx _] v _] => decide (P.N[i]? = some x) && nmOk sc x && decide (P.Γ.getD i .a = .o) && plainI idx && isV k && ck P.toCkP sc k [idx] && isV e && !bor P.Γ e && ck P.toCkP sc e [v]
  | .unp t e, [.Assign [.Tuple ts u p] v _] => !P.hot && ckT P.toCkP sc false t [.Tuple ts u p] && isV e && !bor P.Γ e && ck P.toCkP sc e [v] && parOk P.toCkP sc t e ts v
  | .aug i o e, [.AugAssign (.Name x _) op v _] => decide (P.N[i]? = some x) && sto sc x && !P.pins.contains i && augO o op && isV e && ck P.toCkP sc e [v]
  | .app i e, [.Expr (.Call (.Attribute (.Name x _) m ap) [v] [] cp) _] => decide (m = "append") && (ap.endLine == cp.line) && decide (P.N[i]? = some x) && nmOk sc x && decide (P.Γ.getD i .a = .o) && noStar v && isV e && !bor P.Γ e && ck P.toCkP sc e [v]
  | .ext i e, [.Expr (.Call (.Attribute (.Name x _) m ap) [v] [] cp) _] => decide (m = "extend") && (ap.endLine == cp.line) && decide (P.N[i]? = some x) && nmOk sc x && decide (P.Γ.getD i .a = .o) && noStar v && isV e && ck P.toCkP sc e [v]
  | .exp e, [.Expr v _] => isV e && !bor P.Γ e && noLc v && ck P.toCkP sc e [v]
  | .ifs c a b, [.If x s1 s2 _] => isV c && ck.tstOk x && ck P.toCkP sc c [x] && ckS P sc a s1 && ckS P sc b s2
  | .whl c b, [.While x body [] _] => isV c && ck.tstOk x && ck P.toCkP sc c [x] && ckS P sc b body
  | .for_ t it b, [.For tg iter body [] _] => !P.hot && !kpI P.Γ it && noSet iter && itOk it tg && ck P.toCkP sc it [iter] && ckTN P.Γ P.pins sc P.N false t [tg] && ckS P sc b body
  | .brk, [.Break _] => true
  | .cont, [.Continue _] => true
  | .tryX b i s, [.Try body [.ExceptHandler (some (.Name x _)) (some n) (s0 :: sr) _] [] [] _] => !P.hot && decide (P.N[i]? = some n) && locOf sc n && decide (P.Γ.getD i .a = .a) && !P.pins.contains i && P.xd 0 && gl sc x && decide (x = P.xn 0) && ckS P sc b body && ckS { P with hot := true } sc s (s0 :: sr)
  | .rais c, [.Raise (some (.Call (.Name x _) [.Constant (.str _) _ _] [] _)) none _] => !P.hot && P.xd c && gl sc x && decide (x = P.xn c)
  | .bad, [_] => true
  | .extN i e, [.Expr (.Call (.Attribute (.Name x _) m ap) [v] [] cp) _] => decide (m = "extend") && (ap.endLine == cp.line) && decide (P.N[i]? = some x) && nmOk sc x && decide (P.Γ.getD i .a = .n) && noStar v && isV e && !bor P.Γ e && decide (nty P.rt e = .n) && ck P.toCkP sc e [v]
  | .appN i e, [.Expr (.Call (.Attribute (.Name x _) m ap) [v] [] cp) _] => decide (m = "append") && (ap.endLine == cp.line) && decide (P.N[i]? = some x) && nmOk sc x && decide (P.Γ.getD i .a = .n) && noStar v && isV e && !bor P.Γ e && decide (nty P.rt e = .o) && ck P.toCkP sc e [v]
  | .appAt i k e, [.Expr (.Call (.Attribute (.Subscript (.Name x _) idx _) m ap) [v] [] cp) _] => decide (m = "append") && (ap.endLine == cp.line) && decide (P.N[i]? = some x) && nmOk sc x && decide (P.Γ.getD i .a = .n) && plainI idx && isV k && !eff k && ck P.toCkP sc k [idx] && noStar v && isV e && !bor P.Γ e && !eff e && ck P.toCkP sc e [v]
  | .forN t i b, [.For (.Name y _) (.Name x _) body [] _] => !P.hot && decide (P.ret ≠ .o) && decide (P.N[i]? = some x) && nmOk sc x && decide (P.Γ.getD i .a = .n) && decide (P.N[t]? = some y) && sto sc y && decide (t < P.Γ.length) && decide (t ≠ i) && !P.pins.contains t && !P.pins.contains i && ckS { P with Γ := P.Γ.set t .o, pins := t :: i :: P.pins, held := i :: P.held } sc b body
  | .forO i t it b, [.For tg iter body [] _] => !P.hot && !eff it && !kpI (frG [i] P.Γ) it && noSet iter && itOk it tg && ck { P.toCkP with Γ := frG [i] P.Γ } sc it [iter] && ckTN P.Γ (i :: P.pins) sc P.N false t [tg] && ckS { P with pins := i :: P.pins } sc b body
  | .retH i, [.Return (some (.Name x _)) _] => decide (P.N[i]? = some x) && nmOk sc x && P.held.contains i
  | .parO i j a b, [.Assign [.Tuple [.Name x px, .Name y py] u p] (.Tuple [v, w] k2 p2) _] => !P.hot && decide (P.N[i]? = some x) && decide (P.N[j]? = some y) && decide (P.Γ.getD i .a = .o) && decide (P.Γ.getD j .a = .o) && !P.pins.contains i && !P.pins.contains j && isV a && isV b && !bor P.Γ a && !bor P.Γ b && decide (nty P.rt a = .o) && decide (nty P.rt b = .o) && ck P.toCkP sc a [v] && ck P.toCkP sc b [w] && decide (i ≠ j) && locOf sc x && locOf sc y && (py.line == px.line) && decide (x ≠ y) && noStar v && noStar w && !([v, w].all (foldedForSure 8)) && !([v, w].all (constantsAlone 8))
  | _, _ => false
section
variable {X : Cx} {L : Lx} {U : Fx} {k : Nat} {N : List Str} {sc : Scope} {GL : Str → D → Bool} {xn : Nat → Str} {xd : Nat → Bool} {wf : Nat}
theorem PS.imp {st : Stmt} {t t' : TS} (h : PS X st t) (i : ∀ D σ H, t' D σ H → t D σ H) : PS X st t' := ⟨fun pins s σ H D I q => h.run pins s σ H D I (i D σ H q)⟩
theorem PSs.imp {st : List Stmt} {t t' : TS} (h : PSs X st t) (i : ∀ D σ H, t' D σ H → t D σ H) : PSs X st t' := ⟨fun pins s σ H D I q => h.run pins s σ H D I (i D σ H q)⟩
/-- the parts of a comprehension -/
theorem lc_parts (P : CkP) (hU : P.U = U) (hN : P.N = N) (hG : P.GL = GL) (hr : P.rt = L.rt) (hΓ : P.Γ = L.Γ) (hh : P.hot = L.hot) (hp : ∀ p ∈ L.PV, p.1 ∈ P.pins) (C : Ct L U N k sc GL X) {e : E} {elt : Expr} {gs : List Comprehension} {scope : Scope} {pos : Pos} (hv : isV e = true) (h : ck P sc e [.ListComp elt gs scope pos] = true) :
    ∃ (tg iter : Expr) (ifs : List Expr) (own : List (Str × Nat)) (wi : TI) (g : TG) (tt : TT) (te : TE), gs = [⟨tg, iter, ifs, 0⟩] ∧ PI X tg iter wi ∧ BlkOk X.N X.env.scope scope own ∧
      (∀ (s : Shared) (H : Hp) (A : Addr) (cl : List (Str × Addr)) (fp : List Addr), PG (X.blk s H scope (compEnvC scope cl A X.env) fp) tg g) ∧ (∀ (s : Shared) (H : Hp) (A : Addr) (cl : List (Str × Addr)) (fp : List Addr), PTs (X.blk s H scope (compEnvC scope cl A X.env) fp) ifs tt) ∧
      (∀ (s : Shared) (H : Hp) (A : Addr) (cl : List (Str × Addr)) (fp : List Addr), PE (X.blk s H scope (compEnvC scope cl A X.env) fp) elt te) ∧ (∀ x, foldedSetIterable iter X.env x = pure x) ∧ L.hot = false ∧ ∀ σ H Q, tE L e σ H Q → tLc wi g tt te (own.map (·.2)) σ H Q := by
  subst hU hN hG
  cases e with
  | comp ts t it c el =>
    rcases gs with _ | ⟨⟨tg, iter, ifs, as⟩, _ | ⟨_, _⟩⟩ <;> first | (simp [ck] at h; done) | skip
    simp only [ck, Bool.and_eq_true, Bool.not_eq_true'] at h
    obtain ⟨⟨⟨⟨⟨⟨⟨⟨⟨⟨⟨h11, h0⟩, h1⟩, h2⟩, h3⟩, h4⟩, h5⟩, h6⟩, h7⟩, h8⟩, h9⟩, h10⟩ := h
    have h11 : L.hot = false := hh ▸ h11
    have h0 := of_decide_eq_true h0
    subst h0
    simp only [compOk, Bool.and_eq_true, Bool.not_eq_true', decide_eq_true_eq, List.all_eq_true, hΓ] at h2
    obtain ⟨⟨⟨⟨q1, q2⟩, q3⟩, q45⟩, q6⟩ := h2
    have q4 : (eff c || eff el) = true → kpI L.Γ it = false := fun z => by rw [z] at q45; simpa using q45
    rw [hΓ] at h3
    have hpp : ∀ p ∈ L.PV, p.1 ∉ ts := fun p m z => by
      have := (q2 p.1 z).2
      simp [hp p m] at this
    have pi := walk_ok C h4 (ck_ok P rfl rfl rfl it hr hΓ hh hp C h8)
    have hel : ∀ (s : Shared) (H : Hp) (A : Addr) (cl : List (Str × Addr)) (fp : List Addr), PE (X.blk s H scope (compEnvC scope cl A X.env) fp) elt (tP L.in0 el) := fun s H A cl fp => by
      obtain ⟨_, e1, _, p, _⟩ := (ck_ok P rfl rfl rfl el (L := L.in0) hr hΓ hh hp (C.blk h11 scope s H A cl fp) h9).1 h5
      cases e1
      exact p
    have hb : ∃ b : Bool, (b = false → c = .con (.bl true)) ∧ ∀ (s : Shared) (H : Hp) (A : Addr) (cl : List (Str × Addr)) (fp : List Addr), PTs (X.blk s H scope (compEnvC scope cl A X.env) fp) ifs (tIfs L.in0 b c) := by
      rcases ifs with _ | ⟨x, _ | ⟨_, _⟩⟩
      · exact ⟨false, fun _ => isTru_eq h10, fun s H A cl fp => pts_nil⟩
      · simp only [Bool.and_eq_true] at h10
        refine ⟨true, fun z => (by cases z), fun s H A cl fp => ?_⟩
        obtain ⟨_, e1, _, _, p, _⟩ := (ck_ok P rfl rfl rfl c (L := L.in0) hr hΓ hh hp (C.blk h11 scope s H A cl fp) h10.2).1 h6
        cases e1
        exact pts_one (p h10.1)
      · cases h10
    obtain ⟨b, hb1, hb2⟩ := hb
    refine ⟨tg, iter, ifs, ownOf P.N ts, tI L it, tnG L.G.K t, tIfs L.in0 b c, tP L.in0 el, rfl, pi, C.blkOk h1, fun s H A cl fp => (pg_ok (L := L.in0) (C.blk h11 scope s H A cl fp) h11 t).1 h3, hb2, hel, folded h7 _, h11, fun σ H Q q => ?_⟩
    rw [ownOf_snd]
    refine tLc_of q4 q6 q1 (fun i m => (q2 i m).1) hpp (fun n hn => ?_) ((g_ok (L := L.in0) hp t).1 h3) hb1 q
    have := q3 n hn
    simpa using this
  | compN ts t it el =>
    rcases gs with _ | ⟨⟨tg, iter, ifs, as⟩, _ | ⟨_, _⟩⟩ <;> first | (simp [ck] at h; done) | skip
    cases ifs <;> first | (simp [ck] at h; done) | skip
    simp only [ck, Bool.and_eq_true, Bool.not_eq_true', decide_eq_true_eq] at h
    obtain ⟨⟨⟨⟨⟨⟨⟨⟨⟨⟨⟨h11, h0⟩, h1⟩, h2⟩, e1⟩, e2⟩, h3⟩, h4⟩, h5⟩, h7⟩, h8⟩, h9⟩ := h
    have h11 : L.hot = false := hh ▸ h11
    subst h0
    simp only [compOk, Bool.and_eq_true, Bool.not_eq_true', decide_eq_true_eq, List.all_eq_true, hΓ] at h2
    obtain ⟨⟨⟨⟨q1, q2⟩, q3⟩, q45⟩, q6⟩ := h2
    rw [hΓ] at h3
    have hpp : ∀ p ∈ L.PV, p.1 ∉ ts := fun p m z => by
      have := (q2 p.1 z).2
      simp [hp p m] at this
    have pi := walk_ok C h4 (ck_ok P rfl rfl rfl it hr hΓ hh hp C h8)
    have hel : ∀ (s : Shared) (H : Hp) (A : Addr) (cl : List (Str × Addr)) (fp : List Addr), PE (X.blk s H scope (compEnvC scope cl A X.env) fp) elt (tE L.in0 el) := fun s H A cl fp => by
      obtain ⟨_, e1, p, _⟩ := (ck_ok P rfl rfl rfl el (L := L.in0) hr hΓ hh hp (C.blk h11 scope s H A cl fp) h9).1 h5
      cases e1
      exact p q6
    refine ⟨tg, iter, [], ownOf P.N ts, tI L it, tnG L.G.K t, tYes, tE L.in0 el, rfl, pi, C.blkOk h1, fun s H A cl fp => (pg_ok (L := L.in0) (C.blk h11 scope s H A cl fp) h11 t).1 h3, fun s H A cl fp => pts_nil, hel, folded h7 _, h11, fun σ H Q q => ?_⟩
    rw [ownOf_snd]
    refine tLcN_of e1 (hr ▸ e2) q1 (fun i m => (q2 i m).1) hpp (fun n hn => ?_) ((g_ok (L := L.in0) hp t).1 h3) q
    have := q3 n hn
    simpa using this
  | frz is e => simp [ck, okBad] at h
  | con d => cases d <;> simp [ck, ckCon] at h
  | bi o a =>
    simp only [ck, Bool.and_eq_true] at h
    have h4 := h.2
    split at h4
    · rename_i es q
      have hp : plainT (.ListComp elt gs scope pos) = true := rfl
      exfalso
      unfold dec at q
      revert q
      cases kd o <;> intro q <;> simp only at q
      · obtain ⟨l, r, pos, z, _⟩ := dBin_inv q; cases z
      · obtain ⟨l, r, pos, z, _⟩ := dCmp_inv q; cases z
      · obtain ⟨x, pos, z, _⟩ := dNeg_inv q; cases z
      · obtain ⟨v, i, pos, z, _⟩ := dIdx_inv q; cases z
      · obtain ⟨v, i, p, pos, z, _⟩ := dSlL_inv q; cases z
      · obtain ⟨v, i, p, pos, z, _⟩ := dSlU_inv q; cases z
      · obtain ⟨v, k, p1, p2, p3, pos, z, _⟩ := dSlRev_inv q; cases z
      · obtain ⟨p, a, as, pos, z, _⟩ := dFn_inv q; cases z
      · obtain ⟨p, a, as, pos, z, _⟩ := dFn_inv q; cases z
      · obtain ⟨p, a, p2, pos, z, _⟩ := dIsi_inv q; cases z
      · obtain ⟨p, a, p2, pos, z, _⟩ := dIsx_inv q; cases z
      · obtain ⟨s, ap, a, pos, z, _⟩ := dMt_inv q; cases z
      · obtain ⟨p, p2, a, pos, pos2, z, _⟩ := dRg1_inv q; cases z
      · obtain ⟨p, p2, a, b, pos, pos2, z, _⟩ := dRg2_inv q; cases z
      · obtain ⟨p, p2, a, b, pos, pos2, z, _⟩ := dRg2_inv q; cases z
      · obtain ⟨s, ap, a, pos, z, _⟩ := dMt_inv q; cases z
      · unfold dIt at q
        split at q <;> first | (cases q; done) | skip
        all_goals (split at q <;> first | (cases q; done) | skip)
        all_goals (rename_i q'; obtain ⟨p, a, as, pos, z, _⟩ := dFn_inv q'; cases z)
    · cases h4
  | sl3 x y z => simp [ck, dSlLU] at h
  | nil => cases hv
  | cons a b => cases hv
  | _ => simp [ck, okBad] at h
end
end Eg

end
section
set_option maxHeartbeats 8000000
namespace Eg
open PySem PySem.Spec PyProof.Rows L2
/-! ### try .. except the root as e -/
abbrev Gx.wi (G : Gx) (A : Nat → V → Prop) : Gx := { G with XA := A }
section
variable {G : Gx} {A : Nat → V → Prop} {Fz : Addr → Prop} {H : Hp}
mutual
theorem RF.wi (hm : ∀ c v, G.XA c v → A c v) : ∀ (d : D) {v : V}, RF G Fz H d v → RF (G.wi A) Fz H d v
  | .unset, _, h => h
  | .non, _, h => h
  | .bl _, _, h => h
  | .int _, _, h => h
  | .str _, _, h => h
  | .tup ds, _, ⟨a, xs, e, h, r⟩ => ⟨a, xs, e, h, RFs.wi hm ds r⟩
  | .lst ds, _, ⟨a, xs, e, h, r⟩ => ⟨a, xs, e, h, RFs.wi hm ds r⟩
  | .fl ds, _, ⟨a, xs, e, h, r⟩ => ⟨a, xs, e, h, RFs.wi hm ds r⟩
  | .dct _, _, h => h
  | .ins _ _, _, h => h
  | .exc c, v, h => hm c v h
theorem RFs.wi (hm : ∀ c v, G.XA c v → A c v) : ∀ (ds : List D) {vs : List V}, RFs G Fz H ds vs → RFs (G.wi A) Fz H ds vs
  | [], _, h => h
  | d :: ds, _, ⟨v, r, e, h, t⟩ => ⟨v, r, e, RF.wi hm d h, RFs.wi hm ds t⟩
end
mutual
theorem RF.un : ∀ (d : D) {v : V}, noX d = true → RF (G.wi A) Fz H d v → RF G Fz H d v
  | .unset, _, _, h => h
  | .non, _, _, h => h
  | .bl _, _, _, h => h
  | .int _, _, _, h => h
  | .str _, _, _, h => h
  | .tup ds, _, n, ⟨a, xs, e, h, r⟩ => ⟨a, xs, e, h, RFs.un ds n r⟩
  | .lst ds, _, n, ⟨a, xs, e, h, r⟩ => ⟨a, xs, e, h, RFs.un ds n r⟩
  | .fl ds, _, n, ⟨a, xs, e, h, r⟩ => ⟨a, xs, e, h, RFs.un ds n r⟩
  | .dct _, _, _, h => h
  | .ins _ _, _, _, h => h
  | .exc c, v, n, h => by cases n
theorem RFs.un : ∀ (ds : List D) {vs : List V}, noXs ds = true → RFs (G.wi A) Fz H ds vs → RFs G Fz H ds vs
  | [], _, _, h => h
  | d :: ds, _, n, ⟨v, r, e, h, t⟩ => by
    simp only [noXs, Bool.and_eq_true] at n
    exact ⟨v, r, e, RF.un d n.1 h, RFs.un ds n.2 t⟩
end
theorem RO.wi (hm : ∀ c v, G.XA c v → A c v) {t : Ty} {d : D} {v : V} {S : Addr → Prop} (h : RO G Fz H t d v S) : RO (G.wi A) Fz H t d v S := by
  cases t with
  | a => exact ⟨RF.wi hm d h.1, h.2⟩
  | o => cases d with
    | lst ds => obtain ⟨a, xs, e, q, r, n⟩ := h; exact ⟨a, xs, e, q, RFs.wi hm ds r, n⟩
    | _ => exact ⟨RF.wi hm _ h.1, h.2⟩
  | n =>
    have one : ∀ {d : D} {v : V} {S : Addr → Prop}, ROo G Fz H d v S → ROo (G.wi A) Fz H d v S := fun {d v S} h => by
      cases d with
      | lst ds => obtain ⟨a, xs, e, q, r, n⟩ := h; exact ⟨a, xs, e, q, RFs.wi hm ds r, n⟩
      | _ => exact ⟨RF.wi hm _ h.1, h.2⟩
    cases d with
    | lst ds => obtain ⟨a, xs, T, e, q, r, n⟩ := h; exact ⟨a, xs, T, e, q, ⟨r.len, fun k d v e1 e2 => one (r.row k d v e1 e2), r.out, r.dj⟩, n⟩
    | _ => exact ⟨RF.wi hm _ h.1, h.2⟩
theorem noXs_at : ∀ {ds : List D} {k : Nat} {d : D}, noXs ds = true → ds[k]? = some d → noX d = true
  | [], _, _, _, h => by cases h
  | _ :: _, 0, _, n, h => by
    simp only [noXs, Bool.and_eq_true] at n
    cases h
    exact n.1
  | _ :: _, k + 1, d, n, h => by
    simp only [noXs, Bool.and_eq_true] at n
    exact noXs_at (k := k) n.2 (by simpa using h)
theorem RO.un {t : Ty} {d : D} {v : V} {S : Addr → Prop} (n : noX d = true) (h : RO (G.wi A) Fz H t d v S) : RO G Fz H t d v S := by
  cases t with
  | a => exact ⟨RF.un d n h.1, h.2⟩
  | o => cases d with
    | lst ds => obtain ⟨a, xs, e, q, r, n'⟩ := h; exact ⟨a, xs, e, q, RFs.un ds n r, n'⟩
    | _ => exact ⟨RF.un _ n h.1, h.2⟩
  | n =>
    have one : ∀ {d : D} {v : V} {S : Addr → Prop}, noX d = true → ROo (G.wi A) Fz H d v S → ROo G Fz H d v S := fun {d v S} n h => by
      cases d with
      | lst ds => obtain ⟨a, xs, e, q, r, n'⟩ := h; exact ⟨a, xs, e, q, RFs.un ds n r, n'⟩
      | _ => exact ⟨RF.un _ n h.1, h.2⟩
    cases d with
    | lst ds => obtain ⟨a, xs, T, e, q, r, n'⟩ := h; exact ⟨a, xs, T, e, q, ⟨r.len, fun k d v e1 e2 => one (noXs_at n e1) (r.row k d v e1 e2), r.out, r.dj⟩, n'⟩
    | _ => exact ⟨RF.un _ n h.1, h.2⟩
theorem noXs_get : ∀ {env : List D} {i : Nat}, noXs env = true → noX (env.getD i .unset) = true
  | [], _, _ => by simp; rfl
  | d :: ds, 0, n => by simp only [noXs, Bool.and_eq_true] at n; exact n.1
  | d :: ds, i + 1, n => by simp only [noXs, Bool.and_eq_true] at n; exact noXs_get (i := i) n.2
theorem RE.wi {Γ : List Ty} {PV : List (Nat × V)} {env : List D} {σ : L2.St} {own : Nat → Addr → Prop} (hm : ∀ c v, G.XA c v → A c v) (h : RE G Γ PV Fz H env σ own) : RE (G.wi A) Γ PV Fz H env σ own :=
  ⟨fun i hi => let ⟨v, e, r⟩ := h.val i hi; ⟨v, e, r.wi hm⟩, h.emp, h.nf, h.dj, h.pv, h.len⟩
/-- the exception's slot is emptied -/
theorem RE.end {Γ : List Ty} {PV : List (Nat × V)} {env : List D} {σ : L2.St} {own : Nat → Addr → Prop} {i : Nat} (hΓ : Γ.getD i .a = .a) (hp : ∀ p ∈ PV, p.1 ≠ i) (n : noXs (env.set i .unset) = true) (h : RE (G.wi A) Γ PV Fz H env σ own) : RE G Γ PV Fz H (env.set i .unset) (σ.set i none) own where
  val := fun j hj => by
    have nj := noXs_get (i := j) n
    by_cases q : j = i
    · subst q
      by_cases hl : j < env.length
      · rw [getD_set_self hl] at hj; exact absurd rfl hj
      · rw [List.getD_eq_getElem?_getD, List.getElem?_eq_none (by rw [List.length_set]; omega)] at hj; exact absurd rfl hj
    · rw [getD_set_ne q] at hj nj ⊢
      obtain ⟨v, e, r⟩ := h.val j hj
      exact ⟨v, by rw [List.getElem?_set_ne (Ne.symm q)]; exact e, r.un nj⟩
  emp := fun j hj b ob => by
    by_cases q : j = i
    · subst q
      by_cases e : env.getD j .unset = .unset
      · exact h.emp j e b ob
      · obtain ⟨v, _, r⟩ := h.val j e
        rw [hΓ] at r
        exact r.2 b ob
    · rw [getD_set_ne q] at hj
      exact h.emp j hj b ob
  nf := h.nf
  dj := h.dj
  pv := fun p m => by rw [List.getElem?_set_ne (Ne.symm (hp p m))]; exact h.pv p m
  len := by rw [List.length_set, List.length_set]; exact h.len
end
/-- an except suite's surroundings: exception a, of class c, is in hand -/
abbrev Lx.suit (L : Lx) (a : Addr) (c : Nat) : Lx := { L with G := L.G.wi (fun c' v => c' = c ∧ v = .ref a), W := fun _ _ _ _ => False, hot := true }
def tsH (L : Lx) (wf : Nat) (r : Ty) (s : S) : Addr → Value → Option Addr → TS := fun a cls d D σ H => ∃ c, excOk c = true ∧ cls = L.G.xv c ∧ d = none ∧ tS (L.suit a c) wf r s D σ H
theorem tS_try {L : Lx} {wf : Nat} {r : Ty} {D : Ends} {σ : L2.St} {H : Hp} {b s : S} {i : Nat} {K : PySem.W.Frag} {cv : Value} (hΓ : L.Γ.getD i .a = .a) (hp : ∀ p ∈ L.PV, p.1 ≠ i) (hno : ∀ c v, ¬ L.G.XA c v) (hexm : ∀ c, excOk c = true → PySem.W.exmOne K (L.G.xv c) cv = some true)
    (q : tS L wf r (.tryX b i s) D σ H) : tS { L with W := wAs K cv i (tsH L wf r s) L.W D } wf r b D σ H := by
  obtain ⟨Fz, env, own, I, h⟩ := q
  refine ⟨Fz, env, own, I, ?_⟩
  simp only [ex] at h
  show EndO _ _ _ _ _ _ (ex L.fc wf b env)
  cases eb : ex L.fc wf b env with
  | nx e => rw [eb] at h; exact fun σ' H' Fz' own' s' => h σ' H' Fz' own' ⟨s'.re, s'.fr, s'.ow⟩
  | bk e => rw [eb] at h; exact fun σ' H' Fz' own' s' => h σ' H' Fz' own' ⟨s'.re, s'.fr, s'.ow⟩
  | ct e => rw [eb] at h; exact fun σ' H' Fz' own' s' => h σ' H' Fz' own' ⟨s'.re, s'.fr, s'.ow⟩
  | ret d e => rw [eb] at h; exact fun v σ' H' Fz' own' S s' ro hd => h v σ' H' Fz' own' S ⟨s'.re, s'.fr, s'.ow⟩ ro hd
  | rh i e => rw [eb] at h; exact fun v σ' H' Fz' own' s' q => h v σ' H' Fz' own' ⟨s'.re, s'.fr, s'.ow⟩ q
  | no => rw [eb] at h; exact h
  | exc c e =>
    rw [eb] at h
    intro σ' H' Fz' own' s'
    simp only at h
    split at h
    case isFalse => exact h.elim
    rename_i hc
    refine ⟨true, hexm c hc, fun _ a ha => ⟨c, hc, rfl, rfl, Fz', e.set i (.exc c), own', ?_, ?_⟩, fun z => by cases z⟩
    · exact RE.set_a (L := L.suit a c) (RE.wi (fun c v z => absurd z (hno c v)) s'.re) hΓ hp ⟨rfl, rfl⟩
    · have s1 : Stp L σ' Fz H own true Fz' H' e own' := ⟨s'.re, s'.fr, s'.ow⟩
      show EndO (L.suit a c) _ _ _ _ _ (ex L.fc wf s (e.set i (.exc c)))
      cases es : ex L.fc wf s (e.set i (.exc c)) with
      | nx e2 =>
        rw [es] at h
        simp only at h
        split at h
        case isFalse => exact h.elim
        rename_i hn
        intro σ2 H2 Fz2 own2 s2
        have s3 : Stp L (σ2.set i none) Fz' H' own' true Fz2 H2 (e2.set i .unset) own2 := ⟨RE.end hΓ hp hn s2.re, s2.fr, s2.ow⟩
        exact h _ _ _ _ (s1.seq s3)
      | ret d e2 =>
        rw [es] at h
        simp only at h
        split at h
        case isFalse => exact h.elim
        rename_i hn
        simp only [Bool.and_eq_true] at hn
        intro v σ2 H2 Fz2 own2 S s2 ro hd
        have s3 : Stp L (σ2.set i none) Fz' H' own' true Fz2 H2 (e2.set i .unset) own2 := ⟨RE.end hΓ hp hn.2 s2.re, s2.fr, s2.ow⟩
        exact h v _ _ _ _ S (s1.seq s3) (ro.un hn.1) (hd.seq s1)
      | bk e2 => rw [es] at h; exact h.elim
      | ct e2 => rw [es] at h; exact h.elim
      | exc c2 e2 => rw [es] at h; exact h.elim
      | rh i e2 => rw [es] at h; exact h.elim
      | no => rw [es] at h; exact h.elim
end Eg

end
section
set_option maxHeartbeats 8000000
namespace Eg
open PySem PySem.Spec PyProof.Rows L2
section
variable {L : Lx} {σ σ1 σ2 : L2.St} {Fz Fz1 Fz2 S : Addr → Prop} {H H1 H2 : Hp} {env env1 env2 : List D} {own own1 own2 : Nat → Addr → Prop} {e1 e2 ef : Bool} {wf : Nat} {r : Ty} {D : Ends}
theorem fr_upd {a : Addr} {o : HO} : Fr Fz H (fun b => b = a) Fz (upd H a o) := ⟨fun b o z _ _ => z, fun b o e n => by rw [upd_ne n]; exact e, fun b z => .inl z⟩
/-- x.append(e): a row that is owned -/
theorem tS_appN {i : Nat} {e : E} (hn : nty L.rt e = .o) (hΓ : L.Γ.getD i .a = .n) (q : tS L wf r (.appN i e) D σ H) : tDrop (tBM L.G.K "list" rAppend (tVar i) (tCons (tE L e) tNil)) D σ H := by
  obtain ⟨Fz, env, own, I, h⟩ := q
  simp only [ex, R.out] at h
  split at h
  case h_2 => exact h.elim
  rename_i ds0 h0
  obtain ⟨a, xs, T, q1, q2, q3, q4, q5⟩ := I.updN h0 hΓ
  refine ⟨_, q1, .inl ⟨rfl, _, .inl (.inl q2)⟩, tE_mk I ?_⟩
  cases ee : ev L.fc e env with
  | no => rw [ee] at h; exact h
  | exc c e1 => rw [ee] at h; exact ResX.ofS (.refl I (e1 := true)) h
  | ok ds e1 =>
    rw [ee] at h
    simp only at h
    split at h
    case h_2 => exact h.elim
    rename_i d xs1 h1
    split at h
    case isFalse => exact h.elim
    rename_i hlt
    refine ⟨d, rfl, fun v H1 Fz1 own1 S1 s1 ro hd => ?_⟩
    have ro : ROo L.G Fz1 H1 d v S1 := roo_iff.mpr (hn ▸ ro)
    obtain ⟨a', ys, T1, p1, p2, p3, p4, p5⟩ := s1.re.updN h1 hΓ
    rw [q1] at p1
    cases p1
    refine ⟨a, ys, v, rfl, rfl, p2, by rw [p3.len, sizeLine_eq]; exact hlt, ?_⟩
    have oa : own1 i a := (p5 a).mpr (.inl rfl)
    have nf : ¬ Fz1 a := s1.re.nf i a oa
    have nS : ∀ b, own1 i b → ¬ S1 b := fun b o => hd.dj i b o
    have l : Le Fz1 H1 Fz1 (upd H1 a (.lst (ys ++ [v]))) := fr_upd.le fun b e z => nf (e ▸ z)
    have rn : RN L.G Fz1 (upd H1 a (.lst (ys ++ [v]))) (xs1 ++ [d]) (ys ++ [v]) _ := (p3.le l fun k b o t e => by rw [upd_ne (show b ≠ a from fun z => p4 k (z ▸ t))]; exact e).app (ro.le l fun b o t e => by rw [upd_ne (show b ≠ a from fun z => nS a oa (z ▸ t))]; exact e) fun k b t s => nS b ((p5 b).mpr (.inr ⟨k, t⟩)) s
    refine h σ _ _ _ (s1.setN hΓ (by intro z; cases z) q1 (fr_upd (a := a) (o := .lst (ys ++ [v]))) (fun b e => e ▸ oa) (S := fun b => own1 i b ∨ S1 b) ⟨a, _, _, rfl, upd_same, rn, fun k t => ?_, fun b => ?_⟩ (fun b z => z.elim (s1.re.nf i b) (hd.nf b)) (fun j b hj ob z => z.elim (fun z => hj (s1.re.dj j i b ob z)) (hd.dj j b ob)) fun b z => z.elim (fun z => s1.ow b ⟨i, z⟩) fun z => (hd.fr b z).imp (fun m => m.2) id)
    · split at t
      · exact nS a oa t
      · exact p4 k t
    · constructor
      · rintro (z | z)
        · rcases (p5 b).mp z with z | ⟨k, z⟩
          · exact .inl z
          · refine .inr ⟨k, ?_⟩
            have : k ≠ xs1.length := fun e => p3.out k (by omega) b z
            rw [if_neg this]
            exact z
        · exact .inr ⟨xs1.length, by rw [if_pos rfl]; exact z⟩
      · rintro (z | ⟨k, z⟩)
        · exact .inl ((p5 b).mpr (.inl z))
        · split at z
          · exact .inr z
          · exact .inl ((p5 b).mpr (.inr ⟨k, z⟩))
/-- x.extend(e): rows that are owned -/
theorem tS_extN {i : Nat} {e : E} (hn : nty L.rt e = .n) (hΓ : L.Γ.getD i .a = .n) (q : tS L wf r (.extN i e) D σ H) : tDrop (tBM L.G.K "list" rExtend (tVar i) (tCons (tE L e) tNil)) D σ H := by
  obtain ⟨Fz, env, own, I, h⟩ := q
  simp only [ex, R.out] at h
  split at h
  case h_2 => exact h.elim
  rename_i ds0 h0
  obtain ⟨a, xs, T, q1, q2, q3, q4, q5⟩ := I.updN h0 hΓ
  refine ⟨_, q1, .inl ⟨rfl, _, .inl (.inl q2)⟩, tE_mk I ?_⟩
  cases ee : ev L.fc e env with
  | no => rw [ee] at h; exact h
  | exc c e1 => rw [ee] at h; exact ResX.ofS (.refl I (e1 := true)) h
  | ok ds e1 =>
    rw [ee] at h
    simp only at h
    split at h
    case h_2 => exact h.elim
    rename_i ys1 xs1 h1
    split at h
    case isFalse => exact h.elim
    rename_i hlt
    refine ⟨.lst ys1, rfl, fun v H1 Fz1 own1 S1 s1 ro hd => ?_⟩
    rw [hn] at ro
    have roS := ro
    obtain ⟨b, zs, U, rfl, u1, u2, u3, u4⟩ := ro
    obtain ⟨a', ys, T1, p1, p2, p3, p4, p5⟩ := s1.re.updN h1 hΓ
    rw [q1] at p1
    cases p1
    refine ⟨a, b, ys, zs, rfl, rfl, p2, u1, by rw [p3.len, u2.len, sizeLine_eq]; omega, ?_⟩
    have oa : own1 i a := (p5 a).mpr (.inl rfl)
    have nf : ¬ Fz1 a := s1.re.nf i a oa
    have nS : ∀ c, own1 i c → ¬ S1 c := fun c o => hd.dj i c o
    have uS : ∀ {k c}, U k c → S1 c := fun {k c} z => (u4 c).mpr (.inr ⟨k, z⟩)
    have l : Le Fz1 H1 Fz1 (upd H1 a (.lst (ys ++ zs))) := fr_upd.le fun c e z => nf (e ▸ z)
    have rn := (p3.le l fun k c o t e => by rw [upd_ne (show c ≠ a from fun z => p4 k (z ▸ t))]; exact e).append (u2.le l fun k c o t e => by rw [upd_ne (show c ≠ a from fun z => nS a oa (z ▸ uS t))]; exact e) fun j k c x y => nS c ((p5 c).mpr (.inr ⟨j, x⟩)) (uS y)
    refine h σ _ _ _ (s1.setN hΓ (by intro z; cases z) q1 (fr_upd (a := a) (o := .lst (ys ++ zs))) (fun c e => e ▸ oa) (S := fun c => own1 i c ∨ ∃ k, U k c) ⟨a, _, _, rfl, upd_same, rn, fun k t => ?_, fun c => ?_⟩ (fun c z => z.elim (s1.re.nf i c) fun ⟨k, z⟩ => hd.nf c (uS z)) (fun j c hj ob z => z.elim (fun z => hj (s1.re.dj j i c ob z)) fun ⟨k, z⟩ => hd.dj j c ob (uS z)) fun c z => z.elim (fun z => s1.ow c ⟨i, z⟩) fun ⟨k, z⟩ => (hd.fr c (uS z)).imp (fun m => m.2) id)
    · split at t
      · exact p4 k t
      · exact nS a oa (uS t)
    · constructor
      · rintro (z | ⟨k, z⟩)
        · rcases (p5 c).mp z with z | ⟨k, z⟩
          · exact .inl z
          · refine .inr ⟨k, ?_⟩
            have : k < xs1.length := Nat.lt_of_not_le fun e => p3.out k e c z
            rw [if_pos this]
            exact z
        · refine .inr ⟨xs1.length + k, ?_⟩
          rw [if_neg (by omega), show xs1.length + k - xs1.length = k by omega]
          exact z
      · rintro (z | ⟨k, z⟩)
        · exact .inl ((p5 c).mpr (.inl z))
        · split at z
          · exact .inl ((p5 c).mpr (.inr ⟨k, z⟩))
          · exact .inr ⟨_, z⟩
/-- return x, from a walk over x -/
theorem tS_retH {i : Nat} (hq : ∃ v, (i, v) ∈ L.PV) (q : tS L wf r (.retH i) D σ H) : tRet (tVar i) D σ H := by
  obtain ⟨Fz, env, own, I, h⟩ := q
  obtain ⟨v, m⟩ := hq
  have e := I.pv _ m
  exact ⟨v, e, h v σ H Fz own (.refl I) e⟩
/-- x, y = a, b: both owned -/
theorem tS_parO {i j : Nat} {a x : E} (hij : i ≠ j) (hi : L.Γ.getD i .a = .o) (hj : L.Γ.getD j .a = .o) (hpi : ∀ p ∈ L.PV, p.1 ≠ i) (hpj : ∀ p ∈ L.PV, p.1 ≠ j) (ha : nty L.rt a = .o) (hb : nty L.rt x = .o)
    (q : tS L wf r (.parO i j a x) D σ H) : tPar i j (tCons (tE L a) (tCons (tE L x) tNil)) D σ H := by
  obtain ⟨Fz, env, own, I, h⟩ := q
  simp only [ex, R.out] at h
  refine tE_mk I ?_
  cases ea : ev L.fc a env with
  | no => rw [ea] at h; exact h
  | exc c e1 => rw [ea] at h; exact ResX.ofS (.refl I (e1 := true)) h
  | ok ds e1 =>
    rw [ea] at h
    simp only at h
    rcases ds with _ | ⟨d1, _ | ⟨_, _⟩⟩ <;> first | exact h.elim | skip
    refine ⟨d1, rfl, fun v H1 Fz1 own1 S1 s1 ro1 hd1 => ?_⟩
    rw [ha] at ro1
    refine tE_mk s1.re ?_
    simp only at h
    cases eb : ev L.fc x e1 with
    | no => rw [eb] at h; exact h
    | exc c e2 => rw [eb] at h; exact ResX.ofS s1 h
    | ok es e2 =>
      rw [eb] at h
      simp only at h
      rcases es with _ | ⟨d2, _ | ⟨_, _⟩⟩ <;> first | exact h.elim | skip
      refine ⟨d2, rfl, fun w H2 Fz2 own2 S2 s2 ro2 hd2 => ⟨v, w, rfl, ?_⟩⟩
      rw [hb] at ro2
      have nM : ∀ b, S1 b → ¬ MM own1 (eff x) b := fun b z m => by obtain ⟨_, k, o⟩ := m; exact hd1.dj k b o z
      have tr : ∀ b, S1 b → ∃ o, H1 b = some o := fun b z => ro1.trk b z
      have ro1' : RO L.G Fz2 H2 .o d1 v S1 := ro1.le (s2.le s1.re) fun b o z e => s2.fr.keep b o e (nM b z)
      have s12 : Stp L σ Fz H own true Fz2 H2 e2 own2 := s1.seq s2
      have hd1' : Hd Fz H own true Fz2 own2 S1 := by
        refine ⟨fun b z q => ?_, fun k b o z => ?_, fun b z => (hd1.fr b z).imp (fun m => ⟨rfl, m.2⟩) id⟩
        · rcases s2.fr.fzn b q with q | q | q
          · exact hd1.nf b z q
          · exact nM b z q
          · obtain ⟨o, e⟩ := tr b z
            rw [e] at q; cases q
        · rcases s2.ow b ⟨k, o⟩ with ⟨k', q⟩ | q
          · exact hd1.dj k' b q z
          · obtain ⟨o, e⟩ := tr b z
            rw [e] at q; cases q
      have hd2' : Hd Fz H own true Fz2 own2 S2 := ⟨hd2.nf, hd2.dj, fun b z => (hd2.fr b z).elim (fun m => (s1.ow b m.2).imp (fun z => ⟨rfl, z⟩) id) fun z => (Eg.back s1.fr z).imp (fun m => ⟨rfl, m.2⟩) id⟩
      have nn : ∀ b, S1 b → ¬ S2 b := fun b z z2 => by
        rcases hd2.fr b z2 with q | q
        · exact nM b z q
        · obtain ⟨o, e⟩ := tr b z; rw [e] at q; cases q
      by_cases hl : i < e2.length
      · have s3 := s12.set_oX hl hi hpi ro1' hd1'
        obtain ⟨own4, s4⟩ := s3.set_o hj hpj ro2 ⟨hd2'.nf, fun k b o z => (by
          by_cases q : k = i
          · simp only [if_pos q] at o; exact nn b o z
          · simp only [if_neg q] at o; exact hd2'.dj k b o z), hd2'.fr⟩
        exact h _ _ _ _ s4
      · have h1 : e2.set i d1 = e2 := List.set_eq_of_length_le (by omega)
        have h2 : σ.set i (some v) = σ := List.set_eq_of_length_le (by rw [← s12.re.len]; omega)
        obtain ⟨own4, s4⟩ := s12.set_o hj hpj ro2 hd2'
        rw [h1] at h
        rw [h2]
        exact h _ _ _ _ s4
/-- x[k].append(e): a row of what is owned -/
theorem tS_appAt {i : Nat} {k e : E} (hk : eff k = false) (he : eff e = false) (hb : bor L.Γ e = false) (hΓ : L.Γ.getD i .a = .n) (q : tS L wf r (.appAt i k e) D σ H) : tDrop (tBM L.G.K "list" rAppend (tOp (rIxL L.G.K) (tVar i) (tP L k)) (tCons (tP L e) tNil)) D σ H := by
  obtain ⟨Fz, env, own, I, h⟩ := q
  simp only [ex, R.out] at h
  split at h
  case h_2 => exact h.elim
  rename_i ds0 h0
  obtain ⟨a, xs, T, q1, q2, q3, q4, q5⟩ := I.updN h0 hΓ
  refine ⟨_, q1, tP_mk I ?_⟩
  cases ek : ev L.fc k env with
  | no => rw [ek] at h; exact h
  | exc c e1 => rw [ek] at h; exact ResX.ofS (.refl I (e1 := true)) h
  | ok ks e1 =>
    rw [ek] at h
    simp only at h
    split at h
    case h_2 => exact h.elim
    rename_i j ds1 h1
    split at h
    case h_2 => exact h.elim
    rename_i n hn
    split at h
    case h_2 => exact h.elim
    rename_i row hrow
    refine ⟨_, rfl, fun v H1 Fz1 own1 s1 rb rf => ?_⟩
    obtain ⟨a', ys, T1, p1, p2, p3, p4, p5⟩ := s1.re.updN h1 hΓ
    rw [q1] at p1
    cases p1
    have hnl : n < ds1.length := (L2.ixN_seq hn).2.1
    have hny : n < ys.length := by rw [p3.len]; exact hnl
    have hrow' : ds1[n]? = some (.lst row) := by
      rw [List.getD_eq_getElem?_getD, List.getElem?_eq_getElem hnl] at hrow
      rw [List.getElem?_eq_getElem hnl]
      exact congrArg some hrow
    obtain ⟨p, zs, y1, y2, y3, y4⟩ := p3.row n _ _ hrow' (List.getElem?_eq_getElem hny)
    refine ⟨a, ys, j, .ref p, rfl, rb, .inl (.inl p2), ?_, .inl ⟨rfl, _, .inl (.inl y2)⟩, tP_mk s1.re ?_⟩
    · unfold L2.atI
      rw [p3.len, hn]
      show ys[n]? = _
      rw [List.getElem?_eq_getElem hny, y1]
    cases ee : ev L.fc e e1 with
    | no => rw [ee] at h; exact h
    | exc c e2 => rw [ee] at h; exact ResX.ofS s1 h
    | ok es e2 =>
      rw [ee] at h
      simp only at h
      split at h
      case h_2 => exact h.elim
      rename_i d ds2 h2
      split at h
      case h_2 => exact h.elim
      rename_i row2 hrow2
      split at h
      case isFalse => exact h.elim
      rename_i hlt
      refine ⟨d, rfl, fun w H2 Fz2 own2 s2 rb2 rf2 => ?_⟩
      obtain ⟨a', ys2, T2, k1, k2, k3, k4, k5⟩ := s2.re.updN h2 hΓ
      rw [q1] at k1
      cases k1
      have f2 : Fr Fz1 H1 (fun _ => False) Fz2 H2 := s2.fr.mono fun b m => by rw [he] at m; cases m.1
      have e2' := f2.none _ _ p2
      rw [k2] at e2'
      cases e2'
      have hnl2 : n < ds2.length := by rw [← k3.len]; exact hny
      have hrow2' : ds2[n]? = some (.lst row2) := by
        rw [List.getD_eq_getElem?_getD, List.getElem?_eq_getElem hnl2] at hrow2
        rw [List.getElem?_eq_getElem hnl2]
        exact congrArg some hrow2
      obtain ⟨p', zs2, z1, z2, z3, z4⟩ := k3.row n _ _ hrow2' (List.getElem?_eq_getElem hny)
      rw [y1] at z1
      cases z1
      have op : own2 i p := (k5 p).mpr (.inr ⟨n, (z4 p).mpr rfl⟩)
      have nf : ¬ Fz2 p := s2.re.nf i p op
      have hap : a ≠ p := fun z => k4 n (z ▸ (z4 p).mpr rfl)
      have l : Le Fz2 H2 Fz2 (upd H2 p (.lst (zs2 ++ [w]))) := fr_upd.le fun b e z => nf (e ▸ z)
      have rr : ROo L.G Fz2 (upd H2 p (.lst (zs2 ++ [w]))) (.lst (row2 ++ [d])) (.ref p) (T2 n) := ⟨p, _, rfl, upd_same, RFs.append (RFs.le l _ z3) ⟨w, [], rfl, RF.le l d (rf2 hb), rfl⟩, z4⟩
      have rn := RN.set k3 l (fun k b o hk t e => by rw [upd_ne (show b ≠ p from fun z => hk (k3.dj k n b t (by rw [z]; exact (z4 p).mpr rfl)))]; exact e) (by rw [List.getElem?_eq_getElem hny, y1]) rr fun k b hk t s => hk (k3.dj k n b t s)
      refine ⟨p, zs2, w, rfl, rfl, z2, by rw [z3.length, sizeLine_eq]; exact hlt, ?_⟩
      refine h σ _ _ _ ((s1.seq s2).setN hΓ (by intro z; cases z) q1 (fr_upd (a := p) (o := .lst (zs2 ++ [w]))) (fun b e => e ▸ op) (S := fun b => own2 i b) ⟨a, ys, _, rfl, by rw [upd_ne hap]; exact k2, rn, fun k t => ?_, fun b => ?_⟩ (fun b z => s2.re.nf i b z) (fun j b hj ob z => hj (s2.re.dj j i b ob z)) fun b z => (s1.seq s2).ow b ⟨i, z⟩)
      · by_cases q : k = n
        · subst q; rw [if_pos rfl] at t; exact k4 k t
        · rw [if_neg q] at t; exact k4 k t
      · refine (k5 b).trans ?_
        refine or_congr Iff.rfl ⟨fun ⟨k, z⟩ => ⟨k, ?_⟩, fun ⟨k, z⟩ => ⟨k, ?_⟩⟩
        · by_cases q : k = n
          · subst q; rw [if_pos rfl]; exact z
          · rw [if_neg q]; exact z
        · by_cases q : k = n
          · subst q; rw [if_pos rfl] at z; exact z
          · rw [if_neg q] at z; exact z
theorem RE.pv' {PV PV' : List (Nat × V)} {G : Gx} {Γ : List Ty} (I : RE G Γ PV Fz H env σ own) (h : ∀ p ∈ PV', σ[p.1]? = some (some p.2)) : RE G Γ PV' Fz H env σ own := ⟨I.val, I.emp, I.nf, I.dj, h, I.len⟩
/-- a slot let go -/
theorem RE.drop {PV : List (Nat × V)} {G : Gx} {Γ : List Ty} (I : RE G Γ PV Fz H env σ own) (i : Nat) : RE G Γ PV Fz H (env.set i .unset) σ (fun j b => j ≠ i ∧ own j b) := by
  refine ⟨fun j hj => ?_, fun j he b ob => ?_, fun j b ob => I.nf j b ob.2, fun j j' b o1 o2 => I.dj j j' b o1.2 o2.2, I.pv, by rw [List.length_set]; exact I.len⟩
  · by_cases z : j = i
    · subst z
      by_cases hl : j < env.length
      · rw [getD_set_self hl] at hj; exact absurd rfl hj
      · rw [List.getD_eq_getElem?_getD, List.getElem?_eq_none (by rw [List.length_set]; omega)] at hj; exact absurd rfl hj
    · rw [getD_set_ne z] at hj ⊢
      obtain ⟨v, e1, r⟩ := I.val j hj
      have : (fun b => j ≠ i ∧ own j b) = own j := by funext b; simp [z]
      rw [this]
      exact ⟨v, e1, r⟩
  · rw [getD_set_ne ob.1] at he
    exact I.emp j he b ob.2
theorem getD_setT {Γ : List Ty} {t j : Nat} {T : Ty} (h : j ≠ t) : (Γ.set t T).getD j .a = Γ.getD j .a := by
  rw [List.getD_eq_getElem?_getD, List.getD_eq_getElem?_getD, List.getElem?_set_ne (Ne.symm h)]
theorem getD_setTs {Γ : List Ty} {t : Nat} {T : Ty} (h : t < Γ.length) : (Γ.set t T).getD t .a = T := by
  rw [List.getD_eq_getElem?_getD, List.getElem?_set_self h]; rfl
/-- a slot of another kind for a while -/
theorem RE.setT {PV : List (Nat × V)} {G : Gx} {Γ : List Ty} (I : RE G Γ PV Fz H env σ own) {t : Nat} {d : Eg.D} {v : V} (hl : t < env.length) (hΓ : t < Γ.length) (hp : ∀ p ∈ PV, p.1 ≠ t) (ro : RO G Fz H .o d v S) (nf : ∀ b, S b → ¬ Fz b) (dj : ∀ j b, own j b → ¬ S b) : RE G (Γ.set t .o) PV Fz H (env.set t d) (σ.set t (some v)) (fun j b => if j = t then S b else own j b) := by
  refine ⟨fun j hj => ?_, fun j hj b ob => ?_, fun j b ob => ?_, fun j j' b o1 o2 => ?_, fun p m => ?_, by rw [List.length_set, List.length_set]; exact I.len⟩
  · by_cases q : j = t
    · subst q
      rw [getD_set_self hl, getD_setTs hΓ]
      simp only [if_true]
      exact ⟨v, by rw [List.getElem?_set_self (by rw [← I.len]; exact hl)], ro⟩
    · rw [getD_set_ne q] at hj ⊢
      rw [getD_setT q]
      simp only [if_neg q]
      obtain ⟨u, e2, r⟩ := I.val j hj
      exact ⟨u, by rw [List.getElem?_set_ne (Ne.symm q)]; exact e2, r⟩
  · by_cases q : j = t
    · subst q; rw [getD_set_self hl] at hj; exact ro.ne hj
    · rw [getD_set_ne q] at hj; simp only [if_neg q] at ob; exact I.emp j hj b ob
  · by_cases q : j = t
    · simp only [if_pos q] at ob; exact nf b ob
    · simp only [if_neg q] at ob; exact I.nf j b ob
  · by_cases q : j = t <;> by_cases q' : j' = t
    · rw [q, q']
    · simp only [if_pos q] at o1; simp only [if_neg q'] at o2; exact absurd o1 (dj j' b o2)
    · simp only [if_neg q] at o1; simp only [if_pos q'] at o2; exact absurd o2 (dj j b o1)
    · simp only [if_neg q] at o1; simp only [if_neg q'] at o2; exact I.dj j j' b o1 o2
  · rw [List.getElem?_set_ne (Ne.symm (hp p m))]; exact I.pv p m
theorem RE.dropT {PV : List (Nat × V)} {G : Gx} {Γ : List Ty} {t : Nat} {T : Ty} (I : RE G (Γ.set t T) PV Fz H env σ own) : RE G Γ PV Fz H (env.set t .unset) σ (fun j b => j ≠ t ∧ own j b) := by
  have J := I.drop t
  refine ⟨fun j hj => ?_, J.emp, J.nf, J.dj, J.pv, J.len⟩
  by_cases q : j = t
  · subst q
    by_cases hl : j < env.length
    · rw [getD_set_self hl] at hj; exact absurd rfl hj
    · rw [List.getD_eq_getElem?_getD, List.getElem?_eq_none (by rw [List.length_set]; omega)] at hj; exact absurd rfl hj
  · obtain ⟨v, e, r⟩ := J.val j hj
    rw [getD_setT q] at r
    exact ⟨v, e, r⟩
theorem RN.trk {G : Gx} {ds : List Eg.D} {xs : List V} {T : Nat → Addr → Prop} (h : RN G Fz H ds xs T) {k : Nat} {b : Addr} (z : T k b) : ∃ o, H b = some o := by
  by_cases hk : k < ds.length
  · have hk2 : k < xs.length := by rw [h.len]; exact hk
    obtain ⟨ys, q⟩ := (roo_iff.mp (h.row k _ _ (List.getElem?_eq_getElem hk) (List.getElem?_eq_getElem hk2))).own_lst b z
    exact ⟨_, q⟩
  · exact absurd z (h.out k (by omega) b)
theorem isU_set {d : Eg.D} (h : d ≠ .unset) : isU d = false := by cases d <;> first | rfl | exact absurd rfl h
/-- for t in x: x owned with its rows -/
theorem tS_forN {t i : Nat} {b : Eg.S} (hti : t ≠ i) (hr : r ≠ .o) (hΓi : L.Γ.getD i .a = .n) (hΓt : t < L.Γ.length) (hpt : ∀ p ∈ L.PV, p.1 ≠ t) (q : tS L wf r (.forN t i b) D σ H) :
    tFor (iList L.G.K (tVar i)) (gName t) (fun D' σ' H' => ∃ v1 v2, tS { L with Γ := L.Γ.set t .o, PV := (t, v1) :: (i, v2) :: L.PV } wf r b D' σ' H') D σ H := by
  obtain ⟨Fz, env, own, I, h⟩ := q
  simp only [ex] at h
  split at h
  case h_2 => exact h.elim
  rename_i ds0 h0
  split at h
  case isFalse => exact h.elim
  rename_i htl
  obtain ⟨a, xs, T, q1, q2, q3, q4, q5⟩ := I.updN h0 hΓi
  refine ⟨_, q1, a, rfl, ⟨xs, .inl (.inl q2)⟩, ?_⟩
  refine for_it (g := gName t) (tb := fun D' σ' H' => ∃ v1 v2, tS { L with Γ := L.Γ.set t .o, PV := (t, v1) :: (i, v2) :: L.PV } wf r b D' σ' H') (walk_list (K := L.G.K) (a := a) (xs := xs)) (fun k σ' H' => ∃ Fz2 own2 e2 done todo T2, Stp L σ' Fz H own true Fz2 H' e2 own2 ∧ σ'[i]? = some (some (.ref a)) ∧ t < σ'.length ∧ H' a = some (.lst xs) ∧ RN L.G Fz2 H' (done ++ todo) xs T2 ∧ done.length = k ∧ (∀ b, (b = a ∨ ∃ m, T2 m b) → ¬ Fz2 b ∧ ¬ OW own2 b ∧ (OW own b ∨ H b = none)) ∧ (∀ m, ¬ T2 m a) ∧
    EndO L r D Fz H own (evForN (ex L.fc wf b) t i done todo e2)) ?_ ?_ ?_ ?_
  · refine ⟨Fz, _, env.set i .unset, [], ds0, T, ⟨I.drop i, .refl, fun b ⟨j, _, o⟩ => .inl ⟨j, o⟩⟩, q1, by rw [← I.len]; exact htl, q2, q3, rfl, fun b z => ?_, q4, h⟩
    have o : own i b := (q5 b).mpr z
    exact ⟨I.nf i b o, fun ⟨j, n, o'⟩ => n (I.dj j i b o' o), .inl ⟨i, o⟩⟩
  · rintro k σ' H' _ ⟨Fz2, own2, e2, done, todo, T2, s2, p1, p2, p3, _⟩
    exact .inl (.inl p3)
  · rintro k x σ' H' H'' hlt ⟨Fz2, own2, e2, done, todo, T2, s2, p1, p2, p3, p4, p5, p6, p7, h2⟩ hy
    obtain ⟨y1, y2⟩ := hy
    subst y1
    cases todo with
    | nil => rw [List.append_nil] at p4; have := p4.len; omega
    | cons d rest =>
      have hd : (done ++ d :: rest)[k]? = some d := by rw [List.getElem?_append_right (by omega), p5, Nat.sub_self]; rfl
      have ro : ROo L.G Fz2 H'' d x (T2 k) := p4.row k d x hd y2
      have I2 := s2.re
      have hl : t < e2.length := by rw [I2.len]; exact p2
      have I3 : RE L.G (L.Γ.set t .o) ((t, x) :: (i, .ref a) :: L.PV) Fz2 H'' (e2.set t d) (σ'.set t (some x)) (fun j b => if j = t then T2 k b else own2 j b) := by
        have s3 := I2.setT hl hΓt hpt (roo_iff.mp ro) (fun b z => (p6 b (.inr ⟨k, z⟩)).1) (fun j b o z => (p6 b (.inr ⟨k, z⟩)).2.1 ⟨j, o⟩)
        refine s3.pv' fun p m => ?_
        rcases List.mem_cons.mp m with e | m
        · subst e; rw [List.getElem?_set_self p2]
        · rcases List.mem_cons.mp m with e | m
          · subst e; rw [List.getElem?_set_ne hti]; exact p1
          · exact s3.pv p m
      refine ⟨x, .ref a, Fz2, e2.set t d, _, I3, ?_⟩
      show EndO _ _ _ _ _ _ (ex L.fc wf b (e2.set t d))
      simp only [evForN] at h2
      -- who owns what in the turn
      have own' : ∀ {b : Addr}, OW (fun j b => if j = t then T2 k b else own2 j b) b → OW own b ∨ H b = none := fun {b} ⟨j, o⟩ => by
        by_cases q : j = t
        · simp only [if_pos q] at o; exact (p6 b (.inr ⟨k, o⟩)).2.2
        · simp only [if_neg q] at o; exact s2.ow b ⟨j, o⟩
      have hid : ∀ {b : Addr}, (b = a ∨ ∃ m, m ≠ k ∧ T2 m b) → ¬ OW (fun j b => if j = t then T2 k b else own2 j b) b := fun {b} z ⟨j, o⟩ => by
        have z' : b = a ∨ ∃ m, T2 m b := z.imp id fun ⟨m, _, z⟩ => ⟨m, z⟩
        by_cases q : j = t
        · simp only [if_pos q] at o
          rcases z with z | ⟨m, n, z⟩
          · exact p7 k (z ▸ o)
          · exact n (p4.dj m k b z o)
        · simp only [if_neg q] at o; exact (p6 b z').2.1 ⟨j, o⟩
      have trk : ∀ {b : Addr}, (b = a ∨ ∃ m, T2 m b) → ∃ o, H'' b = some o := fun {b} z => by
        rcases z with z | ⟨m, z⟩
        · exact ⟨_, z ▸ p3⟩
        · exact p4.trk z
      have low : ∀ {σ5 : L2.St} {H5 : Hp} {Fz5 : Addr → Prop} {own5 : Nat → Addr → Prop} {e5 : List Eg.D}, Stp { L with Γ := L.Γ.set t .o, PV := (t, x) :: (i, .ref a) :: L.PV } σ5 Fz2 H'' (fun j b => if j = t then T2 k b else own2 j b) true Fz5 H5 e5 own5 → Stp L σ5 Fz H own true Fz5 H5 (e5.set t .unset) (fun j b => j ≠ t ∧ own5 j b) := fun {σ5 H5 Fz5 own5 e5} s5 => by
        have I5 : RE L.G (L.Γ.set t .o) ((t, x) :: (i, .ref a) :: L.PV) Fz5 H5 e5 σ5 own5 := s5.re
        exact ⟨I5.dropT.pv' fun p m => I5.pv p (List.mem_cons_of_mem _ (List.mem_cons_of_mem _ m)), s2.fr.trans s5.fr fun b m => (own' m.2).imp (fun z => ⟨rfl, z⟩) id, fun b ⟨j, _, o⟩ => (s5.ow b ⟨j, o⟩).elim own' s2.back⟩
      have post : ∀ {σ5 : L2.St} {H5 : Hp} {Fz5 : Addr → Prop} {own5 : Nat → Addr → Prop} {e5 : List Eg.D}, Stp { L with Γ := L.Γ.set t .o, PV := (t, x) :: (i, .ref a) :: L.PV } σ5 Fz2 H'' (fun j b => if j = t then T2 k b else own2 j b) true Fz5 H5 e5 own5 → e5.getD t .unset ≠ .unset →
          Stp L σ5 Fz H own true Fz5 H5 (e5.set t .unset) (fun j b => j ≠ t ∧ own5 j b) ∧ σ5[i]? = some (some (.ref a)) ∧ t < σ5.length ∧ H5 a = some (.lst xs) ∧ RN L.G Fz5 H5 (done ++ e5.getD t .unset :: rest) xs (fun m b => if m = k then own5 t b else T2 m b) ∧
            (∀ b, (b = a ∨ ∃ m, (if m = k then own5 t b else T2 m b)) → ¬ Fz5 b ∧ ¬ OW (fun j b => j ≠ t ∧ own5 j b) b ∧ (OW own b ∨ H b = none)) ∧ ∀ m, ¬ (if m = k then own5 t a else T2 m a) := fun {σ5 H5 Fz5 own5 e5} s5 hne => by
        have I5 : RE L.G (L.Γ.set t .o) ((t, x) :: (i, .ref a) :: L.PV) Fz5 H5 e5 σ5 own5 := s5.re
        have s6 := low s5
        have pt : σ5[t]? = some (some x) := I5.pv (t, x) List.mem_cons_self
        have pi : σ5[i]? = some (some (.ref a)) := I5.pv (i, .ref a) (List.mem_cons_of_mem _ List.mem_cons_self)
        obtain ⟨v, e1, r5⟩ := I5.val t hne
        rw [pt] at e1
        cases e1
        have r5 : RO L.G Fz5 H5 .o (e5.getD t .unset) x (own5 t) := by rw [getD_setTs hΓt] at r5; exact r5
        have nO5 : ∀ {b : Addr}, (b = a ∨ ∃ m, m ≠ k ∧ T2 m b) → ¬ OW own5 b := fun {b} z o => by
          rcases s5.ow b o with q | q
          · exact hid z q
          · obtain ⟨o, e⟩ := trk (z.imp id fun ⟨m, _, z⟩ => ⟨m, z⟩)
            rw [e] at q; cases q
        have nF5 : ∀ {b : Addr}, (b = a ∨ ∃ m, m ≠ k ∧ T2 m b) → ¬ Fz5 b := fun {b} z o => by
          have z' : b = a ∨ ∃ m, T2 m b := z.imp id fun ⟨m, _, z⟩ => ⟨m, z⟩
          rcases s5.fr.fzn b o with q | q | q
          · exact (p6 b z').1 q
          · exact hid z q.2
          · obtain ⟨o, e⟩ := trk z'
            rw [e] at q; cases q
        have keep : ∀ {b : Addr} {o : HO}, (b = a ∨ ∃ m, m ≠ k ∧ T2 m b) → H'' b = some o → H5 b = some o := fun {b o} z e => s5.fr.keep b o e fun m => hid z m.2
        have rn := RN.set (m := k) p4 (s5.fr.le (MM.nf I3)) (fun m b o n z e => keep (.inr ⟨m, n, z⟩) e) y2 (roo_iff.mpr r5) fun m b n z o => nO5 (.inr ⟨m, n, z⟩) ⟨t, o⟩
        rw [show (done ++ d :: rest).set k (e5.getD t .unset) = done ++ e5.getD t .unset :: rest by rw [List.set_append_right _ _ (by omega), p5, Nat.sub_self]; rfl] at rn
        refine ⟨s6, pi, (List.getElem?_eq_some_iff.mp pt).1, keep (.inl rfl) p3, rn, fun b z => ?_, fun m => ?_⟩
        · have old : (b = a ∨ ∃ m, m ≠ k ∧ T2 m b) → ¬ Fz5 b ∧ ¬ OW (fun j b => j ≠ t ∧ own5 j b) b ∧ (OW own b ∨ H b = none) := fun z => ⟨nF5 z, fun ⟨j, _, o⟩ => nO5 z ⟨j, o⟩, (p6 b (z.imp id fun ⟨m, _, z⟩ => ⟨m, z⟩)).2.2⟩
          rcases z with z | ⟨m, z⟩
          · exact old (.inl z)
          · by_cases q : m = k
            · rw [if_pos q] at z
              exact ⟨I5.nf t b z, fun ⟨j, n, o⟩ => n (I5.dj j t b o z), (s5.ow b ⟨t, z⟩).elim own' s2.back⟩
            · rw [if_neg q] at z
              exact old (.inr ⟨m, q, z⟩)
        · by_cases q : m = k
          · rw [if_pos q]; exact fun o => nO5 (.inl rfl) ⟨t, o⟩
          · rw [if_neg q]; exact p7 m
      have turn : ∀ {e5 : List Eg.D}, EndO L r D Fz H own (if isU (e5.getD i .unset) && !isU (e5.getD t .unset) then evForN (ex L.fc wf b) t i (done ++ [e5.getD t .unset]) rest (e5.set t .unset) else .no) → ∀ σ5 H5 Fz5 own5, Stp { L with Γ := L.Γ.set t .o, PV := (t, x) :: (i, .ref a) :: L.PV } σ5 Fz2 H'' (fun j b => if j = t then T2 k b else own2 j b) true Fz5 H5 e5 own5 →
          ∃ Fz2 own2 e2 done todo T2, Stp L σ5 Fz H own true Fz2 H5 e2 own2 ∧ σ5[i]? = some (some (.ref a)) ∧ t < σ5.length ∧ H5 a = some (.lst xs) ∧ RN L.G Fz2 H5 (done ++ todo) xs T2 ∧ done.length = k + 1 ∧ (∀ b, (b = a ∨ ∃ m, T2 m b) → ¬ Fz2 b ∧ ¬ OW own2 b ∧ (OW own b ∨ H b = none)) ∧ (∀ m, ¬ T2 m a) ∧
            EndO L r D Fz H own (evForN (ex L.fc wf b) t i done todo e2) := fun {e5} h2 σ5 H5 Fz5 own5 s5 => by
        split at h2
        case isFalse => exact h2.elim
        rename_i hc
        simp only [Bool.and_eq_true, Bool.not_eq_true'] at hc
        obtain ⟨z1, z2, z3, z4, z5, z6, z7⟩ := post s5 (isU_eq hc.2)
        exact ⟨Fz5, _, _, done ++ [e5.getD t .unset], rest, _, z1, z2, z3, z4, by rw [List.append_assoc]; exact z5, by rw [List.length_append, p5]; rfl, z6, z7, h2⟩
      cases eb : ex L.fc wf b (e2.set t d) with
      | nx e5 => rw [eb] at h2; exact turn h2
      | ct e5 => rw [eb] at h2; exact turn h2
      | bk e5 =>
        rw [eb] at h2
        intro σ5 H5 Fz5 own5 s5
        simp only at h2
        split at h2
        case isFalse => exact h2.elim
        rename_i hc
        simp only [Bool.and_eq_true, Bool.not_eq_true'] at hc
        obtain ⟨z1, z2, z3, z4, z5, z6, z7⟩ := post s5 (isU_eq hc.2)
        exact h2 _ _ _ _ (z1.setN (H2 := H5) (M := fun _ => False) hΓi (by intro z; cases z) z2 .refl (fun _ z => z.elim) (S := fun b => b = a ∨ ∃ m, (if m = k then own5 t b else T2 m b)) ⟨a, xs, _, rfl, z4, z5, z7, fun b => Iff.rfl⟩ (fun b z => (z6 b z).1) (fun j b _ o z => (z6 b z).2.1 ⟨j, o⟩) fun b z => (z6 b z).2.2)
      | rh j e5 =>
        rw [eb] at h2
        intro v σ5 H5 Fz5 own5 s5 hv
        simp only at h2
        split at h2
        case isFalse => exact h2.elim
        rename_i hc
        simp only [Bool.and_eq_true, Bool.not_eq_true', beq_iff_eq] at hc
        obtain ⟨hji, _, hc⟩ := hc
        subst hji
        obtain ⟨z1, z2, z3, z4, z5, z6, z7⟩ := post s5 (isU_eq hc)
        rw [z2] at hv
        cases hv
        have ron : RO L.G Fz5 H5 .n (.lst (done ++ e5.getD t .unset :: rest)) (.ref a) (fun b => b = a ∨ ∃ m, (if m = k then own5 t b else T2 m b)) := ⟨a, xs, _, rfl, z4, z5, z7, fun b => Iff.rfl⟩
        cases r with
        | o => exact absurd rfl hr
        | n => exact h2 (.ref a) σ5 H5 Fz5 _ _ z1 ron ⟨fun b z => (z6 b z).1, fun j b o z => (z6 b z).2.1 ⟨j, o⟩, fun b z => (z6 b z).2.2.imp (fun z => ⟨rfl, z⟩) id⟩
        | a => exact h2 (.ref a) σ5 H5 _ _ _ ⟨z1.re.more fun j b o z => (z6 b z).2.1 ⟨j, o⟩, z1.fr.more fun b z => (z6 b z).2.2.imp (fun z => ⟨rfl, z⟩) id, z1.ow⟩ ⟨ron.freeze, fun _ => id⟩ .none
      | ret d5 e5 =>
        rw [eb] at h2
        intro v σ5 H5 Fz5 own5 S5 s5 ro5 hd5
        exact h2 v σ5 H5 Fz5 _ S5 (low s5) ro5 ⟨hd5.nf, (fun j b o => hd5.dj j b o.2), fun b z => (hd5.fr b z).elim (fun m => (own' m.2).imp (fun z => ⟨rfl, z⟩) id) fun z => (Eg.back s2.fr z).imp (fun m => ⟨rfl, m.2⟩) id⟩
      | exc c e5 =>
        rw [eb] at h2
        intro σ5 H5 Fz5 own5 s5
        exact h2 σ5 H5 Fz5 _ (low s5)
      | no => rw [eb] at h2; exact h2
  · rintro σ' H' ⟨Fz2, own2, e2, done, todo, T2, s2, p1, p2, p3, p4, p5, p6, p7, h2⟩
    have : todo = [] := by
      have := p4.len
      rw [List.length_append] at this
      exact List.eq_nil_of_length_eq_zero (by omega)
    subst this
    rw [List.append_nil] at p4
    exact h2 _ _ _ _ (s2.setN (H2 := H') (M := fun _ => False) hΓi (by intro z; cases z) p1 .refl (fun _ z => z.elim) (S := fun b => b = a ∨ ∃ m, T2 m b) ⟨a, xs, _, rfl, p3, p4, p7, fun b => Iff.rfl⟩ (fun b z => (p6 b z).1) (fun j b _ o z => (p6 b z).2.1 ⟨j, o⟩) fun b z => (p6 b z).2.2)
theorem noLs_at : ∀ {ds : List Eg.D} {k : Nat} {d : Eg.D}, noLs ds = true → ds[k]? = some d → noL d = true
  | [], _, _, _, h => by cases h
  | _ :: _, 0, _, n, h => by
    simp only [noLs, Bool.and_eq_true] at n
    cases h
    exact n.1
  | _ :: _, k + 1, d, n, h => by
    simp only [noLs, Bool.and_eq_true] at n
    exact noLs_at (k := k) n.2 (by simpa using h)
/-- for .. in x: x owned, put aside meanwhile -/
theorem tS_forO {i : Nat} {t : TN} {it : E} {b : Eg.S} (he : eff it = false) (hk : kpI (L.fz [i]).Γ it = false) (hg : ∀ v, GOk { L with PV := (i, v) :: L.PV } t (tnG L.G.K t)) (q : tS L wf r (.forO i t it b) D σ H) :
    tFor (tI (L.fz [i]) it) (tnG L.G.K t) (fun D' σ' H' => ∃ v, tS { L with PV := (i, v) :: L.PV } wf r b D' σ' H') D σ H := by
  obtain ⟨Fz, env, own, I, h⟩ := q
  simp only [ex] at h
  split at h
  case h_2 => exact h.elim
  rename_i ds0 h0
  refine ⟨_, env, _, I.fz [i], ?_⟩
  show match ev L.fc it env with
    | .ok ds env' => _
    | .exc c env' => _
    | .no => False
  cases ei : ev L.fc it env with
  | no => rw [ei] at h; exact h
  | exc c e1 => rw [ei] at h; exact h.elim
  | ok ds e1 =>
    rw [ei] at h
    rcases ds with _ | ⟨d, _ | ⟨_, _⟩⟩ <;> first | exact h.elim | skip
    simp only at h
    cases hi : items d with
    | none => rw [hi] at h; exact h.elim
    | some its =>
      rw [hi] at h
      simp only at h
      split at h
      case isFalse => exact h.elim
      rename_i hnl
      refine ⟨d, its, rfl, hi, fun J H1 Fz1 own1 s1 wk => ?_⟩
      obtain ⟨Gd, Y, w, hG, hY⟩ := wk.wk
      obtain ⟨fA, hl⟩ := fz_back I (is := [i]) (s1.fr.mono fun b m => by rw [he] at m; cases m.1)
      have hS : ∀ {b : Addr}, frS own [i] b ↔ own i b := fun {b} => ⟨fun ⟨j, m, o⟩ => by rw [List.mem_singleton.mp m] at o; exact o, fun o => ⟨i, List.mem_singleton.mpr rfl, o⟩⟩
      have IA := I.fr0 fA
      have IB := IA.drop i
      obtain ⟨v0, e0, roA⟩ := IA.val i (by rw [h0]; intro z; cases z)
      rw [h0] at roA
      have sB : Stp L σ Fz H own true (fun b => Fz1 b ∧ ¬ frS own [i] b) H1 (env.set i .unset) (fun j b => j ≠ i ∧ own j b) := ⟨IB, fA.mono fun _ z => z.elim, fun b ⟨j, _, o⟩ => .inl ⟨j, o⟩⟩
      have trk : ∀ {b : Addr}, own i b → ∃ xs, H1 b = some (.lst xs) := fun {b} o => hl b (hS.mpr o)
      -- from the inner surroundings to the outer ones
      have low : ∀ {FzX : Addr → Prop} {HX : Hp} {ownX : Nat → Addr → Prop} {σ5 : L2.St} {H5 : Hp} {Fz5 : Addr → Prop} {e5 : List Eg.D} {own5 : Nat → Addr → Prop}, Stp { L with PV := (i, v0) :: L.PV } σ5 FzX HX ownX true Fz5 H5 e5 own5 → Stp L σ5 FzX HX ownX true Fz5 H5 e5 own5 := fun s5 => ⟨s5.re.pv' fun p m => s5.re.pv p (List.mem_cons_of_mem _ m), s5.fr, s5.ow⟩
      have back : ∀ {σ5 : L2.St} {H5 : Hp} {Fz5 : Addr → Prop} {e5 : List Eg.D} {own5 : Nat → Addr → Prop}, Stp { L with PV := (i, v0) :: L.PV } σ5 (fun b => Fz1 b ∧ ¬ frS own [i] b) H1 (fun j b => j ≠ i ∧ own j b) true Fz5 H5 e5 own5 → (∀ b, own i b → ¬ Fz5 b ∧ ¬ OW own5 b) → (∀ b o, own i b → H1 b = some o → H5 b = some o) → EndO L r D Fz H own (finO i ds0 (.nx e5)) → D.nx σ5 H5 := fun {σ5 H5 Fz5 e5 own5} s5 hid keep hh => by
        simp only [finO] at hh
        split at hh
        case isFalse => exact hh.elim
        have s6 := sB.seq (low s5)
        have le5 : Le (fun b => Fz1 b ∧ ¬ frS own [i] b) H1 Fz5 H5 := s5.fr.le (MM.nf IB)
        exact hh _ _ _ _ (s6.setN (H2 := H5) (M := fun _ => False) (T := L.Γ.getD i .a) rfl (by intro z; cases z) (s5.re.pv (i, v0) List.mem_cons_self) .refl (fun _ z => z.elim) (S := own i) (roA.le le5 keep) (fun b o => (hid b o).1) (fun j b _ o z => (hid b z).2 ⟨j, o⟩) fun b o => .inl ⟨i, o⟩)
      refine for_it (g := tnG L.G.K t) (tb := fun D' σ' H' => ∃ v, tS { L with PV := (i, v) :: L.PV } wf r b D' σ' H') w (fun k σ' H' => ∃ Fz2 own2 e2, Stp { L with PV := (i, v0) :: L.PV } σ' (fun b => Fz1 b ∧ ¬ frS own [i] b) H1 (fun j b => j ≠ i ∧ own j b) true Fz2 H' e2 own2 ∧ (∀ b, own i b → ¬ Fz2 b ∧ ¬ OW own2 b) ∧ (∀ b o, own i b → H1 b = some o → H' b = some o) ∧
        EndO L r D Fz H own (finO i ds0 (evFor (fun d => asgN t [d]) (ex L.fc wf b) (its.drop k) e2))) ?_ ?_ ?_ ?_
      · refine ⟨_, _, env.set i .unset, .refl (L := { L with PV := (i, v0) :: L.PV }) (IB.pv' fun p m => ?_), fun b o => ⟨fun z => z.2 (hS.mpr o), fun ⟨j, n, o'⟩ => n (I.dj j i b o' o)⟩, fun b o _ e => e, h⟩
        rcases List.mem_cons.mp m with e | m
        · subst e; exact e0
        · exact I.pv p m
      · rintro k σ' H' _ ⟨Fz2, own2, e2, s2, hid, keep, _⟩
        refine hG (fun b => Fz2 b ∨ own i b) H' (fun b o z e => ?_) fun z => by rw [hk] at z; cases z
        by_cases q : own i b
        · exact ⟨.inr q, keep b o q e⟩
        · have := s2.fr.le (MM.nf IB) b o ⟨z, fun y => q (hS.mp y)⟩ e
          exact ⟨.inl this.1, this.2⟩
      · rintro k x σ' H' H'' hlt ⟨Fz2, own2, e2, s2, hid, keep, h2⟩ hy
        obtain ⟨Fz3, f3, d3, hd3, r3⟩ := hY k H' (fun b => Fz2 b ∨ own i b) x H'' hlt (fun b o z e => by
          by_cases q : own i b
          · exact ⟨.inr q, keep b o q e⟩
          · have := s2.fr.le (MM.nf IB) b o ⟨z, fun y => q (hS.mp y)⟩ e
            exact ⟨.inl this.1, this.2⟩) hy
        have f3' : Fr Fz2 H' (fun _ => False) (fun b => Fz3 b ∧ ¬ own i b) H'' := ⟨fun b o z e _ => ⟨f3.fz b o (.inl z) e id, fun q => (hid b q).1 z⟩, f3.keep, fun b z => (f3.fzn b z.1).imp (fun y => y.resolve_right z.2) id⟩
        have r3' : RF L.G (fun b => Fz3 b ∧ ¬ own i b) H'' d3 x := RF.less (R := own i) (fun b z n => ⟨z, n⟩) (fun b o => let ⟨xs, e⟩ := trk o; ⟨xs, f3.none b _ (keep b _ o e)⟩) d3 (noLs_at hnl hd3) r3
        have I3 := s2.re.fr0 f3'
        have s3 : Stp { L with PV := (i, v0) :: L.PV } σ' (fun b => Fz1 b ∧ ¬ frS own [i] b) H1 (fun j b => j ≠ i ∧ own j b) true (fun b => Fz3 b ∧ ¬ own i b) H'' e2 own2 := ⟨I3, s2.fr.trans f3' (fun _ z => z.elim), s2.ow⟩
        have keep3 : ∀ b o, own i b → H1 b = some o → H'' b = some o := fun b o q e => f3.none b o (keep b o q e)
        obtain ⟨hil, hid3⟩ := List.getElem?_eq_some_iff.mp hd3
        rw [List.drop_eq_getElem_cons hil, hid3] at h2
        simp only [evFor] at h2
        cases ea : asgN t [d3] e2 with
        | none => rw [ea] at h2; exact h2.elim
        | some e4 =>
          rw [ea] at h2
          simp only at h2
          refine hg v0 x σ' H'' _ e2 own2 d3 e4 _ I3 r3' ea fun σ4 I4 _ => ?_
          have s4 : Stp { L with PV := (i, v0) :: L.PV } σ4 (fun b => Fz1 b ∧ ¬ frS own [i] b) H1 (fun j b => j ≠ i ∧ own j b) true (fun b => Fz3 b ∧ ¬ own i b) H'' e4 own2 := ⟨I4, s3.fr, s3.ow⟩
          have hidA : ∀ {σ5 : L2.St} {H5 : Hp} {Fz5 : Addr → Prop} {e5 : List Eg.D} {own5 : Nat → Addr → Prop}, Stp { L with PV := (i, v0) :: L.PV } σ5 (fun b => Fz3 b ∧ ¬ own i b) H'' own2 true Fz5 H5 e5 own5 → (∀ b, own i b → ¬ Fz5 b ∧ ¬ OW own5 b) ∧ ∀ b o, own i b → H1 b = some o → H5 b = some o := fun {σ5 H5 Fz5 e5 own5} s5 => by
            refine ⟨fun b q => ⟨fun z => ?_, fun z => ?_⟩, fun b o q e => s5.fr.keep b o (keep3 b o q e) fun m => (hid b q).2 m.2⟩
            · obtain ⟨xs, e⟩ := trk q
              rcases s5.fr.fzn b z with y | y | y
              · exact y.2 q
              · exact (hid b q).2 y.2
              · rw [keep3 b _ q e] at y; cases y
            · obtain ⟨xs, e⟩ := trk q
              rcases s5.ow b z with y | y
              · exact (hid b q).2 y
              · rw [keep3 b _ q e] at y; cases y
          refine ⟨v0, _, e4, own2, I4, ?_⟩
          show EndO _ _ _ _ _ _ (ex L.fc wf b e4)
          cases eb : ex L.fc wf b e4 with
          | nx e5 =>
            rw [eb] at h2
            intro σ5 H5 Fz5 own5 s5
            exact ⟨Fz5, own5, e5, s4.seq s5, (hidA s5).1, (hidA s5).2, h2⟩
          | ct e5 =>
            rw [eb] at h2
            intro σ5 H5 Fz5 own5 s5
            exact ⟨Fz5, own5, e5, s4.seq s5, (hidA s5).1, (hidA s5).2, h2⟩
          | bk e5 =>
            rw [eb] at h2
            intro σ5 H5 Fz5 own5 s5
            exact back (s4.seq s5) (hidA s5).1 (hidA s5).2 h2
          | ret d5 e5 =>
            rw [eb] at h2
            intro v σ5 H5 Fz5 own5 S5 s5 ro5 hd5
            exact h2 v σ5 H5 Fz5 own5 S5 (sB.seq (low (s4.seq s5))) ro5 (Hd.seq sB (Hd.seq (low s4) hd5))
          | exc c e5 =>
            rw [eb] at h2
            intro σ5 H5 Fz5 own5 s5
            exact h2 σ5 H5 Fz5 own5 (sB.seq (low (s4.seq s5)))
          | rh j e5 =>
            rw [eb] at h2
            intro v σ5 H5 Fz5 own5 s5 hv
            exact h2 v σ5 H5 Fz5 own5 (sB.seq (low (s4.seq s5))) hv
          | no => rw [eb] at h2; exact h2
      · rintro σ' H' ⟨Fz2, own2, e2, s2, hid, keep, h2⟩
        rw [List.drop_length] at h2
        exact back s2 hid keep h2
end
end Eg

end
section
set_option maxHeartbeats 8000000
namespace Eg
open PySem PySem.Spec PyProof.Rows L2
section
variable {X : Cx} {L : Lx} {U : Fx} {k : Nat} {N : List Str} {sc : Scope} {GL : Str → D → Bool} {xn : Nat → Str} {xd : Nat → Bool} {wf : Nat}
theorem tT_len (P : CkP) : ∀ (t : T) {es : List Expr}, ckT P sc true t es = true → (∀ e ∈ es, noStar e = true) ∧ es.length = tLenT t ∧ ∀ (fc : Nat → List D → CR) ds env env', asg fc t ds env = some env' → ds.length = tLenT t := by
  intro t
  induction t with
  | nil =>
    intro es h
    cases es with
    | nil =>
      refine ⟨fun e m => (by cases m), rfl, fun fc ds env env' h => ?_⟩
      cases ds with
      | nil => rfl
      | cons _ _ => simp [asg] at h
    | cons _ _ => simp [ckT] at h
  | cons a b _ ihb =>
    intro es h
    cases es with
    | nil => simp [ckT] at h
    | cons e es =>
      simp only [ckT, Bool.and_eq_true] at h
      obtain ⟨⟨h1, h2⟩, h3⟩ := h
      obtain ⟨q1, q2, q3⟩ := ihb h3
      refine ⟨fun x m => (List.mem_cons.mp m).elim (fun z => z ▸ h1) (q1 x), by rw [List.length_cons, q2]; rfl, fun fc ds env env' h => ?_⟩
      cases ds with
      | nil => simp [asg] at h
      | cons d ds =>
        simp only [asg] at h
        split at h
        · rw [List.length_cons, q3 _ _ _ _ h]; rfl
        · cases h
  | nm i => intro es h; cases es <;> simp [ckT] at h
  | sub i k => intro es h; cases es <;> simp [ckT] at h
  | tp t _ => intro es h; cases es <;> simp [ckT] at h
theorem gT_ok (P : CkP) (hΓ : P.Γ = L.Γ) (hp : ∀ p ∈ L.PV, p.1 ∈ P.pins) : ∀ (t : T), (∀ {e : Expr}, ckT P sc false t [e] = true → GTOk L t (gT L t)) ∧ (∀ {es : List Expr}, ckT P sc true t es = true → GTsOk L t (gTs L t)) := by
  intro t
  induction t with
  | nm i =>
    refine ⟨fun {e} h => ?_, fun {es} h => by cases es <;> simp [ckT] at h⟩
    cases e <;> simp only [ckT, Bool.and_eq_true, decide_eq_true_eq] at h <;> first | (cases h; done) | skip
    obtain ⟨⟨⟨h1, h2⟩, h3⟩, h4⟩ := h
    exact gT_nm (hΓ ▸ h3) fun p m z => by
      have := hp p m
      rw [z] at this
      simp [this] at h4
  | sub i k =>
    refine ⟨fun {e} h => ?_, fun {es} h => by cases es <;> simp [ckT] at h⟩
    cases e <;> first | (simp [ckT] at h; done) | skip
    rename_i o idx pos
    cases o <;> first | (simp [ckT] at h; done) | skip
    simp only [ckT, Bool.and_eq_true, decide_eq_true_eq] at h
    exact gT_sub (hΓ ▸ h.1.1.1.2)
  | nil => exact ⟨fun {e} h => by cases e <;> simp [ckT] at h, fun {es} h => gT_nil⟩
  | cons a b iha ihb =>
    refine ⟨fun {e} h => by cases e <;> simp [ckT] at h, fun {es} h => ?_⟩
    cases es with
    | nil => simp [ckT] at h
    | cons e es =>
      simp only [ckT, Bool.and_eq_true] at h
      exact gT_cons (iha.1 h.1.2) (ihb.2 h.2)
  | tp t iht =>
    refine ⟨fun {e} h => ?_, fun {es} h => by cases es <;> simp [ckT] at h⟩
    cases e <;> simp only [ckT] at h <;> first | (cases h; done) | skip
    exact gT_tup rfl ((tT_len P t h).2.2 L.fc) (iht.2 h)
theorem sub_assign {o i : Expr} {pos : Pos} {env : Env} (h : plainI i = true) : ∀ v, assign (.Subscript o i pos) env v = (do
      let ov ← holding [v] (eval o env)
      let iv ← holding [v, ov] (eval i env)
      standAt pos
      holding [v, ov, iv] (setItem ov iv v)
      release [v, ov, iv] []) := by
  intro v
  cases i <;> first | rfl | simp [plainI] at h
theorem pT_ok (P : CkP) (hU : P.U = U) (hN : P.N = N) (hG : P.GL = GL) (hr : P.rt = L.rt) (hΓ : P.Γ = L.Γ) (hh : P.hot = L.hot) (h0 : L.hot = false) (hp : ∀ p ∈ L.PV, p.1 ∈ P.pins) (C : Ct L U N k sc GL X) : ∀ (t : T), (∀ {e : Expr}, ckT P sc false t [e] = true → PG X e (gT L t)) ∧ (∀ {es : List Expr}, ckT P sc true t es = true → PGs X es (gTs L t)) := by
  subst hU hN hG
  intro t
  induction t with
  | nm i =>
    refine ⟨fun {e} h => ?_, fun {es} h => by cases es <;> simp [ckT] at h⟩
    cases e <;> simp only [ckT, Bool.and_eq_true, decide_eq_true_eq] at h <;> first | (cases h; done) | skip
    obtain ⟨⟨⟨h1, h2⟩, h3⟩, h4⟩ := h
    obtain ⟨s1, s2⟩ := C.hs _ h2
    exact pg_name (by rw [C.hN]; exact C.nd) (by rw [C.hN]; exact h1) s1 s2
  | sub i k =>
    refine ⟨fun {e} h => ?_, fun {es} h => by cases es <;> simp [ckT] at h⟩
    cases e <;> first | (simp [ckT] at h; done) | skip
    rename_i o idx pos
    cases o <;> first | (simp [ckT] at h; done) | skip
    simp only [ckT, Bool.and_eq_true, decide_eq_true_eq] at h
    obtain ⟨⟨⟨⟨⟨h1, h2⟩, h3⟩, h4⟩, h5⟩, h6⟩ := h
    obtain ⟨v1, v2, v3⟩ := nmOk_inv h2
    obtain ⟨_, e1, _, pk, _⟩ := (ck_ok P rfl rfl rfl k hr hΓ hh hp C h6).1 h5
    cases e1
    exact pg_sub (pe_byNm C h1 v1 v2 v3) pk set_list (sub_assign h4)
  | nil =>
    refine ⟨fun {e} h => by cases e <;> simp [ckT] at h, fun {es} h => ?_⟩
    cases es with
    | nil => exact pgs_nil
    | cons _ _ => simp [ckT] at h
  | cons a b iha ihb =>
    refine ⟨fun {e} h => by cases e <;> simp [ckT] at h, fun {es} h => ?_⟩
    have st := (tT_len P _ h).1
    cases es with
    | nil => simp [ckT] at h
    | cons e es =>
      simp only [ckT, Bool.and_eq_true] at h
      refine pgs_cons (iha.1 h.1.2) (ihb.2 h.2) ?_
      rw [(assign_map st).1, (assign_map fun x hx => st x (List.mem_cons_of_mem _ hx)).1]
      rfl
  | tp t iht =>
    refine ⟨fun {e} h => ?_, fun {es} h => by cases es <;> simp [ckT] at h⟩
    cases e <;> simp only [ckT] at h <;> first | (cases h; done) | skip
    obtain ⟨q1, q2, q3⟩ := tT_len P t h
    have := iht.2 h
    show PG X _ (gTL L.G.K _ _)
    rw [← C.hK]
    exact pg_tl (C.calm h0) this (by rw [(assign_map q1).2.1, q2]) (assign_map q1).2.2
theorem few1 {v : Expr} {env : Env} {cp : Pos} (h : noStar v = true) : ((backTo cp (starEach [v] env)).all (fun x => !x.1) && (backToKw cp (keywordEach [] env)).all (fun x => x.1.isSome)
      && decide (([v] : List Expr).length + ([] : List Keyword).length + (if ([] : List Keyword).isEmpty then 0 else 1) < 30)) = true := by
  rw [star_cons h]
  rfl
/-- two names from the right -/
theorem tS_par {r : Ty} {D : Ends} {σ : L2.St} {H : Hp} {i j : Nat} {a b : E} (hi : L.Γ.getD i .a = .a) (hj : L.Γ.getD j .a = .a) (hpi : ∀ p ∈ L.PV, p.1 ≠ i) (hpj : ∀ p ∈ L.PV, p.1 ≠ j) (hl : lok L.Γ (.cons a (.cons b .nil)) = true) (hn : noOwn L.Γ (.cons a (.cons b .nil)) = true)
    (q : tS L wf r (.unp (.tp (.cons (.nm i) (.cons (.nm j) .nil))) (.tup (.cons a (.cons b .nil)))) D σ H) : tPar i j (tPs L (.cons a (.cons b .nil))) D σ H := by
  obtain ⟨Fz, env, own, I, h⟩ := q
  refine tPs_mk hl I ?_
  simp only [ex, R.out] at h
  generalize hab : (E.cons a (.cons b .nil)) = ab at h hl hn
  have : ev L.fc (.tup ab) env = (ev L.fc ab env).bind fun x e => .ok [.tup x] e := by simp only [ev]
  rw [this] at h
  have hlen := @ev_len L.Γ L.fc ab
  cases ee : ev L.fc ab env with
  | no => rw [ee] at h; exact h
  | exc c e1 => rw [ee] at h; exact ResX.ofS (.refl I (e1 := true)) h
  | ok ds e1 =>
    rw [ee] at h
    have hl2 := hlen hl ee
    subst hab
    intro vs H1 Fz1 own1 s1 rbs rfs
    have rf := rfs hn
    match ds, hl2, h, rf with
    | [d1, d2], _, h, ⟨v1, _, e2, r1, v2, _, e3, r2, e4⟩ =>
      cases e4
      subst e3
      subst e2
      simp only [R.bind, asg, items, optO] at h
      have s2 := s1.set_a (d := d1) hi hpi r1
      have s3 := s2.set_a (d := d2) hj hpj r2
      exact ⟨v1, v2, rfl, h _ _ _ _ s3⟩
/-- three names from the right -/
theorem tS_par3 {r : Ty} {D : Ends} {σ : L2.St} {H : Hp} {i j l : Nat} {a b c : E} (hi : L.Γ.getD i .a = .a) (hj : L.Γ.getD j .a = .a) (hl : L.Γ.getD l .a = .a) (hpi : ∀ p ∈ L.PV, p.1 ≠ i) (hpj : ∀ p ∈ L.PV, p.1 ≠ j) (hpl : ∀ p ∈ L.PV, p.1 ≠ l) (hk : lok L.Γ (.cons a (.cons b (.cons c .nil))) = true) (hn : noOwn L.Γ (.cons a (.cons b (.cons c .nil))) = true)
    (q : tS L wf r (.unp (.tp (.cons (.nm i) (.cons (.nm j) (.cons (.nm l) .nil)))) (.tup (.cons a (.cons b (.cons c .nil))))) D σ H) : tPar3 i j l (tPs L (.cons a (.cons b (.cons c .nil)))) D σ H := by
  obtain ⟨Fz, env, own, I, h⟩ := q
  refine tPs_mk hk I ?_
  simp only [ex, R.out] at h
  generalize hab : (E.cons a (.cons b (.cons c .nil))) = ab at h hk hn
  have : ev L.fc (.tup ab) env = (ev L.fc ab env).bind fun x e => .ok [.tup x] e := by simp only [ev]
  rw [this] at h
  have hlen := @ev_len L.Γ L.fc ab
  cases ee : ev L.fc ab env with
  | no => rw [ee] at h; exact h
  | exc c e1 => rw [ee] at h; exact ResX.ofS (.refl I (e1 := true)) h
  | ok ds e1 =>
    rw [ee] at h
    have hl2 := hlen hk ee
    subst hab
    intro vs H1 Fz1 own1 s1 rbs rfs
    have rf := rfs hn
    match ds, hl2, h, rf with
    | [d1, d2, d3], _, h, ⟨v1, _, e2, r1, v2, _, e3, r2, v3, _, e4, r3, e5⟩ =>
      cases e5
      subst e4
      subst e3
      subst e2
      simp only [R.bind, asg, items, optO] at h
      have s2 := s1.set_a (d := d1) hi hpi r1
      have s3 := s2.set_a (d := d2) hj hpj r2
      have s4 := s3.set_a (d := d3) hl hpl r3
      exact ⟨v1, v2, v3, rfl, h _ _ _ _ s4⟩
theorem sws_sub {o i v : Expr} {p : Pos} {l : Nat} {env : Env} : swapsWithSole [.Subscript o i p] v l env = pure false := by
  show swapsWith v (some (.Subscript o i p)) l env = _
  exact sw_tg (fun _ _ z => by cases z)
theorem sws_tup {ts : List Expr} {u : Nat} {p : Pos} {v : Expr} {l : Nat} {env : Env} : swapsWithSole [.Tuple ts u p] v l env = pure false := by
  show swapsWith v (some (.Tuple ts u p)) l env = _
  exact sw_tg (fun _ _ z => by cases z)
theorem aug_plain {i : Expr} (h : plainI i = true) : ∀ ov iv new, augStore i ov iv new = (do holding [new, ov, iv] (setItem ov iv new); release [new, ov, iv] []; pure .next) := by
  intro ov iv new
  cases i <;> first | rfl | simp [plainI] at h
/-- THE CHECK of statements -/
theorem ss_ok : ∀ (s : S) {X : Cx} {L : Lx} (P : CkS), P.U = U → P.N = N → P.GL = GL → P.xn = xn → P.xd = xd → P.rt = L.rt → P.Γ = L.Γ → P.hot = L.hot → (∀ p ∈ L.PV, p.1 ∈ P.pins) → (∀ i ∈ P.held, ∃ v, (i, v) ∈ L.PV) → Cs L U N k sc GL xn xd X → ∀ {sts : List Stmt}, ckS P sc s sts = true →
    PSs X sts (tS L wf P.ret s) ∧ ∀ st, sts = [st] → isSeq s = false → PS X st (tS L wf P.ret s) := by
  intro s
  induction s with
  | skip =>
    intro X L P hU hN hG hx hd hrt hΓ hh hp hq Z sts h
    subst hU hN hG hx hd
    have C := Z.C
    have hNd : X.N.Nodup := by rw [C.hN]; exact C.nd
    have one : ∀ {s : S} {st : Stmt}, PS X st (tS L wf P.ret s) → PSs X [st] (tS L wf P.ret s) ∧ ∀ st', [st] = [st'] → isSeq s = false → PS X st' (tS L wf P.ret s) := fun h => ⟨pss_one h, fun st' e _ => by cases e; exact h⟩
    have hpi : ∀ {i : Nat}, P.pins.contains i = false → ∀ p ∈ L.PV, p.1 ≠ i := fun {i} h p m z => by
      have := hp p m
      rw [z] at this
      simp [this] at h
    have vals : ∀ {e : E} {v : Expr}, isV e = true → ck P.toCkP sc e [v] = true → (bor L.Γ e = false → PE X v (tE L e)) ∧ PE X v (tP L e) ∧ (ck.tstOk v = true → PT X v (tT L e)) := fun h1 h2 => by
      obtain ⟨_, e1, p0, p1, p2, _⟩ := (ck_ok P.toCkP rfl rfl rfl _ hrt hΓ hh hp C h2).1 h1
      cases e1
      exact ⟨p0, p1, p2⟩
    have kf : X.env.scope.kind = .function := by rw [Z.hsc]; exact Z.kf
    rcases sts with _ | ⟨st, _ | ⟨_, _⟩⟩
    · exact ⟨PSs.imp pss_nil fun D σ H q => by
        obtain ⟨Fz, env, own, I, h⟩ := q
        exact h _ _ _ _ (.refl I), fun st e => by cases e⟩
    · cases st <;> first | (simp [ckS] at h; done) | skip
      · rename_i v pos
        cases v <;> first | (simp [ckS] at h; done) | skip
        rename_i c j pos'
        cases c <;> first | (simp [ckS] at h; done) | skip
        exact one (PS.imp ps_doc fun D σ H q => by
          obtain ⟨Fz, env, own, I, h⟩ := q
          exact h _ _ _ _ (.refl I))
      · exact one (PS.imp ps_pass fun D σ H q => by
          obtain ⟨Fz, env, own, I, h⟩ := q
          exact h _ _ _ _ (.refl I))
    · simp [ckS] at h
  | seq a b iha ihb =>
    intro X L P hU hN hG hx hd hrt hΓ hh hp hq Z sts h
    subst hU hN hG hx hd
    have C := Z.C
    have hNd : X.N.Nodup := by rw [C.hN]; exact C.nd
    have one : ∀ {s : S} {st : Stmt}, PS X st (tS L wf P.ret s) → PSs X [st] (tS L wf P.ret s) ∧ ∀ st', [st] = [st'] → isSeq s = false → PS X st' (tS L wf P.ret s) := fun h => ⟨pss_one h, fun st' e _ => by cases e; exact h⟩
    have hpi : ∀ {i : Nat}, P.pins.contains i = false → ∀ p ∈ L.PV, p.1 ≠ i := fun {i} h p m z => by
      have := hp p m
      rw [z] at this
      simp [this] at h
    have vals : ∀ {e : E} {v : Expr}, isV e = true → ck P.toCkP sc e [v] = true → (bor L.Γ e = false → PE X v (tE L e)) ∧ PE X v (tP L e) ∧ (ck.tstOk v = true → PT X v (tT L e)) := fun h1 h2 => by
      obtain ⟨_, e1, p0, p1, p2, _⟩ := (ck_ok P.toCkP rfl rfl rfl _ hrt hΓ hh hp C h2).1 h1
      cases e1
      exact ⟨p0, p1, p2⟩
    have kf : X.env.scope.kind = .function := by rw [Z.hsc]; exact Z.kf
    rcases sts with _ | ⟨st, rest⟩ <;> first | (simp [ckS] at h; done) | skip
    simp only [ckS, Bool.and_eq_true, Bool.not_eq_true'] at h
    exact ⟨PSs.imp (pss_cons ((iha P rfl rfl rfl rfl rfl hrt hΓ hh hp hq Z h.1.2).2 st rfl h.1.1) (ihb P rfl rfl rfl rfl rfl hrt hΓ hh hp hq Z h.2).1) fun D σ H q => tS_seq q, fun _ _ z => by cases z⟩
  | tryX b i s ihb ihs =>
    intro X L P hU hN hG hx hd hrt hΓ hh hp hq Z sts h
    subst hU hN hG hx hd
    have C := Z.C
    have hNd : X.N.Nodup := by rw [C.hN]; exact C.nd
    have one : ∀ {s : S} {st : Stmt}, PS X st (tS L wf P.ret s) → PSs X [st] (tS L wf P.ret s) ∧ ∀ st', [st] = [st'] → isSeq s = false → PS X st' (tS L wf P.ret s) := fun h => ⟨pss_one h, fun st' e _ => by cases e; exact h⟩
    have hpi : ∀ {i : Nat}, P.pins.contains i = false → ∀ p ∈ L.PV, p.1 ≠ i := fun {i} h p m z => by
      have := hp p m
      rw [z] at this
      simp [this] at h
    have vals : ∀ {e : E} {v : Expr}, isV e = true → ck P.toCkP sc e [v] = true → (bor L.Γ e = false → PE X v (tE L e)) ∧ PE X v (tP L e) ∧ (ck.tstOk v = true → PT X v (tT L e)) := fun h1 h2 => by
      obtain ⟨_, e1, p0, p1, p2, _⟩ := (ck_ok P.toCkP rfl rfl rfl _ hrt hΓ hh hp C h2).1 h1
      cases e1
      exact ⟨p0, p1, p2⟩
    have kf : X.env.scope.kind = .function := by rw [Z.hsc]; exact Z.kf
    rcases sts with _ | ⟨st, _ | ⟨_, _⟩⟩ <;> first | (simp [ckS] at h; done) | skip
    cases st <;> first | (simp [ckS] at h; done) | skip
    rename_i body hs orelse fin pos
    rcases hs with _ | ⟨⟨ty, nm, suite, pos'⟩, _ | ⟨_, _⟩⟩ <;> first | (simp [ckS] at h; done) | skip
    rcases ty with _ | ty <;> first | (simp [ckS] at h; done) | skip
    cases ty <;> first | (simp [ckS] at h; done) | skip
    rename_i x np
    rcases nm with _ | n <;> first | (simp [ckS] at h; done) | skip
    rcases suite with _ | ⟨s0, sr⟩ <;> first | (simp [ckS] at h; done) | skip
    cases orelse <;> first | (simp [ckS] at h; done) | skip
    cases fin <;> first | (simp [ckS] at h; done) | skip
    simp only [ckS, Bool.and_eq_true, decide_eq_true_eq, Bool.not_eq_true', hΓ] at h
    obtain ⟨⟨⟨⟨⟨⟨⟨⟨⟨h0, h1⟩, h2⟩, h3⟩, h4⟩, h5⟩, h6⟩, h7⟩, h8⟩, h9⟩ := h
    have h0 : L.hot = false := hh ▸ h0
    subst h7
    obtain ⟨cv, hcv, hexm⟩ := Z.root h0 h5 h6
    have hpp := hpi (i := i) (by simpa using h4)
    have hln : X.env.kindOf n = some .local := by
      unfold Env.kindOf
      rw [Z.hsc]
      simpa [locOf] using h2
    refine one (PS.imp (L2N.ps_try_as (tb := fun W => tS { L with W := W } wf P.ret b) (ts := tsH L wf P.ret s) (Wout := L.W) Z.stk Z.frm hNd (by rw [C.hN]; exact h1) hln hcv C.tk (fun W pn xe tk po => ?_) (fun a oe cls d pn hz hf => ⟨fun pins s' σ H D I ⟨c, hc, e1, e2, q⟩ => ?_⟩)) fun D σ H q => tS_try h3 hpp (Z.noA h0) hexm q)
    · exact (ihb (L := { L with W := W }) (X := X.tr pn xe) P rfl rfl rfl rfl rfl hrt hΓ hh hp hq ⟨⟨C.hN, C.nd, C.hv, C.hg, C.hs, C.hK, C.calm, tk, cr_any (C.calm h0), (fun z => by rw [show L.hot = true from z] at h0; cases h0), C.un, C.mb, C.gc, C.hc, C.room, C.fk, C.fq, (fun z => by rw [show L.hot = true from z] at h0; cases h0), C.rt⟩, Z.hsc, Z.kf, po, Z.stk, Z.frm, Z.noA, Z.cls, Z.root, Z.xty, fun c m j p p2 pos a1 a2 a3 pn' xe' => Z.rz c m j p p2 pos a1 a2 a3 pn' xe'⟩ h8).1
    · subst e1 e2
      obtain ⟨D0, eD, eC⟩ := Z.cls h0 h5 c hc
      obtain ⟨vs, hv⟩ := hf
      have tk : L2N.Takes (X.suite a ((a, oe) :: pn)) (fun _ _ _ _ => False) := fun _ _ x => by
        obtain ⟨_, _, _, _, _, _, _, _, _, _, _, _, _, _, _, _, z⟩ := x
        exact z.elim
      have zs : Cs (L.suit a c) P.U P.N k sc P.GL P.xn P.xd (X.suite a ((a, oe) :: pn)) := ⟨⟨C.hN, C.nd, C.hv, C.hg, C.hs, C.hK, (fun z => by cases z), tk, cr_anyH ⟨(a, oe), ⟨rfl, vs, hv, hz.2.2 vs hv⟩, List.mem_cons_self⟩, (fun _ x k hq hg => by
          obtain ⟨cC, cV, q1, q2, q3⟩ := Z.xty h0 h5 x k hq hg
          refine ⟨cC, rIsE X.K D0 a, fun p => q2 a _ p, call_isE' List.mem_cons_self eC ⟨by rw [hz.1]; exact eD, hz.2.1⟩ ⟨vs, hv⟩, fun c' v H' Q' hx q' => ?_⟩
          obtain ⟨y1, y2⟩ := hx
          subst y1 y2
          exact ⟨cC, cV, subX c' k, rfl, q1, q3 c' hc D0 eD, q'⟩), C.un, C.mb, (fun x d hx => let ⟨u, v, e1, e2, r⟩ := C.gc x d hx; ⟨u, v, e1, e2, fun Fz H => RF.wi (fun c v z => absurd z (Z.noA h0 c v)) d (r Fz H)⟩), C.hc, (fun z => by cases z), (fun z => by cases z), (fun z => by cases z), (fun _ => ⟨rfl, fun f hf => by
          obtain ⟨ad, fd, ps, m, kp, b, F⟩ := C.fq h0 f hf
          exact ⟨ad, m, kp, Hfn.call (X := X.suite a ((a, oe) :: pn)) F ⟨(C.room h0).dp, (C.room h0).un⟩ (p := (a, oe)) ⟨hc, ⟨rfl, vs, hv, hz.2.2 vs hv⟩, D0, eD, C.hK ▸ eC, by rw [hz.1]; exact eD, hz.2.1⟩ List.mem_cons_self b⟩⟩), C.rt⟩,
        Z.hsc, Z.kf, PassesOwn.never, Z.stk, Z.frm, (fun z => by cases z), (fun z => by cases z), (fun z => by cases z), (fun z => by cases z), (fun c m j p p2 pos z => by cases z)⟩
      exact (ihs (L := L.suit a c) (X := X.suite a ((a, oe) :: pn)) { P with hot := true } rfl rfl rfl rfl rfl hrt hΓ rfl hp hq zs (by rw [hΓ]; exact h9)).1.run pins s' σ H D I q
  | brk =>
    intro X L P hU hN hG hx hd hrt hΓ hh hp hq Z sts h
    subst hU hN hG hx hd
    have C := Z.C
    have hNd : X.N.Nodup := by rw [C.hN]; exact C.nd
    have one : ∀ {s : S} {st : Stmt}, PS X st (tS L wf P.ret s) → PSs X [st] (tS L wf P.ret s) ∧ ∀ st', [st] = [st'] → isSeq s = false → PS X st' (tS L wf P.ret s) := fun h => ⟨pss_one h, fun st' e _ => by cases e; exact h⟩
    have hpi : ∀ {i : Nat}, P.pins.contains i = false → ∀ p ∈ L.PV, p.1 ≠ i := fun {i} h p m z => by
      have := hp p m
      rw [z] at this
      simp [this] at h
    have vals : ∀ {e : E} {v : Expr}, isV e = true → ck P.toCkP sc e [v] = true → (bor L.Γ e = false → PE X v (tE L e)) ∧ PE X v (tP L e) ∧ (ck.tstOk v = true → PT X v (tT L e)) := fun h1 h2 => by
      obtain ⟨_, e1, p0, p1, p2, _⟩ := (ck_ok P.toCkP rfl rfl rfl _ hrt hΓ hh hp C h2).1 h1
      cases e1
      exact ⟨p0, p1, p2⟩
    have kf : X.env.scope.kind = .function := by rw [Z.hsc]; exact Z.kf
    rcases sts with _ | ⟨st, _ | ⟨_, _⟩⟩ <;> first | (simp [ckS] at h; done) | skip
    cases st <;> first | (simp [ckS] at h; done) | skip
    exact one (PS.imp ps_break fun D σ H q => by
      obtain ⟨Fz, env, own, I, h⟩ := q
      exact h _ _ _ _ (.refl I))
  | cont =>
    intro X L P hU hN hG hx hd hrt hΓ hh hp hq Z sts h
    subst hU hN hG hx hd
    have C := Z.C
    have hNd : X.N.Nodup := by rw [C.hN]; exact C.nd
    have one : ∀ {s : S} {st : Stmt}, PS X st (tS L wf P.ret s) → PSs X [st] (tS L wf P.ret s) ∧ ∀ st', [st] = [st'] → isSeq s = false → PS X st' (tS L wf P.ret s) := fun h => ⟨pss_one h, fun st' e _ => by cases e; exact h⟩
    have hpi : ∀ {i : Nat}, P.pins.contains i = false → ∀ p ∈ L.PV, p.1 ≠ i := fun {i} h p m z => by
      have := hp p m
      rw [z] at this
      simp [this] at h
    have vals : ∀ {e : E} {v : Expr}, isV e = true → ck P.toCkP sc e [v] = true → (bor L.Γ e = false → PE X v (tE L e)) ∧ PE X v (tP L e) ∧ (ck.tstOk v = true → PT X v (tT L e)) := fun h1 h2 => by
      obtain ⟨_, e1, p0, p1, p2, _⟩ := (ck_ok P.toCkP rfl rfl rfl _ hrt hΓ hh hp C h2).1 h1
      cases e1
      exact ⟨p0, p1, p2⟩
    have kf : X.env.scope.kind = .function := by rw [Z.hsc]; exact Z.kf
    rcases sts with _ | ⟨st, _ | ⟨_, _⟩⟩ <;> first | (simp [ckS] at h; done) | skip
    cases st <;> first | (simp [ckS] at h; done) | skip
    exact one (PS.imp ps_continue fun D σ H q => by
      obtain ⟨Fz, env, own, I, h⟩ := q
      exact h _ _ _ _ (.refl I))
  | ifs c a b iha ihb =>
    intro X L P hU hN hG hx hd hrt hΓ hh hp hq Z sts h
    subst hU hN hG hx hd
    have C := Z.C
    have hNd : X.N.Nodup := by rw [C.hN]; exact C.nd
    have one : ∀ {s : S} {st : Stmt}, PS X st (tS L wf P.ret s) → PSs X [st] (tS L wf P.ret s) ∧ ∀ st', [st] = [st'] → isSeq s = false → PS X st' (tS L wf P.ret s) := fun h => ⟨pss_one h, fun st' e _ => by cases e; exact h⟩
    have hpi : ∀ {i : Nat}, P.pins.contains i = false → ∀ p ∈ L.PV, p.1 ≠ i := fun {i} h p m z => by
      have := hp p m
      rw [z] at this
      simp [this] at h
    have vals : ∀ {e : E} {v : Expr}, isV e = true → ck P.toCkP sc e [v] = true → (bor L.Γ e = false → PE X v (tE L e)) ∧ PE X v (tP L e) ∧ (ck.tstOk v = true → PT X v (tT L e)) := fun h1 h2 => by
      obtain ⟨_, e1, p0, p1, p2, _⟩ := (ck_ok P.toCkP rfl rfl rfl _ hrt hΓ hh hp C h2).1 h1
      cases e1
      exact ⟨p0, p1, p2⟩
    have kf : X.env.scope.kind = .function := by rw [Z.hsc]; exact Z.kf
    rcases sts with _ | ⟨st, _ | ⟨_, _⟩⟩ <;> first | (simp [ckS] at h; done) | skip
    cases st <;> first | (simp [ckS] at h; done) | skip
    simp only [ckS, Bool.and_eq_true] at h
    obtain ⟨⟨⟨⟨h1, h2⟩, h3⟩, h4⟩, h5⟩ := h
    exact one (PS.imp (ps_if ((vals h1 h3).2.2 h2) (iha P rfl rfl rfl rfl rfl hrt hΓ hh hp hq Z h4).1 (ihb P rfl rfl rfl rfl rfl hrt hΓ hh hp hq Z h5).1) fun D σ H q => tS_ifs q)
  | whl c b ihb =>
    intro X L P hU hN hG hx hd hrt hΓ hh hp hq Z sts h
    subst hU hN hG hx hd
    have C := Z.C
    have hNd : X.N.Nodup := by rw [C.hN]; exact C.nd
    have one : ∀ {s : S} {st : Stmt}, PS X st (tS L wf P.ret s) → PSs X [st] (tS L wf P.ret s) ∧ ∀ st', [st] = [st'] → isSeq s = false → PS X st' (tS L wf P.ret s) := fun h => ⟨pss_one h, fun st' e _ => by cases e; exact h⟩
    have hpi : ∀ {i : Nat}, P.pins.contains i = false → ∀ p ∈ L.PV, p.1 ≠ i := fun {i} h p m z => by
      have := hp p m
      rw [z] at this
      simp [this] at h
    have vals : ∀ {e : E} {v : Expr}, isV e = true → ck P.toCkP sc e [v] = true → (bor L.Γ e = false → PE X v (tE L e)) ∧ PE X v (tP L e) ∧ (ck.tstOk v = true → PT X v (tT L e)) := fun h1 h2 => by
      obtain ⟨_, e1, p0, p1, p2, _⟩ := (ck_ok P.toCkP rfl rfl rfl _ hrt hΓ hh hp C h2).1 h1
      cases e1
      exact ⟨p0, p1, p2⟩
    have kf : X.env.scope.kind = .function := by rw [Z.hsc]; exact Z.kf
    rcases sts with _ | ⟨st, _ | ⟨_, _⟩⟩ <;> first | (simp [ckS] at h; done) | skip
    cases st <;> first | (simp [ckS] at h; done) | skip
    rename_i x body els pos
    cases els <;> first | (simp [ckS] at h; done) | skip
    simp only [ckS, Bool.and_eq_true] at h
    obtain ⟨⟨⟨h1, h2⟩, h3⟩, h4⟩ := h
    exact one (PS.imp (ps_while Z.po ((vals h1 h3).2.2 h2) (ihb P rfl rfl rfl rfl rfl hrt hΓ hh hp hq Z h4).1) fun D σ H q => tS_whl q)
  | for_ t it b ihb =>
    intro X L P hU hN hG hx hd hrt hΓ hh hp hq Z sts h
    subst hU hN hG hx hd
    have C := Z.C
    have hNd : X.N.Nodup := by rw [C.hN]; exact C.nd
    have one : ∀ {s : S} {st : Stmt}, PS X st (tS L wf P.ret s) → PSs X [st] (tS L wf P.ret s) ∧ ∀ st', [st] = [st'] → isSeq s = false → PS X st' (tS L wf P.ret s) := fun h => ⟨pss_one h, fun st' e _ => by cases e; exact h⟩
    have hpi : ∀ {i : Nat}, P.pins.contains i = false → ∀ p ∈ L.PV, p.1 ≠ i := fun {i} h p m z => by
      have := hp p m
      rw [z] at this
      simp [this] at h
    have vals : ∀ {e : E} {v : Expr}, isV e = true → ck P.toCkP sc e [v] = true → (bor L.Γ e = false → PE X v (tE L e)) ∧ PE X v (tP L e) ∧ (ck.tstOk v = true → PT X v (tT L e)) := fun h1 h2 => by
      obtain ⟨_, e1, p0, p1, p2, _⟩ := (ck_ok P.toCkP rfl rfl rfl _ hrt hΓ hh hp C h2).1 h1
      cases e1
      exact ⟨p0, p1, p2⟩
    have kf : X.env.scope.kind = .function := by rw [Z.hsc]; exact Z.kf
    rcases sts with _ | ⟨st, _ | ⟨_, _⟩⟩ <;> first | (simp [ckS] at h; done) | skip
    cases st <;> first | (simp [ckS] at h; done) | skip
    rename_i tg iter body els pos
    cases els <;> first | (simp [ckS] at h; done) | skip
    simp only [ckS, Bool.and_eq_true, Bool.not_eq_true', hΓ] at h
    obtain ⟨⟨⟨⟨⟨⟨h0, h1⟩, h2⟩, h3⟩, h4⟩, h5⟩, h6⟩ := h
    have h0 : L.hot = false := hh ▸ h0
    exact one (PS.imp (ps_for Z.po (C.calm h0) (walk_ok C h3 (ck_ok P.toCkP rfl rfl rfl it hrt hΓ hh hp C h4)) ((pg_ok C h0 t).1 h5) (ihb P rfl rfl rfl rfl rfl hrt hΓ hh hp hq Z h6).1 (folded h2 _)) fun D σ H q => tS_for h1 ((g_ok hp t).1 h5) q)
  | ret e =>
    intro X L P hU hN hG hx hd hrt hΓ hh hp hq Z sts h
    subst hU hN hG hx hd
    have C := Z.C
    have hNd : X.N.Nodup := by rw [C.hN]; exact C.nd
    have one : ∀ {s : S} {st : Stmt}, PS X st (tS L wf P.ret s) → PSs X [st] (tS L wf P.ret s) ∧ ∀ st', [st] = [st'] → isSeq s = false → PS X st' (tS L wf P.ret s) := fun h => ⟨pss_one h, fun st' e _ => by cases e; exact h⟩
    have hpi : ∀ {i : Nat}, P.pins.contains i = false → ∀ p ∈ L.PV, p.1 ≠ i := fun {i} h p m z => by
      have := hp p m
      rw [z] at this
      simp [this] at h
    have vals : ∀ {e : E} {v : Expr}, isV e = true → ck P.toCkP sc e [v] = true → (bor L.Γ e = false → PE X v (tE L e)) ∧ PE X v (tP L e) ∧ (ck.tstOk v = true → PT X v (tT L e)) := fun h1 h2 => by
      obtain ⟨_, e1, p0, p1, p2, _⟩ := (ck_ok P.toCkP rfl rfl rfl _ hrt hΓ hh hp C h2).1 h1
      cases e1
      exact ⟨p0, p1, p2⟩
    have kf : X.env.scope.kind = .function := by rw [Z.hsc]; exact Z.kf
    rcases sts with _ | ⟨st, _ | ⟨_, _⟩⟩ <;> first | (simp [ckS] at h; done) | skip
    cases st <;> first | (simp [ckS] at h; done) | skip
    rename_i v pos
    cases v with
    | none =>
      have : e = .con .non := by
        cases e with
        | con d => cases d <;> first | rfl | simp [ckS] at h
        | _ => simp [ckS] at h
      subst this
      exact one (PS.imp ps_retN fun D σ H q => tS_retNone q)
    | some v =>
      have h : (isV e && !bor P.Γ e && ck P.toCkP sc e [v] && (decide (nty P.rt e = P.ret) || decide (P.ret = .a) || nol e)) = true := by
        cases e <;> exact h
      simp only [Bool.and_eq_true, Bool.or_eq_true, decide_eq_true_eq, Bool.not_eq_true', hΓ, hrt] at h
      obtain ⟨⟨⟨h1, h2⟩, h3⟩, h4⟩ := h
      obtain ⟨p0, p1, _⟩ := vals h1 h3
      rcases h4 with (h4 | h4) | h4
      · exact one (PS.imp (ps_ret (p0 h2)) fun D σ H q => tS_retE h4 q)
      · exact one (PS.imp (ps_ret p1) fun D σ H q => tS_retP h2 h4 q)
      · exact one (PS.imp (ps_ret p1) fun D σ H q => tS_retN h2 h4 q)
  | exp e =>
    intro X L P hU hN hG hx hd hrt hΓ hh hp hq Z sts h
    subst hU hN hG hx hd
    have C := Z.C
    have hNd : X.N.Nodup := by rw [C.hN]; exact C.nd
    have one : ∀ {s : S} {st : Stmt}, PS X st (tS L wf P.ret s) → PSs X [st] (tS L wf P.ret s) ∧ ∀ st', [st] = [st'] → isSeq s = false → PS X st' (tS L wf P.ret s) := fun h => ⟨pss_one h, fun st' e _ => by cases e; exact h⟩
    have hpi : ∀ {i : Nat}, P.pins.contains i = false → ∀ p ∈ L.PV, p.1 ≠ i := fun {i} h p m z => by
      have := hp p m
      rw [z] at this
      simp [this] at h
    have vals : ∀ {e : E} {v : Expr}, isV e = true → ck P.toCkP sc e [v] = true → (bor L.Γ e = false → PE X v (tE L e)) ∧ PE X v (tP L e) ∧ (ck.tstOk v = true → PT X v (tT L e)) := fun h1 h2 => by
      obtain ⟨_, e1, p0, p1, p2, _⟩ := (ck_ok P.toCkP rfl rfl rfl _ hrt hΓ hh hp C h2).1 h1
      cases e1
      exact ⟨p0, p1, p2⟩
    have kf : X.env.scope.kind = .function := by rw [Z.hsc]; exact Z.kf
    rcases sts with _ | ⟨st, _ | ⟨_, _⟩⟩ <;> first | (simp [ckS] at h; done) | skip
    cases st <;> first | (simp [ckS] at h; done) | skip
    simp only [ckS, Bool.and_eq_true, Bool.not_eq_true', hΓ] at h
    obtain ⟨⟨⟨h1, h2⟩, h3⟩, h4⟩ := h
    exact one (PS.imp (ps_expr ((vals h1 h4).1 h2) (sw_other h3)) fun D σ H q => tS_exp q)
  | rais c =>
    intro X L P hU hN hG hx hd hrt hΓ hh hp hq Z sts h
    subst hU hN hG hx hd
    have C := Z.C
    have hNd : X.N.Nodup := by rw [C.hN]; exact C.nd
    have one : ∀ {s : S} {st : Stmt}, PS X st (tS L wf P.ret s) → PSs X [st] (tS L wf P.ret s) ∧ ∀ st', [st] = [st'] → isSeq s = false → PS X st' (tS L wf P.ret s) := fun h => ⟨pss_one h, fun st' e _ => by cases e; exact h⟩
    have hpi : ∀ {i : Nat}, P.pins.contains i = false → ∀ p ∈ L.PV, p.1 ≠ i := fun {i} h p m z => by
      have := hp p m
      rw [z] at this
      simp [this] at h
    have vals : ∀ {e : E} {v : Expr}, isV e = true → ck P.toCkP sc e [v] = true → (bor L.Γ e = false → PE X v (tE L e)) ∧ PE X v (tP L e) ∧ (ck.tstOk v = true → PT X v (tT L e)) := fun h1 h2 => by
      obtain ⟨_, e1, p0, p1, p2, _⟩ := (ck_ok P.toCkP rfl rfl rfl _ hrt hΓ hh hp C h2).1 h1
      cases e1
      exact ⟨p0, p1, p2⟩
    have kf : X.env.scope.kind = .function := by rw [Z.hsc]; exact Z.kf
    rcases sts with _ | ⟨st, _ | ⟨_, _⟩⟩ <;> first | (simp [ckS] at h; done) | skip
    cases st <;> first | (simp [ckS] at h; done) | skip
    rename_i e cause pos
    cases cause <;> first | (simp [ckS] at h; done) | skip
    rcases e with _ | e <;> first | (simp [ckS] at h; done) | skip
    cases e <;> first | (simp [ckS] at h; done) | skip
    rename_i f args kws cp
    cases f <;> first | (simp [ckS] at h; done) | skip
    cases kws <;> first | (simp [ckS] at h; done) | skip
    rcases args with _ | ⟨a, _ | ⟨_, _⟩⟩ <;> first | (simp [ckS] at h; done) | skip
    cases a <;> first | (simp [ckS] at h; done) | skip
    rename_i cc j p2
    cases cc <;> first | (simp [ckS] at h; done) | skip
    simp only [ckS, Bool.and_eq_true, decide_eq_true_eq, Bool.not_eq_true'] at h
    obtain ⟨⟨⟨h0, h1⟩, h3⟩, h2⟩ := h
    have h0 : L.hot = false := hh ▸ h0
    subst h2
    refine one (PS.imp (L2N.ps_raise (C.calm h0) C.tk (Z.rz c _ _ _ _ _ h0 h1 h3 X.pn X.xe)) fun D σ H q => ?_)
    obtain ⟨Fz, env, own, I, h⟩ := q
    exact h _ _ _ _ (.refl I)
  | set i e =>
    intro X L P hU hN hG hx hd hrt hΓ hh hp hq Z sts h
    subst hU hN hG hx hd
    have C := Z.C
    have hNd : X.N.Nodup := by rw [C.hN]; exact C.nd
    have one : ∀ {s : S} {st : Stmt}, PS X st (tS L wf P.ret s) → PSs X [st] (tS L wf P.ret s) ∧ ∀ st', [st] = [st'] → isSeq s = false → PS X st' (tS L wf P.ret s) := fun h => ⟨pss_one h, fun st' e _ => by cases e; exact h⟩
    have hpi : ∀ {i : Nat}, P.pins.contains i = false → ∀ p ∈ L.PV, p.1 ≠ i := fun {i} h p m z => by
      have := hp p m
      rw [z] at this
      simp [this] at h
    have vals : ∀ {e : E} {v : Expr}, isV e = true → ck P.toCkP sc e [v] = true → (bor L.Γ e = false → PE X v (tE L e)) ∧ PE X v (tP L e) ∧ (ck.tstOk v = true → PT X v (tT L e)) := fun h1 h2 => by
      obtain ⟨_, e1, p0, p1, p2, _⟩ := (ck_ok P.toCkP rfl rfl rfl _ hrt hΓ hh hp C h2).1 h1
      cases e1
      exact ⟨p0, p1, p2⟩
    have kf : X.env.scope.kind = .function := by rw [Z.hsc]; exact Z.kf
    rcases sts with _ | ⟨st, _ | ⟨_, _⟩⟩ <;> first | (simp [ckS] at h; done) | skip
    cases st <;> first | (simp [ckS] at h; done) | skip
    rename_i tgs v pos
    rcases tgs with _ | ⟨tg, _ | ⟨_, _⟩⟩ <;> first | (simp [ckS] at h; done) | skip
    cases tg <;> first | (simp [ckS] at h; done) | skip
    rename_i x px
    simp only [ckS, Bool.and_eq_true, Bool.or_eq_true, decide_eq_true_eq, Bool.not_eq_true', hΓ, hrt] at h
    obtain ⟨⟨⟨⟨⟨⟨⟨h1, h2⟩, h3⟩, h4⟩, h5⟩, h6⟩, h0⟩, h7⟩ := h
    obtain ⟨p0, p1, _⟩ := vals h4 h6
    obtain ⟨s1, s2⟩ := C.hs _ h2
    have hN' : X.N[i]? = some x := by rw [C.hN]; exact h1
    have hpp := hpi (i := i) (by simpa using h3)
    -- kind by kind
    have kinds : (∀ {t : TS}, (∀ D σ H, tAsg (tE L e) (gName i) D σ H → t D σ H) → ∀ D σ H, tS L wf P.ret (.set i e) D σ H → t D σ H) ∨ (∀ {t : TS}, (∀ D σ H, tAsg (tP L e) (gName i) D σ H → t D σ H) → ∀ D σ H, tS L wf P.ret (.set i e) D σ H → t D σ H) := by
      rcases h7 with (h7 | h7) | h7
      · exact .inr fun f D σ H q => f D σ H (tS_setP h5 hpp (.inl h7) q)
      · exact .inr fun f D σ H q => f D σ H (tS_setP h5 hpp (.inr h7) q)
      · cases hk : L.Γ.getD i .a with
        | a => exact .inr fun f D σ H q => f D σ H (tS_setP h5 hpp (.inl hk) q)
        | o => exact .inl fun f D σ H q => f D σ H (tS_setO hk hpp (by rw [h7, hk]) q)
        | n => exact .inl fun f D σ H q => f D σ H (tS_setO hk hpp (by rw [h7, hk]) q)
    have plain : swapsWith v (some (.Name x px)) pos.line X.env = pure false → PS X (.Assign [.Name x px] v pos) (tS L wf P.ret (.set i e)) := fun hs => by
      rcases kinds with kk | kk
      · exact PS.imp (ps_set hNd hN' s1 (p0 h5) hs s2) (kk fun _ _ _ q => q)
      · exact PS.imp (ps_set hNd hN' s1 p1 hs s2) (kk fun _ _ _ q => q)
    cases hlc : noLc v with
    | true => exact one (plain (sw_other hlc))
    | false =>
      cases v with
      | ListComp elt gs scope lp =>
        have sw := sw_eq (elt := elt) (gs := gs) (scope := scope) (pos := lp) (py := px) (y := x) (l := pos.line) kf
        cases hb : swB X.env.scope x px scope lp with
        | false => rw [hb] at sw; exact one (plain sw)
        | true =>
          have hloc : X.env.scope.names.lookup x = some .local := by
            simp only [swB, locOf, Bool.and_eq_true, decide_eq_true_eq] at hb
            exact hb.1.1
          rw [hb] at sw
          obtain ⟨tg, iter, ifs, own, wi, g, tt, te, rfl, pi, bo, hg, hT, he, hs, h00, conv⟩ := lc_parts P.toCkP rfl rfl rfl hrt hΓ hh hp C h4 h6
          have main := ps_setLc (spos := pos) (C.calm h00) hNd hN' hloc sw pi bo hg hT he hs
          rcases kinds with kk | kk
          · exact one (PS.imp main (kk fun D σ H q => conv σ H _ q))
          · exact one (PS.imp main (kk fun D σ H q => conv σ H _ (tP_tE h5 q)))
      | SetComp a b c d => cases h0
      | DictComp a b c d e => cases h0
      | _ => simp [noLc] at hlc
  | sub i k e =>
    intro X L P hU hN hG hx hd hrt hΓ hh hp hq Z sts h
    subst hU hN hG hx hd
    have C := Z.C
    have hNd : X.N.Nodup := by rw [C.hN]; exact C.nd
    have one : ∀ {s : S} {st : Stmt}, PS X st (tS L wf P.ret s) → PSs X [st] (tS L wf P.ret s) ∧ ∀ st', [st] = [st'] → isSeq s = false → PS X st' (tS L wf P.ret s) := fun h => ⟨pss_one h, fun st' e _ => by cases e; exact h⟩
    have hpi : ∀ {i : Nat}, P.pins.contains i = false → ∀ p ∈ L.PV, p.1 ≠ i := fun {i} h p m z => by
      have := hp p m
      rw [z] at this
      simp [this] at h
    have vals : ∀ {e : E} {v : Expr}, isV e = true → ck P.toCkP sc e [v] = true → (bor L.Γ e = false → PE X v (tE L e)) ∧ PE X v (tP L e) ∧ (ck.tstOk v = true → PT X v (tT L e)) := fun h1 h2 => by
      obtain ⟨_, e1, p0, p1, p2, _⟩ := (ck_ok P.toCkP rfl rfl rfl _ hrt hΓ hh hp C h2).1 h1
      cases e1
      exact ⟨p0, p1, p2⟩
    have kf : X.env.scope.kind = .function := by rw [Z.hsc]; exact Z.kf
    rcases sts with _ | ⟨st, _ | ⟨_, _⟩⟩ <;> first | (simp [ckS] at h; done) | skip
    cases st <;> first | (simp [ckS] at h; done) | skip
    rename_i tgs v pos
    rcases tgs with _ | ⟨tg, _ | ⟨_, _⟩⟩ <;> first | (simp [ckS] at h; done) | skip
    cases tg <;> first | (simp [ckS] at h; done) | skip
    rename_i o idx ps
    cases o <;> first | (simp [ckS] at h; done) | skip
    simp only [ckS, Bool.and_eq_true, decide_eq_true_eq, Bool.not_eq_true', hΓ] at h
    obtain ⟨⟨⟨⟨⟨⟨⟨⟨h1, h2⟩, h3⟩, h4⟩, h5⟩, h6⟩, h7⟩, h8⟩, h9⟩ := h
    obtain ⟨v1, v2, v3⟩ := nmOk_inv h2
    obtain ⟨_, pk, _⟩ := vals h5 h6
    obtain ⟨_, pe, _⟩ := vals h7 h9
    exact one (PS.imp (ps_asg pe (pg_sub (pe_byNm C h1 v1 v2 v3) pk set_list (sub_assign h4)) sws_sub (sw_none_tg (fun _ _ _ z => nomatch z) (fun _ _ z => nomatch z)) rfl) fun D σ H q => tS_sub h8 h3 q)
  | unp t e =>
    intro X L P hU hN hG hx hd hrt hΓ hh hp hq Z sts h
    subst hU hN hG hx hd
    have C := Z.C
    have hNd : X.N.Nodup := by rw [C.hN]; exact C.nd
    have one : ∀ {s : S} {st : Stmt}, PS X st (tS L wf P.ret s) → PSs X [st] (tS L wf P.ret s) ∧ ∀ st', [st] = [st'] → isSeq s = false → PS X st' (tS L wf P.ret s) := fun h => ⟨pss_one h, fun st' e _ => by cases e; exact h⟩
    have hpi : ∀ {i : Nat}, P.pins.contains i = false → ∀ p ∈ L.PV, p.1 ≠ i := fun {i} h p m z => by
      have := hp p m
      rw [z] at this
      simp [this] at h
    have vals : ∀ {e : E} {v : Expr}, isV e = true → ck P.toCkP sc e [v] = true → (bor L.Γ e = false → PE X v (tE L e)) ∧ PE X v (tP L e) ∧ (ck.tstOk v = true → PT X v (tT L e)) := fun h1 h2 => by
      obtain ⟨_, e1, p0, p1, p2, _⟩ := (ck_ok P.toCkP rfl rfl rfl _ hrt hΓ hh hp C h2).1 h1
      cases e1
      exact ⟨p0, p1, p2⟩
    have kf : X.env.scope.kind = .function := by rw [Z.hsc]; exact Z.kf
    rcases sts with _ | ⟨st, _ | ⟨_, _⟩⟩ <;> first | (simp [ckS] at h; done) | skip
    cases st <;> first | (simp [ckS] at h; done) | skip
    rename_i tgs v pos
    rcases tgs with _ | ⟨tg, _ | ⟨_, _⟩⟩ <;> first | (simp [ckS] at h; done) | skip
    cases tg <;> first | (simp [ckS] at h; done) | skip
    rename_i ts u tp
    simp only [ckS, Bool.and_eq_true, Bool.not_eq_true', hΓ] at h
    obtain ⟨⟨⟨⟨⟨h00, h1⟩, h2⟩, h3⟩, h4⟩, h5⟩ := h
    have h00 : L.hot = false := hh ▸ h00
    obtain ⟨_, pe, _⟩ := vals h2 h4
    have plain : swappedStores [.Tuple ts u tp] v X.env = pure none → PS X (.Assign [.Tuple ts u tp] v pos) (tS L wf P.ret (.unp t e)) := fun hw =>
      PS.imp (ps_asg pe ((pT_ok P.toCkP rfl rfl rfl hrt hΓ hh h00 hp C t).1 h1) sws_tup hw rfl) fun D σ H q => tS_unp h3 ((gT_ok P.toCkP hΓ hp t).1 h1) q
    cases htv : noTup v with
    | true => exact one (plain (sw_none_val htv))
    | false =>
      cases v <;> first | (simp [noTup] at htv; done) | skip
      rename_i vs u2 vp
      simp only [parOk, Bool.or_eq_true] at h5
      rcases h5 with h5 | h5
      · refine one (plain (sw_none_mix ?_))
        obtain ⟨tt, m, hh⟩ := List.any_eq_true.mp h5
        refine ⟨tt, m, fun line => ?_⟩
        cases tt <;> first | rfl | skip
        rename_i x px
        simp only [notLoc, locOf, Bool.not_eq_true', decide_eq_false_iff_not] at hh
        have : (X.env.kindOf x == some .local) = false := by
          unfold Env.kindOf
          rw [Z.hsc]
          cases h : sc.names.lookup x with
          | none => rfl
          | some k => cases k <;> first | rfl | exact absurd h hh
        simp only [plainN, this, Bool.false_and]
      · split at h5
        · rename_i i j e1 e2 x px y py a b
          simp only [Bool.and_eq_true, decide_eq_true_eq, Bool.not_eq_true', locOf] at h5
          obtain ⟨⟨⟨⟨⟨⟨⟨⟨g1, g2⟩, g3⟩, g4⟩, g5⟩, g6⟩, g7⟩, g8⟩, g9⟩ := h5
          have lx : X.env.scope.names.lookup x = some .local := by rw [Z.hsc]; exact g2
          have ly : X.env.scope.names.lookup y = some .local := by rw [Z.hsc]; exact g3
          simp only [ckT, Bool.and_eq_true, decide_eq_true_eq, Bool.not_eq_true', hΓ] at h1
          obtain ⟨⟨_, ⟨⟨⟨i1, i2⟩, i3⟩, i4⟩⟩, ⟨⟨_, ⟨⟨⟨j1, j2⟩, j3⟩, j4⟩⟩, _⟩⟩ := h1
          have h4' := h4
          simp only [ck, Bool.and_eq_true, hΓ] at h4'
          obtain ⟨⟨⟨⟨k1, k2⟩, k3⟩, k4⟩, k5⟩ := h4'
          have ha : ck P.toCkP sc (.cons e1 (.cons e2 .nil)) [a, b] = true := by
            simp only [ck, Bool.and_eq_true]
            exact k5
          have pa := ((ck_ok P.toCkP rfl rfl rfl _ hrt hΓ hh hp C ha).2.1 k1).pa
          exact one (PS.imp (ps_par (C.calm h00) hNd (by rw [C.hN]; exact i1) (by rw [C.hN]; exact j1) g1 lx ly pa (sw_some2 kf lx ly g4 g5 g6 g7 g8 g9) sws_tup) fun D σ H q => tS_par i3 j3 (hpi (by simpa using i4)) (hpi (by simpa using j4)) k2 k3 q)
        · rename_i i j l e1 e2 e3 x px y py z pz a b c
          simp only [Bool.and_eq_true, decide_eq_true_eq, Bool.not_eq_true', locOf] at h5
          obtain ⟨⟨⟨⟨⟨⟨⟨⟨⟨⟨⟨⟨⟨⟨⟨d1, d2⟩, d3⟩, g2⟩, g3⟩, g4⟩, l1⟩, l2⟩, n1⟩, n2⟩, n3⟩, w1⟩, w2⟩, w3⟩, f1⟩, f2⟩ := h5
          have lx : X.env.scope.names.lookup x = some .local := by rw [Z.hsc]; exact g2
          have ly : X.env.scope.names.lookup y = some .local := by rw [Z.hsc]; exact g3
          have lz : X.env.scope.names.lookup z = some .local := by rw [Z.hsc]; exact g4
          simp only [ckT, Bool.and_eq_true, decide_eq_true_eq, Bool.not_eq_true', hΓ] at h1
          obtain ⟨⟨_, ⟨⟨⟨i1, i2⟩, i3⟩, i4⟩⟩, ⟨⟨_, ⟨⟨⟨j1, j2⟩, j3⟩, j4⟩⟩, ⟨⟨_, ⟨⟨⟨o1, o2⟩, o3⟩, o4⟩⟩, _⟩⟩⟩ := h1
          have h4' := h4
          simp only [ck, Bool.and_eq_true, hΓ] at h4'
          obtain ⟨⟨⟨⟨k1, k2⟩, k3⟩, k4⟩, k5⟩ := h4'
          have ha : ck P.toCkP sc (.cons e1 (.cons e2 (.cons e3 .nil))) [a, b, c] = true := by
            simp only [ck, Bool.and_eq_true]
            exact k5
          have pa := ((ck_ok P.toCkP rfl rfl rfl _ hrt hΓ hh hp C ha).2.1 k1).pa
          exact one (PS.imp (ps_par3 (C.calm h00) hNd (by rw [C.hN]; exact i1) (by rw [C.hN]; exact j1) (by rw [C.hN]; exact o1) d1 d2 d3 lx ly lz pa (sw_some3 kf lx ly lz l1 l2 n1 n2 n3 w1 w2 w3 f1 f2) sws_tup) fun D σ H q => tS_par3 i3 j3 o3 (hpi (by simpa using i4)) (hpi (by simpa using j4)) (hpi (by simpa using o4)) k2 k3 q)
        · cases h5
  | aug i o e =>
    intro X L P hU hN hG hx hd hrt hΓ hh hp hq Z sts h
    subst hU hN hG hx hd
    have C := Z.C
    have hNd : X.N.Nodup := by rw [C.hN]; exact C.nd
    have one : ∀ {s : S} {st : Stmt}, PS X st (tS L wf P.ret s) → PSs X [st] (tS L wf P.ret s) ∧ ∀ st', [st] = [st'] → isSeq s = false → PS X st' (tS L wf P.ret s) := fun h => ⟨pss_one h, fun st' e _ => by cases e; exact h⟩
    have hpi : ∀ {i : Nat}, P.pins.contains i = false → ∀ p ∈ L.PV, p.1 ≠ i := fun {i} h p m z => by
      have := hp p m
      rw [z] at this
      simp [this] at h
    have vals : ∀ {e : E} {v : Expr}, isV e = true → ck P.toCkP sc e [v] = true → (bor L.Γ e = false → PE X v (tE L e)) ∧ PE X v (tP L e) ∧ (ck.tstOk v = true → PT X v (tT L e)) := fun h1 h2 => by
      obtain ⟨_, e1, p0, p1, p2, _⟩ := (ck_ok P.toCkP rfl rfl rfl _ hrt hΓ hh hp C h2).1 h1
      cases e1
      exact ⟨p0, p1, p2⟩
    have kf : X.env.scope.kind = .function := by rw [Z.hsc]; exact Z.kf
    rcases sts with _ | ⟨st, _ | ⟨_, _⟩⟩ <;> first | (simp [ckS] at h; done) | skip
    cases st <;> first | (simp [ckS] at h; done) | skip
    rename_i tg op v pos
    cases tg <;> first | (simp [ckS] at h; done) | skip
    rename_i x px
    simp only [ckS, Bool.and_eq_true, decide_eq_true_eq, Bool.not_eq_true', hΓ] at h
    obtain ⟨⟨⟨⟨⟨h1, h2⟩, h3⟩, h4⟩, h5⟩, h6⟩ := h
    obtain ⟨_, pe, _⟩ := vals h5 h6
    obtain ⟨s1, s2⟩ := C.hs _ h2
    have hN' : X.N[i]? = some x := by rw [C.hN]; exact h1
    have hpp := hpi (i := i) (by simpa using h3)
    unfold augO at h4
    split at h4
    · exact one (PS.imp (ps_aug hNd hN' s1 pe ip_add s2) fun D σ H q => tS_aug rfl hpp q)
    · exact one (PS.imp (ps_aug hNd hN' s1 pe ip_sub s2) fun D σ H q => tS_aug rfl hpp q)
    · cases h4
  | app i e =>
    intro X L P hU hN hG hx hd hrt hΓ hh hp hq Z sts h
    subst hU hN hG hx hd
    have C := Z.C
    have hNd : X.N.Nodup := by rw [C.hN]; exact C.nd
    have one : ∀ {s : S} {st : Stmt}, PS X st (tS L wf P.ret s) → PSs X [st] (tS L wf P.ret s) ∧ ∀ st', [st] = [st'] → isSeq s = false → PS X st' (tS L wf P.ret s) := fun h => ⟨pss_one h, fun st' e _ => by cases e; exact h⟩
    have hpi : ∀ {i : Nat}, P.pins.contains i = false → ∀ p ∈ L.PV, p.1 ≠ i := fun {i} h p m z => by
      have := hp p m
      rw [z] at this
      simp [this] at h
    have vals : ∀ {e : E} {v : Expr}, isV e = true → ck P.toCkP sc e [v] = true → (bor L.Γ e = false → PE X v (tE L e)) ∧ PE X v (tP L e) ∧ (ck.tstOk v = true → PT X v (tT L e)) := fun h1 h2 => by
      obtain ⟨_, e1, p0, p1, p2, _⟩ := (ck_ok P.toCkP rfl rfl rfl _ hrt hΓ hh hp C h2).1 h1
      cases e1
      exact ⟨p0, p1, p2⟩
    have kf : X.env.scope.kind = .function := by rw [Z.hsc]; exact Z.kf
    rcases sts with _ | ⟨st, _ | ⟨_, _⟩⟩ <;> first | (simp [ckS] at h; done) | skip
    cases st <;> first | (simp [ckS] at h; done) | skip
    rename_i cv pos
    cases cv <;> first | (simp [ckS] at h; done) | skip
    rename_i f args kws cp
    cases f <;> first | (simp [ckS] at h; done) | skip
    rename_i ob m ap
    cases ob <;> first | (simp [ckS] at h; done) | skip
    rename_i ox px
    cases kws <;> first | (simp [ckS] at h; done) | skip
    rcases args with _ | ⟨v, _ | ⟨_, _⟩⟩ <;> first | (simp [ckS] at h; done) | skip
    simp only [ckS, Bool.and_eq_true, decide_eq_true_eq, Bool.not_eq_true', hΓ] at h
    obtain ⟨⟨⟨⟨⟨⟨⟨⟨h1, h2⟩, h3⟩, h4⟩, h5⟩, h6⟩, h7⟩, h8⟩, h9⟩ := h
    subst h1
    obtain ⟨v1, v2, v3⟩ := nmOk_inv h4
    obtain ⟨_, pe, _⟩ := vals h7 h9
    have p : PE X (.Call (.Attribute (.Name ox px) "append" ap) [v] [] cp) _ := pe_bm PySem.F.plainAttrs_list PySem.F.slot_list_append PySem.F.type_list_append mt_append (pe_byNm C h3 v1 v2 v3) (pa_cons pe pa_nil (star_cons h6)) (base_super rfl) (few1 h6) h2 (star_cons h6) (any_star _ _ _ (by intro z hz; cases hz))
    rw [C.hK] at p
    exact one (PS.imp (ps_expr p (sw_other rfl)) fun D σ H q => tS_app h8 h5 q)
  | ext i e =>
    intro X L P hU hN hG hx hd hrt hΓ hh hp hq Z sts h
    subst hU hN hG hx hd
    have C := Z.C
    have hNd : X.N.Nodup := by rw [C.hN]; exact C.nd
    have one : ∀ {s : S} {st : Stmt}, PS X st (tS L wf P.ret s) → PSs X [st] (tS L wf P.ret s) ∧ ∀ st', [st] = [st'] → isSeq s = false → PS X st' (tS L wf P.ret s) := fun h => ⟨pss_one h, fun st' e _ => by cases e; exact h⟩
    have hpi : ∀ {i : Nat}, P.pins.contains i = false → ∀ p ∈ L.PV, p.1 ≠ i := fun {i} h p m z => by
      have := hp p m
      rw [z] at this
      simp [this] at h
    have vals : ∀ {e : E} {v : Expr}, isV e = true → ck P.toCkP sc e [v] = true → (bor L.Γ e = false → PE X v (tE L e)) ∧ PE X v (tP L e) ∧ (ck.tstOk v = true → PT X v (tT L e)) := fun h1 h2 => by
      obtain ⟨_, e1, p0, p1, p2, _⟩ := (ck_ok P.toCkP rfl rfl rfl _ hrt hΓ hh hp C h2).1 h1
      cases e1
      exact ⟨p0, p1, p2⟩
    have kf : X.env.scope.kind = .function := by rw [Z.hsc]; exact Z.kf
    rcases sts with _ | ⟨st, _ | ⟨_, _⟩⟩ <;> first | (simp [ckS] at h; done) | skip
    cases st <;> first | (simp [ckS] at h; done) | skip
    rename_i cv pos
    cases cv <;> first | (simp [ckS] at h; done) | skip
    rename_i f args kws cp
    cases f <;> first | (simp [ckS] at h; done) | skip
    rename_i ob m ap
    cases ob <;> first | (simp [ckS] at h; done) | skip
    rename_i ox px
    cases kws <;> first | (simp [ckS] at h; done) | skip
    rcases args with _ | ⟨v, _ | ⟨_, _⟩⟩ <;> first | (simp [ckS] at h; done) | skip
    simp only [ckS, Bool.and_eq_true, decide_eq_true_eq, Bool.not_eq_true', hΓ] at h
    obtain ⟨⟨⟨⟨⟨⟨⟨h1, h2⟩, h3⟩, h4⟩, h5⟩, h6⟩, h7⟩, h9⟩ := h
    subst h1
    obtain ⟨v1, v2, v3⟩ := nmOk_inv h4
    obtain ⟨_, pe, _⟩ := vals h7 h9
    have p : PE X (.Call (.Attribute (.Name ox px) "extend" ap) [v] [] cp) _ := pe_bm PySem.F.plainAttrs_list PySem.F.slot_list_extend PySem.F.type_list_extend mt_extend (pe_byNm C h3 v1 v2 v3) (pa_cons pe pa_nil (star_cons h6)) (base_super rfl) (few1 h6) h2 (star_cons h6) (any_star _ _ _ (by intro z hz; cases hz))
    rw [C.hK] at p
    exact one (PS.imp (ps_expr p (sw_other rfl)) fun D σ H q => tS_ext h5 q)
  | augs i k o e =>
    intro X L P hU hN hG hx hd hrt hΓ hh hp hq Z sts h
    subst hU hN hG hx hd
    have C := Z.C
    have hNd : X.N.Nodup := by rw [C.hN]; exact C.nd
    have one : ∀ {s : S} {st : Stmt}, PS X st (tS L wf P.ret s) → PSs X [st] (tS L wf P.ret s) ∧ ∀ st', [st] = [st'] → isSeq s = false → PS X st' (tS L wf P.ret s) := fun h => ⟨pss_one h, fun st' e _ => by cases e; exact h⟩
    have hpi : ∀ {i : Nat}, P.pins.contains i = false → ∀ p ∈ L.PV, p.1 ≠ i := fun {i} h p m z => by
      have := hp p m
      rw [z] at this
      simp [this] at h
    have vals : ∀ {e : E} {v : Expr}, isV e = true → ck P.toCkP sc e [v] = true → (bor L.Γ e = false → PE X v (tE L e)) ∧ PE X v (tP L e) ∧ (ck.tstOk v = true → PT X v (tT L e)) := fun h1 h2 => by
      obtain ⟨_, e1, p0, p1, p2, _⟩ := (ck_ok P.toCkP rfl rfl rfl _ hrt hΓ hh hp C h2).1 h1
      cases e1
      exact ⟨p0, p1, p2⟩
    have kf : X.env.scope.kind = .function := by rw [Z.hsc]; exact Z.kf
    rcases sts with _ | ⟨st, _ | ⟨_, _⟩⟩ <;> first | (simp [ckS] at h; done) | skip
    cases st <;> first | (simp [ckS] at h; done) | skip
    rename_i tg op v pos
    cases tg <;> first | (simp [ckS] at h; done) | skip
    rename_i ob idx tp
    cases ob <;> first | (simp [ckS] at h; done) | skip
    rename_i x px
    simp only [ckS, Bool.and_eq_true, decide_eq_true_eq, Bool.not_eq_true', hΓ] at h
    obtain ⟨⟨⟨⟨⟨⟨⟨⟨⟨⟨h0, h1⟩, h2⟩, h3⟩, h4⟩, h5⟩, h6⟩, h7⟩, h8⟩, h9⟩, h10⟩ := h
    obtain ⟨v1, v2, v3⟩ := nmOk_inv h2
    obtain ⟨_, pk, _⟩ := vals h5 h7
    obtain ⟨_, pe, _⟩ := vals h9 h10
    have px := pe_byNm (pos := px) C h1 v1 v2 v3
    unfold augO at h8
    split at h8
    · exact one (PS.imp (ps_augS px pk pg_idx0 pe ip_add set_list (aug_plain h4)) fun D σ H q => tS_augs rfl h6 h3 q)
    · exact one (PS.imp (ps_augS px pk pg_idx0 pe ip_sub set_list (aug_plain h4)) fun D σ H q => tS_augs rfl h6 h3 q)
    · cases h8
  | rev i =>
    intro X L P hU hN hG hx hd hrt hΓ hh hp hq Z sts h
    subst hU hN hG hx hd
    have C := Z.C
    have hNd : X.N.Nodup := by rw [C.hN]; exact C.nd
    have one : ∀ {s : S} {st : Stmt}, PS X st (tS L wf P.ret s) → PSs X [st] (tS L wf P.ret s) ∧ ∀ st', [st] = [st'] → isSeq s = false → PS X st' (tS L wf P.ret s) := fun h => ⟨pss_one h, fun st' e _ => by cases e; exact h⟩
    have hpi : ∀ {i : Nat}, P.pins.contains i = false → ∀ p ∈ L.PV, p.1 ≠ i := fun {i} h p m z => by
      have := hp p m
      rw [z] at this
      simp [this] at h
    have vals : ∀ {e : E} {v : Expr}, isV e = true → ck P.toCkP sc e [v] = true → (bor L.Γ e = false → PE X v (tE L e)) ∧ PE X v (tP L e) ∧ (ck.tstOk v = true → PT X v (tT L e)) := fun h1 h2 => by
      obtain ⟨_, e1, p0, p1, p2, _⟩ := (ck_ok P.toCkP rfl rfl rfl _ hrt hΓ hh hp C h2).1 h1
      cases e1
      exact ⟨p0, p1, p2⟩
    have kf : X.env.scope.kind = .function := by rw [Z.hsc]; exact Z.kf
    rcases sts with _ | ⟨st, _ | ⟨_, _⟩⟩ <;> first | (simp [ckS] at h; done) | skip
    cases st <;> first | (simp [ckS] at h; done) | skip
    rename_i cv pos
    cases cv <;> first | (simp [ckS] at h; done) | skip
    rename_i f args kws cp
    cases f <;> first | (simp [ckS] at h; done) | skip
    rename_i ob m ap
    cases ob <;> first | (simp [ckS] at h; done) | skip
    rename_i ox px
    cases kws <;> first | (simp [ckS] at h; done) | skip
    rcases args with _ | ⟨v, _⟩ <;> first | (simp [ckS] at h; done) | skip
    simp only [ckS, Bool.and_eq_true, decide_eq_true_eq, Bool.not_eq_true', hΓ] at h
    obtain ⟨⟨⟨⟨h1, h2⟩, h3⟩, h4⟩, h5⟩ := h
    subst h1
    obtain ⟨v1, v2, v3⟩ := nmOk_inv h4
    have p : PE X (.Call (.Attribute (.Name ox px) "reverse" ap) [] [] cp) _ := pe_bm0 PySem.F.plainAttrs_list PySem.F.slot_list_reverse PySem.F.type_list_reverse mt_reverse (pe_byNm C h3 v1 v2 v3) (base_super rfl) h2
    rw [C.hK] at p
    exact one (PS.imp (ps_expr p (sw_other rfl)) fun D σ H q => tS_rev h5 q)
  | extN i e =>
    intro X L P hU hN hG hx hd hrt hΓ hh hp hq Z sts h
    subst hU hN hG hx hd
    have C := Z.C
    have hNd : X.N.Nodup := by rw [C.hN]; exact C.nd
    have one : ∀ {s : S} {st : Stmt}, PS X st (tS L wf P.ret s) → PSs X [st] (tS L wf P.ret s) ∧ ∀ st', [st] = [st'] → isSeq s = false → PS X st' (tS L wf P.ret s) := fun h => ⟨pss_one h, fun st' e _ => by cases e; exact h⟩
    have hpi : ∀ {i : Nat}, P.pins.contains i = false → ∀ p ∈ L.PV, p.1 ≠ i := fun {i} h p m z => by
      have := hp p m
      rw [z] at this
      simp [this] at h
    have vals : ∀ {e : E} {v : Expr}, isV e = true → ck P.toCkP sc e [v] = true → (bor L.Γ e = false → PE X v (tE L e)) ∧ PE X v (tP L e) ∧ (ck.tstOk v = true → PT X v (tT L e)) := fun h1 h2 => by
      obtain ⟨_, e1, p0, p1, p2, _⟩ := (ck_ok P.toCkP rfl rfl rfl _ hrt hΓ hh hp C h2).1 h1
      cases e1
      exact ⟨p0, p1, p2⟩
    have kf : X.env.scope.kind = .function := by rw [Z.hsc]; exact Z.kf
    rcases sts with _ | ⟨st, _ | ⟨_, _⟩⟩ <;> first | (simp [ckS] at h; done) | skip
    cases st <;> first | (simp [ckS] at h; done) | skip
    rename_i cv pos
    cases cv <;> first | (simp [ckS] at h; done) | skip
    rename_i f args kws cp
    cases f <;> first | (simp [ckS] at h; done) | skip
    rename_i ob m ap
    cases ob <;> first | (simp [ckS] at h; done) | skip
    rename_i ox px
    cases kws <;> first | (simp [ckS] at h; done) | skip
    rcases args with _ | ⟨v, _ | ⟨_, _⟩⟩ <;> first | (simp [ckS] at h; done) | skip
    simp only [ckS, Bool.and_eq_true, decide_eq_true_eq, Bool.not_eq_true', hΓ, hrt] at h
    obtain ⟨⟨⟨⟨⟨⟨⟨⟨⟨h1, h2⟩, h3⟩, h4⟩, h5⟩, h6⟩, h7⟩, h8⟩, h10⟩, h9⟩ := h
    subst h1
    obtain ⟨v1, v2, v3⟩ := nmOk_inv h4
    obtain ⟨pe, _, _⟩ := vals h7 h9
    have p : PE X (.Call (.Attribute (.Name ox px) "extend" ap) [v] [] cp) _ := pe_bm PySem.F.plainAttrs_list PySem.F.slot_list_extend PySem.F.type_list_extend mt_extend (pe_byNm C h3 v1 v2 v3) (pa_cons (pe h8) pa_nil (star_cons h6)) (base_super rfl) (few1 h6) h2 (star_cons h6) (any_star _ _ _ (by intro z hz; cases hz))
    rw [C.hK] at p
    exact one (PS.imp (ps_expr p (sw_other rfl)) fun D σ H q => tS_extN h10 h5 q)
  | appN i e =>
    intro X L P hU hN hG hx hd hrt hΓ hh hp hq Z sts h
    subst hU hN hG hx hd
    have C := Z.C
    have hNd : X.N.Nodup := by rw [C.hN]; exact C.nd
    have one : ∀ {s : S} {st : Stmt}, PS X st (tS L wf P.ret s) → PSs X [st] (tS L wf P.ret s) ∧ ∀ st', [st] = [st'] → isSeq s = false → PS X st' (tS L wf P.ret s) := fun h => ⟨pss_one h, fun st' e _ => by cases e; exact h⟩
    have hpi : ∀ {i : Nat}, P.pins.contains i = false → ∀ p ∈ L.PV, p.1 ≠ i := fun {i} h p m z => by
      have := hp p m
      rw [z] at this
      simp [this] at h
    have vals : ∀ {e : E} {v : Expr}, isV e = true → ck P.toCkP sc e [v] = true → (bor L.Γ e = false → PE X v (tE L e)) ∧ PE X v (tP L e) ∧ (ck.tstOk v = true → PT X v (tT L e)) := fun h1 h2 => by
      obtain ⟨_, e1, p0, p1, p2, _⟩ := (ck_ok P.toCkP rfl rfl rfl _ hrt hΓ hh hp C h2).1 h1
      cases e1
      exact ⟨p0, p1, p2⟩
    have kf : X.env.scope.kind = .function := by rw [Z.hsc]; exact Z.kf
    rcases sts with _ | ⟨st, _ | ⟨_, _⟩⟩ <;> first | (simp [ckS] at h; done) | skip
    cases st <;> first | (simp [ckS] at h; done) | skip
    rename_i cv pos
    cases cv <;> first | (simp [ckS] at h; done) | skip
    rename_i f args kws cp
    cases f <;> first | (simp [ckS] at h; done) | skip
    rename_i ob m ap
    cases ob <;> first | (simp [ckS] at h; done) | skip
    rename_i ox px
    cases kws <;> first | (simp [ckS] at h; done) | skip
    rcases args with _ | ⟨v, _ | ⟨_, _⟩⟩ <;> first | (simp [ckS] at h; done) | skip
    simp only [ckS, Bool.and_eq_true, decide_eq_true_eq, Bool.not_eq_true', hΓ, hrt] at h
    obtain ⟨⟨⟨⟨⟨⟨⟨⟨⟨h1, h2⟩, h3⟩, h4⟩, h5⟩, h6⟩, h7⟩, h8⟩, h10⟩, h9⟩ := h
    subst h1
    obtain ⟨v1, v2, v3⟩ := nmOk_inv h4
    obtain ⟨pe, _, _⟩ := vals h7 h9
    have p : PE X (.Call (.Attribute (.Name ox px) "append" ap) [v] [] cp) _ := pe_bm PySem.F.plainAttrs_list PySem.F.slot_list_append PySem.F.type_list_append mt_append (pe_byNm C h3 v1 v2 v3) (pa_cons (pe h8) pa_nil (star_cons h6)) (base_super rfl) (few1 h6) h2 (star_cons h6) (any_star _ _ _ (by intro z hz; cases hz))
    rw [C.hK] at p
    exact one (PS.imp (ps_expr p (sw_other rfl)) fun D σ H q => tS_appN h10 h5 q)
  | appAt i k' e =>
    intro X L P hU hN hG hx hd hrt hΓ hh hp hq Z sts h
    subst hU hN hG hx hd
    have C := Z.C
    have hNd : X.N.Nodup := by rw [C.hN]; exact C.nd
    have one : ∀ {s : S} {st : Stmt}, PS X st (tS L wf P.ret s) → PSs X [st] (tS L wf P.ret s) ∧ ∀ st', [st] = [st'] → isSeq s = false → PS X st' (tS L wf P.ret s) := fun h => ⟨pss_one h, fun st' e _ => by cases e; exact h⟩
    have hpi : ∀ {i : Nat}, P.pins.contains i = false → ∀ p ∈ L.PV, p.1 ≠ i := fun {i} h p m z => by
      have := hp p m
      rw [z] at this
      simp [this] at h
    have vals : ∀ {e : E} {v : Expr}, isV e = true → ck P.toCkP sc e [v] = true → (bor L.Γ e = false → PE X v (tE L e)) ∧ PE X v (tP L e) ∧ (ck.tstOk v = true → PT X v (tT L e)) := fun h1 h2 => by
      obtain ⟨_, e1, p0, p1, p2, _⟩ := (ck_ok P.toCkP rfl rfl rfl _ hrt hΓ hh hp C h2).1 h1
      cases e1
      exact ⟨p0, p1, p2⟩
    have kf : X.env.scope.kind = .function := by rw [Z.hsc]; exact Z.kf
    rcases sts with _ | ⟨st, _ | ⟨_, _⟩⟩ <;> first | (simp [ckS] at h; done) | skip
    cases st <;> first | (simp [ckS] at h; done) | skip
    rename_i cv pos
    cases cv <;> first | (simp [ckS] at h; done) | skip
    rename_i f args kws cp
    cases f <;> first | (simp [ckS] at h; done) | skip
    rename_i ob m ap
    cases ob <;> first | (simp [ckS] at h; done) | skip
    rename_i obn idx px
    cases obn <;> first | (simp [ckS] at h; done) | skip
    rename_i ox pox
    cases kws <;> first | (simp [ckS] at h; done) | skip
    rcases args with _ | ⟨v, _ | ⟨_, _⟩⟩ <;> first | (simp [ckS] at h; done) | skip
    simp only [ckS, Bool.and_eq_true, decide_eq_true_eq, Bool.not_eq_true', hΓ] at h
    obtain ⟨⟨⟨⟨⟨⟨⟨⟨⟨⟨⟨⟨⟨h1, h2⟩, h3⟩, h4⟩, h5⟩, h6⟩, h7⟩, h8⟩, h9⟩, h10⟩, h11⟩, h12⟩, h13⟩, h14⟩ := h
    subst h1
    obtain ⟨v1, v2, v3⟩ := nmOk_inv h4
    obtain ⟨_, pe, _⟩ := vals h11 h14
    obtain ⟨_, pk, _⟩ := vals h7 h9
    have pr : PE X (.Subscript (.Name ox pox) idx px) (tOp (rIxL X.K) (tVar i) (tP L k')) := pe_ix ix_list (pe_byNm C h3 v1 v2 v3) pk (plain_ix h6)
    have p : PE X (.Call (.Attribute (.Subscript (.Name ox pox) idx px) "append" ap) [v] [] cp) _ := pe_bm PySem.F.plainAttrs_list PySem.F.slot_list_append PySem.F.type_list_append mt_append pr (pa_cons pe pa_nil (star_cons h10)) (base_super rfl) (few1 h10) h2 (star_cons h10) (any_star _ _ _ (by intro z hz; cases hz))
    rw [C.hK] at p
    exact one (PS.imp (ps_expr p (sw_other rfl)) fun D σ H q => tS_appAt h8 h13 h12 h5 q)
  | forO i t it b ihb =>
    intro X L P hU hN hG hx hd hrt hΓ hh hp hq Z sts h
    subst hU hN hG hx hd
    have C := Z.C
    have hNd : X.N.Nodup := by rw [C.hN]; exact C.nd
    have one : ∀ {s : S} {st : Stmt}, PS X st (tS L wf P.ret s) → PSs X [st] (tS L wf P.ret s) ∧ ∀ st', [st] = [st'] → isSeq s = false → PS X st' (tS L wf P.ret s) := fun h => ⟨pss_one h, fun st' e _ => by cases e; exact h⟩
    have hpi : ∀ {i : Nat}, P.pins.contains i = false → ∀ p ∈ L.PV, p.1 ≠ i := fun {i} h p m z => by
      have := hp p m
      rw [z] at this
      simp [this] at h
    have vals : ∀ {e : E} {v : Expr}, isV e = true → ck P.toCkP sc e [v] = true → (bor L.Γ e = false → PE X v (tE L e)) ∧ PE X v (tP L e) ∧ (ck.tstOk v = true → PT X v (tT L e)) := fun h1 h2 => by
      obtain ⟨_, e1, p0, p1, p2, _⟩ := (ck_ok P.toCkP rfl rfl rfl _ hrt hΓ hh hp C h2).1 h1
      cases e1
      exact ⟨p0, p1, p2⟩
    have kf : X.env.scope.kind = .function := by rw [Z.hsc]; exact Z.kf
    rcases sts with _ | ⟨st, _ | ⟨_, _⟩⟩ <;> first | (simp [ckS] at h; done) | skip
    cases st <;> first | (simp [ckS] at h; done) | skip
    rename_i tg iter body els pos
    cases els <;> first | (simp [ckS] at h; done) | skip
    simp only [ckS, Bool.and_eq_true, Bool.not_eq_true', hΓ] at h
    obtain ⟨⟨⟨⟨⟨⟨⟨h0, h2⟩, h3⟩, h4⟩, h5⟩, h6⟩, h7⟩, h8⟩ := h
    have h0 : L.hot = false := hh ▸ h0
    have hp' : ∀ v, ∀ p ∈ (i, v) :: L.PV, p.1 ∈ i :: P.pins := fun v p m => by
      rcases List.mem_cons.mp m with e | m
      · subst e; exact List.mem_cons_self
      · exact List.mem_cons_of_mem _ (hp p m)
    have bd : ∀ v, PSs X body (tS { L with PV := (i, v) :: L.PV } wf P.ret b) := fun v =>
      (ihb (L := { L with PV := (i, v) :: L.PV }) { P with pins := i :: P.pins } rfl rfl rfl rfl rfl hrt hΓ hh (hp' v) (fun j m => by
        obtain ⟨u, q⟩ := hq j m
        exact ⟨u, List.mem_cons_of_mem _ q⟩) ⟨C.gp L.Γ ((i, v) :: L.PV), Z.hsc, Z.kf, Z.po, Z.stk, Z.frm, Z.noA, Z.cls, Z.root, Z.xty, Z.rz⟩ (by rw [hΓ]; exact h8)).1
    have main := ps_for (pos := pos) Z.po (C.calm h0) (walk_ok (L := L.fz [i]) (C.gp (frG [i] L.Γ) L.PV) h5 (ck_ok { P.toCkP with Γ := frG [i] L.Γ } rfl rfl rfl it (L := L.fz [i]) hrt rfl hh hp (C.gp (frG [i] L.Γ) L.PV) h6)) ((pg_ok C h0 t).1 h7) (tb := fun D' σ' H' => ∃ v, tS { L with PV := (i, v) :: L.PV } wf P.ret b D' σ' H') ⟨fun pins s σ H D I q => by
      obtain ⟨v, q⟩ := q
      exact (bd v).run pins s σ H D I q⟩ (folded h4 _)
    exact one (PS.imp main fun D σ H q => tS_forO h2 h3 (fun v => (g_ok (L := { L with PV := (i, v) :: L.PV }) (hp' v) t).1 h7) q)
  | retH i =>
    intro X L P hU hN hG hx hd hrt hΓ hh hp hq Z sts h
    subst hU hN hG hx hd
    have C := Z.C
    have hNd : X.N.Nodup := by rw [C.hN]; exact C.nd
    have one : ∀ {s : S} {st : Stmt}, PS X st (tS L wf P.ret s) → PSs X [st] (tS L wf P.ret s) ∧ ∀ st', [st] = [st'] → isSeq s = false → PS X st' (tS L wf P.ret s) := fun h => ⟨pss_one h, fun st' e _ => by cases e; exact h⟩
    have hpi : ∀ {i : Nat}, P.pins.contains i = false → ∀ p ∈ L.PV, p.1 ≠ i := fun {i} h p m z => by
      have := hp p m
      rw [z] at this
      simp [this] at h
    have vals : ∀ {e : E} {v : Expr}, isV e = true → ck P.toCkP sc e [v] = true → (bor L.Γ e = false → PE X v (tE L e)) ∧ PE X v (tP L e) ∧ (ck.tstOk v = true → PT X v (tT L e)) := fun h1 h2 => by
      obtain ⟨_, e1, p0, p1, p2, _⟩ := (ck_ok P.toCkP rfl rfl rfl _ hrt hΓ hh hp C h2).1 h1
      cases e1
      exact ⟨p0, p1, p2⟩
    have kf : X.env.scope.kind = .function := by rw [Z.hsc]; exact Z.kf
    rcases sts with _ | ⟨st, _ | ⟨_, _⟩⟩ <;> first | (simp [ckS] at h; done) | skip
    cases st <;> first | (simp [ckS] at h; done) | skip
    rename_i v pos
    rcases v with _ | v <;> first | (simp [ckS] at h; done) | skip
    cases v <;> first | (simp [ckS] at h; done) | skip
    simp only [ckS, Bool.and_eq_true, decide_eq_true_eq] at h
    obtain ⟨⟨h1, h2⟩, h3⟩ := h
    obtain ⟨v1, v2, v3⟩ := nmOk_inv h2
    exact one (PS.imp (ps_ret (pe_byNm C h1 v1 v2 v3)) fun D σ H q => tS_retH (hq i (by simpa using h3)) q)
  | forN t i b ihb =>
    intro X L P hU hN hG hx hd hrt hΓ hh hp hq Z sts h
    subst hU hN hG hx hd
    have C := Z.C
    have hNd : X.N.Nodup := by rw [C.hN]; exact C.nd
    have one : ∀ {s : S} {st : Stmt}, PS X st (tS L wf P.ret s) → PSs X [st] (tS L wf P.ret s) ∧ ∀ st', [st] = [st'] → isSeq s = false → PS X st' (tS L wf P.ret s) := fun h => ⟨pss_one h, fun st' e _ => by cases e; exact h⟩
    have hpi : ∀ {i : Nat}, P.pins.contains i = false → ∀ p ∈ L.PV, p.1 ≠ i := fun {i} h p m z => by
      have := hp p m
      rw [z] at this
      simp [this] at h
    have vals : ∀ {e : E} {v : Expr}, isV e = true → ck P.toCkP sc e [v] = true → (bor L.Γ e = false → PE X v (tE L e)) ∧ PE X v (tP L e) ∧ (ck.tstOk v = true → PT X v (tT L e)) := fun h1 h2 => by
      obtain ⟨_, e1, p0, p1, p2, _⟩ := (ck_ok P.toCkP rfl rfl rfl _ hrt hΓ hh hp C h2).1 h1
      cases e1
      exact ⟨p0, p1, p2⟩
    have kf : X.env.scope.kind = .function := by rw [Z.hsc]; exact Z.kf
    rcases sts with _ | ⟨st, _ | ⟨_, _⟩⟩ <;> first | (simp [ckS] at h; done) | skip
    cases st <;> first | (simp [ckS] at h; done) | skip
    rename_i tg iter body els pos
    cases els <;> first | (simp [ckS] at h; done) | skip
    cases tg <;> first | (simp [ckS] at h; done) | skip
    cases iter <;> first | (simp [ckS] at h; done) | skip
    rename_i y py x px
    simp only [ckS, Bool.and_eq_true, Bool.not_eq_true', decide_eq_true_eq, hΓ] at h
    obtain ⟨⟨⟨⟨⟨⟨⟨⟨⟨⟨⟨h0, hro⟩, h1⟩, h2⟩, h3⟩, h4⟩, h5⟩, h6⟩, h7⟩, h8⟩, h9⟩, h10⟩ := h
    have h0 : L.hot = false := hh ▸ h0
    obtain ⟨v1, v2, v3⟩ := nmOk_inv h2
    obtain ⟨s1, s2⟩ := C.hs _ h5
    have bd : ∀ u1 u2, PSs X body (tS { L with Γ := L.Γ.set t .o, PV := (t, u1) :: (i, u2) :: L.PV } wf P.ret b) := fun u1 u2 =>
      (ihb (L := { L with Γ := L.Γ.set t .o, PV := (t, u1) :: (i, u2) :: L.PV }) { P with Γ := L.Γ.set t .o, pins := t :: i :: P.pins, held := i :: P.held } rfl rfl rfl rfl rfl hrt rfl hh (fun p m => by
        rcases List.mem_cons.mp m with e | m
        · subst e; exact List.mem_cons_self
        · rcases List.mem_cons.mp m with e | m
          · subst e; exact List.mem_cons_of_mem _ List.mem_cons_self
          · exact List.mem_cons_of_mem _ (List.mem_cons_of_mem _ (hp p m))) (fun j m => by
        rcases List.mem_cons.mp m with e | m
        · subst e; exact ⟨u2, List.mem_cons_of_mem _ List.mem_cons_self⟩
        · obtain ⟨v, q⟩ := hq j m
          exact ⟨v, List.mem_cons_of_mem _ (List.mem_cons_of_mem _ q)⟩) ⟨C.gp (L.Γ.set t .o) ((t, u1) :: (i, u2) :: L.PV), Z.hsc, Z.kf, Z.po, Z.stk, Z.frm, Z.noA, Z.cls, Z.root, Z.xty, Z.rz⟩ h10).1
    have main := ps_for (pos := pos) Z.po (C.calm h0) (pi_list (tg := .Name y py) (pe_byNm (pos := px) C h1 v1 v2 v3)) (pg_name hNd (by rw [C.hN]; exact h4) s1 s2) (tb := fun D' σ' H' => ∃ u1 u2, tS { L with Γ := L.Γ.set t .o, PV := (t, u1) :: (i, u2) :: L.PV } wf P.ret b D' σ' H') ⟨fun pins s σ H D I q => by
      obtain ⟨u1, u2, q⟩ := q
      exact (bd u1 u2).run pins s σ H D I q⟩ (folded rfl _)
    rw [C.hK] at main
    exact one (PS.imp main fun D σ H q => tS_forN h7 hro h3 h6 (hpi h8) q)
  | parO i j a b =>
    intro X L P hU hN hG hx hd hrt hΓ hh hp hq Z sts h
    subst hU hN hG hx hd
    have C := Z.C
    have hNd : X.N.Nodup := by rw [C.hN]; exact C.nd
    have one : ∀ {s : S} {st : Stmt}, PS X st (tS L wf P.ret s) → PSs X [st] (tS L wf P.ret s) ∧ ∀ st', [st] = [st'] → isSeq s = false → PS X st' (tS L wf P.ret s) := fun h => ⟨pss_one h, fun st' e _ => by cases e; exact h⟩
    have hpi : ∀ {i : Nat}, P.pins.contains i = false → ∀ p ∈ L.PV, p.1 ≠ i := fun {i} h p m z => by
      have := hp p m
      rw [z] at this
      simp [this] at h
    have vals : ∀ {e : E} {v : Expr}, isV e = true → ck P.toCkP sc e [v] = true → (bor L.Γ e = false → PE X v (tE L e)) ∧ PE X v (tP L e) ∧ (ck.tstOk v = true → PT X v (tT L e)) := fun h1 h2 => by
      obtain ⟨_, e1, p0, p1, p2, _⟩ := (ck_ok P.toCkP rfl rfl rfl _ hrt hΓ hh hp C h2).1 h1
      cases e1
      exact ⟨p0, p1, p2⟩
    have kf : X.env.scope.kind = .function := by rw [Z.hsc]; exact Z.kf
    rcases sts with _ | ⟨st, _ | ⟨_, _⟩⟩ <;> first | (simp [ckS] at h; done) | skip
    cases st <;> first | (simp [ckS] at h; done) | skip
    rename_i tgs v pos
    rcases tgs with _ | ⟨tg, _ | ⟨_, _⟩⟩ <;> first | (simp [ckS] at h; done) | skip
    cases tg <;> first | (simp [ckS] at h; done) | skip
    rename_i ts u tp
    rcases ts with _ | ⟨t1, _ | ⟨t2, _ | ⟨_, _⟩⟩⟩ <;> first | (simp [ckS] at h; done) | (cases t1 <;> simp [ckS] at h; done) | skip
    cases t1 <;> first | (simp [ckS] at h; done) | skip
    cases t2 <;> first | (simp [ckS] at h; done) | skip
    cases v <;> first | (simp [ckS] at h; done) | skip
    rename_i x px y py vs k2 p2
    rcases vs with _ | ⟨v, _ | ⟨w, _ | ⟨_, _⟩⟩⟩ <;> first | (simp [ckS] at h; done) | skip
    simp only [ckS, Bool.and_eq_true, Bool.not_eq_true', decide_eq_true_eq, hΓ, hrt, locOf] at h
    obtain ⟨⟨⟨⟨⟨⟨⟨⟨⟨⟨⟨⟨⟨⟨⟨⟨⟨⟨⟨⟨⟨⟨⟨h00, i1⟩, j1⟩, i3⟩, j3⟩, i4⟩, j4⟩, a1⟩, b1⟩, a2⟩, b2⟩, a3⟩, b3⟩, a4⟩, b4⟩, g1⟩, g2⟩, g3⟩, g4⟩, g5⟩, g6⟩, g7⟩, g8⟩, g9⟩ := h
    have h00 : L.hot = false := hh ▸ h00
    have lx : X.env.scope.names.lookup x = some .local := by rw [Z.hsc]; exact g2
    have ly : X.env.scope.names.lookup y = some .local := by rw [Z.hsc]; exact g3
    obtain ⟨pa, _, _⟩ := vals a1 a4
    obtain ⟨pb, _, _⟩ := vals b1 b4
    exact one (PS.imp (ps_par (C.calm h00) hNd (by rw [C.hN]; exact i1) (by rw [C.hN]; exact j1) g1 lx ly (pa_cons (pa a2) (pa_cons (pb b2) pa_nil (star_cons g7)) (star_cons g6)) (sw_some2 kf lx ly g4 g5 g6 g7 g8 g9) sws_tup) fun D σ H q => tS_parO g1 i3 j3 (hpi i4) (hpi j4) a3 b3 q)
  | bad =>
    intro X L P hU hN hG hx hd hrt hΓ hh hp hq Z sts h
    subst hU hN hG hx hd
    have C := Z.C
    have hNd : X.N.Nodup := by rw [C.hN]; exact C.nd
    have one : ∀ {s : S} {st : Stmt}, PS X st (tS L wf P.ret s) → PSs X [st] (tS L wf P.ret s) ∧ ∀ st', [st] = [st'] → isSeq s = false → PS X st' (tS L wf P.ret s) := fun h => ⟨pss_one h, fun st' e _ => by cases e; exact h⟩
    have hpi : ∀ {i : Nat}, P.pins.contains i = false → ∀ p ∈ L.PV, p.1 ≠ i := fun {i} h p m z => by
      have := hp p m
      rw [z] at this
      simp [this] at h
    have vals : ∀ {e : E} {v : Expr}, isV e = true → ck P.toCkP sc e [v] = true → (bor L.Γ e = false → PE X v (tE L e)) ∧ PE X v (tP L e) ∧ (ck.tstOk v = true → PT X v (tT L e)) := fun h1 h2 => by
      obtain ⟨_, e1, p0, p1, p2, _⟩ := (ck_ok P.toCkP rfl rfl rfl _ hrt hΓ hh hp C h2).1 h1
      cases e1
      exact ⟨p0, p1, p2⟩
    have kf : X.env.scope.kind = .function := by rw [Z.hsc]; exact Z.kf
    rcases sts with _ | ⟨st, _ | ⟨_, _⟩⟩ <;> first | (simp [ckS] at h; done) | skip
    exact one ⟨fun pins s σ H D I q => by
      obtain ⟨_, _, _, _, q⟩ := q
      exact q.elim⟩
end
end Eg

end
section
set_option maxHeartbeats 8000000
namespace Eg
open PySem PySem.Spec PyProof.Rows L2
/-! ### defs -/
/-- where a def stands in the text -/
structure FR where
  x : Str
  qual : Str
  st : Stmt
  N : List Str
  ps : List Str
  a : Addr
  fd : FuncData
/-- an exception of the text -/
def XF (K : PySem.W.Frag) (mg : Str → Option Value) (x : Str) (v : Value) : Prop := ∃ (C : Addr) (bmB : List Value) (B newId initId : String), ExcBaseFacts B newId initId bmB ∧ PySem.W.excIn K C bmB newId = true ∧ mg x = some (.ref C) ∧ PySem.W.keepIn K (.ref C) = true ∧
  PySem.W.subIn K (.ref C) (.type "BaseException") = some true ∧ PySem.W.typeIn K (.ref C) = some (.type "type") ∧ v = .ref C ∧ (x == ("__debug__" : Str)) = false
def ckP (ht : Bool) (U : Fx) (GL : Str → D → Bool) (xn : Nat → Str) (xd : Nat → Bool) (fd : FD) (N : List Str) : CkS := ⟨⟨fd.ty, fd.io, N, U, GL, ht, U.rt⟩, fd.ret, xn, xd, []⟩
/-- a def's own conditions -/
def fdOk (ht : Bool) (U : Fx) (GL : Str → D → Bool) (xn : Nat → Str) (xd : Nat → Bool) (f : Nat) (fd : FD) (st : Stmt) (N ps : List Str) : Bool :=
  (!ht || xd 0) && ckS (ckP ht U GL xn xd fd N) (defScope st) fd.body (defBody st) && decide (fd.np = ps.length) && decide (fd.ns = N.length) && decide (fd.ty.length = N.length) && le fd.np fd.ns && decide (U.pt f = fd.ty.take fd.np) && decide (U.rt f = fd.ret) && decide (U.io f = fd.io) &&
    decide fd.io.Nodup && fd.io.all (fun i => decide (i < fd.np) && decide (fd.ty.getD i .a = .o))
structure Mo (P : Program) (w : World) (K : PySem.W.Frag) (mg : Str → Option Value) (G : Gx) (U : Fx) (GL : Str → D → Bool) (xn : Nat → Str) (xd : Nat → Bool) (F : Nat → FD) (R : Nat → FR) : Prop where
  hK : K = G.K
  blt : ∀ n ∈ bltNames, mg (Str.ofString n) = none
  gc : ∀ x d, GL x d = true → ∃ u v, mg x = some u ∧ RelV v u ∧ ∀ Fz H, RF G Fz H d v
  xf : ∀ c, xd c = true → XF K mg (xn c) (G.xv c)
  noA : ∀ c v, ¬ G.XA c v
  cls : xd 0 = true → ∀ c, excOk c = true → ∃ D : Addr, G.xv c = .ref D ∧ ExcC K D
  root : xd 0 = true → ∃ cv, ((xn 0) == ("__debug__" : Str)) = false ∧ mg (xn 0) = some cv ∧ ∀ c, excOk c = true → PySem.W.exmOne K (G.xv c) cv = some true
  xty : xd 0 = true → ∀ x k, U.xq x k = true → ∃ (C : V) (cv : Value), (∀ u, RelV C u → u = cv) ∧ (∀ X : Cx, X.mg = mg → Gl X x → ∀ p : Pos, PE X (.Name x p) (tC C)) ∧ ∀ c, excOk c = true → ∀ D, G.xv c = .ref D → PySem.W.kitOne K (.ref D) cv = some (subX c k)
  fn : ∀ f, U.dom f = true → Fun K (R f).x (R f).qual (R f).st (R f).a (R f).fd ∧ FnScope (R f).N (R f).ps (defScope (R f).st) ∧ Binds K (R f).fd (R f).ps [] ∧ mg (U.nm f) = some (.ref (R f).a) ∧ fdOk false U GL xn xd f (F f) (R f).st (R f).N (R f).ps = true
  fh : ∀ f, U.hd f = true → Fun K (R f).x (R f).qual (R f).st (R f).a (R f).fd ∧ FnScope (R f).N (R f).ps (defScope (R f).st) ∧ Binds K (R f).fd (R f).ps [] ∧ mg (U.nm f) = some (.ref (R f).a) ∧ fdOk true U GL xn xd f (F f) (R f).st (R f).N (R f).ps = true
section
variable {P : Program} {w : World} {K : PySem.W.Frag} {mg : Str → Option Value} {base : Heap} {G : Gx} {U : Fx} {GL : Str → D → Bool} {xn : Nat → Str} {xd : Nat → Bool} {F : Nat → FD} {R : Nat → FR} {wf : Nat}
theorem AR.at {Fz : Addr → Prop} {H : Hp} : ∀ {ts : List Ty} {ds : List D} {vs : List V} {Ss : List (Addr → Prop)} {i : Nat}, AR G Fz H ts ds vs Ss → i < ts.length → ∃ t d v S, ts[i]? = some t ∧ ds[i]? = some d ∧ vs[i]? = some v ∧ Ss[i]? = some S ∧ RO G Fz H t d v S ∧ d ≠ .unset
  | t :: _, d :: _, v :: _, S :: _, 0, h, _ => ⟨t, d, v, S, rfl, rfl, rfl, rfl, h.1, h.2.1⟩
  | _ :: ts, _ :: _, _ :: _, _ :: _, i + 1, h, hi => by
    obtain ⟨t, d, v, S, h1, h2, h3, h4, h5⟩ := AR.at (i := i) h.2.2 (by simpa using hi)
    exact ⟨t, d, v, S, by simpa using h1, by simpa using h2, by simpa using h3, by simpa using h4, h5⟩
theorem start_re {L : Lx} {N : List Str} {vs : List V} {ds : List D} {pt : List Ty} {Ss : List (Addr → Prop)} {Fz : Addr → Prop} {H : Hp} {ns np : Nat} (h : AR L.G Fz H pt ds vs Ss) (hnp : pt.length = np) (hns : ns = N.length) (hle : np ≤ ns) (hty : pt = L.Γ.take np) (hd : ∀ i j b, ownL Ss i b → ownL Ss j b → i = j) (hn : ∀ i b, ownL Ss i b → ¬ Fz b)
    (hpv : ∀ p ∈ L.PV, vs[p.1]? = some p.2) : RE L.G L.Γ L.PV Fz H (ds ++ List.replicate (ns - np) .unset) (L2.start N vs) (ownL Ss) := by
  obtain ⟨l1, l2, l3⟩ := h.len
  have big : ∀ i, ¬ i < np → (ds ++ List.replicate (ns - np) D.unset).getD i .unset = .unset := fun i hi => by
    rw [List.getD_eq_getElem?_getD, List.getElem?_append_right (by omega), List.getElem?_replicate]
    split <;> rfl
  refine ⟨fun i hi => ?_, fun i hi b ob => ?_, hn, hd, fun p m => ?_, ?_⟩
  · by_cases q : i < np
    · obtain ⟨t, d, v, S, h1, h2, h3, h4, h5, _⟩ := h.at (i := i) (by omega)
      refine ⟨v, ?_, ?_⟩
      · rw [L2.start, List.getElem?_append_left (by rw [List.length_map]; omega), List.getElem?_map, h3]
        rfl
      · have e1 : (ds ++ List.replicate (ns - np) D.unset).getD i .unset = d := by
          rw [List.getD_eq_getElem?_getD, List.getElem?_append_left (by omega), h2]; rfl
        have e2 : L.Γ.getD i .a = t := by
          rw [hty, List.getElem?_take_of_lt q] at h1
          rw [List.getD_eq_getElem?_getD, h1]; rfl
        have e3 : ownL Ss i = S := by
          funext b
          refine propext ⟨fun ⟨S', e, o⟩ => ?_, fun o => ⟨S, h4, o⟩⟩
          rw [h4] at e
          cases e
          exact o
        rw [e1, e2, e3]
        exact h5
    · exact absurd (big i q) hi
  · by_cases q : i < np
    · obtain ⟨t, d, v, S, h1, h2, h3, h4, h5, h6⟩ := h.at (i := i) (by omega)
      have e1 : (ds ++ List.replicate (ns - np) D.unset).getD i .unset = d := by
        rw [List.getD_eq_getElem?_getD, List.getElem?_append_left (by omega), h2]; rfl
      exact h6 (e1.symm.trans hi)
    · obtain ⟨S, e, _⟩ := ob
      rw [List.getElem?_eq_none (by omega)] at e
      cases e
  · have e := hpv p m
    obtain ⟨hl, _⟩ := List.getElem?_eq_some_iff.mp e
    rw [L2.start, List.getElem?_append_left (by rw [List.length_map]; exact hl), List.getElem?_map, e]
    rfl
  · rw [L2.start, List.length_append, List.length_append, List.length_replicate, List.length_replicate, List.length_map]
    omega
theorem Fun.okXN {P : Program} {w : World} {K : PySem.W.Frag} {mg : Str → Option Value} {base : Heap} {x qual : Str} {st : Stmt} {f : Addr} {fd : FuncData} {N ps : List Str} {k : Nat} {sp : Sp} (F : Fun K x qual st f fd) (S : FnScope N ps (defScope st)) (len : ∀ vs H Q E, sp vs H Q E → vs.length = ps.length)
    (hbody : ∀ (cdv : Value) (A : Around) (outer : List Env) (s : Shared) (H : Hp) (vs : List V) (Q : VK) (E : XK), Room k (A.deeper (envOfC qual (defScope st) s.heap.objs.size f cdv)) → sp vs H Q E →
      ∃ t, PSs (cxOf (L2N.CX P w) P w K mg base N qual (defScope st) f cdv A outer s H E) (defBody st) t ∧ t { nx := fun _ H' => Q .non H', rt := Q } (L2.start N vs) H) : FnOk P w K mg base (L2N.CX P w) (k + 1) f fd ps sp := by
  obtain ⟨oc, od, kV, doc, pm, an, cdv, ct, osl, rfl, lk, hcd⟩ := F.ex
  exact fn_of lk hcd S len fun A outer s H vs Q E hr hsp => hbody cdv A outer s H vs Q E hr hsp
/-- what a def promises at its ends -/
theorem end_io {L : Lx} {io : List Nat} {vs : List V} {Fz Fz' : Addr → Prop} {H H' : Hp} {env : List D} {σ : L2.St} {own own' : Nat → Addr → Prop} (s : Stp L σ Fz H own true Fz' H' env own') (hset : setAll io env = true) (hio : ∀ i ∈ io, L.Γ.getD i .a = .o) (nd : io.Nodup)
    (hpv : ∀ i ∈ io, ∃ v, vs[i]? = some v ∧ (i, v) ∈ L.PV) : IoR L.G Fz' H' io (io.map fun i => env.getD i .unset) vs (fun (j : Nat) (b : Addr) => ∃ i, io[j]? = some i ∧ own' i b) ∧ (∀ (j : Nat) (b : Addr), (∃ i, io[j]? = some i ∧ own' i b) → ¬ Fz' b) ∧ (∀ (i j : Nat) (b : Addr), (∃ n, io[i]? = some n ∧ own' n b) → (∃ n, io[j]? = some n ∧ own' n b) → i = j) ∧
      (∀ b, OW (fun (j : Nat) (b : Addr) => ∃ i, io[j]? = some i ∧ own' i b) b → OW own b ∨ H b = none) := by
  refine ⟨⟨by rw [List.length_map], fun j p d h1 h2 => ?_, fun j b ⟨i, e, _⟩ => (List.getElem?_eq_some_iff.mp e).1⟩, fun j b ⟨i, _, o⟩ => s.re.nf i b o, fun i j b ⟨n, e1, o1⟩ ⟨m, e2, o2⟩ => ?_, fun b ⟨j, i, _, o⟩ => s.ow b ⟨i, o⟩⟩
  · rw [List.getElem?_map, h1] at h2
    have h2 := Option.some.inj h2
    have m := List.mem_of_getElem? h1
    have hne := setAll_get hset m
    simp only at h2
    rw [h2] at hne
    refine ⟨hne, ?_⟩
    obtain ⟨v, e1, m2⟩ := hpv p m
    obtain ⟨u, e2, ro⟩ := s.re.val p (by rw [h2]; exact hne)
    have e3 := s.re.pv _ m2
    rw [e3] at e2
    cases e2
    refine ⟨v, e1, ?_⟩
    rw [h2, hio p m] at ro
    have : (fun b => ∃ i, io[j]? = some i ∧ own' i b) = own' p := by
      funext b
      refine propext ⟨fun ⟨i, e, o⟩ => ?_, fun o => ⟨p, h1, o⟩⟩
      rw [h1] at e
      cases e
      exact o
    show RO L.G Fz' H' .o d v (fun b => ∃ i, io[j]? = some i ∧ own' i b)
    rw [this]
    exact ro
  · have := s.re.dj n m b o1 o2
    subst this
    obtain ⟨l1, e1⟩ := List.getElem?_eq_some_iff.mp e1
    obtain ⟨l2, e2⟩ := List.getElem?_eq_some_iff.mp e2
    exact (List.getElem_inj nd).mp (e1.trans e2.symm)
theorem gl_of {sc : Scope} {x : Str} (h : gl sc x = true) : sc.names.lookup x = some .globalImplicit := by
  unfold gl at h
  exact of_decide_eq_true h
/-- a def's own promise out of its body's -/
theorem Fun.okH {x qual : Str} {st : Stmt} {f : Addr} {fd : FuncData} {N ps : List Str} {k : Nat} {pt : List Ty} {rt : Ty} {io : List Nat} {rn : List D → CR} (F : Fun K x qual st f fd) (S : FnScope N ps (defScope st)) (lp : pt.length = ps.length)
    (hb : ∀ (cdv : Value) (c : Nat) (p : Addr × Obj) (A : Around) (outer : List Env) (s : Shared) (H : Hp) (vs : List V) (Q : VK), Inh G A c p → L2H.RoomH k (A.deeper (envOfC qual (defScope st) s.heap.objs.size f cdv)) → spF (G.hold c p.1) pt rt io rn vs H Q (fun _ _ _ => False) →
      ∃ t, PSs (L2H.cxH (L2N.CX P w) P w K mg base N qual (defScope st) f cdv A outer s H (fun _ _ _ => False) p) (defBody st) t ∧ t { nx := fun _ H' => Q .non H', rt := Q } (L2.start N vs) H) : Hfn P w K mg base G (k + 1) f fd ps pt rt io rn := by
  obtain ⟨oc, od, kV, doc, pm, an, cdv, ct, osl, rfl, lk, hcd⟩ := F.ex
  refine ⟨lp, fun c p A fr s H gs us vs Q hi hr po e0 bt r h => ?_⟩
  have hl : vs.length = ps.length := by
    obtain ⟨_, _, _, ar, _⟩ := h
    rw [ar.len.2.1, lp]
  have kin : K.In s.heap := e0.mod.kin.keeps fun b o e => (e0.bs b o e).1
  have nol : s.heap.NoLimit := e0.mod.nolimit.keeps fun b o e => (e0.bs b o e).1
  have kn : ∀ y ∈ ps.zip us, (defScope st).names.lookup y.1 = some .local ∨ ((defScope st).names.lookup y.1 = some .cell ∧ ((cellsFrom (s.heap.objs.size + 1) (defScope st).names []).lookup y.1).isSome = true) := fun ⟨n, v⟩ hy => by
    rcases S.par n (List.of_mem_zip hy).1 with q | q
    · exact Or.inl q
    · exact Or.inr ⟨q, PySem.W.cellsFrom_some _ _ _ (.inl q)⟩
  refine codeAny_call_function hr.depth (kin _ _ lk) rfl S.co S.gen rfl (PySem.W.codeRec_of kin hcd) (bt _ _ _ _ (wpAny_newFunctionEnv_cells S.kind kn fun env he s1 z => ?_))
  cases he
  refine ⟨nol.keeps z.toInCall.keep, codeAny_func ?_⟩
  obtain ⟨t, ht, hq⟩ := hb cdv c p A fr s H vs Q hi (hr.deeper _) h
  have I := L2H.inv_startH (CX := L2N.CX P w) (base := base) (E := fun _ _ _ => False) S po e0 hl r z
  refine wpAny_mono (ht.run [] s1 (L2.start N vs) H _ I hq) (fun fl s' hs => ?_) fun e s' hs => hs
  cases fl with
  | ret u =>
    obtain ⟨v, σ', H', J, rv, q⟩ := hs
    exact ⟨v, H', J.os, J.bare, J.base, J.hok, rv, q⟩
  | next =>
    obtain ⟨σ', H', J, q⟩ := hs
    exact ⟨V.non, H', J.os, J.bare, J.base, J.hok, rfl, q⟩
  | brk => exact hs.elim fun _ h => h.elim fun _ h => h.2.elim
  | cont => exact hs.elim fun _ h => h.elim fun _ h => h.2.elim
/-- a def's ends, by the evaluation -/
theorem run_ends {G' : Gx} {ht : Bool} {n f : Nat} {N : List Str} {vs : List V} {H : Hp} {Q : VK} {E : XK} (c3 : (F f).ns = N.length) (c4 : (F f).ty.length = N.length) (c5 : (F f).np ≤ (F f).ns) (c6 : U.pt f = (F f).ty.take (F f).np) (c7 : U.rt f = (F f).ret) (c8 : U.io f = (F f).io) (c9 : (F f).io.Nodup)
    (hio : ∀ i ∈ (F f).io, i < (F f).np ∧ (F f).ty.getD i .a = .o) (hsp : spF G' (U.pt f) (U.rt f) (U.io f) (run F wf (n + 1) f) vs H Q E) :
    tS ⟨G', run F wf n, U.rt, (F f).ty, (F f).io.map fun i => (i, vs.getD i .non), fun cls d _ H => E cls d H, ht⟩ wf (F f).ret (F f).body { nx := fun _ H' => Q .non H', rt := Q } (L2.start N vs) H := by
  have hpl : (U.pt f).length = (F f).np := by rw [c6, List.length_take, c4]; omega
  obtain ⟨Fz, ds, Ss, ar, dj, nf, hrun⟩ := hsp
  obtain ⟨l1, l2, l3⟩ := ar.len
  have hpv : ∀ i ∈ (F f).io, vs[i]? = some (vs.getD i .non) := fun i m => by
    have : i < vs.length := by rw [l2, hpl]; exact (hio i m).1
    rw [List.getD_eq_getElem?_getD, List.getElem?_eq_getElem this]
    rfl
  let L : Lx := ⟨G', run F wf n, U.rt, (F f).ty, (F f).io.map fun i => (i, vs.getD i .non), fun cls d _ H => E cls d H, ht⟩
  refine ⟨Fz, _, _, start_re (L := L) ar hpl c3 c5 c6 dj nf (fun p m => ?_), ?_⟩
  · obtain ⟨i, mi, e⟩ := List.mem_map.mp m
    subst e
    exact hpv i mi
  · have fin : ∀ {σ' H' Fz' own' env'}, Stp L σ' Fz H (ownL Ss) true Fz' H' env' own' → setAll (F f).io env' = true → _ := fun {σ' H' Fz' own' env'} s hs => end_io s hs (fun i m => (hio i m).2) c9 (vs := vs) fun i m => ⟨_, hpv i m, List.mem_map.mpr ⟨i, m, rfl⟩⟩
    simp only [run] at hrun
    rw [c8, c7] at hrun
    cases eb : ex (run F wf n) wf (F f).body (ds ++ List.replicate ((F f).ns - (F f).np) .unset) with
    | no => rw [eb] at hrun; exact hrun.elim
    | bk e => rw [eb] at hrun; exact hrun.elim
    | rh i e => rw [eb] at hrun; exact hrun.elim
    | ct e => rw [eb] at hrun; exact hrun.elim
    | nx e =>
      rw [eb] at hrun
      simp only at hrun
      split at hrun
      · rename_i o d ps q
        split at q
        · rename_i hs
          cases q
          intro σ' H' Fz' own' st
          obtain ⟨i1, i2, i3, i4⟩ := fin st hs
          refine hrun .non H' Fz' _ (fun _ => False) ?_ (fun _ z => z.elim) i1 (fun j b z => ⟨i2 j b z, id⟩) i3 (st.fr.mono fun b m => m.2) fun b z => z.elim (i4 b) fun z => z.elim
          exact .of_any (d := .non) rfl fun _ z => by cases z
        · cases q
      · rename_i q; split at q <;> cases q
      · exact hrun.elim
    | ret d e =>
      rw [eb] at hrun
      simp only at hrun
      split at hrun
      · rename_i o d ps q
        split at q
        · rename_i hs
          cases q
          intro v σ' H' Fz' own' S st ro hd
          obtain ⟨i1, i2, i3, i4⟩ := fin st hs
          exact hrun v H' Fz' _ S ro hd.nf i1 (fun j b z => ⟨i2 j b z, fun sb => by
            obtain ⟨i, _, o⟩ := z
            exact hd.dj i b o sb⟩) i3 (st.fr.mono fun b m => m.2) fun b z => z.elim (i4 b) fun z => (hd.fr b z).imp (fun m => m.2) id
        · cases q
      · rename_i q; split at q <;> cases q
      · exact hrun.elim
    | exc c e =>
      rw [eb] at hrun
      simp only at hrun
      split at hrun
      · rename_i q; split at q <;> cases q
      · rename_i o c ps q
        split at q
        · rename_i hs
          cases q
          intro σ' H' Fz' own' st
          obtain ⟨i1, i2, i3, i4⟩ := fin st hs
          exact hrun H' Fz' _ i1 i2 i3 (st.fr.mono fun b m => m.2) i4
        · cases q
      · exact hrun.elim
/-- what a def's check gives -/
theorem fd_parts {ht : Bool} {f : Nat} {st : Stmt} {N ps : List Str} (h5 : fdOk ht U GL xn xd f (F f) st N ps = true) : (!ht || xd 0) = true ∧ ckS (ckP ht U GL xn xd (F f) N) (defScope st) (F f).body (defBody st) = true ∧ (F f).np = ps.length ∧ (F f).ns = N.length ∧ (F f).ty.length = N.length ∧ (F f).np ≤ (F f).ns ∧
    U.pt f = (F f).ty.take (F f).np ∧ U.rt f = (F f).ret ∧ U.io f = (F f).io ∧ (F f).io.Nodup ∧ (∀ i ∈ (F f).io, i < (F f).np ∧ (F f).ty.getD i .a = .o) ∧ (U.pt f).length = ps.length := by
  simp only [fdOk, Bool.and_eq_true, decide_eq_true_eq] at h5
  obtain ⟨⟨⟨⟨⟨⟨⟨⟨⟨⟨c0, c1⟩, c2⟩, c3⟩, c4⟩, c5⟩, c6⟩, c7⟩, c8⟩, c9⟩, c10⟩ := h5
  have c5 : (F f).np ≤ (F f).ns := of_decide_eq_true c5
  refine ⟨c0, c1, c2, c3, c4, c5, c6, c7, c8, c9, fun i m => ?_, ?_⟩
  · have := List.all_eq_true.mp c10 i m
    simpa using this
  · rw [c6, List.length_take, c4]; omega
theorem hv_of {sc : Scope} {x : Str} (hx : vis sc x = true) : Vis sc x := by
  unfold vis at hx
  split at hx <;> first | (cases hx; done) | skip
  · exact .inl ‹_›
  · exact .inr (.inl ‹_›)
  · exact .inr (.inr ‹_›)
theorem hs_of {sc : Scope} {x : Str} (hx : sto sc x = true) : L2.Loc sc x := by
  unfold sto at hx
  split at hx <;> first | (cases hx; done) | skip
  · exact .inl ‹_›
  · exact .inr ‹_›
/-- ALL DEFS that are called while an exception is in hand, by their depth -/
theorem all_okH (M : Mo P w K mg G U GL xn xd F R) : ∀ n f, U.hd f = true → Hfn P w K mg base G n (R f).a (R f).fd (R f).ps (U.pt f) (U.rt f) (U.io f) (run F wf n f) := by
  intro n
  induction n with
  | zero =>
    intro f hf
    obtain ⟨h1, h2, h3, h4, h5⟩ := M.fh f hf
    obtain ⟨c0, c1, c2, c3, c4, c5, c6, c7, c8, c9, hio, hpl⟩ := fd_parts h5
    refine ⟨hpl, fun c p A fr s H gs us vs Q _ _ _ _ _ _ h => ?_⟩
    obtain ⟨_, _, _, _, _, _, h⟩ := h
    exact h.elim
  | succ n ih =>
    intro f hf
    obtain ⟨h1, h2, h3, h4, h5⟩ := M.fh f hf
    obtain ⟨c0, c1, c2, c3, c4, c5, c6, c7, c8, c9, hio, hpl⟩ := fd_parts h5
    have h0 : xd 0 = true := by simpa using c0
    refine Fun.okH h1 h2 hpl fun cdv c p A outer s H vs Q hi hr hsp => ?_
    let L : Lx := ⟨G.hold c p.1, run F wf n, U.rt, (F f).ty, (F f).io.map fun i => (i, vs.getD i .non), fun _ _ _ _ => False, true⟩
    refine ⟨tS L wf (F f).ret (F f).body, ?_, run_ends (E := fun _ _ _ => False) c3 c4 c5 c6 c7 c8 c9 hio hsp⟩
    have tk : L2N.Takes (L2H.cxH (L2N.CX P w) P w K mg base (R f).N (R f).qual (defScope (R f).st) (R f).a cdv A outer s H (fun _ _ _ => False) p) (fun _ _ _ _ => False) := fun _ _ x => by
      obtain ⟨_, _, _, _, _, _, _, _, _, _, _, _, _, _, _, _, z⟩ := x
      exact z.elim
    have Z : Cs L U (R f).N n (defScope (R f).st) GL xn xd (L2H.cxH (L2N.CX P w) P w K mg base (R f).N (R f).qual (defScope (R f).st) (R f).a cdv A outer s H (fun _ _ _ => False) p) := by
      obtain ⟨D, d1, d2, d3⟩ := hi.cl
      refine ⟨⟨rfl, h2.nd, fun x hx => hv_of hx, fun x hx => gl_of hx, fun x hx => ⟨hs_of hx, .inl rfl⟩, M.hK, (fun z => by cases z), tk, cr_anyH ⟨p, hi.one, List.mem_cons_self⟩, (fun _ x k hq hg => ?_), ?_, M.blt, (fun x d hx => let ⟨u, v, e1, e2, r⟩ := M.gc x d hx; ⟨u, v, e1, e2, fun Fz H => RF.wi (fun c v z => absurd z (M.noA c v)) d (r Fz H)⟩), fun x hx => hx, (fun z => by cases z), (fun z => by cases z), (fun z => by cases z), (fun _ => ⟨rfl, fun g hg => ?_⟩), fun _ => rfl⟩,
        rfl, h2.kind, passes_of rfl, rfl, rfl, (fun z => by cases z), (fun z => by cases z), (fun z => by cases z), (fun z => by cases z), (fun c m j p p2 pos z => by cases z)⟩
      · obtain ⟨C, cv, q1, q2, q3⟩ := M.xty h0 x k hq
        refine ⟨C, rIsE K D p.1, fun pp => q2 _ rfl (gl_of hg) pp, call_isE' (X := L2H.cxH (L2N.CX P w) P w K mg base (R f).N (R f).qual (defScope (R f).st) (R f).a cdv A outer s H (fun _ _ _ => False) p) List.mem_cons_self (show ExcC K D by rw [M.hK]; exact d2) d3 ⟨_, hi.one.2.choose_spec.1⟩, fun c' v H' Q' hx q' => ?_⟩
        obtain ⟨y1, y2⟩ := hx
        subst y1 y2
        exact ⟨C, cv, subX c' k, rfl, q1, q3 c' hi.ok D d1, q'⟩
      · have := hr.un
        show (A.deeper _).units + 70 < cLine
        omega
      · obtain ⟨g1, g2, g3, g4, g5⟩ := M.fh g hg
        exact ⟨_, g4, g1.kp, Hfn.call (X := L2H.cxH (L2N.CX P w) P w K mg base (R f).N (R f).qual (defScope (R f).st) (R f).a cdv A outer s H (fun _ _ _ => False) p) (ih g hg) hr ⟨hi.ok, hi.one, hi.cl⟩ List.mem_cons_self g3⟩
    exact (ss_ok (wf := wf) (F f).body (ckP true U GL xn xd (F f) (R f).N) rfl rfl rfl rfl rfl rfl rfl rfl (fun p m => by
      obtain ⟨i, mi, e⟩ := List.mem_map.mp m
      subst e
      exact mi) (fun i m => by cases m) Z c1).1
/-- ALL DEFS, by their depth -/
theorem all_ok (M : Mo P w K mg G U GL xn xd F R) : ∀ n f, U.dom f = true → FnOk P w K mg base (L2N.CX P w) n (R f).a (R f).fd (R f).ps (spF G (U.pt f) (U.rt f) (U.io f) (run F wf n f)) := by
  intro n
  induction n with
  | zero =>
    intro f _
    refine ⟨fun vs H Q E h => ?_, fun A outer s H args us vs Q E _ _ _ _ h => ?_⟩
    · obtain ⟨_, _, _, _, _, _, h⟩ := h
      exact h.elim
    · obtain ⟨_, _, _, _, _, _, h⟩ := h
      exact h.elim
  | succ n ih =>
    intro f hf
    obtain ⟨h1, h2, h3, h4, h5⟩ := M.fn f hf
    obtain ⟨c0, c1, c2, c3, c4, c5, c6, c7, c8, c9, hio, hpl⟩ := fd_parts h5
    refine Fun.okXN h1 h2 (fun vs H Q E h => ?_) fun cdv A outer s H vs Q E hr hsp => ?_
    · obtain ⟨_, _, _, ar, _⟩ := h
      rw [ar.len.2.1, hpl]
    let L : Lx := ⟨G, run F wf n, U.rt, (F f).ty, (F f).io.map fun i => (i, vs.getD i .non), fun cls d _ H => E cls d H, false⟩
    refine ⟨tS L wf (F f).ret (F f).body, ?_, run_ends c3 c4 c5 c6 c7 c8 c9 hio hsp⟩
    · have Z : Cs L U (R f).N n (defScope (R f).st) GL xn xd (cxOf (L2N.CX P w) P w K mg base (R f).N (R f).qual (defScope (R f).st) (R f).a cdv A outer s H E) := by
        refine ⟨⟨rfl, h2.nd, fun x hx => ?_, fun x hx => gl_of hx, fun x hx => ?_, M.hK, (fun _ => rfl), L2N.takes_of rfl rfl rfl rfl, cr_any rfl, (fun z => by cases z), ?_, M.blt, M.gc, fun x hx => hx, (fun _ => hr), (fun _ g hg => ?_), (fun _ g hg => ?_), (fun z => by cases z), fun _ => rfl⟩, rfl, h2.kind, passes_of rfl, rfl, rfl, (fun _ => M.noA), (fun _ h5 c hc => ?_), (fun _ h5 h6 => ?_), (fun _ h5 x k hq hg => ?_), fun c m j p p2 pos _ hc hg pn xe => ?_⟩
        · show Vis (defScope (R f).st) x
          unfold vis at hx
          split at hx <;> first | (cases hx; done) | skip
          · exact .inl ‹_›
          · exact .inr (.inl ‹_›)
          · exact .inr (.inr ‹_›)
        · refine ⟨?_, .inl rfl⟩
          show L2.Loc (defScope (R f).st) x
          unfold sto at hx
          split at hx <;> first | (cases hx; done) | skip
          · exact .inl ‹_›
          · exact .inr ‹_›
        · have := hr.un
          show (A.deeper _).units + 70 < cLine
          omega
        · obtain ⟨g1, g2, g3, g4, g5⟩ := M.fn g hg
          exact ⟨_, _, _, g4, g1.kp, g3, ih g hg⟩
        · obtain ⟨g1, g2, g3, g4, g5⟩ := M.fh g hg
          exact ⟨_, _, _, g4, g1.kp, g3, all_okH M n g hg⟩
        · obtain ⟨D0, q1, q2⟩ := M.cls h5 c hc
          exact ⟨D0, q1, (show ExcC K D0 from q2)⟩
        · obtain ⟨cv, q1, q2, q3⟩ := M.root h5
          exact ⟨cv, ⟨gl_of h6, q1, .inl q2⟩, q3⟩
        · obtain ⟨C, cv, q1, q2, q3⟩ := M.xty h5 x k hq
          exact ⟨C, cv, q1, fun a pn p => q2 _ rfl (gl_of hg) p, q3⟩
        · obtain ⟨C, bmB, B, newId, initId, e1, e2, e3, e4, e5, e6, e7, e8⟩ := M.xf c hc
          show L2N.PMk _ _ (fun _ H Q => Q (G.xv c) none H)
          rw [e7]
          exact L2N.pmk_own e1 e2 e3 e4 (raises_own e5 e6) (gl_of hg) e8
      exact (ss_ok (wf := wf) (F f).body (ckP false U GL xn xd (F f) (R f).N) rfl rfl rfl rfl rfl rfl rfl rfl (fun p m => by
        obtain ⟨i, mi, e⟩ := List.mem_map.mp m
        subst e
        exact mi) (fun i m => by cases m) Z c1).1
end
end Eg

end
section
set_option maxHeartbeats 8000000
namespace Eg
open PySem PySem.Spec PyProof.Rows L2
/-! ### a law's end -/
/-- a def of the text, as the top has laid it -/
def DFact (K : PySem.W.Frag) (mg : Str → Option Value) (x : Str) (st : Stmt) (ps : List Str) : Prop := ∃ (a : Addr) (fd : FuncData), Fun K x x st a fd ∧ (∀ us : List Value, us.length = ps.length → bindArgs fd ⟨us, []⟩ = pure (ps.zip us)) ∧ mg x = some (.ref a)
def GFact (G : Gx) (mg : Str → Option Value) (x : Str) (d : D) : Prop := ∃ u v, mg x = some u ∧ RelV v u ∧ ∀ Fz H, RF G Fz H d v
section
variable {K : PySem.W.Frag} {h : Heap} {mg : Str → Option Value} {G : Gx}
theorem df_mk {x : Str} {st : Stmt} {ps : List Str} {f : Addr} {oc kV dc pm cd ct : Value} {od an : Option Addr} {sl : Array (Option Value)} (X : K.In h) (Gn : h.Ns mainGlobals mg) (a1 : PySem.W.nsIn K mainGlobals x = some (some (.ref f)))
    (l1 : K.lookup f = some ⟨oc, od, .func (PySem.W.fnOf x x (defArgs st) (defBody st) (defScope st) .none kV dc pm an cd ct), sl⟩) (c1 : PySem.W.codeIn K cd x = true) (k1 : PySem.W.keepIn K (.ref f) = true)
    (hb : ∀ (kV doc pm : Value) (an : Option Addr) (cdv ct : Value) (us : List Value), us.length = ps.length → bindArgs (PySem.W.fnOf x x (defArgs st) (defBody st) (defScope st) .none kV doc pm an cdv ct) ⟨us, []⟩ = pure (ps.zip us)) : DFact K mg x st ps := by
  have F := fun_mk (st := st) l1 c1 k1
  exact ⟨f, _, F, hb kV dc pm an cd ct, PySem.W.mg_of X Gn a1⟩
theorem gf_int {x : Str} {i : Int} {t : Tok} (X : K.In h) (Gn : h.Ns mainGlobals mg) (a1 : PySem.W.nsIn K mainGlobals x = some (some (.int i t))) : GFact G mg x (.int i) :=
  ⟨_, .int i, PySem.W.mg_of X Gn a1, ⟨t, rfl⟩, fun _ _ => rfl⟩
theorem gf_str {x : Str} {i : Str} {t : Tok} (X : K.In h) (Gn : h.Ns mainGlobals mg) (a1 : PySem.W.nsIn K mainGlobals x = some (some (.str i t))) : GFact G mg x (.str i) :=
  ⟨_, .str i, PySem.W.mg_of X Gn a1, ⟨t, rfl⟩, fun _ _ => rfl⟩
theorem mem_nil {α : Type} {Q : α → Prop} : ∀ f ∈ ([] : List α), Q f := fun _ z => nomatch z
theorem mem_cons {α : Type} {Q : α → Prop} {a : α} {l : List α} (q : Q a) (h : ∀ f ∈ l, Q f) : ∀ f ∈ a :: l, Q f := fun f z => (List.mem_cons.mp z).elim (fun e => e ▸ q) (h f)
end
/-- what stands in a law's text: the defs by their numbers -/
structure Tx where
  F : Nat → FD
  ids : List Nat
  names : Nat → Str
  N : Nat → List Str
  st : Nat → Stmt
  globs : List (Str × D)
  exs : List (Nat × Str)
  hot : List Nat
namespace Tx
variable (T : Tx)
def xq (x : Str) (k : Nat) : Bool := (T.exs.any fun p => decide (p.1 = k) && decide (p.2 = x)) || (decide (k = 100) && decide (x = "ValueError"))
def U : Fx := ⟨T.names, fun f => (T.F f).ty.take (T.F f).np, fun f => (T.F f).ret, fun f => (T.F f).io, fun f => T.ids.contains f && !T.hot.contains f, T.xq, fun f => T.ids.contains f && T.hot.contains f⟩
def GL (x : Str) (d : D) : Bool := T.globs.any fun p => decide (p.1 = x) && sameD p.2 d
def xn (c : Nat) : Str := (T.exs.lookup c).getD ""
def xd (c : Nat) : Bool := (T.exs.lookup c).isSome
def ps (f : Nat) : List Str := (T.N f).take (T.F f).np
/-- a scope's own conditions -/
def scOk (N ps : List Str) (sc : Scope) : Bool := decide (sc.kind = .function) && !sc.isCoroutine && !sc.isGenerator && decide N.Nodup && decide (N.take ps.length = ps) && ps.all (fun x => sto sc x) && sc.names.all (fun y => decide (y.2 ≠ .free))
def stat (f : Nat) : Bool := fdOk (T.hot.contains f) T.U T.GL T.xn T.xd f (T.F f) (T.st f) (T.N f) (T.ps f) && scOk (T.N f) (T.ps f) (defScope (T.st f))
end Tx
theorem scOk_by {N ps : List Str} {sc : Scope} (h : Tx.scOk N ps sc = true) : FnScope N ps sc := by
  simp only [Tx.scOk, Bool.and_eq_true, decide_eq_true_eq, Bool.not_eq_true', List.all_eq_true] at h
  obtain ⟨⟨⟨⟨⟨⟨h1, h2⟩, h3⟩, h4⟩, h5⟩, h6⟩, h7⟩ := h
  refine ⟨h1, h2, h3, h4, h5, fun x m => ?_, h7⟩
  have := h6 x m
  unfold sto at this
  split at this <;> first | (cases this; done) | skip
  · exact .inl ‹_›
  · exact .inr ‹_›
/-- the promise of the law -/
def spLaw (K : PySem.W.Frag) : Sp := fun vs H Q _ => ∃ (a : Addr) (ns : List Int), vs = [.ref a] ∧ SqL K H a (ns.map V.int) ∧ ns.length ≤ 63 ∧ ∀ H', Q (.bl true) H'
theorem mem_look {β : Type} : ∀ {l : List (Nat × β)} {c : Nat} {x : β}, l.lookup c = some x → (c, x) ∈ l
  | [], _, _, h => by simp at h
  | (k, v) :: r, c, x, h => by
    rw [List.lookup_cons] at h
    split at h
    · rename_i q
      have e : c = k := by simpa using q
      cases h
      rw [e]
      exact List.mem_cons_self
    · exact List.mem_cons_of_mem _ (mem_look h)
/-- what a law with a try asks of the classes of exceptions -/
def TryF (K : PySem.W.Frag) (xv : Nat → Value) (exs : List (Nat × Str)) : Prop := ∀ c, excOk c = true → ∃ D : Addr, xv c = .ref D ∧ ExcC K D ∧ PySem.W.exmOne K (.ref D) (xv 0) = some true ∧ PySem.W.kitOne K (.ref D) (.type "ValueError") = some true ∧ ∀ p ∈ exs, PySem.W.kitOne K (.ref D) (xv p.1) = some (subX c p.1)
def exB (K : PySem.W.Frag) (D : Addr) : Bool := decide (PySem.W.findIn K (.ref D) "__getattribute__" = some (some (.builtin "BaseException.__getattribute__"))) && decide (PySem.W.findIn K (.ref D) "__getattr__" = some none) && decide (PySem.W.subIn K (.ref D) (.type "BaseException") = some true) && PySem.W.hasDictIn K D &&
  decide (PySem.W.findIn K (.ref D) "__class__" = some (some (.builtin "object.__class__"))) && decide (PySem.W.specialIn K (.builtin "object.__class__") "__get__" = some (some (.builtin "getset_descriptor.__get__"))) && decide (PySem.W.takesIn K (.builtin "object.__class__") = some true) && decide (PySem.W.mroIn K D (.type "object") = some true)
theorem exB_of {K : PySem.W.Frag} {D : Addr} (h : exB K D = true) : ExcC K D := by
  simp only [exB, Bool.and_eq_true, decide_eq_true_eq] at h
  obtain ⟨⟨⟨⟨⟨⟨⟨h1, h2⟩, h3⟩, h4⟩, h5⟩, h6⟩, h7⟩, h8⟩ := h
  exact ⟨h1, h2, h3, h4, h5, h6, h7, h8⟩
/-- the classes' addresses by their numbers -/
def xvOf (xs : List (Nat × Addr)) (c : Nat) : Value := match xs.lookup c with
  | some C => .ref C
  | none => .none
def tryB (K : PySem.W.Frag) (xs : List (Nat × Addr)) : Bool := [1, 2, 3, 4, 5, 6, 7, 8].all fun c => match xs.lookup c with
  | some D => exB K D && decide (PySem.W.exmOne K (.ref D) (xvOf xs 0) = some true) && decide (PySem.W.kitOne K (.ref D) (.type "ValueError") = some true) && xs.all fun p => decide (PySem.W.kitOne K (.ref D) (xvOf xs p.1) = some (subX c p.1))
  | none => false
theorem tryF_of {K : PySem.W.Frag} {xs : List (Nat × Addr)} {exs : List (Nat × Str)} (h : tryB K xs = true) (he : exs.map (·.1) = xs.map (·.1)) : TryF K (xvOf xs) exs := by
  intro c hc
  have hm : c ∈ [1, 2, 3, 4, 5, 6, 7, 8] := by
    simp only [excOk, Bool.and_eq_true, Nat.ble_eq] at hc
    simp
    omega
  have h := List.all_eq_true.mp h c hm
  cases e : xs.lookup c with
  | none => rw [e] at h; cases h
  | some D =>
    rw [e] at h
    simp only [Bool.and_eq_true, decide_eq_true_eq, List.all_eq_true] at h
    obtain ⟨⟨⟨h1, h2⟩, h3⟩, h4⟩ := h
    refine ⟨D, by unfold xvOf; rw [e], exB_of h1, h2, h3, fun p hp => ?_⟩
    have : p.1 ∈ xs.map (·.1) := by rw [← he]; exact List.mem_map_of_mem hp
    obtain ⟨q, hq, e2⟩ := List.mem_map.mp this
    rw [← e2]
    exact h4 q hq
theorem xf_mk {K : PySem.W.Frag} {h : Heap} {mg : Str → Option Value} {x : Str} {C : Addr} {v : Value} (X : K.In h) (Gn : h.Ns mainGlobals mg) (a1 : PySem.W.nsIn K mainGlobals x = some (some (.ref C)))
    (xF : PySem.W.excIn K C [.type "ValueError", .type "Exception", .type "BaseException", .type "object"] "ValueError.__new__" = true) (kF : PySem.W.keepIn K (.ref C) = true) (bF : PySem.W.subIn K (.ref C) (.type "BaseException") = some true) (tF : PySem.W.typeIn K (.ref C) = some (.type "type")) (hv : v = .ref C) (hd : (x == ("__debug__" : Str)) = false) : XF K mg x v :=
  ⟨C, _, _, _, _, PySem.F.excBase_ValueError, xF, PySem.W.mg_of X Gn a1, kF, bF, tF, hv, hd⟩
theorem fin {T : Tx} {P : Program} {w : World} {K : PySem.W.Frag} {mg : Str → Option Value} {G : Gx} {wf k f : Nat} (hK : K = G.K) (hst : T.ids.all T.stat = true) (hf : (T.ids.contains f && !T.hot.contains f) = true) (hp : T.U.pt f = [.a]) (hblt : ∀ n ∈ bltNames, mg (Str.ofString n) = none)
    (hno : ∀ c v, ¬ G.XA c v) (hx : ∀ p ∈ T.exs, XF K mg p.2 (G.xv p.1)) (htry : T.xd 0 = true → TryF K G.xv T.exs) (hg : ∀ p ∈ T.globs, GFact G mg p.1 p.2) (hd : ∀ g ∈ T.ids, DFact K mg (T.names g) (T.st g) (T.ps g)) (hrun : ∀ ns : List Int, ns.length ≤ 63 → ∃ ps, run T.F wf k f [.fl (intsD ns)] = .ok (.bl true) ps) :
    ∃ (a : Addr) (fd : FuncData), mg (T.names f) = some (.ref a) ∧ (∀ us : List Value, us.length = (T.ps f).length → bindArgs fd ⟨us, []⟩ = pure ((T.ps f).zip us)) ∧ ∀ base : Heap, FnOk P w K mg base (L2N.CX P w) k a fd (T.ps f) (spLaw K) := by
  classical
  have hf0 : f ∈ T.ids := by
    simp only [Bool.and_eq_true] at hf
    simpa using hf.1
  have hd' : ∀ g, ∃ p : Addr × FuncData, g ∈ T.ids → Fun K (T.names g) (T.names g) (T.st g) p.1 p.2 ∧ (∀ us : List Value, us.length = (T.ps g).length → bindArgs p.2 ⟨us, []⟩ = pure ((T.ps g).zip us)) ∧ mg (T.names g) = some (.ref p.1) := fun g => by
    by_cases q : g ∈ T.ids
    · obtain ⟨a, fd, z⟩ := hd g q
      exact ⟨(a, fd), fun _ => z⟩
    · obtain ⟨a, fd, z⟩ := hd f hf0
      exact ⟨(a, fd), fun z => absurd z q⟩
  let c : Nat → Addr × FuncData := fun g => Classical.choose (hd' g)
  have hc : ∀ g, g ∈ T.ids → Fun K (T.names g) (T.names g) (T.st g) (c g).1 (c g).2 ∧ (∀ us : List Value, us.length = (T.ps g).length → bindArgs (c g).2 ⟨us, []⟩ = pure ((T.ps g).zip us)) ∧ mg (T.names g) = some (.ref (c g).1) := fun g => Classical.choose_spec (hd' g)
  let R : Nat → FR := fun g => ⟨T.names g, T.names g, T.st g, T.N g, T.ps g, (c g).1, (c g).2⟩
  have M : Mo P w K mg G T.U T.GL T.xn T.xd T.F R := by
    refine ⟨hK, hblt, fun x d h => ?_, fun c h => ?_, hno, fun h c hc => ?_, fun h => ?_, fun h x k hq => ?_, fun g h => ?_, fun g h => ?_⟩
    · obtain ⟨p, m, e⟩ := List.any_eq_true.mp h
      simp only [Bool.and_eq_true, decide_eq_true_eq] at e
      obtain ⟨e1, e2⟩ := e
      have := hg p m
      rw [e1, sameD_eq e2] at this
      exact this
    · unfold Tx.xd at h
      obtain ⟨x, e⟩ := Option.isSome_iff_exists.mp h
      have := hx (c, x) (mem_look e)
      unfold Tx.xn
      rw [e]
      exact this
    · obtain ⟨D0, q1, q2, _⟩ := htry h c hc
      exact ⟨D0, q1, q2⟩
    · have h' : (T.exs.lookup 0).isSome = true := h
      obtain ⟨x, e⟩ := Option.isSome_iff_exists.mp h'
      obtain ⟨C, bmB, B, newId, initId, e1, e2, e3, e4, e5, e6, e7, e8⟩ := hx (0, x) (mem_look e)
      have ex : T.xn 0 = x := by unfold Tx.xn; rw [e]; rfl
      rw [ex]
      refine ⟨G.xv 0, e8, by rw [e7]; exact e3, fun c hc => ?_⟩
      obtain ⟨D0, q1, _, q3, _⟩ := htry h c hc
      rw [q1]
      exact q3
    · simp only [Tx.U, Tx.xq, Bool.or_eq_true, Bool.and_eq_true, decide_eq_true_eq, List.any_eq_true] at hq
      rcases hq with ⟨⟨k', x'⟩, m, e1, e2⟩ | ⟨rfl, rfl⟩
      · simp only at e1 e2
        subst e1 e2
        obtain ⟨C, bmB, B, newId, initId, f1, f2, f3, f4, f5, f6, f7, f8⟩ := hx _ m
        refine ⟨.ref C, .ref C, (fun u r => by cases r; rfl), fun X hm hg p => pe_glob hg (by rw [hm]; exact f3) rfl f8, fun c hc D0 hD => ?_⟩
        obtain ⟨D1, q1, _, _, _, q5⟩ := htry h c hc
        rw [q1] at hD
        cases hD
        have := q5 _ m
        simp only at this f7
        rw [f7] at this
        exact this
      · refine ⟨.ty "ValueError", .type "ValueError", (fun u r => by cases r; rfl), fun X hm hg p => pe_bltn (u := .type "ValueError") hg (by rw [hm]; exact hblt "ValueError" (by decide)) (by decide +kernel) rfl (by decide +kernel) (by decide +kernel), fun c hc D0 hD => ?_⟩
        obtain ⟨D1, q1, _, _, q4, _⟩ := htry h c hc
        rw [q1] at hD
        cases hD
        rw [q4]
        simp [subX]
    · have h' : (T.ids.contains g && !T.hot.contains g) = true := h
      simp only [Bool.and_eq_true, Bool.not_eq_true'] at h'
      have hl : g ∈ T.ids := by simpa using h'.1
      obtain ⟨q1, q2, q3⟩ := hc g hl
      have := List.all_eq_true.mp hst g hl
      simp only [Tx.stat, Bool.and_eq_true] at this
      rw [h'.2] at this
      exact ⟨q1, scOk_by this.2, .all q2, q3, this.1⟩
    · have h' : (T.ids.contains g && T.hot.contains g) = true := h
      simp only [Bool.and_eq_true] at h'
      have hl : g ∈ T.ids := by simpa using h'.1
      obtain ⟨q1, q2, q3⟩ := hc g hl
      have := List.all_eq_true.mp hst g hl
      simp only [Tx.stat, Bool.and_eq_true] at this
      rw [h'.2] at this
      exact ⟨q1, scOk_by this.2, .all q2, q3, this.1⟩
  have hf' : f ∈ T.ids := by
    simp only [Bool.and_eq_true] at hf
    simpa using hf.1
  obtain ⟨q1, q2, q3⟩ := hc f hf'
  refine ⟨(c f).1, (c f).2, q3, q2, fun base => ?_⟩
  have ok := all_ok (base := base) (wf := wf) M k f hf
  refine ok.imp fun vs H Q E h => ?_
  obtain ⟨a, ns, rfl, hS, hl, q⟩ := h
  obtain ⟨ps, e⟩ := hrun ns hl
  rw [hp]
  refine ⟨fun b => b = a, [.fl (intsD ns)], [fun _ => False], ⟨⟨⟨a, ns.map V.int, rfl, ?_, RFs.intsD ns⟩, fun _ => id⟩, (fun z => by cases z), trivial⟩, fun i j b ⟨S, e1, z⟩ => ?_, fun i b ⟨S, e1, z⟩ => ?_, ?_⟩
  · rw [← hK]
    exact hS.imp (fun z => ⟨rfl, z⟩) id
  · cases i with
    | zero => cases e1; exact z.elim
    | succ i => simp at e1
  · cases i with
    | zero => cases e1; exact z.elim
    | succ i => simp at e1
  · rw [e]
    intro v H' Fz' own' S ro _ _ _ _ _ _
    rw [ro.bl.1]
    exact q H'
theorem no_exc {P : Program} {w : World} {H : Hp} {s : Shared} {e : Value} {s' : Shared} (h : L2N.CX P w [] H s (fun _ _ _ => False) e s') : False := by
  obtain ⟨_, _, _, _, _, _, _, _, _, _, _, _, z⟩ := h
  exact z
end Eg

end
section
namespace Eg
open PySem
/-! ### the evaluation, in general -/
theorem evComp_map {fc fe : List D → R} {ts : List Nat} {t : TN} {env : List D} {p : D → Bool} {g : D → D} : ∀ {ds : List D}, (∀ d ∈ ds, ∃ e1, asgN t [d] env = some e1 ∧ fc e1 = .ok [.bl (p d)] e1 ∧ (p d = true → fe e1 = .ok [g d] e1) ∧ wipeE ts e1 = env) → evComp fc fe ts t ds env = .ok ((ds.filter p).map g) env
  | [], _ => rfl
  | d :: ds, h => by
    obtain ⟨e1, h1, h2, h3, h4⟩ := h d List.mem_cons_self
    have ih := evComp_map (fc := fc) (fe := fe) (ds := ds) fun x hx => h x (List.mem_cons_of_mem _ hx)
    simp only [evComp, h1, h2]
    cases hp : p d with
    | true => simp only [h3 hp, h4, ih, List.filter_cons, hp, if_true, List.map_cons]
    | false => simp only [h4, ih, List.filter_cons, hp, Bool.false_eq_true, if_false]
theorem evComp_all {fc fe : List D → R} {ts : List Nat} {t : TN} {env : List D} {g : D → D} {ds : List D} (h : ∀ d ∈ ds, ∃ e1, asgN t [d] env = some e1 ∧ fc e1 = .ok [.bl true] e1 ∧ fe e1 = .ok [g d] e1 ∧ wipeE ts e1 = env) : evComp fc fe ts t ds env = .ok (ds.map g) env := by
  have := evComp_map (p := fun _ => true) (g := g) (fc := fc) (fe := fe) (ts := ts) (t := t) (env := env) (ds := ds) fun d hd => by
    obtain ⟨e1, h1, h2, h3, h4⟩ := h d hd
    exact ⟨e1, h1, h2, fun _ => h3, h4⟩
  rw [this, List.filter_eq_self.mpr (by simp)]
/-- a for that goes on to its end: I holds ahead of each turn -/
theorem evFor_inv {fg : D → List D → Option (List D)} {fs : List D → Out} (I : Nat → List D → Prop) : ∀ {ds : List D} {n : Nat} {env : List D}, I n env → (∀ i d e, ds[i]? = some d → I (n + i) e → ∃ e1 e2, fg d e = some e1 ∧ (fs e1 = .nx e2 ∨ fs e1 = .ct e2) ∧ I (n + i + 1) e2) → ∃ e, evFor fg fs ds env = .nx e ∧ I (n + ds.length) e
  | [], n, env, h0, _ => ⟨env, rfl, h0⟩
  | d :: ds, n, env, h0, h => by
    obtain ⟨e1, e2, h1, h2, h3⟩ := h 0 d env rfl h0
    obtain ⟨e, h4, h5⟩ := evFor_inv (fg := fg) (fs := fs) I (ds := ds) (n := n + 1) h3 fun i d' e' hd he => by
      have := h (i + 1) d' e' (by simpa using hd) (by rwa [show n + (i + 1) = n + 1 + i by omega])
      rwa [show n + (i + 1) + 1 = n + 1 + i + 1 by omega] at this
    refine ⟨e, ?_, by rw [List.length_cons, show n + (ds.length + 1) = n + 1 + ds.length by omega]; exact h5⟩
    rcases h2 with h2 | h2 <;> simp only [evFor, h1, h2, h4]
/-- .. or comes back with a value in between: Q -/
theorem evFor_ret {fg : D → List D → Option (List D)} {fs : List D → Out} (I : Nat → List D → Prop) (Q : Out → Prop) : ∀ {ds : List D} {n : Nat} {env : List D}, I n env →
    (∀ i d e, ds[i]? = some d → I (n + i) e → ∃ e1, fg d e = some e1 ∧ ((∃ e2, (fs e1 = .nx e2 ∨ fs e1 = .ct e2) ∧ I (n + i + 1) e2) ∨ (∃ v e2, fs e1 = .ret v e2 ∧ Q (.ret v e2)))) → (∀ e, I (n + ds.length) e → Q (.nx e)) → Q (evFor fg fs ds env)
  | [], n, env, h0, _, hq => hq env h0
  | d :: ds, n, env, h0, h, hq => by
    obtain ⟨e1, h1, h2⟩ := h 0 d env rfl h0
    rcases h2 with ⟨e2, h2, h3⟩ | ⟨v, e2, h2, h3⟩
    · have := evFor_ret (fg := fg) (fs := fs) I Q (ds := ds) (n := n + 1) h3 (fun i d' e' hd he => by
        have := h (i + 1) d' e' (by simpa using hd) (by rwa [show n + (i + 1) = n + 1 + i by omega])
        rwa [show n + (i + 1) + 1 = n + 1 + i + 1 by omega] at this) fun e he => hq e (by rw [List.length_cons, show n + (ds.length + 1) = n + 1 + ds.length by omega]; exact he)
      rcases h2 with h2 | h2 <;> simpa only [evFor, h1, h2] using this
    · simpa only [evFor, h1, h2] using h3
/-- a while, by a measure -/
theorem evWhile_inv {fb : List D → R} {fs : List D → Out} (I : Nat → List D → Prop) (Q : List D → Prop) : ∀ (m n : Nat) {env : List D}, m < n → I m env → (∀ m e, I m e → (∃ e1, fb e = .ok [.bl false] e1 ∧ Q e1) ∨ ∃ m' e1 e2, m = m' + 1 ∧ fb e = .ok [.bl true] e1 ∧ (fs e1 = .nx e2 ∨ fs e1 = .ct e2) ∧ I m' e2) → ∃ e, evWhile fb fs n env = .nx e ∧ Q e
  | m, 0, env, h, _, _ => absurd h (Nat.not_lt_zero _)
  | m, n + 1, env, hlt, h0, h => by
    rcases h m env h0 with ⟨e1, h1, hq⟩ | ⟨m', e1, e2, hm, h1, h2, h3⟩
    · exact ⟨e1, by simp only [evWhile, h1], hq⟩
    · obtain ⟨e, h4, h5⟩ := evWhile_inv (fb := fb) (fs := fs) I Q m' n (by omega) h3 h
      refine ⟨e, ?_, h5⟩
      rcases h2 with h2 | h2 <;> simp only [evWhile, h1, h2, h4]
theorem at_nat {α : Type} {xs : List α} {k : Nat} : L2.atI xs (k : Int) = xs[k]? := by
  unfold L2.atI L2.ixN
  rw [if_pos (by omega)]
  split
  · simp
  · rw [List.getElem?_eq_none (by omega)]; rfl
theorem at_0 {α : Type} {x : α} {r : List α} : L2.atI (x :: r) 0 = some x := at_nat (k := 0)
theorem at_1 {α : Type} {x y : α} {r : List α} : L2.atI (x :: y :: r) 1 = some y := at_nat (k := 1)
theorem at_2 {α : Type} {x y z : α} {r : List α} : L2.atI (x :: y :: z :: r) 2 = some z := at_nat (k := 2)
theorem ix_nat {n k : Nat} (h : k < n) : L2.ixN n (k : Int) = some k := by
  unfold L2.ixN
  rw [if_pos (by omega), if_pos (by omega)]
  simp
theorem ix_0 {n : Nat} : L2.ixN (n + 1) 0 = some 0 := ix_nat (k := 0) (by omega)
theorem ix_1 {n : Nat} : L2.ixN (n + 2) 1 = some 1 := ix_nat (k := 1) (by omega)
end Eg

end
section
namespace Eg
open PySem
section
variable {fc : Nat → List D → CR} {wf : Nat} {env e1 e2 e3 : List D} {d d1 d2 : D} {xs ys ps : List D} {a b c : E} {o : Out} {r : R}
theorem b_var {i : Nat} (h : env.getD i .unset = d) (hd : isU d = false) : ev fc (.var i) env = .ok [d] env := by
  simp only [ev]; rw [h]; cases d <;> first | rfl | cases hd
theorem b_con : ev fc (.con d) env = .ok [d] env := id rfl
theorem b_glob {x : Str} : ev fc (.glob x d) env = .ok [d] env := id rfl
theorem b_nil : ev fc .nil env = .ok [] env := id rfl
theorem b_cons (h1 : ev fc a env = .ok [d] e1) (h2 : ev fc b e1 = .ok ys e2) : ev fc (.cons a b) env = .ok (d :: ys) e2 := by
  simp only [ev, R.bind, h1, h2]
theorem b_tup (h1 : ev fc a env = .ok xs e1) : ev fc (.tup a) env = .ok [.tup xs] e1 := by simp only [ev, R.bind, h1]
theorem b_lst (h1 : ev fc a env = .ok xs e1) : ev fc (.lst a) env = .ok [.lst xs] e1 := by simp only [ev, R.bind, h1]
theorem b_bi {p : BI} (h1 : ev fc a env = .ok xs e1) (h2 : bop p xs = some d) : ev fc (.bi p a) env = .ok [d] e1 := by simp only [ev, R.bind, h1, h2]
theorem b_and {p : Bool} (h1 : ev fc a env = .ok [.bl p] e1) (h2 : (if p = true then ev fc b e1 else .ok [.bl false] e1) = r) : ev fc (.and a b) env = r := by
  simp only [ev, R.bind, h1]; cases p <;> exact h2
theorem b_or {p : Bool} (h1 : ev fc a env = .ok [.bl p] e1) (h2 : (if p = true then .ok [.bl true] e1 else ev fc b e1) = r) : ev fc (.or a b) env = r := by
  simp only [ev, R.bind, h1]; cases p <;> exact h2
theorem b_not {p : Bool} (h1 : ev fc a env = .ok [.bl p] e1) : ev fc (.not a) env = .ok [.bl (!p)] e1 := by simp only [ev, R.bind, h1]
theorem b_ite {p : Bool} (h1 : ev fc c env = .ok [.bl p] e1) (h2 : (if p = true then ev fc a e1 else ev fc b e1) = r) : ev fc (.ite c a b) env = r := by
  simp only [ev, R.bind, h1]; cases p <;> exact h2
theorem b_io {i : Nat} (h : isU (env.getD i .unset) = false) : ev fc (.io i) env = .ok [.unset] env := by
  simp only [ev]; revert h; cases env.getD i .unset <;> intro h <;> first | rfl | cases h
theorem b_bw {i : Nat} (h : isU (env.getD i .unset) = false) : ev fc (.bw i) env = .ok [.unset] env := by
  simp only [ev]; revert h; cases env.getD i .unset <;> intro h <;> first | rfl | cases h
theorem b_mv {i : Nat} (h : env.getD i .unset = d) (hd : isU d = false) : ev fc (.mv i) env = .ok [d] (env.set i .unset) := by
  simp only [ev]; rw [h]; cases d <;> first | rfl | cases hd
theorem b_call {f : Nat} {k : Bool} (h1 : ev fc a env = .ok xs e1) (hs : (setAll (ioS a) e1 && setAll (bwS a) e1) = true) (h2 : fc f (fillA a xs e1) = .ok d ps) (h3 : ((bwS a).isEmpty || (okRes k d && ps.all (okRes true))) = true) : ev fc (.call f k a) env = .ok [d] (setMany e1 (ioS a) ps) := by
  simp only [ev, R.bind, h1, hs, Bool.not_true, Bool.false_eq_true, if_false, h2, h3, if_true]
theorem x_skip : ex fc wf .skip env = .nx env := id rfl
theorem x_seq {s t : S} (h1 : ex fc wf s env = .nx e1) (h2 : ex fc wf t e1 = o) : ex fc wf (.seq s t) env = o := by simp only [ex, h1, h2]
theorem x_seqR {s t : S} (h1 : ex fc wf s env = .ret d e1) : ex fc wf (.seq s t) env = .ret d e1 := by simp only [ex, h1]
theorem x_ret (h1 : ev fc a env = .ok [d] e1) : ex fc wf (.ret a) env = .ret d e1 := by simp only [ex, R.out, h1]
theorem x_set {i : Nat} (h1 : ev fc a env = .ok [d] e1) : ex fc wf (.set i a) env = .nx (e1.set i d) := by simp only [ex, R.out, h1]
theorem x_exp (h1 : ev fc a env = .ok [d] e1) : ex fc wf (.exp a) env = .nx e1 := by simp only [ex, R.out, h1]
theorem x_ifs {s t : S} {p : Bool} (h1 : ev fc c env = .ok [.bl p] e1) (h2 : (if p = true then ex fc wf s e1 else ex fc wf t e1) = o) : ex fc wf (.ifs c s t) env = o := by
  simp only [ex, R.out, h1]; cases p <;> exact h2
theorem x_sub {i j : Nat} {k : E} {z : Int} (h1 : ev fc a env = .ok [d] e1) (hu : isU (e1.getD i .unset) = false) (h2 : ev fc k e1 = .ok [.int z] e2) (h3 : e2.getD i .unset = .lst xs) (h4 : L2.ixN xs.length z = some j) : ex fc wf (.sub i k a) env = .nx (e2.set i (.lst (xs.set j d))) := by
  simp only [ex, R.out, h1, hu, Bool.false_eq_true, if_false, h2, h3, h4]
theorem x_app {i : Nat} {zs : List D} (h0 : env.getD i .unset = .lst zs) (h1 : ev fc a env = .ok [d] e1) (h2 : e1.getD i .unset = .lst xs) (h3 : xs.length < 16777216) : ex fc wf (.app i a) env = .nx (e1.set i (.lst (xs ++ [d]))) := by
  simp only [ex, R.out, h0, h1, h2, h3, if_true]
theorem x_ext {i : Nat} {zs : List D} (h0 : env.getD i .unset = .lst zs) (h1 : ev fc a env = .ok [.lst ys] e1) (h2 : e1.getD i .unset = .lst xs) (h3 : xs.length + ys.length < 16777216) : ex fc wf (.ext i a) env = .nx (e1.set i (.lst (xs ++ ys))) := by
  simp only [ex, R.out, h0, h1, h2, h3, if_true]
theorem x_for {t : TN} {s : S} {ds : List D} (h1 : ev fc a env = .ok [d] e1) (h2 : items d = some ds) (h3 : evFor (fun d => asgN t [d]) (ex fc wf s) ds e1 = o) : ex fc wf (.for_ t a s) env = o := by
  simp only [ex, R.out, h1, h2, h3]
theorem x_whl {s : S} (h : evWhile (ev fc c) (ex fc wf s) wf env = o) : ex fc wf (.whl c s) env = o := by simp only [ex, h]
theorem x_unp {t : T} (h1 : ev fc a env = .ok [d] e1) (h2 : asg fc t [d] e1 = some e2) : ex fc wf (.unp t a) env = .nx e2 := by simp only [ex, R.out, h1, h2, optO]
theorem x_rais {k : Nat} : ex fc wf (.rais k) env = .exc k env := id rfl
theorem x_seqX {s t : S} {k : Nat} (h1 : ex fc wf s env = .exc k e1) : ex fc wf (.seq s t) env = .exc k e1 := by simp only [ex, h1]
theorem x_expX {k : Nat} (h1 : ev fc a env = .exc k e1) : ex fc wf (.exp a) env = .exc k e1 := by simp only [ex, R.out, h1]
theorem x_aug {i : Nat} {x y : Int} (h0 : env.getD i .unset = .int x) (h1 : ev fc a env = .ok [.int y] e1) : ex fc wf (.aug i .add a) env = .nx (e1.set i (.int (x + y))) := by simp only [ex, R.out, h0, h1]
theorem b_comp {ts : List Nat} {t : TN} {ds : List D} (h1 : ev fc a env = .ok [d] e1) (h2 : items d = some ds) (h3 : ds.length ≤ 16777216) (h4 : evComp (ev fc c) (ev fc b) ts t ds (wipeE ts e1) = .ok ys e2) : ev fc (.comp ts t a c b) env = .ok [.lst ys] (setMany e2 ts (ts.map fun i => e1.getD i .unset)) := by
  have : le ds.length maxLen = true := decide_eq_true h3
  simp only [ev, R.bind, h1, h2, this, if_true, h4]
theorem b_sl3 {x y z : E} {i j : Int} (h1 : ev fc x env = .ok [d1] e1) (h2 : ev fc y e1 = .ok [.int i] e2) (h3 : ev fc z e2 = .ok [.int j] e3) (h4 : cut2 d1 (some i) (some j) = some d) : ev fc (.sl3 x y z) env = .ok [d] e3 := by
  simp only [ev, R.bind, h1, h2, h3, h4]
theorem b_chn {p q : BI} {x y z : E} {k l : Bool} {d3 : D} (h1 : ev fc x env = .ok [d1] e1) (h2 : ev fc y e1 = .ok [d2] e2) (h3 : F2 p d1 d2 = some (.bl k)) (h4 : ev fc z e2 = .ok [d3] e2) (h5 : F2 q d2 d3 = some (.bl l)) : ev fc (.chn p q x y z) env = .ok [.bl (k && l)] e2 := by
  cases k
  · simp only [ev, R.bind, h1, h2, h3, Bool.false_and]
  · simp only [ev, R.bind, h1, h2, h3, h4, h5, Bool.true_and]
theorem r_run {F : Nat → FD} {n f : Nat} {g : FD} {ds : List D} (hF : F f = g) (h : ex (Eg.run F wf n) wf g.body (ds ++ List.replicate (g.ns - g.np) .unset) = .ret d env) (hs : setAll g.io env = true) (hp : (g.io.map fun i => env.getD i .unset) = ps) : Eg.run F wf (n + 1) f ds = .ok d ps := by
  subst hF hp
  simp only [Eg.run, h, hs, if_true]
theorem r_nx {F : Nat → FD} {n f : Nat} {g : FD} {ds : List D} (hF : F f = g) (h : ex (Eg.run F wf n) wf g.body (ds ++ List.replicate (g.ns - g.np) .unset) = .nx env) (hs : setAll g.io env = true) (hp : (g.io.map fun i => env.getD i .unset) = ps) : Eg.run F wf (n + 1) f ds = .ok .non ps := by
  subst hF hp
  simp only [Eg.run, h, hs, if_true]
theorem r_exc {F : Nat → FD} {n f k : Nat} {g : FD} {ds : List D} (hF : F f = g) (h : ex (Eg.run F wf n) wf g.body (ds ++ List.replicate (g.ns - g.np) .unset) = .exc k env) (hs : setAll g.io env = true) (hp : (g.io.map fun i => env.getD i .unset) = ps) : Eg.run F wf (n + 1) f ds = .exc k ps := by
  subst hF hp
  simp only [Eg.run, h, hs, if_true]
theorem mul_l {i j : Int} (h : small i = true) : bop .mul [.int i, .int j] = some (.int (i * j)) := by
  simp only [bop, F2, fMul, h, Bool.true_or, if_true]
theorem mul_r {i j : Int} (h : small j = true) : bop .mul [.int i, .int j] = some (.int (i * j)) := by
  simp only [bop, F2, fMul, h, Bool.or_true, if_true]
theorem small_of {i : Int} (h0 : -18446744073709551616 < i) (h1 : i < 18446744073709551616) : small i = true := by
  simp only [small, Bool.and_eq_true, decide_eq_true_eq]
  exact ⟨h0, h1⟩
theorem add_ii {i j : Int} : bop .add [.int i, .int j] = some (.int (i + j)) := id rfl
theorem sub_ii {i j : Int} : bop .sub [.int i, .int j] = some (.int (i - j)) := id rfl
theorem mod_ii {i j : Int} (h : 0 < j) : bop .mod [.int i, .int j] = some (.int (i % j)) := if_pos h
theorem fdiv_ii {i j : Int} (h : 0 < j) (h2 : j < 18446744073709551616) : bop .fdiv [.int i, .int j] = some (.int (i / j)) := if_pos ⟨h, h2⟩
theorem lt_ii {i j : Int} : bop .lt [.int i, .int j] = some (.bl (decide (i < j))) := id rfl
theorem le_ii {i j : Int} : bop .le [.int i, .int j] = some (.bl (decide (i ≤ j))) := id rfl
theorem gt_ii {i j : Int} : bop .gt [.int i, .int j] = some (.bl (decide (j < i))) := id rfl
theorem ge_ii {i j : Int} : bop .ge [.int i, .int j] = some (.bl (decide (j ≤ i))) := id rfl
theorem pow_ii {i j : Int} {k : Nat} (hk : j.toNat = k) (h0 : 0 ≤ j) (h1 : j ≤ 1000) (h2 : small i = true) : bop .pow [.int i, .int j] = some (.int (i ^ k)) := by
  subst hk; exact if_pos ⟨h0, h1, h2⟩
theorem len_l {xs : List D} : bop .len [.lst xs] = some (.int xs.length) := id rfl
theorem len_f {xs : List D} : bop .len [.fl xs] = some (.int xs.length) := id rfl
theorem len_t {xs : List D} : bop .len [.tup xs] = some (.int xs.length) := id rfl
theorem abs_i {i : Int} : bop .abs [.int i] = some (.int (if i < 0 then -i else i)) := id rfl
theorem int_b {b : Bool} : bop .intC [.bl b] = some (.int (if b then 1 else 0)) := id rfl
theorem idx_l {xs : List D} {k : Nat} {d : D} (h : xs[k]? = some d) : bop .idx [.lst xs, .int (k : Int)] = some d := at_nat.trans h
theorem idx_t {xs : List D} {k : Nat} {d : D} (h : xs[k]? = some d) : bop .idx [.tup xs, .int (k : Int)] = some d := at_nat.trans h
theorem idx_f {xs : List D} {k : Nat} {d : D} (h : xs[k]? = some d) : bop .idx [.fl xs, .int (k : Int)] = some d := at_nat.trans h
theorem cut_take {xs : List D} {k : Nat} : cutD xs none (some (k : Int)) = xs.take k := by
  unfold cutD
  rw [HT.sIx_nat, HT.sIx_none, Nat.sub_zero, List.drop_zero, ← List.take_eq_take_min]
theorem cut_drop {xs : List D} {k : Nat} : cutD xs (some (k : Int)) none = xs.drop k := by
  unfold cutD
  rw [HT.sIx_nat, HT.sIx_none]
  rw [List.take_of_length_le (by rw [List.length_drop]; exact Nat.le_refl _)]
  by_cases h : k ≤ xs.length
  · rw [Nat.min_eq_left h]
  · rw [Nat.min_eq_right (by omega), List.drop_length, List.drop_eq_nil_of_le (by omega)]
theorem slU_l {xs : List D} {k : Nat} : bop .slU [.lst xs, .int (k : Int)] = some (.lst (xs.take k)) := by
  rw [← cut_take]; rfl
theorem slL_l {xs : List D} {k : Nat} : bop .slL [.lst xs, .int (k : Int)] = some (.lst (xs.drop k)) := by
  rw [← cut_drop]; rfl
theorem slU_t {xs : List D} {k : Nat} : bop .slU [.tup xs, .int (k : Int)] = some (.tup (xs.take k)) := by
  rw [← cut_take]; rfl
theorem slL_t {xs : List D} {k : Nat} : bop .slL [.tup xs, .int (k : Int)] = some (.tup (xs.drop k)) := by
  rw [← cut_drop]; rfl
theorem add_ll {xs ys : List D} (h : xs.length + ys.length ≤ maxLen) : bop .add [.lst xs, .lst ys] = some (.lst (xs ++ ys)) := if_pos h
theorem add_tt {xs ys : List D} (h : xs.length + ys.length ≤ maxLen) : bop .add [.tup xs, .tup ys] = some (.tup (xs ++ ys)) := if_pos h
theorem inLim_of {i : Int} (h1 : -4611686018427387904 ≤ i) (h2 : i < 4611686018427387904) : inLim i = true := by
  unfold inLim lim
  rw [Bool.and_eq_true]
  exact ⟨decide_eq_true h1, decide_eq_true h2⟩
theorem lrng2_ii {i j : Int} (h1 : inLim i = true) (h2 : inLim j = true) (h3 : j - i ≤ 16777216) : bop .lrng2 [.int i, .int j] = some (.lst (intsD (upFrom i (j - i).toNat))) := by
  have c : (inLim i && inLim j && decide (j - i ≤ 16777216)) = true := by rw [h1, h2, decide_eq_true h3]; rfl
  unfold bop F2 fInt2
  exact if_pos c
end
end Eg

end
section
namespace Eg
open PySem
/-! ### the evaluation as a machine: what is left to do stands as plain data, so that simp walks a def's body from its head -/
inductive KS where
  | done
  | seq (t : S) (k : KS)
  | loop (t : TN) (b : S) (ds : List D) (k : KS)
inductive KE where
  | top
  | consR (b : E) (k : KE)
  | consD (d : D) (k : KE)
  | tup (k : KE) | lst (k : KE) | bi (o : BI) (k : KE) | and (b : E) (k : KE) | or (b : E) (k : KE) | not (k : KE) | ite (a b : E) (k : KE)
  | call (f : Nat) (o : Bool) (a : E) (k : KE)
  | sl1 (y z : E) (k : KE) | sl2 (d : D) (z : E) (k : KE) | sl3 (d : D) (i : Int) (k : KE)
  | ch1 (o p : BI) (y z : E) (k : KE) | ch2 (o p : BI) (d : D) (z : E) (k : KE) | ch3 (p : BI) (d : D) (k : KE)
  | comp (ts : List Nat) (t : TN) (c el : E) (k : KE)
  | pop (i : Nat) (k : KE)
  | gtL (i : Nat) (k : KE)
  | l1 (k : KE) | ad1 (b : E) (k : KE) | ad2 (d : D) (k : KE)
  | cF1 (f : Nat) (a : E) (k : KE) | cF2 (f : Nat) (d : D) (k : KE)
  | c31 (o p q : BI) (y z w : E) (k : KE) | c32 (o p q : BI) (d : D) (z w : E) (k : KE) | c33 (p q : BI) (d : D) (w : E) (k : KE) | c34 (q : BI) (d : D) (k : KE)
  | ret (k : KS) | set (i : Nat) (k : KS) | sub1 (i : Nat) (e : E) (k : KS) | sub2 (i : Nat) (d : D) (k : KS) | unp (t : T) (k : KS)
  | aug (i : Nat) (o : BI) (j : Int) (k : KS) | augs1 (i : Nat) (o : BI) (e : E) (k : KS) | augs2 (i : Nat) (o : BI) (j a : Int) (k : KS)
  | app (i : Nat) (k : KS) | ext (i : Nat) (k : KS) | exp (k : KS) | ifs (a b : S) (k : KS) | for_ (t : TN) (b : S) (k : KS)
  | par1 (i j : Nat) (b : E) (k : KS) | par2 (i j : Nat) (d : D) (k : KS) | at1 (i : Nat) (e : E) (k : KS) | at2 (i n : Nat) (k : KS)
section
variable (fc : Nat → List D → CR) (wf : Nat)
def apS : KS → Out → Out
  | .done, o => o
  | .seq t k, o => apS k (match o with | .nx e => ex fc wf t e | r => r)
  | .loop t b ds k, o => apS k (match o with
    | .nx e => evFor (fun d => asgN t [d]) (ex fc wf b) ds e
    | .ct e => evFor (fun d => asgN t [d]) (ex fc wf b) ds e
    | .bk e => .nx e
    | r => r)
def apE : KE → R → Out
  | .top, r => match r with | .ok d e => .ret (.tup d) e | .exc c e => .exc c e | .no => .no
  | .consR b k, r => apE k (r.bind fun x e1 => match x with | [d] => (ev fc b e1).bind fun y e2 => .ok (d :: y) e2 | _ => .no)
  | .consD d k, r => apE k (r.bind fun y e2 => .ok (d :: y) e2)
  | .tup k, r => apE k (r.bind fun x e => .ok [.tup x] e)
  | .lst k, r => apE k (r.bind fun x e => .ok [.lst x] e)
  | .bi o k, r => apE k (r.bind fun x e => match bop o x with | some d => .ok [d] e | none => .no)
  | .and b k, r => apE k (r.bind fun x e => match x with | [.bl true] => ev fc b e | [.bl false] => .ok [.bl false] e | _ => .no)
  | .or b k, r => apE k (r.bind fun x e => match x with | [.bl false] => ev fc b e | [.bl true] => .ok [.bl true] e | _ => .no)
  | .not k, r => apE k (r.bind fun x e => match x with | [.bl c] => .ok [.bl (!c)] e | _ => .no)
  | .ite a b k, r => apE k (r.bind fun x e => match x with | [.bl true] => ev fc a e | [.bl false] => ev fc b e | _ => .no)
  | .call f o a k, r => apE k (r.bind fun x e => if !(setAll (ioS a) e && setAll (bwS a) e) then .no else match fc f (fillA a x e) with
    | .ok d ps => if (bwS a).isEmpty || (okRes o d && ps.all (okRes true)) then .ok [d] (setMany e (ioS a) ps) else .no
    | .exc c ps => if (bwS a).isEmpty || ps.all (okRes true) then .exc c (setMany e (ioS a) ps) else .no
    | .no => .no)
  | .sl1 y z k, r => apE k (r.bind fun a e => match a with
    | [d] => (ev fc y e).bind fun b e1 => match b with
      | [.int i] => (ev fc z e1).bind fun c e2 => match c with
        | [.int j] => match cut2 d (some i) (some j) with
          | some r => .ok [r] e2
          | none => .no
        | _ => .no
      | _ => .no
    | _ => .no)
  | .sl2 d z k, r => apE k (r.bind fun b e1 => match b with
      | [.int i] => (ev fc z e1).bind fun c e2 => match c with
        | [.int j] => match cut2 d (some i) (some j) with
          | some r => .ok [r] e2
          | none => .no
        | _ => .no
      | _ => .no)
  | .sl3 d i k, r => apE k (r.bind fun c e2 => match c with
        | [.int j] => match cut2 d (some i) (some j) with
          | some r => .ok [r] e2
          | none => .no
        | _ => .no)
  | .ch1 o p y z k, r => apE k (r.bind fun a e => match a with
    | [d1] => (ev fc y e).bind fun b e1 => match b with
      | [d2] => match F2 o d1 d2 with
        | some (.bl true) => (ev fc z e1).bind fun c e2 => match c with
          | [d3] => match F2 p d2 d3 with
            | some (.bl k) => .ok [.bl k] e2
            | _ => .no
          | _ => .no
        | some (.bl false) => .ok [.bl false] e1
        | _ => .no
      | _ => .no
    | _ => .no)
  | .ch2 o p d1 z k, r => apE k (r.bind fun b e1 => match b with
      | [d2] => match F2 o d1 d2 with
        | some (.bl true) => (ev fc z e1).bind fun c e2 => match c with
          | [d3] => match F2 p d2 d3 with
            | some (.bl k) => .ok [.bl k] e2
            | _ => .no
          | _ => .no
        | some (.bl false) => .ok [.bl false] e1
        | _ => .no
      | _ => .no)
  | .ch3 p d2 k, r => apE k (r.bind fun c e2 => match c with
          | [d3] => match F2 p d2 d3 with
            | some (.bl k) => .ok [.bl k] e2
            | _ => .no
          | _ => .no)
  | .comp ts t c el k, r => apE k (r.bind fun x e => match x with
    | [d] => match items d with
      | some ds => if le ds.length maxLen then match evComp (ev fc c) (ev fc el) ts t ds (wipeE ts e) with
        | .ok ys e2 => .ok [.lst ys] (setMany e2 ts (ts.map fun i => e.getD i .unset))
        | _ => .no else .no
      | none => .no
    | _ => .no)
  | .c31 o p q y z w k, r => apE k (r.bind fun a e => match a with
    | [d1] => (ev fc y e).bind fun b e1 => match b with
      | [d2] => match F2 o d1 d2 with
        | some (.bl true) => (ev fc z e1).bind fun c e2 => match c with
          | [d3] => match F2 p d2 d3 with
            | some (.bl true) => (ev fc w e2).bind fun c2 e3 => match c2 with
              | [d4] => match F2 q d3 d4 with
                | some (.bl k) => .ok [.bl k] e3
                | _ => .no
              | _ => .no
            | some (.bl false) => .ok [.bl false] e2
            | _ => .no
          | _ => .no
        | some (.bl false) => .ok [.bl false] e1
        | _ => .no
      | _ => .no
    | _ => .no)
  | .c32 o p q d1 z w k, r => apE k (r.bind fun b e1 => match b with
      | [d2] => match F2 o d1 d2 with
        | some (.bl true) => (ev fc z e1).bind fun c e2 => match c with
          | [d3] => match F2 p d2 d3 with
            | some (.bl true) => (ev fc w e2).bind fun c2 e3 => match c2 with
              | [d4] => match F2 q d3 d4 with
                | some (.bl k) => .ok [.bl k] e3
                | _ => .no
              | _ => .no
            | some (.bl false) => .ok [.bl false] e2
            | _ => .no
          | _ => .no
        | some (.bl false) => .ok [.bl false] e1
        | _ => .no
      | _ => .no)
  | .c33 p q d2 w k, r => apE k (r.bind fun c e2 => match c with
          | [d3] => match F2 p d2 d3 with
            | some (.bl true) => (ev fc w e2).bind fun c2 e3 => match c2 with
              | [d4] => match F2 q d3 d4 with
                | some (.bl k) => .ok [.bl k] e3
                | _ => .no
              | _ => .no
            | some (.bl false) => .ok [.bl false] e2
            | _ => .no
          | _ => .no)
  | .c34 q d3 k, r => apE k (r.bind fun c2 e3 => match c2 with
              | [d4] => match F2 q d3 d4 with
                | some (.bl k) => .ok [.bl k] e3
                | _ => .no
              | _ => .no)
  | .cF1 f a k, r => apE k (r.bind fun x e => match x with
    | [d] => (ev fc a e).bind fun ds e1 => match fc f (d :: ds) with
      | .ok r _ => .ok [r] e1
      | .exc c _ => .exc c e1
      | .no => .no
    | _ => .no)
  | .cF2 f d k, r => apE k (r.bind fun ds e1 => match fc f (d :: ds) with
      | .ok r _ => .ok [r] e1
      | .exc c _ => .exc c e1
      | .no => .no)
  | .l1 k, r => apE k (r.bind fun x e => match x with
    | [d] => .ok [.lst [d]] e
    | _ => .no)
  | .ad1 b k, r => apE k (r.bind fun x e => match x with
    | [d] => (ev fc b e).bind fun y e1 => match y with
      | [d2] => match addF d d2 with
        | some r => .ok [r] e1
        | none => .no
      | _ => .no
    | _ => .no)
  | .ad2 d k, r => apE k (r.bind fun y e1 => match y with
      | [d2] => match addF d d2 with
        | some r => .ok [r] e1
        | none => .no
      | _ => .no)
  | .gtL i k, r => apE k (r.bind fun x e => match x with
    | [d] => match gtF (e.getD i .unset) d with
      | some b => .ok [b] e
      | none => .no
    | _ => .no)
  | .pop i k, r => apE k (r.bind fun x e => match x, e.getD i .unset with
      | [.int j], .lst xs => match L2.ixN xs.length j with
        | some n => if inLim j then .ok [xs.getD n .unset] (e.set i (.lst (xs.eraseIdx n))) else .no
        | none => .no
      | _, _ => .no)
  | .ret k, r => apS fc wf k (r.out fun x e1 => match x with | [d] => .ret d e1 | _ => .no)
  | .set i k, r => apS fc wf k (r.out fun x e1 => match x with | [d] => .nx (e1.set i d) | _ => .no)
  | .sub1 i q k, r => apS fc wf k (r.out fun x e1 => match x with
    | [d] => if isU (e1.getD i .unset) then .no else (ev fc q e1).out fun y e2 => match y, e2.getD i .unset with
      | [.int j], .lst xs => match L2.ixN xs.length j with
        | some n => .nx (e2.set i (.lst (xs.set n d)))
        | none => .no
      | _, _ => .no
    | _ => .no)
  | .sub2 i d k, r => apS fc wf k (r.out fun y e2 => match y, e2.getD i .unset with
      | [.int j], .lst xs => match L2.ixN xs.length j with
        | some n => .nx (e2.set i (.lst (xs.set n d)))
        | none => .no
      | _, _ => .no)
  | .unp t k, r => apS fc wf k (r.out fun x e1 => match x with | [d] => optO (asg fc t [d] e1) | _ => .no)
  | .aug i o j k, r => apS fc wf k (r.out fun x e1 => match x with
      | [.int y] => match o with
        | .add => .nx (e1.set i (.int (j + y)))
        | .sub => .nx (e1.set i (.int (j - y)))
        | _ => .no
      | _ => .no)
  | .augs1 i o q k, r => apS fc wf k (r.out fun x e1 => match x, e1.getD i .unset with
    | [.int j], .lst xs => match L2.atI xs j with
      | some (.int a) => if 0 ≤ j then (ev fc q e1).out fun y e2 => match y, e2.getD i .unset with
        | [.int b], .lst ys => match L2.ixN ys.length j, o with
          | some n, .add => .nx (e2.set i (.lst (ys.set n (.int (a + b)))))
          | some n, .sub => .nx (e2.set i (.lst (ys.set n (.int (a - b)))))
          | _, _ => .no
        | _, _ => .no else .no
      | _ => .no
    | _, _ => .no)
  | .augs2 i o j a k, r => apS fc wf k (r.out fun y e2 => match y, e2.getD i .unset with
        | [.int b], .lst ys => match L2.ixN ys.length j, o with
          | some n, .add => .nx (e2.set i (.lst (ys.set n (.int (a + b)))))
          | some n, .sub => .nx (e2.set i (.lst (ys.set n (.int (a - b)))))
          | _, _ => .no
        | _, _ => .no)
  | .app i k, r => apS fc wf k (r.out fun x e1 => match x, e1.getD i .unset with
      | [d], .lst xs => if xs.length < 16777216 then .nx (e1.set i (.lst (xs ++ [d]))) else .no
      | _, _ => .no)
  | .ext i k, r => apS fc wf k (r.out fun x e1 => match x, e1.getD i .unset with
      | [.lst ys], .lst xs => if xs.length + ys.length < 16777216 then .nx (e1.set i (.lst (xs ++ ys))) else .no
      | _, _ => .no)
  | .exp k, r => apS fc wf k (r.out fun x e1 => match x with | [_] => .nx e1 | _ => .no)
  | .ifs a b k, r => apS fc wf k (r.out fun x e => match x with | [.bl true] => ex fc wf a e | [.bl false] => ex fc wf b e | _ => .no)
  | .for_ t b k, r => apS fc wf k (r.out fun x e => match x with
    | [d] => match items d with
      | some ds => evFor (fun d => asgN t [d]) (ex fc wf b) ds e
      | none => .no
    | _ => .no)
  | .par1 i j b k, r => apS fc wf k (r.out fun x e1 => match x with
    | [d1] => (ev fc b e1).out fun y e2 => match y with
      | [d2] => .nx ((e2.set i d1).set j d2)
      | _ => .no
    | _ => .no)
  | .par2 i j d1 k, r => apS fc wf k (r.out fun y e2 => match y with
      | [d2] => .nx ((e2.set i d1).set j d2)
      | _ => .no)
  | .at1 i a k, r => apS fc wf k (r.out fun x e1 => match x, e1.getD i .unset with
      | [.int j], .lst ds => match L2.ixN ds.length j with
        | some n => match ds.getD n .unset with
          | .lst _ => (ev fc a e1).out fun y e2 => match y, e2.getD i .unset with
            | [d], .lst es => match es.getD n .unset with
              | .lst ys => if ys.length < 16777216 then .nx (e2.set i (.lst (es.set n (.lst (ys ++ [d]))))) else .no
              | _ => .no
            | _, _ => .no
          | _ => .no
        | none => .no
      | _, _ => .no)
  | .at2 i n k, r => apS fc wf k (r.out fun y e2 => match y, e2.getD i .unset with
            | [d], .lst es => match es.getD n .unset with
              | .lst ys => if ys.length < 16777216 then .nx (e2.set i (.lst (es.set n (.lst (ys ++ [d]))))) else .no
              | _ => .no
            | _, _ => .no)
def evK (a : E) (env : List D) (k : KE) : Out := apE fc wf k (ev fc a env)
def exK (s : S) (env : List D) (k : KS) : Out := apS fc wf k (ex fc wf s env)
/-- helpers, each with its first argument to be reckoned -/
def varK (d : D) (env : List D) (k : KE) : Out := match d with | .unset => apE fc wf k .no | d => apE fc wf k (.ok [d] env)
def bopK (o : Option D) (env : List D) (k : KE) : Out := match o with | some d => apE fc wf k (.ok [d] env) | none => apE fc wf k .no
def ioK (b : Bool) (env : List D) (k : KE) : Out := if b then apE fc wf k .no else apE fc wf k (.ok [.unset] env)
def callK (o : Bool) (a : E) (r : CR) (e : List D) (k : KE) : Out := match r with
    | .ok d ps => if (bwS a).isEmpty || (okRes o d && ps.all (okRes true)) then apE fc wf k (.ok [d] (setMany e (ioS a) ps)) else apE fc wf k .no
    | .exc c ps => if (bwS a).isEmpty || ps.all (okRes true) then apE fc wf k (.exc c (setMany e (ioS a) ps)) else apE fc wf k .no
    | .no => apE fc wf k .no
def callG (g : Bool) (f : Nat) (o : Bool) (a : E) (xs e : List D) (k : KE) : Out := if g then callK fc wf o a (fc f (fillA a xs e)) e k else apE fc wf k .no
def sub1K (u : Bool) (i : Nat) (b : E) (d : D) (e : List D) (q : KS) : Out := if u then apS fc wf q .no else evK fc wf b e (.sub2 i d q)
def appG (u : Bool) (i : Nat) (a : E) (e : List D) (q : KS) : Out := if u then evK fc wf a e (.app i q) else apS fc wf q .no
def extG (u : Bool) (i : Nat) (a : E) (e : List D) (q : KS) : Out := if u then evK fc wf a e (.ext i q) else apS fc wf q .no
def augG (d : D) (i : Nat) (o : BI) (a : E) (e : List D) (q : KS) : Out := match d with | .int n => evK fc wf a e (.aug i o n q) | _ => apS fc wf q .no
def frzK (env : List D) (k : KE) : Out → Out
  | .ret (.tup [d]) _ => if noL d then apE fc wf k (.ok [d] env) else apE fc wf k .no
  | _ => apE fc wf k .no
def forNK (x : D) (t i : Nat) (b : S) (env : List D) (q : KS) : Out := match x with
  | .lst ds => if t < env.length then apS fc wf q (evForN (ex fc wf b) t i [] ds (env.set i .unset)) else apS fc wf q .no
  | _ => apS fc wf q .no
def atG (u : Bool) (i : Nat) (b a : E) (e : List D) (q : KS) : Out := if u then evK fc wf b e (.at1 i a q) else apS fc wf q .no
def at1K (x : D) (i : Nat) (j : Int) (a : E) (e : List D) (q : KS) : Out := match x with
  | .lst ds => match L2.ixN ds.length j with
        | some n => match ds.getD n .unset with
          | .lst _ => evK fc wf a e (.at2 i n q)
          | _ => apS fc wf q .no
        | none => apS fc wf q .no
  | _ => apS fc wf q .no
def at2K (x : D) (i n : Nat) (d : D) (e : List D) (q : KS) : Out := match x with
  | .lst es => match es.getD n .unset with
              | .lst ys => if ys.length < 16777216 then apS fc wf q (.nx (e.set i (.lst (es.set n (.lst (ys ++ [d])))))) else apS fc wf q .no
              | _ => apS fc wf q .no
  | _ => apS fc wf q .no
def foK2 (i : Nat) (t : TN) (b : S) (x : D) (env : List D) (q : KS) (y : Option (List D)) : Out := match x, y with
  | .lst ds, some its => if noLs its then apS fc wf q (finO i ds (evFor (fun d => asgN t [d]) (ex fc wf b) its (env.set i .unset))) else apS fc wf q .no
  | _, _ => apS fc wf q .no
def foK (i : Nat) (t : TN) (b : S) (x : D) (env : List D) (q : KS) : Out → Out
  | .ret (.tup [d]) _ => foK2 fc wf i t b x env q (items d)
  | _ => apS fc wf q .no
def tryS (i : Nat) (q : KS) : Out → Out
  | .nx e2 => if noXs (e2.set i .unset) then apS fc wf q (.nx (e2.set i .unset)) else apS fc wf q .no
  | .ret d e2 => if noX d && noXs (e2.set i .unset) then .ret d (e2.set i .unset) else apS fc wf q .no
  | _ => apS fc wf q .no
def tryK (i : Nat) (s : S) (q : KS) : Out → Out
  | .exc c e => if excOk c then tryS fc wf i q (exK fc wf s (e.set i (.exc c)) .done) else apS fc wf q .no
  | o => apS fc wf q o
def chK (x : Option D) (p : BI) (d2 : D) (z : E) (e : List D) (k : KE) : Out := match x with
  | some (.bl true) => evK fc wf z e (.ch3 p d2 k)
  | some (.bl false) => apE fc wf k (.ok [.bl false] e)
  | _ => apE fc wf k .no
def chK2 (x : Option D) (k : KE) (e : List D) : Out := match x with
  | some (.bl c) => apE fc wf k (.ok [.bl c] e)
  | _ => apE fc wf k .no
def forK (t : TN) (b : S) (x : Option (List D)) (e : List D) (k : KS) : Out := match x with
  | some ds => apS fc wf k (evFor (fun d => asgN t [d]) (ex fc wf b) ds e)
  | none => apS fc wf k .no
def compK (ts : List Nat) (t : TN) (c el : E) (x : Option (List D)) (e : List D) (k : KE) : Out := match x with
  | some ds => if le ds.length maxLen then match evComp (ev fc c) (ev fc el) ts t ds (wipeE ts e) with
        | .ok ys e2 => apE fc wf k (.ok [.lst ys] (setMany e2 ts (ts.map fun i => e.getD i .unset)))
        | _ => apE fc wf k .no else apE fc wf k .no
  | none => apE fc wf k .no
def subK (i : Nat) (d : D) (j : Int) (x : D) (e : List D) (k : KS) : Out := match x with
  | .lst xs => match L2.ixN xs.length j with
        | some n => apS fc wf k (.nx (e.set i (.lst (xs.set n d))))
        | none => apS fc wf k .no
  | _ => apS fc wf k .no
def appK (i : Nat) (d : D) (x : D) (e : List D) (k : KS) : Out := match x with
  | .lst xs => if xs.length < 16777216 then apS fc wf k (.nx (e.set i (.lst (xs ++ [d])))) else apS fc wf k .no
  | _ => apS fc wf k .no
def extK (i : Nat) (d : D) (x : D) (e : List D) (k : KS) : Out := match d, x with
  | .lst ys, .lst xs => if xs.length + ys.length < 16777216 then apS fc wf k (.nx (e.set i (.lst (xs ++ ys)))) else apS fc wf k .no
  | _, _ => apS fc wf k .no
end
section
variable {fc : Nat → List D → CR} {wf : Nat} {env e : List D} {d d1 d2 d3 : D} {xs ys ds ps : List D} {a b c x y z el : E} {k : KE} {s t : S} {q : KS} {i j : Nat} {p : Bool} {o o1 o2 : BI}
@[simp] theorem k_var : evK fc wf (.var i) env k = varK fc wf (env.getD i .unset) env k := by
  unfold evK varK
  simp only [ev]
  generalize env.getD i .unset = d
  cases d <;> rfl
@[simp] theorem k_con : evK fc wf (.con d) env k = apE fc wf k (.ok [d] env) := id rfl
@[simp] theorem k_glob {x : Str} : evK fc wf (.glob x d) env k = apE fc wf k (.ok [d] env) := id rfl
@[simp] theorem k_nil : evK fc wf .nil env k = apE fc wf k (.ok [] env) := id rfl
@[simp] theorem k_cons : evK fc wf (.cons a b) env k = evK fc wf a env (.consR b k) := id rfl
@[simp] theorem k_tup : evK fc wf (.tup a) env k = evK fc wf a env (.tup k) := id rfl
@[simp] theorem k_lst : evK fc wf (.lst a) env k = evK fc wf a env (.lst k) := id rfl
@[simp] theorem k_bi : evK fc wf (.bi o a) env k = evK fc wf a env (.bi o k) := id rfl
@[simp] theorem k_and : evK fc wf (.and a b) env k = evK fc wf a env (.and b k) := id rfl
@[simp] theorem k_or : evK fc wf (.or a b) env k = evK fc wf a env (.or b k) := id rfl
@[simp] theorem k_not : evK fc wf (.not a) env k = evK fc wf a env (.not k) := id rfl
@[simp] theorem k_ite : evK fc wf (.ite c a b) env k = evK fc wf c env (.ite a b k) := id rfl
@[simp] theorem k_call {f : Nat} : evK fc wf (.call f p a) env k = evK fc wf a env (.call f p a k) := id rfl
@[simp] theorem k_sl3 : evK fc wf (.sl3 x y z) env k = evK fc wf x env (.sl1 y z k) := id rfl
@[simp] theorem k_chn : evK fc wf (.chn o1 o2 x y z) env k = evK fc wf x env (.ch1 o1 o2 y z k) := id rfl
@[simp] theorem k_comp {ts : List Nat} {t : TN} : evK fc wf (.comp ts t x c el) env k = evK fc wf x env (.comp ts t c el k) := id rfl
@[simp] theorem k_io : evK fc wf (.io i) env k = ioK fc wf (isU (env.getD i .unset)) env k := by
  unfold evK ioK
  simp only [ev]
  generalize env.getD i .unset = d
  cases d <;> rfl
@[simp] theorem k_bw : evK fc wf (.bw i) env k = ioK fc wf (isU (env.getD i .unset)) env k := by
  unfold evK ioK
  simp only [ev]
  generalize env.getD i .unset = d
  cases d <;> rfl
@[simp] theorem k_mv : evK fc wf (.mv i) env k = varK fc wf (env.getD i .unset) (if isU (env.getD i .unset) then env else env.set i .unset) k := by
  unfold evK varK
  simp only [ev]
  generalize env.getD i .unset = d
  cases d <;> rfl
@[simp] theorem a_consR : apE fc wf (.consR b k) (.ok [d] e) = evK fc wf b e (.consD d k) := id rfl
@[simp] theorem a_consD : apE fc wf (.consD d k) (.ok xs e) = apE fc wf k (.ok (d :: xs) e) := id rfl
@[simp] theorem a_tup : apE fc wf (.tup k) (.ok xs e) = apE fc wf k (.ok [.tup xs] e) := id rfl
@[simp] theorem a_lst : apE fc wf (.lst k) (.ok xs e) = apE fc wf k (.ok [.lst xs] e) := id rfl
@[simp] theorem a_bi : apE fc wf (.bi o k) (.ok xs e) = bopK fc wf (bop o xs) e k := by
  show apE fc wf k (match bop o xs with | some d => .ok [d] e | none => .no) = _
  unfold bopK
  cases bop o xs <;> rfl
@[simp] theorem a_bopK : bopK fc wf (some d) e k = apE fc wf k (.ok [d] e) := id rfl
@[simp] theorem a_and : apE fc wf (.and b k) (.ok [.bl p] e) = if p = true then evK fc wf b e k else apE fc wf k (.ok [.bl false] e) := by cases p <;> rfl
@[simp] theorem a_or : apE fc wf (.or b k) (.ok [.bl p] e) = if p = true then apE fc wf k (.ok [.bl true] e) else evK fc wf b e k := by cases p <;> rfl
@[simp] theorem a_not : apE fc wf (.not k) (.ok [.bl p] e) = apE fc wf k (.ok [.bl (!p)] e) := id rfl
@[simp] theorem a_ite : apE fc wf (.ite a b k) (.ok [.bl p] e) = if p = true then evK fc wf a e k else evK fc wf b e k := by cases p <;> rfl
@[simp] theorem a_call {f : Nat} : apE fc wf (.call f p a k) (.ok xs e) = callG fc wf (setAll (ioS a) e && setAll (bwS a) e) f p a xs e k := by
  show apE fc wf k (if !(setAll (ioS a) e && setAll (bwS a) e) then .no else _) = _
  unfold callG
  cases (setAll (ioS a) e && setAll (bwS a) e)
  · rfl
  unfold callK
  simp only [Bool.not_true, Bool.false_eq_true, if_false, if_true]
  cases fc f (fillA a xs e) with
  | ok d ps => simp only []; split <;> rfl
  | exc c ps => simp only []; split <;> rfl
  | no => rfl
@[simp] theorem a_callG {f : Nat} : callG fc wf true f p a xs e k = callK fc wf p a (fc f (fillA a xs e)) e k := id rfl
@[simp] theorem a_callK : callK fc wf p a (.ok d ps) e k = if ((bwS a).isEmpty || (okRes p d && ps.all (okRes true))) = true then apE fc wf k (.ok [d] (setMany e (ioS a) ps)) else apE fc wf k .no := id rfl
@[simp] theorem a_callX {n : Nat} : callK fc wf p a (.exc n ps) e k = if ((bwS a).isEmpty || ps.all (okRes true)) = true then apE fc wf k (.exc n (setMany e (ioS a) ps)) else apE fc wf k .no := id rfl
@[simp] theorem a_sl1 : apE fc wf (.sl1 y z k) (.ok [d] e) = evK fc wf y e (.sl2 d z k) := id rfl
@[simp] theorem a_sl2 {i : Int} : apE fc wf (.sl2 d z k) (.ok [.int i] e) = evK fc wf z e (.sl3 d i k) := id rfl
@[simp] theorem a_sl3 {i j : Int} : apE fc wf (.sl3 d i k) (.ok [.int j] e) = bopK fc wf (cut2 d (some i) (some j)) e k := by
  show apE fc wf k (match cut2 d (some i) (some j) with | some r => .ok [r] e | none => .no) = _
  unfold bopK
  cases cut2 d (some i) (some j) <;> rfl
@[simp] theorem a_ch1 : apE fc wf (.ch1 o1 o2 y z k) (.ok [d] e) = evK fc wf y e (.ch2 o1 o2 d z k) := id rfl
@[simp] theorem a_ch2 : apE fc wf (.ch2 o1 o2 d z k) (.ok [d2] e) = chK fc wf (F2 o1 d d2) o2 d2 z e k := by
  show apE fc wf k (match F2 o1 d d2 with | some (.bl true) => _ | some (.bl false) => _ | _ => _) = _
  unfold chK
  generalize F2 o1 d d2 = w
  cases w with
  | none => rfl
  | some w => cases w with
    | bl b => cases b <;> rfl
    | _ => rfl
@[simp] theorem a_chK : chK fc wf (some (.bl p)) o d z e k = if p = true then evK fc wf z e (.ch3 o d k) else apE fc wf k (.ok [.bl false] e) := by cases p <;> rfl
@[simp] theorem a_ch3 : apE fc wf (.ch3 o d k) (.ok [d2] e) = chK2 fc wf (F2 o d d2) k e := by
  show apE fc wf k (match F2 o d d2 with | some (.bl k) => .ok [.bl k] e | _ => .no) = _
  unfold chK2
  generalize F2 o d d2 = w
  cases w with
  | none => rfl
  | some w => cases w <;> rfl
@[simp] theorem a_chK2 : chK2 fc wf (some (.bl p)) k e = apE fc wf k (.ok [.bl p] e) := id rfl
@[simp] theorem a_comp {ts : List Nat} {t : TN} : apE fc wf (.comp ts t c el k) (.ok [d] e) = compK fc wf ts t c el (items d) e k := by
  show apE fc wf k (match items d with | some ds => _ | none => _) = _
  unfold compK
  cases items d with
  | none => rfl
  | some ds =>
    simp only []
    split
    · generalize evComp (ev fc c) (ev fc el) ts t ds (wipeE ts e) = w
      cases w <;> rfl
    · rfl
theorem a_compK {ts : List Nat} {t : TN} {e2 : List D} (h : ds.length ≤ 16777216) (h2 : evComp (ev fc c) (ev fc el) ts t ds (wipeE ts e) = .ok ys e2) : compK fc wf ts t c el (some ds) e k = apE fc wf k (.ok [.lst ys] (setMany e2 ts (ts.map fun i => e.getD i .unset))) := by
  unfold compK
  have : le ds.length maxLen = true := decide_eq_true h
  simp only [this, if_true, h2]
@[simp] theorem a_exc {n : Nat} : apE fc wf k (.exc n e) = .exc n e := by
  have s0 : ∀ q, apS fc wf q (.exc n e) = .exc n e := fun q => by induction q <;> first | rfl | assumption
  induction k <;> first | rfl | assumption | exact s0 _
@[simp] theorem s_exc {n : Nat} : apS fc wf q (.exc n e) = .exc n e := by induction q <;> first | rfl | assumption
@[simp] theorem s_ret : apS fc wf q (.ret d e) = .ret d e := by induction q <;> first | rfl | assumption
@[simp] theorem s_no : apS fc wf q .no = .no := by induction q <;> first | rfl | assumption
@[simp] theorem s_seq : apS fc wf (.seq t q) (.nx e) = exK fc wf t e q := id rfl
@[simp] theorem s_seqB : apS fc wf (.seq t q) (.bk e) = apS fc wf q (.bk e) := id rfl
@[simp] theorem s_seqC : apS fc wf (.seq t q) (.ct e) = apS fc wf q (.ct e) := id rfl
@[simp] theorem s_done {o : Out} : apS fc wf .done o = o := id rfl
@[simp] theorem k_skip : exK fc wf .skip env q = apS fc wf q (.nx env) := id rfl
@[simp] theorem k_seq : exK fc wf (.seq s t) env q = exK fc wf s env (.seq t q) := id rfl
@[simp] theorem k_ret : exK fc wf (.ret a) env q = evK fc wf a env (.ret q) := id rfl
@[simp] theorem k_set : exK fc wf (.set i a) env q = evK fc wf a env (.set i q) := id rfl
@[simp] theorem k_sub : exK fc wf (.sub i b a) env q = evK fc wf a env (.sub1 i b q) := id rfl
@[simp] theorem k_unp {t : T} : exK fc wf (.unp t a) env q = evK fc wf a env (.unp t q) := id rfl
@[simp] theorem k_exp : exK fc wf (.exp a) env q = evK fc wf a env (.exp q) := id rfl
@[simp] theorem k_ifs : exK fc wf (.ifs c s t) env q = evK fc wf c env (.ifs s t q) := id rfl
@[simp] theorem k_for {t : TN} : exK fc wf (.for_ t a s) env q = evK fc wf a env (.for_ t s q) := id rfl
@[simp] theorem k_rais {n : Nat} : exK fc wf (.rais n) env q = .exc n env := by
  show apS fc wf q (.exc n env) = _
  exact s_exc
@[simp] theorem k_brk : exK fc wf .brk env q = apS fc wf q (.bk env) := id rfl
@[simp] theorem k_cont : exK fc wf .cont env q = apS fc wf q (.ct env) := id rfl
@[simp] theorem k_try : exK fc wf (.tryX s i t) env q = tryK fc wf i t q (exK fc wf s env .done) := by
  show apS fc wf q (ex fc wf (.tryX s i t) env) = tryK fc wf i t q (ex fc wf s env)
  simp only [ex]
  cases ex fc wf s env with
  | exc c e =>
    show _ = (if excOk c = true then tryS fc wf i q (ex fc wf t (e.set i (.exc c))) else _)
    simp only []
    split
    · cases ex fc wf t (e.set i (.exc c)) with
      | nx e2 => simp only [tryS]; split <;> rfl
      | ret d e2 =>
        simp only [tryS]
        split
        · have h : ∀ q, apS fc wf q (.ret d (e2.set i .unset)) = .ret d (e2.set i .unset) := fun q => by induction q <;> first | rfl | assumption
          exact h q
        · rfl
      | _ => rfl
    · rfl
  | _ => rfl
@[simp] theorem a_tryN : tryK fc wf i t q (.nx e) = apS fc wf q (.nx e) := id rfl
@[simp] theorem a_tryR : tryK fc wf i t q (.ret d e) = apS fc wf q (.ret d e) := id rfl
@[simp] theorem a_tryX {c : Nat} : tryK fc wf i t q (.exc c e) = if excOk c = true then tryS fc wf i q (exK fc wf t (e.set i (.exc c)) .done) else apS fc wf q .no := id rfl
@[simp] theorem a_tryS : tryS fc wf i q (.ret d e) = if (noX d && noXs (e.set i .unset)) = true then .ret d (e.set i .unset) else apS fc wf q .no := id rfl
@[simp] theorem a_trySn : tryS fc wf i q (.nx e) = if noXs (e.set i .unset) = true then apS fc wf q (.nx (e.set i .unset)) else apS fc wf q .no := id rfl
@[simp] theorem k_whl : exK fc wf (.whl c s) env q = apS fc wf q (evWhile (ev fc c) (ex fc wf s) wf env) := id rfl
theorem k_app' {zs : List D} (h2 : env.getD i .unset = .lst zs) : exK fc wf (.app i a) env q = evK fc wf a env (.app i q) := by
  show apS fc wf q (ex fc wf (.app i a) env) = apS fc wf q _
  (simp only [ex, h2]) <;> rfl
theorem k_ext' {zs : List D} (h2 : env.getD i .unset = .lst zs) : exK fc wf (.ext i a) env q = evK fc wf a env (.ext i q) := by
  show apS fc wf q (ex fc wf (.ext i a) env) = apS fc wf q _
  (simp only [ex, h2]) <;> rfl
def isLst : D → Bool
  | .lst _ => true
  | _ => false
theorem isLst_of : isLst d = true → ∃ zs, d = .lst zs := fun h => by cases d <;> first | exact ⟨_, rfl⟩ | cases h
@[simp] theorem k_appL : exK fc wf (.app i a) env q = appG fc wf (isLst (env.getD i .unset)) i a env q := by
  show apS fc wf q (ex fc wf (.app i a) env) = _
  unfold appG
  simp only [ex]
  cases env.getD i .unset <;> rfl
@[simp] theorem k_extL : exK fc wf (.ext i a) env q = extG fc wf (isLst (env.getD i .unset)) i a env q := by
  show apS fc wf q (ex fc wf (.ext i a) env) = _
  unfold extG
  simp only [ex]
  cases env.getD i .unset <;> rfl
@[simp] theorem a_appG : appG fc wf true i a env q = evK fc wf a env (.app i q) := id rfl
@[simp] theorem a_extG : extG fc wf true i a env q = evK fc wf a env (.ext i q) := id rfl
@[simp] theorem k_aug : exK fc wf (.aug i o a) env q = augG fc wf (env.getD i .unset) i o a env q := by
  show apS fc wf q (ex fc wf (.aug i o a) env) = _
  unfold augG
  simp only [ex]
  cases env.getD i .unset <;> rfl
@[simp] theorem a_augG {n : Int} : augG fc wf (.int n) i o a env q = evK fc wf a env (.aug i o n q) := id rfl
@[simp] theorem a_ret : apE fc wf (.ret q) (.ok [d] e) = .ret d e := s_ret
@[simp] theorem a_set : apE fc wf (.set i q) (.ok [d] e) = apS fc wf q (.nx (e.set i d)) := id rfl
@[simp] theorem a_sub1 : apE fc wf (.sub1 i b q) (.ok [d] e) = sub1K fc wf (isU (e.getD i .unset)) i b d e q := by
  show apS fc wf q (if isU (e.getD i .unset) then .no else _) = _
  unfold sub1K
  cases isU (e.getD i .unset) <;> rfl
@[simp] theorem a_sub1K : sub1K fc wf false i b d e q = evK fc wf b e (.sub2 i d q) := id rfl
@[simp] theorem a_sub2 {n : Int} : apE fc wf (.sub2 i d q) (.ok [.int n] e) = subK fc wf i d n (e.getD i .unset) e q := by
  show apS fc wf q (match [D.int n], e.getD i .unset with | [.int j], .lst xs => _ | _, _ => _) = _
  unfold subK
  generalize e.getD i .unset = w
  cases w with
  | lst xs =>
    simp only []
    generalize L2.ixN xs.length n = v
    cases v <;> rfl
  | _ => rfl
theorem a_subK {n : Int} {m : Nat} (h : L2.ixN xs.length n = some m) : subK fc wf i d n (.lst xs) e q = apS fc wf q (.nx (e.set i (.lst (xs.set m d)))) := by
  unfold subK
  simp only [h]
theorem ixN_toNat {n : Int} {m : Nat} (h0 : 0 ≤ n) (h1 : n < m) : L2.ixN m n = some n.toNat := by
  obtain ⟨k, rfl⟩ := Int.eq_ofNat_of_zero_le h0
  rw [ix_nat (by omega)]
  rfl
theorem a_subKz {n : Int} (h0 : 0 ≤ n) (h : n < xs.length) : subK fc wf i d n (.lst xs) e q = apS fc wf q (.nx (e.set i (.lst (xs.set n.toNat d)))) := a_subK (ixN_toNat h0 h)
theorem a_unp {t : T} {e2 : List D} (h : asg fc t [d] e = some e2) : apE fc wf (.unp t q) (.ok [d] e) = apS fc wf q (.nx e2) := by
  show apS fc wf q (optO (asg fc t [d] e)) = _
  rw [h]
  rfl
@[simp] theorem a_aug {m n : Int} : apE fc wf (.aug i .add m q) (.ok [.int n] e) = apS fc wf q (.nx (e.set i (.int (m + n)))) := id rfl
@[simp] theorem a_augS {m n : Int} : apE fc wf (.aug i .sub m q) (.ok [.int n] e) = apS fc wf q (.nx (e.set i (.int (m - n)))) := id rfl
@[simp] theorem a_app : apE fc wf (.app i q) (.ok [d] e) = appK fc wf i d (e.getD i .unset) e q := by
  show apS fc wf q (match [d], e.getD i .unset with | [d], .lst xs => _ | _, _ => _) = _
  unfold appK
  generalize e.getD i .unset = w
  cases w with
  | lst xs => simp only []; split <;> rfl
  | _ => rfl
theorem a_appK (h : xs.length < 16777216) : appK fc wf i d (.lst xs) e q = apS fc wf q (.nx (e.set i (.lst (xs ++ [d])))) := if_pos h
@[simp] theorem a_ext : apE fc wf (.ext i q) (.ok [d] e) = extK fc wf i d (e.getD i .unset) e q := by
  show apS fc wf q (match [d], e.getD i .unset with | [.lst ys], .lst xs => _ | _, _ => _) = _
  unfold extK
  generalize e.getD i .unset = w
  cases w with
  | lst xs => cases d <;> first | rfl | (simp only []; split <;> rfl)
  | _ => cases d <;> rfl
theorem a_extK (h : xs.length + ys.length < 16777216) : extK fc wf i (.lst ys) (.lst xs) e q = apS fc wf q (.nx (e.set i (.lst (xs ++ ys)))) := if_pos h
@[simp] theorem a_exp : apE fc wf (.exp q) (.ok [d] e) = apS fc wf q (.nx e) := id rfl
@[simp] theorem a_ifs : apE fc wf (.ifs s t q) (.ok [.bl p] e) = if p = true then exK fc wf s e q else exK fc wf t e q := by cases p <;> rfl
@[simp] theorem a_ifsT : apE fc wf (.ifs s t q) (.ok [.bl true] e) = exK fc wf s e q := id rfl
@[simp] theorem a_ifsF : apE fc wf (.ifs s t q) (.ok [.bl false] e) = exK fc wf t e q := id rfl
@[simp] theorem a_for {t : TN} : apE fc wf (.for_ t s q) (.ok [d] e) = forK fc wf t s (items d) e q := by
  show apS fc wf q (match items d with | some ds => _ | none => _) = _
  unfold forK
  cases items d <;> rfl
@[simp] theorem a_forK {t : TN} : forK fc wf t s (some ds) e q = apS fc wf q (evFor (fun d => asgN t [d]) (ex fc wf s) ds e) := id rfl
@[simp] theorem a_top : apE fc wf .top (.ok xs e) = .ret (.tup xs) e := id rfl
@[simp] theorem f_nil {fg : D → List D → Option (List D)} {fs : List D → Out} : evFor fg fs [] env = .nx env := id rfl
theorem f_cons {t : TN} {e2 : List D} (h : asgN t [d] e = some e2) : apS fc wf q (evFor (fun d => asgN t [d]) (ex fc wf s) (d :: ds) e) = exK fc wf s e2 (.loop t s ds q) := by
  show _ = apS fc wf q _
  (simp only [evFor, h]) <;> (cases ex fc wf s e2 <;> rfl)
@[simp] theorem s_loop {t : TN} : apS fc wf (.loop t s ds q) (.nx e) = apS fc wf q (evFor (fun d => asgN t [d]) (ex fc wf s) ds e) := id rfl
@[simp] theorem s_loopC {t : TN} : apS fc wf (.loop t s ds q) (.ct e) = apS fc wf q (evFor (fun d => asgN t [d]) (ex fc wf s) ds e) := id rfl
@[simp] theorem s_loopB {t : TN} : apS fc wf (.loop t s ds q) (.bk e) = apS fc wf q (.nx e) := id rfl
@[simp] theorem s_rh : apS fc wf q (.rh i e) = .rh i e := by induction q <;> first | rfl | assumption
@[simp] theorem k_retH : exK fc wf (.retH i) env q = .rh i env := s_rh
@[simp] theorem k_mvN : evK fc wf (.mvN i) env k = varK fc wf (env.getD i .unset) (if isU (env.getD i .unset) then env else env.set i .unset) k := by
  unfold evK varK
  simp only [ev]
  generalize env.getD i .unset = d
  cases d <;> rfl
@[simp] theorem k_emN : evK fc wf .emN env k = apE fc wf k (.ok [.lst []] env) := id rfl
@[simp] theorem k_compN {ts : List Nat} {t : TN} : evK fc wf (.compN ts t x el) env k = evK fc wf x env (.comp ts t (.con (.bl true)) el k) := id rfl
@[simp] theorem k_appN : exK fc wf (.appN i a) env q = appG fc wf (isLst (env.getD i .unset)) i a env q := by
  show apS fc wf q (ex fc wf (.appN i a) env) = _
  unfold appG
  simp only [ex]
  cases env.getD i .unset <;> rfl
@[simp] theorem k_frz {is : List Nat} : evK fc wf (.frz is a) env k = frzK fc wf env k (evK fc wf a env .top) := by
  unfold evK frzK
  simp only [ev]
  cases ev fc a env with
  | ok xs e =>
    match xs with
    | [] => rfl
    | [d] =>
      show apE fc wf k (if noL d = true then _ else _) = (if noL d = true then _ else _)
      split <;> rfl
    | _ :: _ :: _ => rfl
  | exc c e => rfl
  | no => rfl
@[simp] theorem a_frzK {e0 : List D} : frzK fc wf env k (.ret (.tup [d]) e0) = if noL d = true then apE fc wf k (.ok [d] env) else apE fc wf k .no := id rfl
@[simp] theorem k_parO : exK fc wf (.parO i j a b) env q = evK fc wf a env (.par1 i j b q) := id rfl
@[simp] theorem a_par1 : apE fc wf (.par1 i j b q) (.ok [d] e) = evK fc wf b e (.par2 i j d q) := id rfl
@[simp] theorem a_par2 : apE fc wf (.par2 i j d q) (.ok [d2] e) = apS fc wf q (.nx ((e.set i d).set j d2)) := id rfl
@[simp] theorem k_forN : exK fc wf (.forN i j s) env q = forNK fc wf (env.getD j .unset) i j s env q := by
  show apS fc wf q (ex fc wf (.forN i j s) env) = _
  unfold forNK
  simp only [ex]
  cases env.getD j .unset <;> first | rfl | (simp only []; split <;> rfl)
theorem a_forNK (h : i < env.length) : forNK fc wf (.lst ds) i j s env q = apS fc wf q (evForN (ex fc wf s) i j [] ds (env.set j .unset)) := if_pos h
@[simp] theorem k_appAt : exK fc wf (.appAt i b a) env q = atG fc wf (isLst (env.getD i .unset)) i b a env q := by
  show apS fc wf q (ex fc wf (.appAt i b a) env) = _
  unfold atG
  simp only [ex]
  cases env.getD i .unset <;> rfl
@[simp] theorem a_atG : atG fc wf true i b a env q = evK fc wf b env (.at1 i a q) := id rfl
@[simp] theorem a_at1 {n : Int} : apE fc wf (.at1 i a q) (.ok [.int n] e) = at1K fc wf (e.getD i .unset) i n a e q := by
  show apS fc wf q (match [D.int n], e.getD i .unset with | [.int j], .lst ds => _ | _, _ => _) = _
  unfold at1K
  generalize e.getD i .unset = w
  cases w with
  | lst ds =>
    simp only []
    cases L2.ixN ds.length n with
    | none => rfl
    | some m =>
      simp only []
      cases ds.getD m .unset <;> rfl
  | _ => rfl
theorem a_at1K {n : Int} {m : Nat} (h : L2.ixN ds.length n = some m) (h2 : ds.getD m .unset = .lst xs) : at1K fc wf (.lst ds) i n a e q = evK fc wf a e (.at2 i m q) := by
  unfold at1K
  simp only [h, h2]
@[simp] theorem a_at2 : apE fc wf (.at2 i j q) (.ok [d] e) = at2K fc wf (e.getD i .unset) i j d e q := by
  show apS fc wf q (match [d], e.getD i .unset with | [d], .lst es => _ | _, _ => _) = _
  unfold at2K
  generalize e.getD i .unset = w
  cases w with
  | lst es =>
    simp only []
    cases es.getD j .unset <;> first | rfl | (simp only []; split <;> rfl)
  | _ => rfl
theorem a_at2K (h2 : ds.getD j .unset = .lst xs) (h : xs.length < 16777216) : at2K fc wf (.lst ds) i j d e q = apS fc wf q (.nx (e.set i (.lst (ds.set j (.lst (xs ++ [d])))))) := by
  unfold at2K
  simp only [h2, h, if_true]
theorem ev_of (h : evK fc 0 a env .top = .ret (.tup xs) e) : ev fc a env = .ok xs e := by
  unfold evK at h
  cases q : ev fc a env with
  | ok x y => rw [q] at h; simp only [apE] at h; cases h; rfl
  | exc c y => rw [q] at h; cases h
  | no => rw [q] at h; cases h
@[simp] theorem k_forO {t : TN} : exK fc wf (.forO i t a s) env q = foK fc wf i t s (env.getD i .unset) env q (evK fc wf a env .top) := by
  show apS fc wf q (ex fc wf (.forO i t a s) env) = _
  unfold foK evK
  simp only [ex]
  generalize env.getD i .unset = x
  cases ev fc a env with
  | ok xs e =>
    match xs with
    | [] => cases x <;> rfl
    | [d] =>
      show _ = foK2 fc wf i t s x env q (items d)
      unfold foK2
      simp only []
      generalize items d = y
      cases x <;> cases y <;> first | rfl | (simp only []; split <;> rfl)
    | _ :: _ :: _ => cases x <;> rfl
  | exc c e => cases x <;> rfl
  | no => cases x <;> rfl
@[simp] theorem a_foK {t : TN} {x : D} : foK fc wf i t s x env q (.ret (.tup [d]) e) = foK2 fc wf i t s x env q (items d) := id rfl
@[simp] theorem a_foK2 {t : TN} {its : List D} : foK2 fc wf i t s (.lst ds) env q (some its) = if noLs its = true then apS fc wf q (finO i ds (evFor (fun d => asgN t [d]) (ex fc wf s) its (env.set i .unset))) else apS fc wf q .no := id rfl
@[simp] theorem finO_nx : finO i ds (.nx e) = if isU (e.getD i .unset) = true then .nx (e.set i (.lst ds)) else .no := id rfl
@[simp] theorem finO_ret : finO i ds (.ret d e) = .ret d e := id rfl
/-- a walk over owned rows -/
theorem forN_of {fs : List D → Out} {t i : Nat} (I : List D → List D → List D → Prop) (Q : Out → Prop) (hs : ∀ done d rest e, I done (d :: rest) e → (∃ e2 d', fs (e.set t d) = .nx e2 ∧ e2.getD i .unset = .unset ∧ e2.getD t .unset = d' ∧ isU d' = false ∧ I (done ++ [d']) rest (e2.set t .unset)) ∨
    (∃ e2 d', fs (e.set t d) = .rh i e2 ∧ e2.getD i .unset = .unset ∧ e2.getD t .unset = d' ∧ isU d' = false ∧ Q (.ret (.lst (done ++ d' :: rest)) (e2.set t .unset)))) (he : ∀ done e, I done [] e → Q (.nx (e.set i (.lst done)))) : ∀ (todo done e : List D), I done todo e → Q (evForN fs t i done todo e)
  | [], done, e, h => he done e h
  | d :: rest, done, e, h => by
    rcases hs done d rest e h with ⟨e2, d', h1, h2, h3, h4, h5⟩ | ⟨e2, d', h1, h2, h3, h4, h5⟩
    · have : evForN fs t i done (d :: rest) e = evForN fs t i (done ++ [d']) rest (e2.set t .unset) := by
        simp only [evForN, h1, h2, h3, h4, show isU D.unset = true from rfl, Bool.not_false, Bool.and_true, if_true]
      rw [this]
      exact forN_of I Q hs he rest _ _ h5
    · have : evForN fs t i done (d :: rest) e = .ret (.lst (done ++ d' :: rest)) (e2.set t .unset) := by
        simp only [evForN, h1, h2, h3, h4, show isU D.unset = true from rfl, Bool.not_false, Bool.and_true, if_true, beq_self_eq_true]
      rw [this]
      exact h5
theorem ev_top : apE fc wf .top (ev fc a env) = evK fc wf a env .top := id rfl
theorem ex_done : ex fc wf s env = exK fc wf s env .done := id rfl
end
def finR (io : List Nat) : Out → CR
  | .ret d env => if setAll io env then .ok d (io.map fun i => env.getD i .unset) else .no
  | .nx env => if setAll io env then .ok .non (io.map fun i => env.getD i .unset) else .no
  | .exc c env => if setAll io env then .exc c (io.map fun i => env.getD i .unset) else .no
  | _ => .no
theorem run_eq {F : Nat → FD} {wf n f : Nat} {g : FD} {ds env : List D} (hF : F f = g) (he : ds ++ List.replicate (g.ns - g.np) .unset = env) : run F wf (n + 1) f ds = finR g.io (exK (run F wf n) wf g.body env .done) := by
  subst hF he
  show (match ex _ _ _ _ with | .ret d env => _ | .nx env => _ | .exc c env => _ | _ => _) = _
  unfold exK
  rw [s_done]
  generalize ex (run F wf n) wf (F f).body _ = o
  cases o <;> rfl
@[simp] theorem fin_ret {io : List Nat} {d : D} {env : List D} : finR io (.ret d env) = if setAll io env = true then .ok d (io.map fun i => env.getD i .unset) else .no := id rfl
@[simp] theorem fin_nx {io : List Nat} {env : List D} : finR io (.nx env) = if setAll io env = true then .ok .non (io.map fun i => env.getD i .unset) else .no := id rfl
@[simp] theorem fin_exc {io : List Nat} {env : List D} {c : Nat} : finR io (.exc c env) = if setAll io env = true then .exc c (io.map fun i => env.getD i .unset) else .no := id rfl
end Eg

end
section
namespace Eg
open PySem
/-! ### slots by number -/
section
variable {a b c d e f g h i j k l m n o p x : D} {r : List D}
theorem gd0 : List.getD (a :: r) 0 x = a := id rfl
theorem gd1 : List.getD (a :: b :: r) 1 x = b := id rfl
theorem gd2 : List.getD (a :: b :: c :: r) 2 x = c := id rfl
theorem gd3 : List.getD (a :: b :: c :: d :: r) 3 x = d := id rfl
theorem gd4 : List.getD (a :: b :: c :: d :: e :: r) 4 x = e := id rfl
theorem gd5 : List.getD (a :: b :: c :: d :: e :: f :: r) 5 x = f := id rfl
theorem gd6 : List.getD (a :: b :: c :: d :: e :: f :: g :: r) 6 x = g := id rfl
theorem gd7 : List.getD (a :: b :: c :: d :: e :: f :: g :: h :: r) 7 x = h := id rfl
theorem gd8 : List.getD (a :: b :: c :: d :: e :: f :: g :: h :: i :: r) 8 x = i := id rfl
theorem gd9 : List.getD (a :: b :: c :: d :: e :: f :: g :: h :: i :: j :: r) 9 x = j := id rfl
theorem gd10 : List.getD (a :: b :: c :: d :: e :: f :: g :: h :: i :: j :: k :: r) 10 x = k := id rfl
theorem gd11 : List.getD (a :: b :: c :: d :: e :: f :: g :: h :: i :: j :: k :: l :: r) 11 x = l := id rfl
theorem gd12 : List.getD (a :: b :: c :: d :: e :: f :: g :: h :: i :: j :: k :: l :: m :: r) 12 x = m := id rfl
theorem gd13 : List.getD (a :: b :: c :: d :: e :: f :: g :: h :: i :: j :: k :: l :: m :: n :: r) 13 x = n := id rfl
theorem gd14 : List.getD (a :: b :: c :: d :: e :: f :: g :: h :: i :: j :: k :: l :: m :: n :: o :: r) 14 x = o := id rfl
theorem gd15 : List.getD (a :: b :: c :: d :: e :: f :: g :: h :: i :: j :: k :: l :: m :: n :: o :: p :: r) 15 x = p := id rfl
theorem gdS {n : Nat} : List.getD (a :: r) (n + 1) x = List.getD r n x := id rfl
theorem st0 : List.set (a :: r) 0 x = x :: r := id rfl
theorem stS {n : Nat} : List.set (a :: r) (n + 1) x = a :: List.set r n x := id rfl
theorem st1 : List.set (a :: b :: r) 1 x = a :: x :: r := id rfl
theorem st2 : List.set (a :: b :: c :: r) 2 x = a :: b :: x :: r := id rfl
theorem st3 : List.set (a :: b :: c :: d :: r) 3 x = a :: b :: c :: x :: r := id rfl
theorem st4 : List.set (a :: b :: c :: d :: e :: r) 4 x = a :: b :: c :: d :: x :: r := id rfl
theorem st5 : List.set (a :: b :: c :: d :: e :: f :: r) 5 x = a :: b :: c :: d :: e :: x :: r := id rfl
theorem st6 : List.set (a :: b :: c :: d :: e :: f :: g :: r) 6 x = a :: b :: c :: d :: e :: f :: x :: r := id rfl
theorem st7 : List.set (a :: b :: c :: d :: e :: f :: g :: h :: r) 7 x = a :: b :: c :: d :: e :: f :: g :: x :: r := id rfl
theorem st8 : List.set (a :: b :: c :: d :: e :: f :: g :: h :: i :: r) 8 x = a :: b :: c :: d :: e :: f :: g :: h :: x :: r := id rfl
theorem st9 : List.set (a :: b :: c :: d :: e :: f :: g :: h :: i :: j :: r) 9 x = a :: b :: c :: d :: e :: f :: g :: h :: i :: x :: r := id rfl
theorem st10 : List.set (a :: b :: c :: d :: e :: f :: g :: h :: i :: j :: k :: r) 10 x = a :: b :: c :: d :: e :: f :: g :: h :: i :: j :: x :: r := id rfl
theorem st11 : List.set (a :: b :: c :: d :: e :: f :: g :: h :: i :: j :: k :: l :: r) 11 x = a :: b :: c :: d :: e :: f :: g :: h :: i :: j :: k :: x :: r := id rfl
theorem st12 : List.set (a :: b :: c :: d :: e :: f :: g :: h :: i :: j :: k :: l :: m :: r) 12 x = a :: b :: c :: d :: e :: f :: g :: h :: i :: j :: k :: l :: x :: r := id rfl
theorem st13 : List.set (a :: b :: c :: d :: e :: f :: g :: h :: i :: j :: k :: l :: m :: n :: r) 13 x = a :: b :: c :: d :: e :: f :: g :: h :: i :: j :: k :: l :: m :: x :: r := id rfl
theorem st14 : List.set (a :: b :: c :: d :: e :: f :: g :: h :: i :: j :: k :: l :: m :: n :: o :: r) 14 x = a :: b :: c :: d :: e :: f :: g :: h :: i :: j :: k :: l :: m :: n :: x :: r := id rfl
theorem st15 : List.set (a :: b :: c :: d :: e :: f :: g :: h :: i :: j :: k :: l :: m :: n :: o :: p :: r) 15 x = a :: b :: c :: d :: e :: f :: g :: h :: i :: j :: k :: l :: m :: n :: o :: x :: r := id rfl
end
section
variable {fc : Nat → List D → CR} {wf : Nat} {env : List D} {k : KE}
theorem v_non : varK fc wf .non env k = apE fc wf k (.ok [.non] env) := id rfl
theorem v_bl {b} : varK fc wf (.bl b) env k = apE fc wf k (.ok [.bl b] env) := id rfl
theorem v_int {b} : varK fc wf (.int b) env k = apE fc wf k (.ok [.int b] env) := id rfl
theorem v_str {b} : varK fc wf (.str b) env k = apE fc wf k (.ok [.str b] env) := id rfl
theorem v_tup {b} : varK fc wf (.tup b) env k = apE fc wf k (.ok [.tup b] env) := id rfl
theorem v_lst {b} : varK fc wf (.lst b) env k = apE fc wf k (.ok [.lst b] env) := id rfl
theorem v_fl {b} : varK fc wf (.fl b) env k = apE fc wf k (.ok [.fl b] env) := id rfl
theorem v_dct {b} : varK fc wf (.dct b) env k = apE fc wf k (.ok [.dct b] env) := id rfl
theorem v_any {d : D} (h : isU d = false) : varK fc wf d env k = apE fc wf k (.ok [d] env) := by cases d <;> first | rfl | cases h
theorem io_f : ioK fc wf false env k = apE fc wf k (.ok [.unset] env) := id rfl
end
theorem v_exc {fc : Nat → List D → CR} {wf : Nat} {env : List D} {k : KE} {b} : varK fc wf (.exc b) env k = apE fc wf k (.ok [.exc b] env) := id rfl
theorem u_exc {b} : isU (.exc b) = false := id rfl
theorem x_non : noX .non = true := id rfl
theorem x_uns : noX .unset = true := id rfl
theorem x_bl {b} : noX (.bl b) = true := id rfl
theorem x_int {b} : noX (.int b) = true := id rfl
theorem x_str {b} : noX (.str b) = true := id rfl
theorem x_tup {b} : noX (.tup b) = noXs b := id rfl
theorem x_lst {b} : noX (.lst b) = noXs b := id rfl
theorem x_fl {b} : noX (.fl b) = noXs b := id rfl
theorem xs_nil : noXs [] = true := id rfl
theorem xs_cons {a b} : noXs (a :: b) = (noX a && noXs b) := id rfl
theorem xs_ints : ∀ {l : List Int}, noXs (intsD l) = true
  | [] => rfl
  | i :: l => xs_ints (l := l)
theorem isx_e {x : Str} {k c : Nat} : bop (.isx x k) [.exc c] = some (.bl (k == c || k == 0 || k == 100)) := id rfl
theorem excOk_1 : excOk 1 = true := id rfl
theorem excOk_2 : excOk 2 = true := id rfl
theorem excOk_3 : excOk 3 = true := id rfl
theorem excOk_4 : excOk 4 = true := id rfl
theorem excOk_5 : excOk 5 = true := id rfl
theorem excOk_6 : excOk 6 = true := id rfl
theorem excOk_7 : excOk 7 = true := id rfl
theorem excOk_8 : excOk 8 = true := id rfl
theorem okRes_f {d : D} : okRes false d = noL d := by cases d <;> rfl
theorem okRes_tl {ds : List D} : okRes true (.lst ds) = noLs ds := id rfl
theorem n_non : noL .non = true := id rfl
theorem n_bl {b} : noL (.bl b) = true := id rfl
theorem n_int {b} : noL (.int b) = true := id rfl
theorem n_str {b} : noL (.str b) = true := id rfl
theorem n_tup {b} : noL (.tup b) = noLs b := id rfl
theorem ns_nil : noLs [] = true := id rfl
theorem ns_cons {a b} : noLs (a :: b) = (noL a && noLs b) := id rfl
theorem ns_ints : ∀ {l : List Int}, noLs (intsD l) = true
  | [] => rfl
  | i :: l => ns_ints (l := l)
theorem u_non : isU .non = false := id rfl
theorem u_bl {b} : isU (.bl b) = false := id rfl
theorem u_int {b} : isU (.int b) = false := id rfl
theorem u_str {b} : isU (.str b) = false := id rfl
theorem u_tup {b} : isU (.tup b) = false := id rfl
theorem u_lst {b} : isU (.lst b) = false := id rfl
theorem u_fl {b} : isU (.fl b) = false := id rfl
theorem u_uns : isU .unset = true := id rfl
theorem l_lst {b} : isLst (.lst b) = true := id rfl
theorem i_lst {b} : items (.lst b) = some b := id rfl
theorem i_tup {b} : items (.tup b) = some b := id rfl
theorem i_fl {b} : items (.fl b) = some b := id rfl
/-! ### more operations -/
theorem eq_ii {i j : Int} : bop .eq [.int i, .int j] = some (.bl (i == j)) := by
  simp [bop, F2, eqD, pl, eqd]
theorem ne_ii {i j : Int} : bop .ne [.int i, .int j] = some (.bl (!(i == j))) := by
  simp [bop, F2, eqD, pl, eqd]
theorem eq_bb {i j : Bool} : bop .eq [.bl i, .bl j] = some (.bl (i == j)) := by
  simp [bop, F2, eqD, pl, eqd]
theorem ne_bb {i j : Bool} : bop .ne [.bl i, .bl j] = some (.bl (!(i == j))) := by
  simp [bop, F2, eqD, pl, eqd]
theorem F2_le {i j : Int} : F2 .le (.int i) (.int j) = some (.bl (decide (i ≤ j))) := id rfl
theorem F2_lt {i j : Int} : F2 .lt (.int i) (.int j) = some (.bl (decide (i < j))) := id rfl
theorem neg_i {i : Int} : bop .neg [.int i] = some (.int (-i)) := id rfl
theorem slRev_l {xs : List D} : bop .slRev [.lst xs] = some (.lst xs.reverse) := id rfl
theorem slRevT_t {xs : List D} : bop .slRevT [.tup xs] = some (.tup xs.reverse) := id rfl
theorem revI_l {xs : List D} : bop .revI [.lst xs] = some (.lst xs.reverse) := id rfl
theorem enumI_l {xs : List D} : bop .enumI [.lst xs] = some (.lst (enumF 0 xs)) := id rfl
theorem enumT_t {xs : List D} : bop .enumT [.tup xs] = some (.lst (enumF 0 xs)) := id rfl
theorem divmod_ii {i j : Int} (h : 0 < j) (h2 : j < 18446744073709551616) : bop .divmod [.int i, .int j] = some (.tup [.int (i / j), .int (i % j)]) := if_pos ⟨h, h2⟩
theorem enumZ_l {xs ys : List D} : bop .enumZ [.lst xs, .lst ys] = some (.lst (enumF 0 (zipF xs ys))) := id rfl
theorem zipI_l {xs ys : List D} : bop .zipI [.lst xs, .lst ys] = some (.lst (zipF xs ys)) := id rfl
theorem listC_l {xs : List D} : bop .listC [.lst xs] = some (.lst xs) := id rfl
theorem listC_t {xs : List D} : bop .listC [.tup xs] = some (.lst xs) := id rfl
theorem listC_f {xs : List D} : bop .listC [.fl xs] = some (.lst xs) := id rfl
theorem tupleC_l {xs : List D} : bop .tupleC [.lst xs] = some (.tup xs) := id rfl
theorem tupleC_t {xs : List D} : bop .tupleC [.tup xs] = some (.tup xs) := id rfl
theorem int_i {i : Int} : bop .intC [.int i] = some (.int i) := id rfl
theorem max_ii {i j : Int} : bop .max2 [.int i, .int j] = some (.int (if j > i then j else i)) := id rfl
theorem min_ii {i j : Int} : bop .min2 [.int i, .int j] = some (.int (if j < i then j else i)) := id rfl
theorem isi_d {n : Nat} {d : D} : bop (.isi n) [d] = (isI n d).map D.bl := id rfl
theorem isI_non {n : Nat} : isI n .non = some false := id rfl
theorem isI_bl {n : Nat} {b : Bool} : isI n (.bl b) = some (n == 0 || n == 1) := id rfl
theorem isI_int {n : Nat} {b : Int} : isI n (.int b) = some (n == 0) := id rfl
theorem isI_str {n : Nat} {b : Str} : isI n (.str b) = some (n == 2) := id rfl
theorem isI_tup {n : Nat} {b : List D} : isI n (.tup b) = some (n == 3) := id rfl
theorem isI_lst {n : Nat} {b : List D} : isI n (.lst b) = some (n == 4) := id rfl
theorem idx_ld {xs : List D} {i : Int} : bop .idx [.lst xs, .int i] = L2.atI xs i := id rfl
theorem idx_td {xs : List D} {i : Int} : bop .idx [.tup xs, .int i] = L2.atI xs i := id rfl
theorem idx_fd {xs : List D} {i : Int} : bop .idx [.fl xs, .int i] = L2.atI xs i := id rfl
theorem is_bb {x y : Bool} : bop .is_ [.bl x, .bl y] = some (.bl (decide (x = y))) := id rfl
theorem isnot_bb {x y : Bool} : bop .isnot [.bl x, .bl y] = some (.bl (!decide (x = y))) := id rfl
/-- where an index leads -/
def ixZ (n : Nat) (i : Int) : Nat := (if i < 0 then i + n else i).toNat
theorem ixZ_pos {n : Nat} {i : Int} (h : 0 ≤ i) : ixZ n i = i.toNat := by unfold ixZ; rw [if_neg (by omega)]
theorem ixN_ixZ {n : Nat} {i : Int} (h0 : -(n : Int) ≤ i) (h1 : i < n) : L2.ixN n i = some (ixZ n i) := by
  by_cases h : 0 ≤ i
  · obtain ⟨k, rfl⟩ := Int.eq_ofNat_of_zero_le h
    rw [ix_nat (by omega), ixZ_pos h]
    rfl
  · unfold L2.ixN ixZ
    rw [if_neg (by omega), if_pos (by omega)]
    rw [if_pos (by omega)]
theorem ixZ_lt {n : Nat} {i : Int} (h0 : -(n : Int) ≤ i) (h1 : i < n) : ixZ n i < n := by
  unfold ixZ; split <;> omega
theorem atI_eq {α : Type} {xs : List α} {i : Int} (z : α) (h0 : -(xs.length : Int) ≤ i) (h1 : i < xs.length) : L2.atI xs i = some (xs.getD (ixZ xs.length i) z) := by
  unfold L2.atI
  rw [ixN_ixZ h0 h1]
  show xs[ixZ xs.length i]? = _
  rw [List.getElem?_eq_getElem (ixZ_lt h0 h1), List.getD_eq_getElem?_getD, List.getElem?_eq_getElem (ixZ_lt h0 h1)]
  rfl
theorem atI_map {α β : Type} {f : α → β} {xs : List α} {i : Int} : L2.atI (xs.map f) i = (L2.atI xs i).map f := by
  unfold L2.atI
  rw [List.length_map]
  cases L2.ixN xs.length i with
  | none => rfl
  | some k => simp
theorem atI_ints {xs : List Int} {i : Int} (h0 : 0 ≤ i) (h1 : i < xs.length) : L2.atI (intsD xs) i = some (.int (xs.getD i.toNat 0)) := by
  unfold intsD
  rw [atI_map, atI_eq 0 (by omega) h1, ixZ_pos h0]
  rfl
theorem atI_intsZ {xs : List Int} {i : Int} (h0 : -(xs.length : Int) ≤ i) (h1 : i < xs.length) : L2.atI (intsD xs) i = some (.int (xs.getD (ixZ xs.length i) 0)) := by
  unfold intsD
  rw [atI_map, atI_eq 0 h0 h1]
  rfl
theorem atI_mapZ {α : Type} {f : α → D} {xs : List α} {i : Int} (z : α) (h0 : 0 ≤ i) (h1 : i < xs.length) : L2.atI (xs.map f) i = some (f (xs.getD i.toNat z)) := by
  rw [atI_map, atI_eq z (by omega) h1, ixZ_pos h0]
  rfl
theorem ints_len {l : List Int} : (intsD l).length = l.length := by simp [intsD]
theorem ints_app {l r : List Int} : intsD l ++ intsD r = intsD (l ++ r) := by simp [intsD]
theorem ints_one {l : List Int} {i : Int} : intsD l ++ [.int i] = intsD (l ++ [i]) := by simp [intsD]
theorem ints_take {l : List Int} {k : Nat} : (intsD l).take k = intsD (l.take k) := by simp [intsD, List.map_take]
theorem ints_drop {l : List Int} {k : Nat} : (intsD l).drop k = intsD (l.drop k) := by simp [intsD, List.map_drop]
theorem ints_rev {l : List Int} : (intsD l).reverse = intsD l.reverse := by simp [intsD]
theorem ints_set {l : List Int} {k : Nat} {i : Int} : (intsD l).set k (.int i) = intsD (l.set k i) := by simp [intsD, List.map_set]
theorem ints_nil : intsD [] = [] := id rfl
theorem ints_cons {i : Int} {l : List Int} : intsD (i :: l) = .int i :: intsD l := id rfl
theorem slU_lz {xs : List D} {i : Int} (h : 0 ≤ i) : bop .slU [.lst xs, .int i] = some (.lst (xs.take i.toNat)) := by
  obtain ⟨k, rfl⟩ := Int.eq_ofNat_of_zero_le h; exact slU_l
theorem slL_lz {xs : List D} {i : Int} (h : 0 ≤ i) : bop .slL [.lst xs, .int i] = some (.lst (xs.drop i.toNat)) := by
  obtain ⟨k, rfl⟩ := Int.eq_ofNat_of_zero_le h; exact slL_l
theorem slU_tz {xs : List D} {i : Int} (h : 0 ≤ i) : bop .slU [.tup xs, .int i] = some (.tup (xs.take i.toNat)) := by
  obtain ⟨k, rfl⟩ := Int.eq_ofNat_of_zero_le h; exact slU_t
theorem slL_tz {xs : List D} {i : Int} (h : 0 ≤ i) : bop .slL [.tup xs, .int i] = some (.tup (xs.drop i.toNat)) := by
  obtain ⟨k, rfl⟩ := Int.eq_ofNat_of_zero_le h; exact slL_t
theorem trng2_ii {i j : Int} (h1 : inLim i = true) (h2 : inLim j = true) (h3 : j - i ≤ 16777216) : bop .trng2 [.int i, .int j] = some (.tup (intsD (upFrom i (j - i).toNat))) := by
  have c : (inLim i && inLim j && decide (j - i ≤ 16777216)) = true := by rw [h1, h2, decide_eq_true h3]; rfl
  unfold bop F2 fInt2
  exact if_pos c
theorem lrng1_i {j : Int} (h2 : inLim j = true) (h3 : j ≤ 16777216) : bop .lrng1 [.int j] = some (.lst (intsD (upFrom 0 j.toNat))) := by
  have c : (inLim j && decide (j ≤ 16777216)) = true := by rw [h2, decide_eq_true h3]; rfl
  unfold bop F1 fInt1
  exact if_pos c
theorem rng1_i {j : Int} (h2 : inLim j = true) : bop .rng1 [.int j] = some (.lst (intsD (upFrom 0 j.toNat))) := by
  unfold bop F1 fInt1
  exact if_pos h2
theorem rng2_ii {i j : Int} (h1 : inLim i = true) (h2 : inLim j = true) : bop .rng2 [.int i, .int j] = some (.lst (intsD (upFrom i (j - i).toNat))) := by
  have c : (inLim i && inLim j) = true := by rw [h1, h2]; rfl
  unfold bop F2 fInt2
  exact if_pos c
theorem up_len {lo : Int} : ∀ {n : Nat}, (upFrom lo n).length = n
  | 0 => rfl
  | n + 1 => congrArg (· + 1) (up_len (lo := lo + 1) (n := n))
theorem up_eq : ∀ {n : Nat} {lo : Int}, upFrom lo n = (List.range n).map fun (i : Nat) => lo + (i : Int)
  | 0, _ => rfl
  | n + 1, lo => by
    rw [List.range_succ_eq_map, List.map_cons, List.map_map]
    show lo :: upFrom (lo + 1) n = _
    rw [up_eq (n := n) (lo := lo + 1)]
    simp only [List.cons.injEq]
    refine ⟨by simp, ?_⟩
    apply List.map_congr_left
    intro a _
    simp only [Function.comp]
    omega
theorem mem_up {lo x : Int} {n : Nat} : x ∈ upFrom lo n ↔ lo ≤ x ∧ x < lo + n := by
  rw [up_eq, List.mem_map]
  constructor
  · rintro ⟨a, h, rfl⟩
    have := List.mem_range.mp h
    omega
  · intro h
    exact ⟨(x - lo).toNat, List.mem_range.mpr (by omega), by omega⟩
theorem up_get {lo : Int} {n i : Nat} (h : i < n) : (upFrom lo n)[i]? = some (lo + (i : Int)) := by
  rw [up_eq]; simp [h]
theorem mul_rz {i j : Int} (h0 : -18446744073709551616 < j) (h1 : j < 18446744073709551616) : bop .mul [.int i, .int j] = some (.int (i * j)) := mul_r (small_of h0 h1)
theorem mul_lz {i j : Int} (h0 : -18446744073709551616 < i) (h1 : i < 18446744073709551616) : bop .mul [.int i, .int j] = some (.int (i * j)) := mul_l (small_of h0 h1)
theorem pow_lit {i : Int} {j : Int} (h0 : 0 ≤ j) (h1 : j ≤ 1000) (h2 : -18446744073709551616 < i) (h3 : i < 18446744073709551616) : bop .pow [.int i, .int j] = some (.int (i ^ j.toNat)) := pow_ii rfl h0 h1 (small_of h2 h3)
theorem lrng2_z {i j : Int} (h1 : -4611686018427387904 ≤ i) (h2 : i < 4611686018427387904) (h3 : -4611686018427387904 ≤ j) (h4 : j < 4611686018427387904) (h5 : j - i ≤ 16777216) : bop .lrng2 [.int i, .int j] = some (.lst (intsD (upFrom i (j - i).toNat))) := lrng2_ii (inLim_of h1 h2) (inLim_of h3 h4) h5
theorem trng2_z {i j : Int} (h1 : -4611686018427387904 ≤ i) (h2 : i < 4611686018427387904) (h3 : -4611686018427387904 ≤ j) (h4 : j < 4611686018427387904) (h5 : j - i ≤ 16777216) : bop .trng2 [.int i, .int j] = some (.tup (intsD (upFrom i (j - i).toNat))) := trng2_ii (inLim_of h1 h2) (inLim_of h3 h4) h5
theorem rng2_z {i j : Int} (h1 : -4611686018427387904 ≤ i) (h2 : i < 4611686018427387904) (h3 : -4611686018427387904 ≤ j) (h4 : j < 4611686018427387904) : bop .rng2 [.int i, .int j] = some (.lst (intsD (upFrom i (j - i).toNat))) := rng2_ii (inLim_of h1 h2) (inLim_of h3 h4)
theorem rng1_z {j : Int} (h3 : -4611686018427387904 ≤ j) (h4 : j < 4611686018427387904) : bop .rng1 [.int j] = some (.lst (intsD (upFrom 0 j.toNat))) := rng1_i (inLim_of h3 h4)
theorem lrng1_z {j : Int} (h3 : -4611686018427387904 ≤ j) (h4 : j ≤ 16777216) : bop .lrng1 [.int j] = some (.lst (intsD (upFrom 0 j.toNat))) := lrng1_i (inLim_of h3 (by omega)) h4
theorem add_llz {xs ys : List D} (h : xs.length + ys.length ≤ 16777216) : bop .add [.lst xs, .lst ys] = some (.lst (xs ++ ys)) := if_pos h
theorem add_ttz {xs ys : List D} (h : xs.length + ys.length ≤ 16777216) : bop .add [.tup xs, .tup ys] = some (.tup (xs ++ ys)) := if_pos h
/-! ### targets -/
section
variable {fc : Nat → List D → CR} {wf : Nat} {e : List D} {d : D} {xs ds : List D} {a b : T} {t : T} {k : E} {q : KS} {i : Nat}
def unpK (fc : Nat → List D → CR) (wf : Nat) (x : Option (List D)) (q : KS) : Out := match x with | some e => apS fc wf q (.nx e) | none => apS fc wf q .no
theorem a_unpG : apE fc wf (.unp t q) (.ok [d] e) = unpK fc wf (asg fc t [d] e) q := by
  show apS fc wf q (optO (asg fc t [d] e)) = _
  unfold unpK
  cases asg fc t [d] e <;> exact id rfl
theorem a_unpK : unpK fc wf (some e) q = apS fc wf q (.nx e) := id rfl
def asgB (fc : Nat → List D → CR) (x : Option (List D)) (b : T) (ds : List D) : Option (List D) := match x with | some e => asg fc b ds e | none => none
theorem asgB_s : asgB fc (some e) b ds = asg fc b ds e := id rfl
def asgL (x : D) (i : Nat) (j : Int) (d : D) (e : List D) : Option (List D) := match x with
  | .lst xs => match L2.ixN xs.length j with
    | some n => some (e.set i (.lst (xs.set n d)))
    | none => none
  | _ => none
def asgS (u : Bool) (o : Out) (i : Nat) (d : D) : Option (List D) := if u then none else match o with
  | .ret (.tup [.int j]) e => asgL (e.getD i .unset) i j d e
  | _ => none
theorem asg_nm : asg fc (.nm i) [d] e = some (e.set i d) := id rfl
theorem asg_nil : asg fc .nil [] e = some e := id rfl
theorem asg_cons : asg fc (.cons a b) (d :: ds) e = asgB fc (asg fc a [d] e) b ds := id rfl
theorem asg_tpT : asg fc (.tp t) [.tup xs] e = asg fc t xs e := id rfl
theorem asg_tpL : asg fc (.tp t) [.lst xs] e = asg fc t xs e := id rfl
theorem asg_sub : asg fc (.sub i k) [d] e = asgS (isU (e.getD i .unset)) (evK fc 0 k e .top) i d := by
  unfold asgS evK
  simp only [asg]
  cases isU (e.getD i .unset) with
  | true => exact id rfl
  | false =>
    simp only [Bool.false_eq_true, if_false]
    cases ev fc k e with
    | ok x e2 =>
      cases x with
      | nil => exact id rfl
      | cons y r => cases r with
        | nil => cases y <;> exact id rfl
        | cons z r => cases y <;> exact id rfl
    | exc c e2 => exact id rfl
    | no => exact id rfl
theorem asgS_r {j : Int} : asgS false (.ret (.tup [.int j]) e) i d = asgL (e.getD i .unset) i j d e := id rfl
theorem asgL_z {j : Int} (h0 : 0 ≤ j) (h : j < xs.length) : asgL (.lst xs) i j d e = some (e.set i (.lst (xs.set j.toNat d))) := by
  simp only [asgL, ixN_toNat h0 h]
theorem asgN_nm : asgN (.nm i) [d] e = some (e.set i d) := id rfl
def asgNB (x : Option (List D)) (b : TN) (ds : List D) : Option (List D) := match x with | some e => asgN b ds e | none => none
theorem asgNB_s {b : TN} : asgNB (some e) b ds = asgN b ds e := id rfl
theorem asgN_nil : asgN .nil [] e = some e := id rfl
theorem asgN_cons {a b : TN} : asgN (.cons a b) (d :: ds) e = asgNB (asgN a [d] e) b ds := id rfl
theorem asgN_tpT {t : TN} : asgN (.tp t) [.tup xs] e = asgN t xs e := id rfl
theorem asgN_tpL {t : TN} : asgN (.tp t) [.lst xs] e = asgN t xs e := id rfl
end
def loopG (fc : Nat → List D → CR) (wf : Nat) (x : Option (List D)) (t : TN) (s : S) (ds : List D) (q : KS) : Out := match x with
  | some e => exK fc wf s e (.loop t s ds q)
  | none => apS fc wf q .no
theorem f_consG {fc : Nat → List D → CR} {wf : Nat} {t : TN} {s : S} {d : D} {ds e : List D} {q : KS} : apS fc wf q (evFor (fun d => asgN t [d]) (ex fc wf s) (d :: ds) e) = loopG fc wf (asgN t [d] e) t s ds q := by
  unfold loopG
  cases h : asgN t [d] e with
  | none => simp only [evFor, h]
  | some e2 => exact f_cons h
theorem loopG_s {fc : Nat → List D → CR} {wf : Nat} {t : TN} {s : S} {ds e : List D} {q : KS} : loopG fc wf (some e) t s ds q = exK fc wf s e (.loop t s ds q) := id rfl
/-! ### loops -/
section
variable {fc : Nat → List D → CR} {wf : Nat} {tn : TN} {b : S}
theorem for_inv (I : Nat → List D → Prop) {ds : List D} {env : List D} (h0 : I 0 env) (h : ∀ i d e, ds[i]? = some d → I i e → ∃ e1 e2, asgN tn [d] e = some e1 ∧ exK fc wf b e1 .done = .nx e2 ∧ I (i + 1) e2) :
    ∃ e, evFor (fun d => asgN tn [d]) (ex fc wf b) ds env = .nx e ∧ I ds.length e := by
  have := evFor_inv (fg := fun d => asgN tn [d]) (fs := ex fc wf b) I (ds := ds) (n := 0) h0 fun i d e hd he => by
    rw [Nat.zero_add] at *
    obtain ⟨e1, e2, h1, h2, h3⟩ := h i d e hd he
    exact ⟨e1, e2, h1, .inl h2, h3⟩
  rwa [Nat.zero_add] at this
/-- over a map: the state is folded, stale slots are as they may -/
theorem for_fold {σ τ α : Type} (enc : σ → τ → List D) (da : α → D) (step : σ → α → σ) (J : σ → Prop) : ∀ (as : List α) (s0 : σ) (t0 : τ), J s0 → (∀ s t a, a ∈ as → J s → ∃ t' e1, asgN tn [da a] (enc s t) = some e1 ∧ exK fc wf b e1 .done = .nx (enc (step s a) t') ∧ J (step s a)) →
    ∃ t', evFor (fun d => asgN tn [d]) (ex fc wf b) (as.map da) (enc s0 t0) = .nx (enc (as.foldl step s0) t') ∧ J (as.foldl step s0)
  | [], s0, t0, hj, _ => ⟨t0, rfl, hj⟩
  | a :: as, s0, t0, hj, h => by
    obtain ⟨t', e1, h1, h2, h3⟩ := h s0 t0 a List.mem_cons_self hj
    obtain ⟨t2, h4, h5⟩ := for_fold enc da step J as (step s0 a) t' h3 fun s t x hx => h s t x (List.mem_cons_of_mem _ hx)
    refine ⟨t2, ?_, h5⟩
    have h2 : ex fc wf b e1 = _ := h2
    simp only [List.map_cons, evFor, h1, h2, List.foldl_cons, h4]
/-- a loop that may hand a value back: it does at the first a with ret a -/
theorem for_first {σ τ α : Type} (enc : σ → τ → List D) (da : α → D) (step : σ → α → σ) (J : σ → Prop) (out : σ → α → Option D) : ∀ (as : List α) (s0 : σ) (t0 : τ), J s0 → (∀ s t a, a ∈ as → J s → ∃ e1, asgN tn [da a] (enc s t) = some e1 ∧ ((∃ d e2, out s a = some d ∧ exK fc wf b e1 .done = .ret d e2) ∨ ∃ t', out s a = none ∧ exK fc wf b e1 .done = .nx (enc (step s a) t') ∧ J (step s a))) →
    (∃ p a r d e2, as = p ++ a :: r ∧ out (p.foldl step s0) a = some d ∧ (∀ i (hi : i < p.length), out ((p.take i).foldl step s0) p[i] = none) ∧ evFor (fun d => asgN tn [d]) (ex fc wf b) (as.map da) (enc s0 t0) = .ret d e2) ∨
    ∃ t', (∀ i (hi : i < as.length), out ((as.take i).foldl step s0) as[i] = none) ∧ evFor (fun d => asgN tn [d]) (ex fc wf b) (as.map da) (enc s0 t0) = .nx (enc (as.foldl step s0) t') ∧ J (as.foldl step s0)
  | [], s0, t0, hj, _ => .inr ⟨t0, (fun i hi => absurd hi (Nat.not_lt_zero _)), rfl, hj⟩
  | a :: as, s0, t0, hj, h => by
    obtain ⟨e1, h1, ⟨d, e2, ho, h2⟩ | ⟨t', ho, h2, h3⟩⟩ := h s0 t0 a List.mem_cons_self hj
    · refine .inl ⟨[], a, as, d, e2, rfl, ho, (fun i hi => absurd hi (Nat.not_lt_zero _)), ?_⟩
      have h2 : ex fc wf b e1 = _ := h2
      simp only [List.map_cons, evFor, h1, h2]
    · have h2 : ex fc wf b e1 = _ := h2
      rcases for_first enc da step J out as (step s0 a) t' h3 fun s t x hx => h s t x (List.mem_cons_of_mem _ hx) with ⟨p, x, r, d, e2, q1, q2, q3, q4⟩ | ⟨t2, q1, q2, q3⟩
      · refine .inl ⟨a :: p, x, r, d, e2, by rw [q1]; rfl, q2, fun i hi => ?_, by simp only [List.map_cons, evFor, h1, h2, q4]⟩
        cases i with
        | zero => exact ho
        | succ i => exact q3 i (by simpa using hi)
      · refine .inr ⟨t2, fun i hi => ?_, by simp only [List.map_cons, evFor, h1, h2, List.foldl_cons, q2], q3⟩
        cases i with
        | zero => exact ho
        | succ i => exact q1 i (by simpa using hi)
/-- a while by a measure -/
theorem while_inv {c : E} (I : Nat → List D → Prop) (Q : List D → Prop) {m n : Nat} {env : List D} (hmn : m < n) (h0 : I m env)
    (h : ∀ m e, I m e → (∃ e1, evK fc 0 c e .top = .ret (.tup [.bl false]) e1 ∧ Q e1) ∨ ∃ m' e1 e2, m = m' + 1 ∧ evK fc 0 c e .top = .ret (.tup [.bl true]) e1 ∧ exK fc wf b e1 .done = .nx e2 ∧ I m' e2) :
    ∃ e, evWhile (ev fc c) (ex fc wf b) n env = .nx e ∧ Q e :=
  evWhile_inv (fb := ev fc c) (fs := ex fc wf b) I Q m n hmn h0 fun m e he => by
    rcases h m e he with ⟨e1, h1, h2⟩ | ⟨m', e1, e2, h1, h2, h3, h4⟩
    · exact .inl ⟨e1, ev_of h1, h2⟩
    · exact .inr ⟨m', e1, e2, h1, ev_of h2, .inl h3, h4⟩
/-- what stands behind a body that goes on -/
def nxP (P : List D → Prop) : Out → Prop
  | .nx e => P e
  | _ => False
theorem nxP_nx {P : List D → Prop} {e : List D} : nxP P (.nx e) = P e := id rfl
theorem nxP_of {P : List D → Prop} {o : Out} (h : nxP P o) : ∃ e, o = .nx e ∧ P e := by
  cases o <;> first | exact h.elim | exact ⟨_, rfl, h⟩
theorem while_of {c : E} {n : Nat} {env : List D} {o : Out} (hw : evWhile (ev fc c) (ex fc wf b) n env = o) (I : Nat → List D → Prop) (Q : List D → Prop) (m : Nat) (hmn : m < n) (h0 : I m env)
    (h : ∀ m e, I m e → ∃ p, evK fc 0 c e .top = .ret (.tup [.bl p]) e ∧ (p = false → Q e) ∧ (p = true → ∃ m', m = m' + 1 ∧ nxP (I m') (exK fc wf b e .done))) :
    ∃ e, o = .nx e ∧ Q e := by
  obtain ⟨e, h1, h2⟩ := while_inv I Q hmn h0 fun m e he => by
    obtain ⟨p, h1, h2, h3⟩ := h m e he
    cases p with
    | false => exact .inl ⟨_, h1, h2 rfl⟩
    | true =>
      obtain ⟨m', h4, h5⟩ := h3 rfl
      obtain ⟨e2, h6, h7⟩ := nxP_of h5
      exact .inr ⟨m', _, e2, h4, h1, h6, h7⟩
  exact ⟨e, hw.symm.trans h1, h2⟩
theorem for_of {ds env : List D} {o : Out} (hf : evFor (fun d => asgN tn [d]) (ex fc wf b) ds env = o) (I : Nat → List D → Prop) (h0 : I 0 env) (h : ∀ i d e, ds[i]? = some d → I i e → ∃ e1, asgN tn [d] e = some e1 ∧ nxP (I (i + 1)) (exK fc wf b e1 .done)) :
    ∃ e, o = .nx e ∧ I ds.length e := by
  obtain ⟨e, h1, h2⟩ := for_inv I h0 fun i d e hd he => by
    obtain ⟨e1, q1, q2⟩ := h i d e hd he
    obtain ⟨e2, q3, q4⟩ := nxP_of q2
    exact ⟨e1, e2, q1, q3, q4⟩
  exact ⟨e, hf.symm.trans h1, h2⟩
/-- over a range, by its place -/
theorem up_of {lo : Int} {n : Nat} {env : List D} {o : Out} (hf : evFor (fun d => asgN tn [d]) (ex fc wf b) (intsD (upFrom lo n)) env = o) (I : Nat → List D → Prop) (h0 : I 0 env) (h : ∀ (i : Nat) e, i < n → I i e → ∃ e1, asgN tn [.int (lo + i)] e = some e1 ∧ nxP (I (i + 1)) (exK fc wf b e1 .done)) :
    ∃ e, o = .nx e ∧ I n e := by
  have := for_of hf I h0 fun i d e hd he => by
    have hi : i < n := by
      have := (List.getElem?_eq_some_iff.mp hd).1
      rwa [ints_len, up_len] at this
    have hd' : d = .int (lo + (i : Int)) := by
      simp only [intsD, List.getElem?_map, up_get hi, Option.map_some, Option.some.injEq] at hd
      exact hd.symm
    subst hd'
    exact h i e hi he
  rwa [ints_len, up_len] at this
theorem fold_of {σ τ α : Type} {ds env : List D} {o : Out} (hf : evFor (fun d => asgN tn [d]) (ex fc wf b) ds env = o) (enc : σ → τ → List D) (da : α → D) (step : σ → α → σ) (J : σ → Prop) (as : List α) (s0 : σ) (t0 : τ) (hd : ds = as.map da) (he : env = enc s0 t0) (hj : J s0) (h : ∀ s t a, a ∈ as → J s → ∃ e1, asgN tn [da a] (enc s t) = some e1 ∧ nxP (fun e2 => (∃ t', e2 = enc (step s a) t') ∧ J (step s a)) (exK fc wf b e1 .done)) :
    ∃ t', o = .nx (enc (as.foldl step s0) t') ∧ J (as.foldl step s0) := by
  subst hd he
  obtain ⟨e, h1, h2⟩ := for_fold enc da step J as s0 t0 hj fun s t a ha hs => by
    obtain ⟨e1, q1, q2⟩ := h s t a ha hs
    obtain ⟨e2, q3, ⟨t', rfl⟩, q4⟩ := nxP_of q2
    exact ⟨t', e1, q1, q3, q4⟩
  exact ⟨e, hf.symm.trans h1, h2⟩
/-- a display over a map -/
theorem comp_map {α : Type} {ts : List Nat} {c el : E} {e env : List D} {k : KE} (da : α → D) (g : α → D) (p : α → Bool) {as : List α} (hl : as.length ≤ 16777216) (he : wipeE ts e = env)
    (h : ∀ a ∈ as, ∃ e1, asgN tn [da a] env = some e1 ∧ evK fc 0 c e1 .top = .ret (.tup [.bl (p a)]) e1 ∧ (p a = true → evK fc 0 el e1 .top = .ret (.tup [g a]) e1) ∧ wipeE ts e1 = env) :
    compK fc wf ts tn c el (some (as.map da)) e k = apE fc wf k (.ok [.lst ((as.filter p).map g)] (setMany env ts (ts.map fun i => e.getD i .unset))) := by
  subst he
  refine a_compK (by rw [List.length_map]; exact hl) ?_
  induction as with
  | nil => rfl
  | cons a as ih =>
    obtain ⟨e1, h1, h2, h3, h4⟩ := h a List.mem_cons_self
    have ih := ih (by rw [List.length_cons] at hl; omega) fun x hx => h x (List.mem_cons_of_mem _ hx)
    have h2 := ev_of h2
    simp only [List.map_cons, evComp, h1, h2]
    cases hp : p a with
    | true => simp only [ev_of (h3 hp), h4, ih, List.filter_cons, hp, if_true, List.map_cons]
    | false => simp only [h4, ih, List.filter_cons, hp, Bool.false_eq_true, if_false]
theorem comp_all {α : Type} {ts : List Nat} {el : E} {e env : List D} {k : KE} (da : α → D) (g : α → D) {as : List α} (hl : as.length ≤ 16777216) (he : wipeE ts e = env)
    (h : ∀ a ∈ as, ∃ e1, asgN tn [da a] env = some e1 ∧ evK fc 0 el e1 .top = .ret (.tup [g a]) e1 ∧ wipeE ts e1 = env) :
    compK fc wf ts tn (.con (.bl true)) el (some (as.map da)) e k = apE fc wf k (.ok [.lst (as.map g)] (setMany env ts (ts.map fun i => e.getD i .unset))) := by
  have := comp_map (fc := fc) (wf := wf) (tn := tn) (c := .con (.bl true)) (el := el) (k := k) da g (fun _ => true) hl he fun a ha => by
    obtain ⟨e1, h1, h2, h3⟩ := h a ha
    exact ⟨e1, h1, rfl, fun _ => h2, h3⟩
  rw [this, List.filter_eq_self.mpr (by simp)]
theorem comp_allD {ts : List Nat} {el : E} {e env : List D} {k : KE} (g : D → D) {ds : List D} (hl : ds.length ≤ 16777216) (he : wipeE ts e = env)
    (h : ∀ a ∈ ds, ∃ e1, asgN tn [a] env = some e1 ∧ evK fc 0 el e1 .top = .ret (.tup [g a]) e1 ∧ wipeE ts e1 = env) :
    compK fc wf ts tn (.con (.bl true)) el (some ds) e k = apE fc wf k (.ok [.lst (ds.map g)] (setMany env ts (ts.map fun i => e.getD i .unset))) := by
  have := comp_all (fc := fc) (wf := wf) (tn := tn) (el := el) (k := k) id g (as := ds) hl he h
  rwa [List.map_id] at this
theorem comp_mapD {ts : List Nat} {c el : E} {e env : List D} {k : KE} (g : D → D) (p : D → Bool) {ds : List D} (hl : ds.length ≤ 16777216) (he : wipeE ts e = env)
    (h : ∀ a ∈ ds, ∃ e1, asgN tn [a] env = some e1 ∧ evK fc 0 c e1 .top = .ret (.tup [.bl (p a)]) e1 ∧ (p a = true → evK fc 0 el e1 .top = .ret (.tup [g a]) e1) ∧ wipeE ts e1 = env) :
    compK fc wf ts tn c el (some ds) e k = apE fc wf k (.ok [.lst ((ds.filter p).map g)] (setMany env ts (ts.map fun i => e.getD i .unset))) := by
  have := comp_map (fc := fc) (wf := wf) (tn := tn) (c := c) (el := el) (k := k) id g p (as := ds) hl he h
  rwa [List.map_id] at this
/-- over whole numbers -/
theorem comp_ints {ts : List Nat} {el : E} {e env : List D} {k : KE} (g : Int → D) {as : List Int} (hl : as.length ≤ 16777216) (he : wipeE ts e = env)
    (h : ∀ a ∈ as, ∃ e1, asgN tn [.int a] env = some e1 ∧ evK fc 0 el e1 .top = .ret (.tup [g a]) e1 ∧ wipeE ts e1 = env) :
    compK fc wf ts tn (.con (.bl true)) el (some (intsD as)) e k = apE fc wf k (.ok [.lst (as.map g)] (setMany env ts (ts.map fun i => e.getD i .unset))) :=
  comp_all D.int g hl he h
theorem comp_intsF {ts : List Nat} {c el : E} {e env : List D} {k : KE} (g : Int → D) (p : Int → Bool) {as : List Int} (hl : as.length ≤ 16777216) (he : wipeE ts e = env)
    (h : ∀ a ∈ as, ∃ e1, asgN tn [.int a] env = some e1 ∧ evK fc 0 c e1 .top = .ret (.tup [.bl (p a)]) e1 ∧ (p a = true → evK fc 0 el e1 .top = .ret (.tup [g a]) e1) ∧ wipeE ts e1 = env) :
    compK fc wf ts tn c el (some (intsD as)) e k = apE fc wf k (.ok [.lst ((as.filter p).map g)] (setMany env ts (ts.map fun i => e.getD i .unset))) :=
  comp_map D.int g p hl he h
/-- what stands behind an expression -/
def rtP (Q : D → List D → Prop) : Out → Prop
  | .ret (.tup [d]) e => Q d e
  | _ => False
theorem rtP_ret {Q : D → List D → Prop} {d : D} {e : List D} : rtP Q (.ret (.tup [d]) e) = Q d e := id rfl
theorem rtP_of {Q : D → List D → Prop} {o : Out} (h : rtP Q o) : ∃ d e, o = .ret (.tup [d]) e ∧ Q d e := by
  unfold rtP at h
  split at h
  · exact ⟨_, _, rfl, h⟩
  · exact h.elim
/-- a display whose items change what the frame owns -/
theorem comp_st {ts : List Nat} {el : E} {e : List D} {k : KE} {ds : List D} (I : Nat → List D → Prop) (P : D → Prop) (hl : ds.length ≤ 16777216) (h0 : I 0 (wipeE ts e))
    (h : ∀ i x e', ds[i]? = some x → I i e' → ∃ e1, asgN tn [x] e' = some e1 ∧ rtP (fun d e2 => P d ∧ I (i + 1) (wipeE ts e2)) (evK fc 0 el e1 .top)) :
    ∃ ys e2, compK fc wf ts tn (.con (.bl true)) el (some ds) e k = apE fc wf k (.ok [.lst ys] (setMany e2 ts (ts.map fun i => e.getD i .unset))) ∧ ys.length = ds.length ∧ (∀ y ∈ ys, P y) ∧ I ds.length e2 := by
  have key : ∀ (ds : List D) (n : Nat) (e0 : List D), I n e0 → (∀ i x e', ds[i]? = some x → I (n + i) e' → ∃ e1, asgN tn [x] e' = some e1 ∧ rtP (fun d e2 => P d ∧ I (n + i + 1) (wipeE ts e2)) (evK fc 0 el e1 .top)) →
      ∃ ys e2, evComp (ev fc (.con (.bl true))) (ev fc el) ts tn ds e0 = .ok ys e2 ∧ ys.length = ds.length ∧ (∀ y ∈ ys, P y) ∧ I (n + ds.length) e2 := by
    intro ds
    induction ds with
    | nil => exact fun n e0 h0 _ => ⟨[], e0, rfl, rfl, (fun y z => by cases z), h0⟩
    | cons x ds ih =>
      intro n e0 h0 h
      obtain ⟨e1, h1, h2⟩ := h 0 x e0 rfl h0
      obtain ⟨d, e2, h3, h4, h5⟩ := rtP_of h2
      obtain ⟨ys, e3, h6, h7, h8, h9⟩ := ih (n + 1) (wipeE ts e2) h5 fun i x' e' hx he => by
        have := h (i + 1) x' e' (by simpa using hx) (by rwa [show n + (i + 1) = n + 1 + i by omega])
        rwa [show n + (i + 1) + 1 = n + 1 + i + 1 by omega] at this
      refine ⟨d :: ys, e3, ?_, by simp [h7], fun y hy => (List.mem_cons.mp hy).elim (fun z => z ▸ h4) (h8 y), by rw [List.length_cons, show n + (ds.length + 1) = n + 1 + ds.length by omega]; exact h9⟩
      have h10 := ev_of h3
      have h11 : ev fc (.con (.bl true)) e1 = .ok [.bl true] e1 := rfl
      simp only [evComp, h1, h11, h10, h6]
  obtain ⟨ys, e2, h1, h2, h3, h4⟩ := key ds 0 (wipeE ts e) h0 fun i x e' hx he => by
    rw [Nat.zero_add] at *
    exact h i x e' hx he
  rw [Nat.zero_add] at h4
  exact ⟨ys, e2, a_compK hl h1, h2, h3, h4⟩
end
end Eg

end
section
namespace Eg
open PySem
section
variable {fc : Nat → List D → CR} {wf : Nat} {env e : List D} {d : D} {a b x y z w : E} {k : KE} {q : KS} {i : Nat} {o1 o2 o3 : BI}
/-! ### a call with a list just made -/
def cfK (fc : Nat → List D → CR) (wf : Nat) (r : CR) (e : List D) (k : KE) : Out := match r with
  | .ok d _ => apE fc wf k (.ok [d] e)
  | .exc c _ => apE fc wf k (.exc c e)
  | .no => apE fc wf k .no
theorem k_callF {f : Nat} : evK fc wf (.callF f x a) env k = evK fc wf x env (.cF1 f a k) := id rfl
theorem a_cF1 {f : Nat} {d : D} : apE fc wf (.cF1 f a k) (.ok [d] e) = evK fc wf a e (.cF2 f d k) := id rfl
theorem a_cF2 {f : Nat} {d : D} {ds : List D} : apE fc wf (.cF2 f d k) (.ok ds e) = cfK fc wf (fc f (d :: ds)) e k := by
  show apE fc wf k (match fc f (d :: ds) with | .ok r _ => .ok [r] e | .exc c _ => .exc c e | .no => .no) = _
  unfold cfK
  cases fc f (d :: ds) <;> rfl
theorem cfK_ok {d : D} {ps : List D} : cfK fc wf (.ok d ps) e k = apE fc wf k (.ok [d] e) := id rfl
theorem cfK_exc {c : Nat} {ps : List D} : cfK fc wf (.exc c ps) e k = apE fc wf k (.exc c e) := id rfl
/-! ### lists of lists -/
theorem k_extN : exK fc wf (.extN i a) env q = exK fc wf (.ext i a) env q := id rfl
theorem k_lst1 : evK fc wf (.lst1 x) env k = evK fc wf x env (.l1 k) := id rfl
theorem a_l1 {d : D} : apE fc wf (.l1 k) (.ok [d] e) = apE fc wf k (.ok [.lst [d]] e) := id rfl
theorem k_addN : evK fc wf (.addN x y) env k = evK fc wf x env (.ad1 y k) := id rfl
theorem a_ad1 {d : D} : apE fc wf (.ad1 y k) (.ok [d] e) = evK fc wf y e (.ad2 d k) := id rfl
theorem a_ad2 {d d2 : D} : apE fc wf (.ad2 d k) (.ok [d2] e) = bopK fc wf (addF d d2) e k := by
  show apE fc wf k (match addF d d2 with | some b => .ok [b] e | none => .no) = _
  unfold bopK
  cases addF d d2 <;> rfl
theorem addF_l {xs ys : List D} (h : xs.length + ys.length ≤ 16777216) : addF (.lst xs) (.lst ys) = some (.lst (xs ++ ys)) := by
  show (if xs.length + ys.length ≤ maxLen then some (D.lst (xs ++ ys)) else none) = _
  rw [if_pos (by unfold maxLen; exact h)]
/-! ### x > e -/
def gtG (fc : Nat → List D → CR) (wf : Nat) (u : Bool) (i : Nat) (a : E) (e : List D) (k : KE) : Out := if u then apE fc wf k .no else evK fc wf a e (.gtL i k)
theorem k_gtL : evK fc wf (.gtL i a) env k = gtG fc wf (isU (env.getD i .unset)) i a env k := by
  show apE fc wf k (ev fc (.gtL i a) env) = _
  unfold gtG
  simp only [ev]
  generalize env.getD i .unset = d
  cases d <;> rfl
theorem a_gtG : gtG fc wf false i a env k = evK fc wf a env (.gtL i k) := id rfl
theorem a_gtL {d : D} : apE fc wf (.gtL i k) (.ok [d] e) = bopK fc wf (gtF (e.getD i .unset) d) e k := by
  show apE fc wf k (match gtF (e.getD i .unset) d with | some b => .ok [b] e | none => .no) = _
  unfold bopK
  cases gtF (e.getD i .unset) d <;> rfl
theorem gtF_i {l r : List Int} : gtF (.lst (intsD l)) (.lst (intsD r)) = some (.bl (lexLt r l)) := by
  unfold gtF
  have h : ∀ l : List Int, toInts (intsD l) = some l := by
    intro l
    induction l with
    | nil => rfl
    | cons i l ih =>
      show (toInts (intsD l)).map (i :: ·) = _
      rw [ih]
      rfl
  simp only [h]
/-! ### x.pop(k), x.pop() -/
def popG (fc : Nat → List D → CR) (wf : Nat) (u : Bool) (i : Nat) (a : E) (e : List D) (k : KE) : Out := if u then evK fc wf a e (.pop i k) else apE fc wf k .no
theorem k_pop : evK fc wf (.pop i a) env k = popG fc wf (isLst (env.getD i .unset)) i a env k := by
  show apE fc wf k (ev fc (.pop i a) env) = _
  unfold popG
  simp only [ev]
  cases env.getD i .unset <;> exact id rfl
theorem a_popG : popG fc wf true i a env k = evK fc wf a env (.pop i k) := id rfl
def popK (fc : Nat → List D → CR) (wf : Nat) (i : Nat) (j : Int) (x : D) (e : List D) (k : KE) : Out := match x with
  | .lst xs => match L2.ixN xs.length j with
    | some n => if inLim j then apE fc wf k (.ok [xs.getD n .unset] (e.set i (.lst (xs.eraseIdx n)))) else apE fc wf k .no
    | none => apE fc wf k .no
  | _ => apE fc wf k .no
theorem a_pop {j : Int} : apE fc wf (.pop i k) (.ok [.int j] e) = popK fc wf i j (e.getD i .unset) e k := by
  unfold popK
  show apE fc wf k (R.bind (.ok [.int j] e) _) = _
  simp only [R.bind]
  cases e.getD i .unset with
  | lst xs =>
    simp only []
    cases L2.ixN xs.length j with
    | none => exact id rfl
    | some n =>
      simp only []
      cases inLim j <;> exact id rfl
  | _ => exact id rfl
theorem popK_z {j : Int} {xs : List Int} (h0 : 0 ≤ j) (h1 : j < xs.length) (h2 : xs.length ≤ 1000000) : popK fc wf i j (.lst (intsD xs)) e k = apE fc wf k (.ok [.int (xs.getD j.toNat 0)] (e.set i (.lst (intsD (xs.eraseIdx j.toNat))))) := by
  have hl : j < ((intsD xs).length : Nat) := by rw [ints_len]; exact h1
  unfold popK
  simp only [ixN_toNat h0 hl, inLim_of (by omega : -4611686018427387904 ≤ j) (by omega), if_true]
  have e1 : (intsD xs).getD j.toNat .unset = .int (xs.getD j.toNat 0) := by
    rw [List.getD_eq_getElem?_getD, List.getD_eq_getElem?_getD, intsD, List.getElem?_map, List.getElem?_eq_getElem (by omega : j.toNat < xs.length)]
    rfl
  have e2 : (intsD xs).eraseIdx j.toNat = intsD (xs.eraseIdx j.toNat) := by
    unfold intsD
    have : ∀ (l : List Int) (n : Nat), (l.map D.int).eraseIdx n = (l.eraseIdx n).map D.int := by
      intro l
      induction l with
      | nil => intro n; rfl
      | cons x l ih => intro n; cases n with
        | zero => rfl
        | succ n => simp only [List.map_cons, List.eraseIdx_cons_succ, ih]
    exact this _ _
  rw [e1, e2]
/-! ### three comparisons in a row -/
theorem k_chn3 : evK fc wf (.chn3 o1 o2 o3 x y z w) env k = evK fc wf x env (.c31 o1 o2 o3 y z w k) := id rfl
theorem a_c31 : apE fc wf (.c31 o1 o2 o3 y z w k) (.ok [d] e) = evK fc wf y e (.c32 o1 o2 o3 d z w k) := id rfl
def c3K (fc : Nat → List D → CR) (wf : Nat) (v : Option D) (p q : BI) (d : D) (z w : E) (e : List D) (k : KE) : Out := match v with
  | some (.bl true) => evK fc wf z e (.c33 p q d w k)
  | some (.bl false) => apE fc wf k (.ok [.bl false] e)
  | _ => apE fc wf k .no
theorem a_c32 {d2 : D} : apE fc wf (.c32 o1 o2 o3 d z w k) (.ok [d2] e) = c3K fc wf (F2 o1 d d2) o2 o3 d2 z w e k := by
  show apE fc wf k (match F2 o1 d d2 with | some (.bl true) => _ | some (.bl false) => _ | _ => _) = _
  unfold c3K
  generalize F2 o1 d d2 = v
  cases v with
  | none => exact id rfl
  | some v => cases v with
    | bl b => cases b <;> exact id rfl
    | _ => exact id rfl
theorem a_c3K {p : Bool} : c3K fc wf (some (.bl p)) o2 o3 d z w e k = if p = true then evK fc wf z e (.c33 o2 o3 d w k) else apE fc wf k (.ok [.bl false] e) := by cases p <;> exact id rfl
def c3L (fc : Nat → List D → CR) (wf : Nat) (v : Option D) (q : BI) (d : D) (w : E) (e : List D) (k : KE) : Out := match v with
  | some (.bl true) => evK fc wf w e (.c34 q d k)
  | some (.bl false) => apE fc wf k (.ok [.bl false] e)
  | _ => apE fc wf k .no
theorem a_c33 {d2 : D} : apE fc wf (.c33 o2 o3 d w k) (.ok [d2] e) = c3L fc wf (F2 o2 d d2) o3 d2 w e k := by
  show apE fc wf k (match F2 o2 d d2 with | some (.bl true) => _ | some (.bl false) => _ | _ => _) = _
  unfold c3L
  generalize F2 o2 d d2 = v
  cases v with
  | none => exact id rfl
  | some v => cases v with
    | bl b => cases b <;> exact id rfl
    | _ => exact id rfl
theorem a_c3L {p : Bool} : c3L fc wf (some (.bl p)) o3 d w e k = if p = true then evK fc wf w e (.c34 o3 d k) else apE fc wf k (.ok [.bl false] e) := by cases p <;> exact id rfl
theorem a_c34 {d2 : D} : apE fc wf (.c34 o3 d k) (.ok [d2] e) = chK2 fc wf (F2 o3 d d2) k e := by
  show apE fc wf k (match F2 o3 d d2 with | some (.bl k) => .ok [.bl k] e | _ => .no) = _
  unfold chK2
  generalize F2 o3 d d2 = v
  cases v with
  | none => exact id rfl
  | some v => cases v <;> exact id rfl
/-! ### x.reverse() -/
def revK (fc : Nat → List D → CR) (wf : Nat) (i : Nat) (x : D) (e : List D) (q : KS) : Out := match x with
  | .lst xs => apS fc wf q (.nx (e.set i (.lst xs.reverse)))
  | _ => apS fc wf q .no
theorem k_rev : exK fc wf (.rev i) env q = revK fc wf i (env.getD i .unset) env q := by
  show apS fc wf q (ex fc wf (.rev i) env) = _
  unfold revK
  simp only [ex]
  cases env.getD i .unset <;> exact id rfl
theorem revK_l {xs : List D} : revK fc wf i (.lst xs) e q = apS fc wf q (.nx (e.set i (.lst xs.reverse))) := id rfl
/-! ### x[k] += e -/
def augsG (fc : Nat → List D → CR) (wf : Nat) (u : Bool) (i : Nat) (a : E) (o : BI) (b : E) (e : List D) (q : KS) : Out := if u then apS fc wf q .no else evK fc wf a e (.augs1 i o b q)
theorem k_augs : exK fc wf (.augs i a o1 b) env q = augsG fc wf (isU (env.getD i .unset)) i a o1 b env q := by
  show apS fc wf q (ex fc wf (.augs i a o1 b) env) = _
  unfold augsG
  simp only [ex]
  cases isU (env.getD i .unset) <;> exact id rfl
theorem a_augsG : augsG fc wf false i a o1 b env q = evK fc wf a env (.augs1 i o1 b q) := id rfl
def augs1K (fc : Nat → List D → CR) (wf : Nat) (i : Nat) (o : BI) (b : E) (j : Int) (x : D) (e : List D) (q : KS) : Out := match x with
  | .lst xs => match L2.atI xs j with
    | some (.int a) => if 0 ≤ j then evK fc wf b e (.augs2 i o j a q) else apS fc wf q .no
    | _ => apS fc wf q .no
  | _ => apS fc wf q .no
theorem a_augs1 {j : Int} : apE fc wf (.augs1 i o1 b q) (.ok [.int j] e) = augs1K fc wf i o1 b j (e.getD i .unset) e q := by
  unfold augs1K
  show apS fc wf q (R.out (.ok [.int j] e) _) = _
  simp only [R.out]
  cases e.getD i .unset with
  | lst xs =>
    simp only []
    cases L2.atI xs j with
    | none => exact id rfl
    | some v =>
      cases v with
      | int a =>
        simp only []
        by_cases h : 0 ≤ j
        · rw [if_pos h, if_pos h]; exact id rfl
        · rw [if_neg h, if_neg h]
      | _ => exact id rfl
  | _ => exact id rfl
theorem augs1K_z {j : Int} {xs : List Int} (h0 : 0 ≤ j) (h1 : j < xs.length) : augs1K fc wf i o1 b j (.lst (intsD xs)) e q = evK fc wf b e (.augs2 i o1 j (xs.getD j.toNat 0) q) := by
  unfold augs1K
  simp only [atI_ints h0 h1, h0, if_true]
def augs2K (fc : Nat → List D → CR) (wf : Nat) (i : Nat) (j v : Int) (x : D) (e : List D) (q : KS) : Out := match x with
  | .lst ys => match L2.ixN ys.length j with
    | some n => apS fc wf q (.nx (e.set i (.lst (ys.set n (.int v)))))
    | none => apS fc wf q .no
  | _ => apS fc wf q .no
theorem a_augs2 {j m n : Int} : apE fc wf (.augs2 i .add j m q) (.ok [.int n] e) = augs2K fc wf i j (m + n) (e.getD i .unset) e q := by
  unfold augs2K
  show apS fc wf q (R.out (.ok [.int n] e) _) = _
  simp only [R.out]
  cases e.getD i .unset with
  | lst xs =>
    simp only []
    cases L2.ixN xs.length j <;> exact id rfl
  | _ => exact id rfl
theorem augs2K_z {j v : Int} {xs : List Int} (h0 : 0 ≤ j) (h1 : j < xs.length) : augs2K fc wf i j v (.lst (intsD xs)) e q = apS fc wf q (.nx (e.set i (.lst (intsD (xs.set j.toNat v))))) := by
  have hl : j < ((intsD xs).length : Nat) := by rw [ints_len]; exact h1
  unfold augs2K
  simp only [ixN_toNat h0 hl, ints_set]
theorem min_l {x : Int} {xs : List Int} : bop .minL [.lst (intsD (x :: xs))] = some (.int (xs.foldl (fun a b => if b < a then b else a) x)) := by
  have h : toInts (intsD (x :: xs)) = some (x :: xs) := by
    have : ∀ l : List Int, toInts (intsD l) = some l := by
      intro l
      induction l with
      | nil => rfl
      | cons y l ih =>
        show (toInts (intsD l)).map (y :: ·) = _
        rw [ih]
        rfl
    exact this _
  show (match toInts (intsD (x :: xs)) with
    | some (x :: r) => some (D.int (r.foldl (fun a b => if b < a then b else a) x))
    | _ => none) = _
  rw [h]
end
/-! ### rows that are owned -/
def rowP (i : Nat) (N R : List D → Prop) : Out → Prop
  | .nx e => N e
  | .rh j e => j = i ∧ R e
  | _ => False
theorem rowP_nx {i : Nat} {N R : List D → Prop} {e : List D} : rowP i N R (.nx e) = N e := id rfl
theorem rowP_rh {i j : Nat} {N R : List D → Prop} {e : List D} : rowP i N R (.rh j e) = (j = i ∧ R e) := id rfl
theorem rows_of {fc : Nat → List D → CR} {wf t i : Nat} {b : S} {o : Out} {done todo env : List D} (hq : evForN (ex fc wf b) t i done todo env = o) (I : List D → List D → List D → Prop) (Q : Out → Prop) (h0 : I done todo env)
    (hs : ∀ done d rest e, I done (d :: rest) e → rowP i (fun e2 => e2.getD i .unset = .unset ∧ isU (e2.getD t .unset) = false ∧ I (done ++ [e2.getD t .unset]) rest (e2.set t .unset)) (fun e2 => e2.getD i .unset = .unset ∧ isU (e2.getD t .unset) = false ∧ Q (.ret (.lst (done ++ e2.getD t .unset :: rest)) (e2.set t .unset))) (exK fc wf b (e.set t d) .done))
    (he : ∀ done e, I done [] e → Q (.nx (e.set i (.lst done)))) : Q o := by
  rw [← hq]
  refine forN_of I Q (fun done d rest e h => ?_) he todo done env h0
  have := hs done d rest e h
  unfold exK at this
  rw [s_done] at this
  cases eo : ex fc wf b (e.set t d) with
  | nx e2 => rw [eo] at this; exact .inl ⟨e2, _, rfl, this.1, rfl, this.2.1, this.2.2⟩
  | rh j e2 =>
    rw [eo] at this
    obtain ⟨rfl, this⟩ := this
    exact .inr ⟨e2, _, rfl, this.1, rfl, this.2.1, this.2.2⟩
  | _ => rw [eo] at this; exact this.elim
end Eg

end
section
namespace UC
open Eg
/-! ### plain lists -/
theorem insI_perm {x : Int} : ∀ {l : List Int}, (insI x l).Perm (x :: l)
  | [] => .refl _
  | y :: r => by
    unfold insI
    split
    · exact .refl _
    · exact (List.Perm.cons y insI_perm).trans (.swap x y r)
theorem sortI_perm : ∀ {l : List Int}, (sortI l).Perm l
  | [] => .refl _
  | x :: r => insI_perm.trans (List.Perm.cons x sortI_perm)
theorem insI_sorted {x : Int} : ∀ {l : List Int}, l.Pairwise (· ≤ ·) → (insI x l).Pairwise (· ≤ ·)
  | [], _ => by simp [insI]
  | y :: r, h => by
    unfold insI
    split
    · rename_i hxy
      refine List.pairwise_cons.mpr ⟨fun z hz => ?_, h⟩
      rcases List.mem_cons.mp hz with rfl | hz
      · exact hxy
      · exact Int.le_trans hxy ((List.pairwise_cons.mp h).1 z hz)
    · rename_i hxy
      have h' := List.pairwise_cons.mp h
      refine List.pairwise_cons.mpr ⟨fun z hz => ?_, insI_sorted h'.2⟩
      rcases List.mem_cons.mp (insI_perm.mem_iff.mp hz) with rfl | hz
      · omega
      · exact h'.1 z hz
theorem sortI_sorted : ∀ {l : List Int}, (sortI l).Pairwise (· ≤ ·)
  | [] => .nil
  | x :: r => insI_sorted sortI_sorted
theorem sorted_eq {l r : List Int} (h1 : l.Pairwise (· ≤ ·)) (h2 : r.Pairwise (· ≤ ·)) (h : l.Perm r) : l = r :=
  List.Perm.eq_of_pairwise (fun a b _ _ h1 h2 => Int.le_antisymm h1 h2) h1 h2 h
theorem sortI_eq_iff {l r : List Int} (h : r.Pairwise (· ≤ ·)) : sortI l = r ↔ l.Perm r :=
  ⟨fun e => sortI_perm.symm.trans (.of_eq e), fun p => sorted_eq sortI_sorted h (sortI_perm.trans p)⟩
theorem up_lt : ∀ {n : Nat} {lo : Int}, (upFrom lo n).Pairwise (· < ·)
  | 0, _ => .nil
  | n + 1, lo => by
    refine List.pairwise_cons.mpr ⟨fun z hz => ?_, up_lt⟩
    have := mem_up.mp hz
    omega
theorem up_le {n : Nat} {lo : Int} : (upFrom lo n).Pairwise (· ≤ ·) := up_lt.imp fun h => Int.le_of_lt h
theorem up_nodup {n : Nat} {lo : Int} : (upFrom lo n).Nodup := up_lt.imp fun h => Int.ne_of_lt h
/-- as many places as things: each thing has its place -/
theorem perm_of_sub {α : Type} [DecidableEq α] : ∀ {a b : List α}, a.Nodup → (∀ x ∈ a, x ∈ b) → b.length ≤ a.length → a.Perm b
  | [], b, _, _, h => by
    rw [List.length_eq_zero_iff.mp (Nat.le_zero.mp h)]
  | x :: a, b, hn, hs, hl => by
    have hx : x ∈ b := hs x List.mem_cons_self
    have hn' := List.nodup_cons.mp hn
    have := perm_of_sub (a := a) (b := b.erase x) hn'.2 (fun y hy => by
      have hne : y ≠ x := fun e => hn'.1 (e ▸ hy)
      exact (List.mem_erase_of_ne hne).mpr (hs y (List.mem_cons_of_mem _ hy))) (by
      rw [List.length_erase_of_mem hx]
      simp only [List.length_cons] at hl
      omega)
    exact (List.Perm.cons x this).trans (List.perm_cons_erase hx).symm
theorem swap_perm {l : List Int} {i j : Nat} (hi : i < l.length) (hj : j < l.length) : ((l.set i (l.getD j 0)).set j (l.getD i 0)).Perm l := by
  have h := Array.swap_perm (xs := l.toArray) (i := i) (j := j) (by simpa using hi) (by simpa using hj)
  have h2 := h.toList
  rw [Array.toList_swap] at h2
  simpa [List.getD_eq_getElem?_getD, hi, hj] using h2
theorem up_succ {lo : Int} {n : Nat} : upFrom lo (n + 1) = upFrom lo n ++ [lo + (n : Int)] := by
  rw [up_eq, up_eq, List.range_succ, List.map_append]
  rfl
theorem up_shift {lo c : Int} {n : Nat} : upFrom (lo + c) n = (upFrom lo n).map (· + c) := by
  rw [up_eq, up_eq, List.map_map]
  apply List.map_congr_left
  intro a _
  simp only [Function.comp]
  omega
theorem up_zero {lo : Int} : upFrom lo 0 = [] := rfl
/-! ### pairs -/
def prsAt (n : Nat) (i : Int) : List (Int × Int) := (upFrom (i + 1) ((n : Int) - i).toNat).map fun j => (i, j)
def prs (n : Nat) : List (Int × Int) := (upFrom 1 n).flatMap (prsAt n)
theorem prs_less {n : Nat} (h : 1 ≤ n) : (upFrom 1 (n - 1)).flatMap (prsAt n) = prs n := by
  obtain ⟨m, rfl⟩ : ∃ m, n = m + 1 := ⟨n - 1, by omega⟩
  have e0 : (((m + 1 : Nat) : Int) - (1 + (m : Int))).toNat = 0 := by omega
  have e : prsAt (m + 1) (1 + (m : Int)) = [] := by
    unfold prsAt
    rw [e0]
    rfl
  unfold prs
  rw [up_succ, List.flatMap_append]
  simp [e]
def wrongB (xs : List Int) (p : Int × Int) : Bool := decide (xs.getD (p.2 - 1).toNat 0 < xs.getD (p.1 - 1).toNat 0)
def wrg (xs : List Int) : List (Int × Int) := (prs xs.length).filter (wrongB xs)
def flsL (xs : List Int) : List Int := (upFrom 1 (xs.length - 1)).filter fun k => decide (xs.getD k.toNat 0 < xs.getD (k - 1).toNat 0)
theorem mem_prs {n : Nat} {p : Int × Int} : p ∈ prs n ↔ 1 ≤ p.1 ∧ p.1 < p.2 ∧ p.2 ≤ n := by
  obtain ⟨i, j⟩ := p
  simp only [prs, prsAt, List.mem_flatMap, List.mem_map, mem_up, Prod.mk.injEq]
  constructor
  · rintro ⟨i', h1, j', h2, rfl, rfl⟩
    omega
  · intro h
    exact ⟨i, by omega, j, by omega, rfl, rfl⟩
theorem prsAt_len {n : Nat} {i : Int} (h : 0 ≤ i) : (prsAt n i).length ≤ n := by
  unfold prsAt
  rw [List.length_map, up_len]
  omega
theorem flat_len {α β : Type} {f : α → List β} {c : Nat} : ∀ {l : List α}, (∀ a ∈ l, (f a).length ≤ c) → (l.flatMap f).length ≤ l.length * c
  | [], _ => by simp
  | a :: l, h => by
    have h1 := flat_len (l := l) fun x hx => h x (List.mem_cons_of_mem _ hx)
    have h2 := h a List.mem_cons_self
    simp only [List.flatMap_cons, List.length_append, List.length_cons, Nat.add_mul, Nat.one_mul]
    omega
theorem prs_len {n : Nat} : (prs n).length ≤ n * n := by
  have := flat_len (l := upFrom 1 n) (f := prsAt n) (c := n) fun a ha => prsAt_len (by have := mem_up.mp ha; omega)
  rwa [up_len] at this
theorem foldw {xs : List Int} : (upFrom 0 xs.length).flatMap (fun i => ((upFrom (i + 1) ((xs.length : Int) - (i + 1)).toNat).filter fun j => decide (xs.getD j.toNat 0 < xs.getD i.toNat 0)).map fun j => (i + 1, j + 1)) = wrg xs := by
  unfold wrg prs
  have e : upFrom 1 xs.length = (upFrom 0 xs.length).map (· + 1) := up_shift (lo := 0) (c := 1)
  rw [e, List.flatMap_map, List.filter_flatMap]
  congr 1
  funext i
  unfold prsAt
  have e2 : upFrom (i + 1 + 1) ((xs.length : Int) - (i + 1)).toNat = (upFrom (i + 1) ((xs.length : Int) - (i + 1)).toNat).map (· + 1) := up_shift
  rw [e2, List.map_map, List.filter_map]
  congr 1
  apply List.filter_congr
  intro j _
  simp [wrongB]
end UC

end
section
/-! ### below, by counts -/
namespace UC
open Eg
/-- how many of the first i things are from j on -/
def cn (xs : List Int) (i : Nat) (j : Int) : Nat := (xs.take i).countP fun y => decide (j ≤ y)
def Below (xs ys : List Int) : Prop := ∀ i j, cn xs i j ≤ cn ys i j
theorem Below.refl {xs : List Int} : Below xs xs := fun _ _ => Nat.le_refl _
theorem Below.trans {xs ys zs : List Int} (h1 : Below xs ys) (h2 : Below ys zs) : Below xs zs := fun i j => Nat.le_trans (h1 i j) (h2 i j)
theorem cn_zero {xs : List Int} {j : Int} : cn xs 0 j = 0 := by simp [cn]
theorem cn_succ {xs : List Int} {i : Nat} {j : Int} (h : i < xs.length) : cn xs (i + 1) j = cn xs i j + if j ≤ xs.getD i 0 then 1 else 0 := by
  unfold cn
  rw [List.take_succ_eq_append_getElem h, List.countP_append, List.getD_eq_getElem?_getD, List.getElem?_eq_getElem h, Option.getD_some]
  by_cases q : j ≤ xs[i] <;> simp [q]
theorem cn_big {xs : List Int} {i : Nat} {j : Int} (h : xs.length ≤ i) : cn xs i j = cn xs xs.length j := by
  unfold cn
  rw [List.take_of_length_le h, List.take_length]
theorem cn_le {xs : List Int} {i : Nat} {j : Int} : cn xs i j ≤ i := by
  unfold cn
  refine Nat.le_trans List.countP_le_length ?_
  rw [List.length_take]
  omega
theorem below_anti {xs ys : List Int} (hl : xs.length = ys.length) (h1 : Below xs ys) (h2 : Below ys xs) : xs = ys := by
  have e : ∀ i j, cn xs i j = cn ys i j := fun i j => Nat.le_antisymm (h1 i j) (h2 i j)
  refine List.ext_getElem hl fun p q1 q2 => ?_
  have s : ∀ j : Int, (j ≤ xs[p]) ↔ (j ≤ ys[p]) := fun j => by
    have a := cn_succ (j := j) q1
    have b := cn_succ (j := j) q2
    rw [List.getD_eq_getElem?_getD, List.getElem?_eq_getElem q1, Option.getD_some] at a
    rw [List.getD_eq_getElem?_getD, List.getElem?_eq_getElem q2, Option.getD_some] at b
    have e1 := e (p + 1) j
    have e2 := e p j
    by_cases z1 : j ≤ xs[p] <;> by_cases z2 : j ≤ ys[p] <;> simp [z1, z2] at a b ⊢ <;> omega
  have t1 := (s xs[p]).mp (Int.le_refl _)
  have t2 := (s ys[p]).mpr (Int.le_refl _)
  omega
theorem cn_eq_of {xs zs : List Int} (f : Nat → Nat) (t : Int) (hl : zs.length = xs.length) (h0 : f 0 = 0) (h : ∀ k, k < xs.length → f (k + 1) + (if t ≤ xs.getD k 0 then 1 else 0) = f k + (if t ≤ zs.getD k 0 then 1 else 0)) : ∀ k, k ≤ xs.length → cn zs k t = cn xs k t + f k
  | 0, _ => by rw [cn_zero, cn_zero, h0]
  | k + 1, hk => by
    have ih := cn_eq_of f t hl h0 h k (by omega)
    have hh := h k (by omega)
    rw [cn_succ (by omega), cn_succ (by omega), ih]
    omega
/-- two things exchanged of which the lesser stood ahead -/
theorem raise_below {xs : List Int} {i j : Nat} (hij : i < j) (hj : j < xs.length) (hlt : xs.getD i 0 < xs.getD j 0) : Below xs ((xs.set i (xs.getD j 0)).set j (xs.getD i 0)) := by
  intro k t
  have hlen : ((xs.set i (xs.getD j 0)).set j (xs.getD i 0)).length = xs.length := by simp
  have hi : i < xs.length := by omega
  have g : ∀ k, k < xs.length → ((xs.set i (xs.getD j 0)).set j (xs.getD i 0)).getD k 0 = if k = j then xs.getD i 0 else if k = i then xs.getD j 0 else xs.getD k 0 := fun k hk => by
    rw [List.getD_eq_getElem?_getD, List.getElem?_set, List.length_set]
    by_cases e : j = k
    · subst e
      rw [if_pos rfl, if_pos hj, if_pos rfl]
      rfl
    · rw [if_neg e, if_neg (fun z => e z.symm), List.getElem?_set]
      by_cases e2 : i = k
      · subst e2
        rw [if_pos rfl, if_pos hi, if_pos rfl]
        rfl
      · rw [if_neg e2, if_neg (fun z => e2 z.symm), ← List.getD_eq_getElem?_getD]
  have main : ∀ k, k ≤ xs.length → cn ((xs.set i (xs.getD j 0)).set j (xs.getD i 0)) k t = cn xs k t + if i < k ∧ k ≤ j ∧ xs.getD i 0 < t ∧ t ≤ xs.getD j 0 then 1 else 0 := by
    refine cn_eq_of (fun k => if i < k ∧ k ≤ j ∧ xs.getD i 0 < t ∧ t ≤ xs.getD j 0 then 1 else 0) t hlen (by simp) fun k hk => ?_
    rw [g k hk]
    by_cases e : k = j
    · subst e
      rw [if_pos rfl]
      (repeat' split) <;> omega
    · rw [if_neg e]
      by_cases e2 : k = i
      · subst e2
        rw [if_pos rfl]
        (repeat' split) <;> omega
      · rw [if_neg e2]
        (repeat' split) <;> omega
  by_cases hk : k ≤ xs.length
  · rw [main k hk]
    omega
  · rw [cn_big (by omega : xs.length ≤ k), cn_big (xs := (xs.set i (xs.getD j 0)).set j (xs.getD i 0)) (by omega), hlen, main _ (Nat.le_refl _)]
    omega
/-- what the program asks: each of the first n places, each of n things -/
def bel (n : Nat) (xs ys : List Int) : Bool := (upFrom 1 n).all fun i => (upFrom 0 n).all fun j => decide (cn xs i.toNat (j + 1) ≤ cn ys i.toNat (j + 1))
theorem cn_low {xs : List Int} {i : Nat} {j : Int} (h : ∀ x ∈ xs, j ≤ x) : cn xs i j = min i xs.length := by
  unfold cn
  rw [List.countP_eq_length.mpr fun x hx => by simpa using h x (List.mem_of_mem_take hx), List.length_take]
theorem cn_high {xs : List Int} {i : Nat} {j : Int} (h : ∀ x ∈ xs, x < j) : cn xs i j = 0 := by
  unfold cn
  rw [List.countP_eq_zero]
  intro x hx
  have := h x (List.mem_of_mem_take hx)
  simp only [decide_eq_true_eq]
  omega
theorem bel_iff {n : Nat} {xs ys : List Int} (hx : xs.Perm (upFrom 1 n)) (hy : ys.Perm (upFrom 1 n)) : bel n xs ys = true ↔ Below xs ys := by
  have lx : xs.length = n := by rw [hx.length_eq, up_len]
  have ly : ys.length = n := by rw [hy.length_eq, up_len]
  have mx : ∀ x ∈ xs, 1 ≤ x ∧ x ≤ n := fun x h => by have := mem_up.mp (hx.mem_iff.mp h); omega
  have my : ∀ x ∈ ys, 1 ≤ x ∧ x ≤ n := fun x h => by have := mem_up.mp (hy.mem_iff.mp h); omega
  constructor
  · intro h
    have core : ∀ i j, i ≤ n → cn xs i j ≤ cn ys i j := fun i j hi => by
      by_cases h0 : i = 0
      · subst h0; rw [cn_zero]; omega
      by_cases h1 : j < 1
      · rw [cn_low (fun x hx => by have := mx x hx; omega), cn_low (fun x hx => by have := my x hx; omega), lx, ly]
        exact Nat.le_refl _
      by_cases h2 : (n : Int) < j
      · rw [cn_high (fun x hx => by have := mx x hx; omega)]
        omega
      unfold bel at h
      have a := List.all_eq_true.mp h (i : Int) (mem_up.mpr (by omega))
      have b := List.all_eq_true.mp a (j - 1) (mem_up.mpr (by omega))
      have e : j - 1 + 1 = j := by omega
      rw [e, Int.toNat_natCast] at b
      simpa using b
    intro i j
    by_cases hi : i ≤ n
    · exact core i j hi
    · rw [cn_big (by omega : xs.length ≤ i), cn_big (by omega : ys.length ≤ i), lx, ly]
      exact core n j (Nat.le_refl _)
  · intro h
    unfold bel
    rw [List.all_eq_true]
    intro i _
    rw [List.all_eq_true]
    intro j _
    simpa using h i.toNat (j + 1)
theorem bel_eq {n : Nat} {xs ys xs' ys' : List Int} (hx : xs.Perm (upFrom 1 n)) (hy : ys.Perm (upFrom 1 n)) (hx' : xs'.Perm (upFrom 1 n)) (hy' : ys'.Perm (upFrom 1 n)) (h : Below xs ys ↔ Below xs' ys') : bel n xs ys = bel n xs' ys' := by
  rw [Bool.eq_iff_iff, bel_iff hx hy, bel_iff hx' hy']
  exact h
/-! ### turned -/
def tnd (n : Nat) (xs : List Int) : List Int := xs.map fun x => (n : Int) + 1 - x
theorem cn_tnd {n : Nat} {xs : List Int} {i : Nat} {j : Int} : cn (tnd n xs) i j + cn xs i ((n : Int) + 2 - j) = min i xs.length := by
  unfold cn tnd
  rw [← List.map_take, List.countP_map, ← List.length_take, List.length_eq_countP_add_countP (l := xs.take i) (p := fun y => decide (j ≤ (n : Int) + 1 - y))]
  congr 1
  refine List.countP_congr fun x _ => ?_
  simp only [decide_eq_true_eq, Bool.not_eq_true', decide_eq_false_iff_not, decide_not]
  constructor <;> intro h <;> simp at h ⊢ <;> omega
theorem below_tnd {n : Nat} {xs ys : List Int} (hl : xs.length = ys.length) : Below (tnd n ys) (tnd n xs) ↔ Below xs ys := by
  constructor
  · intro h i j
    have a := cn_tnd (n := n) (xs := xs) (i := i) (j := (n : Int) + 2 - j)
    have b := cn_tnd (n := n) (xs := ys) (i := i) (j := (n : Int) + 2 - j)
    have c := h i ((n : Int) + 2 - j)
    have e : (n : Int) + 2 - ((n : Int) + 2 - j) = j := by omega
    rw [e] at a b
    omega
  · intro h i j
    have a := cn_tnd (n := n) (xs := xs) (i := i) (j := j)
    have b := cn_tnd (n := n) (xs := ys) (i := i) (j := j)
    have c := h i ((n : Int) + 2 - j)
    omega
/-! ### read from behind -/
theorem cn_rev {xs : List Int} {i : Nat} {j : Int} (h : i ≤ xs.length) : cn xs.reverse i j + cn xs (xs.length - i) j = xs.countP fun y => decide (j ≤ y) := by
  unfold cn
  rw [List.take_reverse, List.countP_reverse, Nat.add_comm, ← List.countP_append, List.take_append_drop]
theorem below_rev {n : Nat} {xs ys : List Int} (hx : xs.Perm (upFrom 1 n)) (hy : ys.Perm (upFrom 1 n)) : Below ys.reverse xs.reverse ↔ Below xs ys := by
  have lx : xs.length = n := by rw [hx.length_eq, up_len]
  have ly : ys.length = n := by rw [hy.length_eq, up_len]
  have tot : ∀ j : Int, (xs.countP fun y => decide (j ≤ y)) = ys.countP fun y => decide (j ≤ y) := fun j => (hx.trans hy.symm).countP_eq _
  have main : ∀ i j, i ≤ n → (cn ys.reverse i j ≤ cn xs.reverse i j ↔ cn xs (n - i) j ≤ cn ys (n - i) j) := fun i j hi => by
    have a := cn_rev (xs := xs) (i := i) (j := j) (by omega)
    have b := cn_rev (xs := ys) (i := i) (j := j) (by omega)
    have t := tot j
    rw [lx] at a
    rw [ly] at b
    omega
  have fin : ∀ {u v : List Int}, u.length = n → v.length = n → (∀ i j, i ≤ n → cn u i j ≤ cn v i j) → Below u v := fun {u v} hu hv h i j => by
    by_cases hi : i ≤ n
    · exact h i j hi
    · rw [cn_big (by omega : u.length ≤ i), cn_big (by omega : v.length ≤ i), hu, hv]
      exact h n j (Nat.le_refl _)
  constructor
  · intro h
    refine fin lx ly fun i j hi => ?_
    have := (main (n - i) j (by omega)).mp (h _ _)
    have e : n - (n - i) = i := by omega
    rwa [e] at this
  · intro h
    exact fin (by rw [List.length_reverse, ly]) (by rw [List.length_reverse, lx]) fun i j hi => (main i j hi).mpr (h _ _)
/-! ### backs -/
def IsBk (n : Nat) (xs zs : List Int) : Prop := zs.length = n ∧ ∀ p, p < n → zs.getD (xs.getD p 0 - 1).toNat 0 = (p : Int) + 1
theorem take_range {xs : List Int} {k : Nat} (h : k ≤ xs.length) : xs.take k = (List.range k).map fun p => xs.getD p 0 := by
  refine List.ext_getElem (by simp; omega) fun p h1 h2 => ?_
  have hp : p < xs.length := by simp at h1; omega
  rw [List.getElem_take, List.getElem_map, List.getElem_range, List.getD_eq_getElem?_getD, List.getElem?_eq_getElem hp]
  rfl
def low (xs : List Int) (a : Nat) (b : Int) : Nat := (xs.take a).countP fun y => decide (y ≤ b)
theorem cn_lowC {xs : List Int} {a : Nat} {b : Int} (h : a ≤ xs.length) : cn xs a (b + 1) + low xs a b = a := by
  unfold cn low
  have e : (xs.take a).length = a := by rw [List.length_take]; omega
  conv => rhs; rw [← e]
  rw [List.length_eq_countP_add_countP (l := xs.take a) (p := fun y => decide (b + 1 ≤ y))]
  congr 1
  refine List.countP_congr fun x _ => ?_
  simp only [decide_eq_true_eq, Bool.not_eq_true', decide_eq_false_iff_not, decide_not]
  constructor <;> intro h <;> simp at h ⊢ <;> omega
theorem at_mem {xs : List Int} {p : Nat} (h : p < xs.length) : xs.getD p 0 ∈ xs := by
  rw [List.getD_eq_getElem?_getD, List.getElem?_eq_getElem h]
  exact List.getElem_mem h
theorem mem_at {xs : List Int} {x : Int} (h : x ∈ xs) : ∃ p, p < xs.length ∧ xs.getD p 0 = x := by
  obtain ⟨p, hp, e⟩ := List.mem_iff_getElem.mp h
  exact ⟨p, hp, by rw [List.getD_eq_getElem?_getD, List.getElem?_eq_getElem hp]; exact e⟩
theorem at_ne {xs : List Int} (h : xs.Nodup) {p q : Nat} (hp : p < xs.length) (hq : q < xs.length) (hne : p ≠ q) : xs.getD p 0 ≠ xs.getD q 0 := by
  rw [List.getD_eq_getElem?_getD, List.getD_eq_getElem?_getD, List.getElem?_eq_getElem hp, List.getElem?_eq_getElem hq]
  intro e
  simp only [Option.getD_some] at e
  rcases Nat.lt_or_gt_of_ne hne with z | z
  · exact List.pairwise_iff_getElem.mp h p q hp hq z e
  · exact List.pairwise_iff_getElem.mp h q p hq hp z e.symm
theorem low_bk {n : Nat} {xs zs : List Int} (hx : xs.Perm (upFrom 1 n)) (hz : IsBk n xs zs) {a b : Nat} (ha : a ≤ n) (hb : b ≤ n) : low zs b a = low xs a b := by
  have lx : xs.length = n := by rw [hx.length_eq, up_len]
  obtain ⟨lz, hz⟩ := hz
  have nd : xs.Nodup := hx.nodup_iff.mpr up_nodup
  have mx : ∀ p, p < n → 1 ≤ xs.getD p 0 ∧ xs.getD p 0 ≤ n := fun p hp => by have := mem_up.mp (hx.mem_iff.mp (at_mem (xs := xs) (p := p) (by omega))); omega
  unfold low
  rw [take_range (by omega), take_range (by omega), List.countP_map, List.countP_map, List.countP_eq_length_filter, List.countP_eq_length_filter]
  have pm : ((List.range b).filter ((fun y => decide (y ≤ (a : Int))) ∘ fun p => zs.getD p 0)).Perm (((List.range a).filter ((fun y => decide (y ≤ (b : Int))) ∘ fun p => xs.getD p 0)).map fun p => (xs.getD p 0 - 1).toNat) := by
    refine (List.perm_ext_iff_of_nodup (List.nodup_range.filter _) ?_).mpr fun q => ?_
    · unfold List.Nodup
      rw [List.pairwise_map]
      refine List.Pairwise.imp_of_mem (fun {p p'} h1 h2 hne => ?_) (List.nodup_range.filter _)
      have g1 := List.mem_range.mp (List.mem_filter.mp h1).1
      have g2 := List.mem_range.mp (List.mem_filter.mp h2).1
      have := at_ne nd (p := p) (q := p') (by omega) (by omega) hne
      have := mx p (by omega)
      have := mx p' (by omega)
      omega
    · simp only [List.mem_filter, List.mem_range, List.mem_map, Function.comp_apply, decide_eq_true_eq]
      constructor
      · rintro ⟨h1, h2⟩
        obtain ⟨p, hp, e⟩ := mem_at (hx.mem_iff.mpr (mem_up.mpr (by omega : (1 : Int) ≤ (q : Int) + 1 ∧ (q : Int) + 1 < 1 + (n : Int))))
        have z := hz p (by omega)
        rw [e] at z
        have eq : ((q : Int) + 1 - 1).toNat = q := by omega
        rw [eq] at z
        exact ⟨p, ⟨by omega, by omega⟩, by omega⟩
      · rintro ⟨p, ⟨h1, h2⟩, rfl⟩
        have := mx p (by omega)
        have z := hz p (by omega)
        exact ⟨by omega, by omega⟩
  rw [pm.length_eq, List.length_map]
theorem bk_perm {n : Nat} {xs zs : List Int} (hx : xs.Perm (upFrom 1 n)) (hz : IsBk n xs zs) : zs.Perm (upFrom 1 n) := by
  have lx : xs.length = n := by rw [hx.length_eq, up_len]
  have mx : ∀ p, p < n → 1 ≤ xs.getD p 0 ∧ xs.getD p 0 ≤ n := fun p hp => by have := mem_up.mp (hx.mem_iff.mp (at_mem (xs := xs) (p := p) (by omega))); omega
  obtain ⟨lz, hz⟩ := hz
  refine (perm_of_sub up_nodup (fun x hx' => ?_) (by rw [up_len]; omega)).symm
  have := mem_up.mp hx'
  have z := hz (x - 1).toNat (by omega)
  have m := mx (x - 1).toNat (by omega)
  have e : (((x - 1).toNat : Nat) : Int) + 1 = x := by omega
  rw [e] at z
  rw [← z]
  exact at_mem (by omega)
theorem below_bk {n : Nat} {xs ys zx zy : List Int} (hx : xs.Perm (upFrom 1 n)) (hy : ys.Perm (upFrom 1 n)) (bx : IsBk n xs zx) (bY : IsBk n ys zy) : Below zx zy ↔ Below xs ys := by
  have lx : xs.length = n := by rw [hx.length_eq, up_len]
  have ly : ys.length = n := by rw [hy.length_eq, up_len]
  have main : ∀ a b : Nat, a ≤ n → b ≤ n → (cn zx b ((a : Int) + 1) ≤ cn zy b ((a : Int) + 1) ↔ cn xs a ((b : Int) + 1) ≤ cn ys a ((b : Int) + 1)) := fun a b ha hb => by
    have e1 := cn_lowC (xs := zx) (a := b) (b := (a : Int)) (by rw [bx.1]; omega)
    have e2 := cn_lowC (xs := zy) (a := b) (b := (a : Int)) (by rw [bY.1]; omega)
    have e3 := cn_lowC (xs := xs) (a := a) (b := (b : Int)) (by omega)
    have e4 := cn_lowC (xs := ys) (a := a) (b := (b : Int)) (by omega)
    rw [low_bk hx bx ha hb] at e1
    rw [low_bk hy bY ha hb] at e2
    omega
  rw [← bel_iff (bk_perm hx bx) (bk_perm hy bY), ← bel_iff hx hy]
  unfold bel
  simp only [List.all_eq_true, decide_eq_true_eq]
  constructor
  · intro h
    have hB : Below zx zy := (bel_iff (bk_perm hx bx) (bk_perm hy bY)).mp (by unfold bel; simpa only [List.all_eq_true, decide_eq_true_eq] using h)
    intro i hi j hj
    have g1 := mem_up.mp hi
    have g2 := mem_up.mp hj
    have := (main i.toNat j.toNat (by omega) (by omega)).mp (hB _ _)
    have e : ((j.toNat : Nat) : Int) = j := by omega
    rwa [e] at this
  · intro h
    have hB : Below xs ys := (bel_iff hx hy).mp (by unfold bel; simpa only [List.all_eq_true, decide_eq_true_eq] using h)
    intro i hi j hj
    have g1 := mem_up.mp hi
    have g2 := mem_up.mp hj
    have := (main j.toNat i.toNat (by omega) (by omega)).mpr (hB _ _)
    have e : ((j.toNat : Nat) : Int) = j := by omega
    rwa [e] at this
end UC

end
section
/-! ### exchanges of neighbours, words, what is left of a word -/
namespace UC
open Eg
/-- two neighbours exchanged -/
def stp (o : List Int) (k : Int) : List Int := (o.set (k - 1).toNat (o.getD k.toNat 0)).set k.toNat (o.getD (k - 1).toNat 0)
theorem stp_len {o : List Int} {k : Int} : (stp o k).length = o.length := by simp [stp]
theorem stp_at {o : List Int} {k : Nat} (h : k + 1 < o.length) {p : Nat} : (stp o ((k : Int) + 1)).getD p 0 = if p = k then o.getD (k + 1) 0 else if p = k + 1 then o.getD k 0 else o.getD p 0 := by
  have e1 : ((k : Int) + 1 - 1).toNat = k := by omega
  have e2 : ((k : Int) + 1).toNat = k + 1 := by omega
  unfold stp
  rw [e1, e2, List.getD_eq_getElem?_getD, List.getElem?_set, List.length_set]
  by_cases q : p = k + 1
  · subst q
    rw [if_pos rfl, if_pos h, if_neg (by omega), if_pos rfl]
    rfl
  · rw [if_neg (fun z => q z.symm), List.getElem?_set]
    by_cases q2 : p = k
    · subst q2
      rw [if_pos rfl, if_pos (by omega), if_pos rfl]
      rfl
    · rw [if_neg (fun z => q2 z.symm), if_neg q2, if_neg q, ← List.getD_eq_getElem?_getD]
theorem stp_perm {o : List Int} {k : Int} (h1 : 1 ≤ k) (h2 : k < o.length) : (stp o k).Perm o := swap_perm (by omega) (by omega)
theorem cn_stp {o : List Int} {k : Nat} (h : k + 1 < o.length) {t : Int} : ∀ {i : Nat}, i ≤ o.length → cn (stp o ((k : Int) + 1)) i t + (if i = k + 1 ∧ t ≤ o.getD k 0 then 1 else 0) = cn o i t + (if i = k + 1 ∧ t ≤ o.getD (k + 1) 0 then 1 else 0)
  | 0, _ => by simp [cn_zero]
  | i + 1, hi => by
    have ih := cn_stp h (t := t) (i := i) (by omega)
    rw [cn_succ (by rw [stp_len]; omega), cn_succ (by omega), stp_at h]
    by_cases e : i = k
    · subst e
      have n1 : ¬ i = i + 1 := by omega
      simp only [n1, false_and, if_false, if_true, true_and] at ih ⊢
      omega
    · by_cases e2 : i = k + 1
      · subst e2
        have n1 : ¬ k + 1 + 1 = k + 1 := by omega
        have n2 : ¬ k + 1 = k := by omega
        simp only [n1, n2, false_and, if_false, if_true, true_and] at ih ⊢
        omega
      · have n1 : ¬ i + 1 = k + 1 := by omega
        simp only [e, e2, n1, false_and, if_false] at ih ⊢
        omega
theorem below_of {u v : List Int} (hl : u.length = v.length) (h : ∀ i t, i ≤ u.length → cn u i t ≤ cn v i t) : Below u v := fun i t => by
  by_cases hi : i ≤ u.length
  · exact h i t hi
  · rw [cn_big (by omega : u.length ≤ i), cn_big (by omega : v.length ≤ i), ← hl]
    exact h _ t (Nat.le_refl _)
/-- where the upper one rises, both may be exchanged -/
theorem lift_stp {u w : List Int} {k : Int} (hl : u.length = w.length) (h1 : 1 ≤ k) (h2 : k < w.length) (hb : Below u w) (ha : w.getD (k - 1).toNat 0 < w.getD k.toNat 0) : Below (stp u k) (stp w k) := by
  obtain ⟨j, rfl⟩ : ∃ j : Nat, k = (j : Int) + 1 := ⟨(k - 1).toNat, by omega⟩
  have e1 : ((j : Int) + 1 - 1).toNat = j := by omega
  have e2 : ((j : Int) + 1).toNat = j + 1 := by omega
  rw [e1, e2] at ha
  refine below_of (by rw [stp_len, stp_len, hl]) fun i t hi => ?_
  rw [stp_len] at hi
  have a := cn_stp (o := u) (k := j) (by omega) (t := t) (i := i) hi
  have b := cn_stp (o := w) (k := j) (by omega) (t := t) (i := i) (by omega)
  have c := hb i t
  by_cases e : i = j + 1
  · subst e
    have u1 := cn_succ (xs := u) (i := j) (j := t) (by omega)
    have u2 := cn_succ (xs := u) (i := j + 1) (j := t) (by omega)
    have w1 := cn_succ (xs := w) (i := j) (j := t) (by omega)
    have w2 := cn_succ (xs := w) (i := j + 1) (j := t) (by omega)
    have c0 := hb j t
    have c2 := hb (j + 1 + 1) t
    simp only [true_and] at a b
    by_cases z1 : t ≤ w.getD (j + 1) 0
    · by_cases z2 : t ≤ w.getD j 0 <;> by_cases z3 : t ≤ u.getD (j + 1) 0 <;> by_cases z4 : t ≤ u.getD j 0 <;> simp only [z1, z2, z3, z4, if_true, if_false] at * <;> omega
    · have z2 : ¬ t ≤ w.getD j 0 := by omega
      by_cases z3 : t ≤ u.getD (j + 1) 0 <;> by_cases z4 : t ≤ u.getD j 0 <;> simp only [z1, z2, z3, z4, if_true, if_false] at * <;> omega
  · rw [if_neg (by omega), if_neg (by omega)] at a b
    omega
theorem raise_stp {w : List Int} {k : Int} (h1 : 1 ≤ k) (h2 : k < w.length) (ha : w.getD (k - 1).toNat 0 < w.getD k.toNat 0) : Below w (stp w k) :=
  raise_below (by omega) (by omega) ha
/-! ### words -/
def ldL (n : Nat) (w : List Int) : List Int := w.foldl stp (upFrom 1 n)
def WdOk (n : Nat) (w : List Int) : Prop := ∀ k ∈ w, 1 ≤ k ∧ k < n
theorem fold_stp_len : ∀ {w xs : List Int}, (w.foldl stp xs).length = xs.length
  | [], _ => rfl
  | k :: w, xs => by rw [List.foldl_cons, fold_stp_len, stp_len]
theorem ldL_len {n : Nat} {w : List Int} : (ldL n w).length = n := by
  unfold ldL
  rw [fold_stp_len, up_len]
theorem fold_stp_perm : ∀ {w xs : List Int}, WdOk xs.length w → (w.foldl stp xs).Perm xs
  | [], _, _ => .refl _
  | k :: w, xs, h => by
    have h1 := h k List.mem_cons_self
    rw [List.foldl_cons]
    exact (fold_stp_perm fun k' hk => by rw [stp_len]; exact h k' (List.mem_cons_of_mem _ hk)).trans (stp_perm h1.1 h1.2)
theorem ldL_perm {n : Nat} {w : List Int} (h : WdOk n w) : (ldL n w).Perm (upFrom 1 n) := fold_stp_perm (by rw [up_len]; exact h)
theorem ldL_snoc {n : Nat} {w : List Int} {k : Int} : ldL n (w ++ [k]) = stp (ldL n w) k := by
  unfold ldL
  rw [List.foldl_append]
  rfl
/-- each number makes a wrong pair -/
inductive Gr (n : Nat) : List Int → Prop
  | nil : Gr n []
  | snoc {w : List Int} {k : Int} : Gr n w → 1 ≤ k → k < n → (ldL n w).getD (k - 1).toNat 0 < (ldL n w).getD k.toNat 0 → Gr n (w ++ [k])
theorem Gr.ok {n : Nat} {w : List Int} (h : Gr n w) : WdOk n w := by
  induction h with
  | nil => intro k hk; cases hk
  | snoc _ h1 h2 _ ih =>
    intro k hk
    rcases List.mem_append.mp hk with z | z
    · exact ih k z
    · rw [List.mem_singleton.mp z]
      exact ⟨h1, h2⟩
theorem gr_sub {n : Nat} {w : List Int} (h : Gr n w) : ∀ {l : List Int}, l.Sublist w → Below (ldL n l) (ldL n w) := by
  induction h with
  | nil =>
    intro l hl
    rw [List.sublist_nil.mp hl]
    exact .refl
  | @snoc w k hg h1 h2 ha ih =>
    intro l hl
    obtain ⟨l1, l2, rfl, s1, s2⟩ := List.sublist_append_iff.mp hl
    have up : Below (ldL n w) (stp (ldL n w) k) := raise_stp h1 (by rw [ldL_len]; exact h2) ha
    rw [ldL_snoc]
    have s3 : l2 = [] ∨ l2 = [k] := by
      cases s2 with
      | cons _ z => exact .inl (List.sublist_nil.mp z)
      | cons_cons _ z => rw [List.sublist_nil.mp z]; exact .inr rfl
    rcases s3 with rfl | rfl
    · rw [List.append_nil]
      exact (ih s1).trans up
    · rw [ldL_snoc]
      exact lift_stp (by rw [ldL_len, ldL_len]) h1 (by rw [ldL_len]; exact h2) (ih s1) ha
/-! ### words read from behind -/
theorem stp_map {xs : List Int} {g : Int → Int} {k : Int} (h1 : 1 ≤ k) (h2 : k < xs.length) : stp (xs.map g) k = (stp xs k).map g := by
  have hl : k.toNat < xs.length := by omega
  have hl2 : (k - 1).toNat < xs.length := by omega
  unfold stp
  simp only [List.map_set, List.getD_eq_getElem?_getD, List.getElem?_map, List.getElem?_eq_getElem hl, List.getElem?_eq_getElem hl2, Option.map_some, Option.getD_some]
theorem fold_stp_map {g : Int → Int} : ∀ {w xs : List Int}, WdOk xs.length w → w.foldl stp (xs.map g) = (w.foldl stp xs).map g
  | [], _, _ => rfl
  | k :: w, xs, h => by
    have := h k List.mem_cons_self
    rw [List.foldl_cons, List.foldl_cons, stp_map this.1 this.2]
    exact fold_stp_map fun k' hk => by rw [stp_len]; exact h k' (List.mem_cons_of_mem _ hk)
def sv (k x : Int) : Int := if x = k then k + 1 else if x = k + 1 then k else x
theorem getD_up {n p : Nat} (h : p < n) : (upFrom 1 n).getD p 0 = (p : Int) + 1 := by
  rw [List.getD_eq_getElem?_getD, up_get h, Option.getD_some]
  omega
theorem getD_map {g : Int → Int} {xs : List Int} {p : Nat} (h : p < xs.length) : (xs.map g).getD p 0 = g (xs.getD p 0) := by
  rw [List.getD_eq_getElem?_getD, List.getD_eq_getElem?_getD, List.getElem?_map, List.getElem?_eq_getElem h]
  rfl
theorem ext_getD {xs ys : List Int} (hl : xs.length = ys.length) (h : ∀ p, p < xs.length → xs.getD p 0 = ys.getD p 0) : xs = ys := by
  refine List.ext_getElem hl fun p h1 h2 => ?_
  have := h p h1
  rw [List.getD_eq_getElem?_getD, List.getD_eq_getElem?_getD, List.getElem?_eq_getElem h1, List.getElem?_eq_getElem h2] at this
  exact this
theorem stp_up {n : Nat} {k : Int} (h1 : 1 ≤ k) (h2 : k < n) : stp (upFrom 1 n) k = (upFrom 1 n).map (sv k) := by
  obtain ⟨j, rfl⟩ : ∃ j : Nat, k = (j : Int) + 1 := ⟨(k - 1).toNat, by omega⟩
  refine ext_getD (by rw [stp_len, List.length_map]) fun p hp => ?_
  rw [stp_len, up_len] at hp
  rw [stp_at (by rw [up_len]; omega), getD_map (by rw [up_len]; exact hp), getD_up hp, getD_up (by omega), getD_up (by omega)]
  unfold sv
  (repeat' split) <;> omega
theorem ldL_cons {n : Nat} {w : List Int} {k : Int} (h1 : 1 ≤ k) (h2 : k < n) (hw : WdOk n w) : ldL n (k :: w) = (ldL n w).map (sv k) := by
  unfold ldL
  rw [List.foldl_cons, stp_up h1 h2]
  exact fold_stp_map (by rw [up_len]; exact hw)
theorem bk_stp {n : Nat} {xs zs : List Int} {k : Int} (hx : xs.Perm (upFrom 1 n)) (hz : IsBk n xs zs) (h1 : 1 ≤ k) (h2 : k < n) : IsBk n (stp xs k) (zs.map (sv k)) := by
  have lx : xs.length = n := by rw [hx.length_eq, up_len]
  have mx : ∀ p, p < n → 1 ≤ xs.getD p 0 ∧ xs.getD p 0 ≤ n := fun p hp => by have := mem_up.mp (hx.mem_iff.mp (at_mem (xs := xs) (p := p) (by omega))); omega
  obtain ⟨j, rfl⟩ : ∃ j : Nat, k = (j : Int) + 1 := ⟨(k - 1).toNat, by omega⟩
  obtain ⟨lz, hz⟩ := hz
  refine ⟨by rw [List.length_map]; exact lz, fun p hp => ?_⟩
  rw [stp_at (by omega)]
  have g : ∀ q, q < n → (zs.map (sv ((j : Int) + 1))).getD (xs.getD q 0 - 1).toNat 0 = sv ((j : Int) + 1) ((q : Int) + 1) := fun q hq => by
    have := mx q hq
    rw [getD_map (by omega), hz q hq]
  by_cases e : p = j
  · subst e
    rw [if_pos rfl, g _ (by omega)]
    unfold sv
    (repeat' split) <;> omega
  · rw [if_neg e]
    by_cases e2 : p = j + 1
    · subst e2
      rw [if_pos rfl, g _ (by omega)]
      unfold sv
      (repeat' split) <;> omega
    · rw [if_neg e2, g _ hp]
      unfold sv
      (repeat' split) <;> omega
theorem ldL_rev {n : Nat} : ∀ {w : List Int}, WdOk n w → IsBk n (ldL n w) (ldL n w.reverse) := by
  have main : ∀ (r : List Int), WdOk n r → IsBk n (ldL n r.reverse) (ldL n r) := by
    intro r
    induction r with
    | nil =>
      intro _
      refine ⟨ldL_len, fun p hp => ?_⟩
      show (upFrom 1 n).getD ((upFrom 1 n).getD p 0 - 1).toNat 0 = _
      rw [getD_up hp]
      have e : ((p : Int) + 1 - 1).toNat = p := by omega
      rw [e, getD_up hp]
    | cons k r ih =>
      intro h
      have h1 := h k List.mem_cons_self
      have h2 : WdOk n r := fun k' hk => h k' (List.mem_cons_of_mem _ hk)
      have h3 : WdOk n r.reverse := fun k' hk => h2 k' (List.mem_reverse.mp hk)
      rw [List.reverse_cons, ldL_snoc, ldL_cons h1.1 h1.2 h2]
      exact bk_stp (ldL_perm h3) (ih h2) h1.1 h1.2
  intro w h
  have := main w.reverse fun k hk => h k (List.mem_reverse.mp hk)
  rwa [List.reverse_reverse] at this
theorem rev_below {n : Nat} {u w : List Int} (hu : WdOk n u) (hw : WdOk n w) (h : Below (ldL n u) (ldL n w)) : Below (ldL n u.reverse) (ldL n w.reverse) :=
  (below_bk (ldL_perm hu) (ldL_perm hw) (ldL_rev hu) (ldL_rev hw)).mpr h
end UC

end
section
/-! ### how many wrong pairs, and steps up -/
namespace UC
open Eg
def sw (xs : List Int) (i j : Nat) : List Int := (xs.set i (xs.getD j 0)).set j (xs.getD i 0)
theorem sw_len {xs : List Int} {i j : Nat} : (sw xs i j).length = xs.length := by simp [sw]
theorem sw_at {xs : List Int} {i j : Nat} (hi : i < xs.length) (hj : j < xs.length) {p : Nat} : (sw xs i j).getD p 0 = if p = j then xs.getD i 0 else if p = i then xs.getD j 0 else xs.getD p 0 := by
  unfold sw
  rw [List.getD_eq_getElem?_getD, List.getElem?_set, List.length_set]
  by_cases q : p = j
  · subst q
    rw [if_pos rfl, if_pos hj, if_pos rfl]
    rfl
  · rw [if_neg (fun z => q z.symm), List.getElem?_set, if_neg q]
    by_cases q2 : p = i
    · subst q2
      rw [if_pos rfl, if_pos hi, if_pos rfl]
      rfl
    · rw [if_neg (fun z => q2 z.symm), if_neg q2, ← List.getD_eq_getElem?_getD]
theorem cn_sw {xs : List Int} {i j : Nat} (hij : i < j) (hj : j < xs.length) (hlt : xs.getD i 0 < xs.getD j 0) (t : Int) : ∀ k, k ≤ xs.length → cn (sw xs i j) k t = cn xs k t + if i < k ∧ k ≤ j ∧ xs.getD i 0 < t ∧ t ≤ xs.getD j 0 then 1 else 0 := by
  refine cn_eq_of (fun k => if i < k ∧ k ≤ j ∧ xs.getD i 0 < t ∧ t ≤ xs.getD j 0 then 1 else 0) t sw_len (by simp) fun k hk => ?_
  rw [sw_at (by omega) hj]
  by_cases e : k = j
  · subst e
    rw [if_pos rfl]
    (repeat' split) <;> omega
  · rw [if_neg e]
    by_cases e2 : k = i
    · subst e2
      rw [if_pos rfl]
      (repeat' split) <;> omega
    · rw [if_neg e2]
      (repeat' split) <;> omega
/-! ### wrong pairs, counted from the left -/
def inv : List Int → Nat
  | [] => 0
  | x :: r => (r.countP fun y => decide (y < x)) + inv r
def crs : List Int → List Int → Nat
  | [], _ => 0
  | x :: r, ys => (ys.countP fun y => decide (y < x)) + crs r ys
theorem inv_app : ∀ {a b : List Int}, inv (a ++ b) = inv a + crs a b + inv b
  | [], b => by simp [inv, crs]
  | x :: a, b => by
    simp only [List.cons_append, inv, crs, List.countP_append]
    rw [inv_app]
    omega
theorem crs_perm {b c : List Int} (h : b.Perm c) : ∀ {a : List Int}, crs a b = crs a c
  | [] => rfl
  | x :: a => by
    simp only [crs]
    rw [crs_perm h, h.countP_eq]
theorem crs_cons {y : Int} {b : List Int} : ∀ {a : List Int}, crs a (y :: b) = (a.countP fun x => decide (y < x)) + crs a b
  | [] => rfl
  | x :: a => by
    simp only [crs, List.countP_cons]
    rw [crs_cons]
    omega
theorem cnt_split {a b : Int} (hab : a < b) : ∀ {m : List Int}, (∀ x ∈ m, x < a ∨ b < x) → (m.countP fun x => decide (x < b)) = (m.countP fun x => decide (x < a)) ∧ (m.countP fun x => decide (a < x)) = (m.countP fun x => decide (b < x))
  | [], _ => ⟨rfl, rfl⟩
  | x :: m, h => by
    have ih := cnt_split hab (m := m) fun y hy => h y (List.mem_cons_of_mem _ hy)
    have hx := h x List.mem_cons_self
    simp only [List.countP_cons]
    rw [ih.1, ih.2]
    constructor
    · rcases hx with z | z
      · rw [decide_eq_true (by omega : x < b), decide_eq_true z]
      · rw [decide_eq_false (by omega : ¬ x < b), decide_eq_false (by omega : ¬ x < a)]
    · rcases hx with z | z
      · rw [decide_eq_false (by omega : ¬ a < x), decide_eq_false (by omega : ¬ b < x)]
      · rw [decide_eq_true (by omega : a < x), decide_eq_true z]
theorem inv_lift {A M R : List Int} {a b : Int} (hab : a < b) (h : ∀ x ∈ M, x < a ∨ b < x) : inv (A ++ b :: (M ++ a :: R)) = inv (A ++ a :: (M ++ b :: R)) + 1 := by
  have pm : (b :: (M ++ a :: R)).Perm (a :: (M ++ b :: R)) := by
    refine (List.Perm.cons b List.perm_middle).trans ?_
    exact (List.Perm.swap a b _).trans (List.Perm.cons a List.perm_middle.symm)
  rw [inv_app, inv_app, crs_perm pm]
  have c := cnt_split hab h
  simp only [inv, inv_app, crs_cons, List.countP_append, List.countP_cons]
  rw [c.1, c.2, decide_eq_true hab, decide_eq_false (by omega : ¬ b < a)]
  simp only [if_true, Bool.false_eq_true, if_false]
  omega
theorem split2 {xs : List Int} {i j : Nat} (hij : i < j) (hj : j < xs.length) : xs = xs.take i ++ xs.getD i 0 :: ((xs.drop (i + 1)).take (j - i - 1) ++ xs.getD j 0 :: xs.drop (j + 1)) := by
  have h1 : xs = xs.take i ++ xs.getD i 0 :: xs.drop (i + 1) := by
    rw [List.getD_eq_getElem?_getD, List.getElem?_eq_getElem (by omega : i < xs.length), Option.getD_some, ← List.drop_eq_getElem_cons (by omega : i < xs.length), List.take_append_drop]
  have h2 : xs.drop (i + 1) = (xs.drop (i + 1)).take (j - i - 1) ++ xs.getD j 0 :: xs.drop (j + 1) := by
    conv => lhs; rw [← List.take_append_drop (j - i - 1) (xs.drop (i + 1))]
    rw [List.drop_drop]
    have e : i + 1 + (j - i - 1) = j := by omega
    rw [e, List.getD_eq_getElem?_getD, List.getElem?_eq_getElem hj, Option.getD_some, ← List.drop_eq_getElem_cons hj]
  rw [← h2]
  exact h1
theorem split_sw {xs : List Int} {i j : Nat} (hij : i < j) (hj : j < xs.length) : sw xs i j = xs.take i ++ xs.getD j 0 :: ((xs.drop (i + 1)).take (j - i - 1) ++ xs.getD i 0 :: xs.drop (j + 1)) := by
  have h := split2 (xs := sw xs i j) hij (by rw [sw_len]; exact hj)
  rw [sw_at (by omega) hj, sw_at (by omega) hj, if_neg (by omega), if_pos rfl, if_pos rfl] at h
  rw [h]
  have t : (sw xs i j).take i = xs.take i := by
    unfold sw
    rw [List.take_set_of_le (by omega), List.take_set_of_le (by omega)]
  have d : (sw xs i j).drop (j + 1) = xs.drop (j + 1) := by
    unfold sw
    rw [List.drop_set_of_lt (by omega), List.drop_set_of_lt (by omega)]
  have m : ((sw xs i j).drop (i + 1)).take (j - i - 1) = (xs.drop (i + 1)).take (j - i - 1) := by
    refine List.ext_getElem (by simp [sw_len]) fun p h1 h2 => ?_
    have hp : p < j - i - 1 := by rw [List.length_take] at h1; omega
    have hp2 : i + 1 + p < xs.length := by omega
    rw [List.getElem_take, List.getElem_take, List.getElem_drop, List.getElem_drop]
    have := sw_at (xs := xs) (i := i) (j := j) (by omega) hj (p := i + 1 + p)
    rw [if_neg (by omega), if_neg (by omega), List.getD_eq_getElem?_getD, List.getD_eq_getElem?_getD, List.getElem?_eq_getElem hp2, List.getElem?_eq_getElem (by rw [sw_len]; exact hp2)] at this
    exact this
  rw [t, d, m]
theorem mem_mid {xs : List Int} {i j : Nat} (hj : j < xs.length) {x : Int} (h : x ∈ (xs.drop (i + 1)).take (j - i - 1)) : ∃ p, i < p ∧ p < j ∧ xs.getD p 0 = x := by
  obtain ⟨p, hp, e⟩ := List.mem_iff_getElem.mp h
  rw [List.length_take, List.length_drop] at hp
  rw [List.getElem_take, List.getElem_drop] at e
  exact ⟨i + 1 + p, by omega, by omega, by rw [List.getD_eq_getElem?_getD, List.getElem?_eq_getElem (by omega)]; exact e⟩
/-- one wrong pair more -/
theorem inv_sw {xs : List Int} {i j : Nat} (hij : i < j) (hj : j < xs.length) (hlt : xs.getD i 0 < xs.getD j 0) (h : ∀ p, i < p → p < j → xs.getD p 0 < xs.getD i 0 ∨ xs.getD j 0 < xs.getD p 0) : inv (sw xs i j) = inv xs + 1 := by
  rw [split_sw hij hj, inv_lift hlt fun x hx => ?_]
  · rw [← split2 hij hj]
  · obtain ⟨p, h1, h2, rfl⟩ := mem_mid hj hx
    exact h p h1 h2
theorem filt_up {P Q : Int → Bool} {lo c : Int} {n : Nat} (h : ∀ x, lo ≤ x → x < lo + n → P (x + c) = Q x) : ((upFrom (lo + c) n).filter P).length = ((upFrom lo n).filter Q).length := by
  rw [up_shift, List.filter_map, List.length_map]
  congr 1
  refine List.filter_congr fun x hx => ?_
  have := mem_up.mp hx
  exact h x this.1 this.2
theorem up_head {lo : Int} {n : Nat} : upFrom lo (n + 1) = lo :: upFrom (lo + 1) n := rfl
theorem filt_cnt {x : Int} : ∀ {xs : List Int}, ((upFrom 0 xs.length).filter fun j => decide (xs.getD j.toNat 0 < x)).length = xs.countP fun y => decide (y < x) := by
  intro xs
  induction xs with
  | nil => rfl
  | cons y r ih =>
    rw [List.length_cons, up_head, List.filter_cons, List.countP_cons]
    have := filt_up (P := fun j => decide ((y :: r).getD j.toNat 0 < x)) (Q := fun j => decide (r.getD j.toNat 0 < x)) (lo := 0) (c := 1) (n := r.length) fun z h1 h2 => by
      obtain ⟨q, rfl⟩ := Int.eq_ofNat_of_zero_le h1
      have e1 : ((q : Int) + 1).toNat = q + 1 := by omega
      have e2 : ((q : Int)).toNat = q := by omega
      simp only [e1, e2, List.getD_cons_succ]
    rw [ih] at this
    by_cases z : y < x
    · simp only [Int.toNat_zero, List.getD_cons_zero, z, decide_true, if_true, List.length_cons]
      omega
    · simp only [Int.toNat_zero, List.getD_cons_zero, z, decide_false, Bool.false_eq_true, if_false]
      omega
theorem wrg_inv : ∀ {xs : List Int}, (wrg xs).length = inv xs := by
  have sh : ∀ (l : List Int), ((upFrom 0 l.length).flatMap (fun i => ((upFrom (i + 1) ((l.length : Int) - (i + 1)).toNat).filter fun j => decide (l.getD j.toNat 0 < l.getD i.toNat 0)).map fun j => (i + 1, j + 1))).length = inv l := by
    intro l
    induction l with
    | nil => rfl
    | cons x r ih =>
      rw [List.length_cons, up_head, List.flatMap_cons, List.length_append, List.length_map]
      have e0 : (((r.length + 1 : Nat) : Int) - (0 + 1)).toNat = r.length := by omega
      rw [e0]
      have h1 := filt_up (P := fun j => decide ((x :: r).getD j.toNat 0 < (x :: r).getD (0 : Int).toNat 0)) (Q := fun j => decide (r.getD j.toNat 0 < x)) (lo := 0) (c := 1) (n := r.length) fun z h1 h2 => by
        obtain ⟨q, rfl⟩ := Int.eq_ofNat_of_zero_le h1
        have e1 : ((q : Int) + 1).toNat = q + 1 := by omega
        have e2 : ((q : Int)).toNat = q := by omega
        simp only [e1, e2, List.getD_cons_succ, Int.toNat_zero, List.getD_cons_zero]
      rw [h1, filt_cnt]
      show _ = (r.countP fun y => decide (y < x)) + inv r
      congr 1
      rw [← ih, up_shift (lo := 0) (c := 1), List.flatMap_map, List.length_flatMap, List.length_flatMap]
      congr 1
      refine List.map_congr_left fun i hi => ?_
      have hi' := mem_up.mp hi
      rw [List.length_map, List.length_map]
      have e1 : ((((r.length + 1 : Nat) : Int)) - (i + 1 + 1)).toNat = ((r.length : Int) - (i + 1)).toNat := by omega
      rw [e1]
      refine filt_up fun z h1 h2 => ?_
      obtain ⟨q, rfl⟩ : ∃ q : Nat, z = q := ⟨z.toNat, by omega⟩
      obtain ⟨p, rfl⟩ : ∃ q : Nat, i = q := ⟨i.toNat, by omega⟩
      have e1 : ((q : Int) + 1).toNat = q + 1 := by omega
      have e2 : ((q : Int)).toNat = q := by omega
      have e3 : ((p : Int) + 1).toNat = p + 1 := by omega
      have e4 : ((p : Int)).toNat = p := by omega
      simp only [e1, e2, e3, e4, List.getD_cons_succ]
  intro xs
  rw [← sh xs, foldw]
theorem inv_le {xs : List Int} : inv xs ≤ xs.length * xs.length := by
  rw [← wrg_inv]
  exact Nat.le_trans (List.length_filter_le _ _) prs_len
/-! ### a step towards the upper one -/
theorem filt_head {P : Int → Bool} : ∀ {n : Nat} {lo : Int}, (∃ x, lo ≤ x ∧ x < lo + n ∧ P x = true) → ∃ x r, (upFrom lo n).filter P = x :: r ∧ lo ≤ x ∧ x < lo + n ∧ P x = true ∧ ∀ y, lo ≤ y → y < x → P y = false
  | 0, lo, h => by obtain ⟨x, h1, h2, _⟩ := h; omega
  | n + 1, lo, h => by
    obtain ⟨x, h1, h2, h3⟩ := h
    rw [up_head, List.filter_cons]
    by_cases e : P lo = true
    · rw [if_pos e]
      exact ⟨lo, _, rfl, by omega, by omega, e, fun y h4 h5 => by omega⟩
    · rw [if_neg e]
      have hx : x ≠ lo := fun z => e (z ▸ h3)
      obtain ⟨y, r, e1, g1, g2, g3, g4⟩ := filt_head (P := P) (n := n) (lo := lo + 1) ⟨x, by omega, by omega, h3⟩
      refine ⟨y, r, e1, by omega, by omega, g3, fun z z1 z2 => ?_⟩
      by_cases q : z = lo
      · rw [q]; simpa using e
      · exact g4 z (by omega) z2
theorem cn_eq_pre {xs ys : List Int} {p : Nat} (hx : p ≤ xs.length) (hl : xs.length = ys.length) (h : ∀ q, q < p → xs.getD q 0 = ys.getD q 0) {t : Int} : cn xs p t = cn ys p t := by
  unfold cn
  rw [take_range hx, take_range (by omega)]
  have : (List.range p).map (fun q => xs.getD q 0) = (List.range p).map fun q => ys.getD q 0 := List.map_congr_left fun q hq => h q (List.mem_range.mp hq)
  rw [this]
theorem step_lt {xs ys : List Int} {p : Nat} (hl : xs.length = ys.length) (hp : p < xs.length) (h : ∀ q, q < p → xs.getD q 0 = ys.getD q 0) (hne : xs.getD p 0 ≠ ys.getD p 0) (hb : Below xs ys) : xs.getD p 0 < ys.getD p 0 := by
  have a := hb (p + 1) (xs.getD p 0)
  rw [cn_succ hp, cn_succ (by omega), cn_eq_pre (by omega) hl h, if_pos (Int.le_refl _)] at a
  by_cases z : xs.getD p 0 ≤ ys.getD p 0
  · omega
  · rw [if_neg z] at a
    omega
theorem step_ex {n : Nat} {xs ys : List Int} {p : Nat} (hx : xs.Perm (upFrom 1 n)) (hy : ys.Perm (upFrom 1 n)) (hp : p < n) (h : ∀ q, q < p → xs.getD q 0 = ys.getD q 0) (hne : xs.getD p 0 ≠ ys.getD p 0) : ∃ j, p < j ∧ j < n ∧ xs.getD j 0 = ys.getD p 0 := by
  have lx : xs.length = n := by rw [hx.length_eq, up_len]
  have ly : ys.length = n := by rw [hy.length_eq, up_len]
  have nd : ys.Nodup := hy.nodup_iff.mpr up_nodup
  obtain ⟨j, hj, e⟩ := mem_at ((hx.trans hy.symm).mem_iff.mpr (at_mem (xs := ys) (p := p) (by omega)))
  refine ⟨j, ?_, by omega, e⟩
  rcases Nat.lt_trichotomy j p with z | z | z
  · rw [h j z] at e
    exact absurd e (at_ne nd (by omega) (by omega) (by omega))
  · subst z; exact absurd e hne
  · exact z
theorem cn_mono_t {xs : List Int} {i : Nat} {s t : Int} (h : s ≤ t) : cn xs i t ≤ cn xs i s := by
  unfold cn
  refine List.countP_mono_left fun x _ hx => ?_
  simp only [decide_eq_true_eq] at hx ⊢
  omega
theorem step_below {n : Nat} {xs ys : List Int} {p j : Nat} (lx : xs.length = n) (ly : ys.length = n) (hpj : p < j) (hj : j < n) (h : ∀ q, q < p → xs.getD q 0 = ys.getD q 0) (hb : Below xs ys)
    (h1 : xs.getD p 0 < xs.getD j 0) (h2 : xs.getD j 0 ≤ ys.getD p 0) (hf : ∀ q, p < q → q < j → ¬ (xs.getD p 0 < xs.getD q 0 ∧ xs.getD q 0 ≤ ys.getD p 0)) : Below (sw xs p j) ys := by
  refine below_of (by rw [sw_len]; omega) fun k t hk => ?_
  rw [sw_len] at hk
  rw [cn_sw hpj (by omega) h1 t k hk]
  by_cases c : p < k ∧ k ≤ j ∧ xs.getD p 0 < t ∧ t ≤ xs.getD j 0
  · rw [if_pos c]
    obtain ⟨c1, c2, c3, c4⟩ := c
    generalize hv : ys.getD p 0 = v at *
    have A : ∀ k, p ≤ k → k ≤ j → cn xs k t + cn xs p (v + 1) = cn xs p t + cn xs k (v + 1) := by
      intro k
      induction k with
      | zero =>
        intro g1 _
        have : p = 0 := by omega
        subst this
        omega
      | succ k ih =>
        intro g1 g2
        by_cases e : p = k + 1
        · subst e; omega
        · have := ih (by omega) (by omega)
          rw [cn_succ (by omega), cn_succ (by omega)]
          by_cases e2 : k = p
          · subst e2
            rw [if_neg (by omega), if_neg (by omega)]
            omega
          · have q := hf k (by omega) (by omega)
            (repeat' split) <;> omega
    have B : ∀ k, p + 1 ≤ k → k ≤ n → cn ys (p + 1) t + cn ys k (v + 1) ≤ cn ys k t + cn ys (p + 1) (v + 1) := by
      intro k
      induction k with
      | zero => intro g1; omega
      | succ k ih =>
        intro g1 g2
        by_cases e : p = k
        · subst e; omega
        · have := ih (by omega) (by omega)
          rw [cn_succ (i := k) (by omega), cn_succ (i := k) (by omega)]
          (repeat' split) <;> omega
    have a := A k (by omega) c2
    have b := B k (by omega) (by omega)
    rw [cn_succ (i := p) (by omega), cn_succ (i := p) (by omega), hv, if_pos (by omega), if_neg (by omega), ← cn_eq_pre (by omega) (by omega) h, ← cn_eq_pre (by omega) (by omega) h] at b
    have c := hb k (v + 1)
    omega
  · rw [if_neg c]
    exact hb k t
theorem sw_perm {n : Nat} {xs : List Int} {i j : Nat} (h : xs.Perm (upFrom 1 n)) (hi : i < n) (hj : j < n) : (sw xs i j).Perm (upFrom 1 n) := by
  have l : xs.length = n := by rw [h.length_eq, up_len]
  exact (swap_perm (by omega) (by omega)).trans h
/-- the places at which two are unlike -/
def unl (xs ys : List Int) : List Int := (upFrom 0 xs.length).filter fun a => !(ys.getD a.toNat 0 == xs.getD a.toNat 0)
theorem unl_sw {xs : List Int} {i j : Nat} (hij : i < j) (hj : j < xs.length) (hlt : xs.getD i 0 < xs.getD j 0) : (unl xs (sw xs i j)).length = 2 := by
  have pm : (unl xs (sw xs i j)).Perm [(i : Int), (j : Int)] := by
    unfold unl
    refine (List.perm_ext_iff_of_nodup (up_nodup.filter _) (by simp; omega)).mpr fun a => ?_
    simp only [List.mem_filter, mem_up, List.mem_cons, List.not_mem_nil, or_false, Bool.not_eq_true', beq_eq_false_iff_ne, ne_eq]
    rw [sw_at (by omega) hj]
    constructor
    · rintro ⟨h1, h2⟩
      by_cases e : a.toNat = j
      · exact .inr (by omega)
      · rw [if_neg e] at h2
        by_cases e2 : a.toNat = i
        · exact .inl (by omega)
        · rw [if_neg e2] at h2
          exact absurd rfl h2
    · rintro (rfl | rfl)
      · have e : ((i : Int)).toNat = i := by omega
        rw [e, if_neg (by omega), if_pos rfl]
        exact ⟨by omega, by omega⟩
      · have e : ((j : Int)).toNat = j := by omega
        rw [e, if_pos rfl]
        exact ⟨by omega, by omega⟩
  exact pm.length_eq
/-- a chain, told from the one: cs ahead, c the last so far -/
def Chn (n : Nat) (xs : List Int) (cs : List (List Int)) : Prop := (∀ k c, cs[k]? = some c → c.Perm (upFrom 1 n) ∧ inv c = inv xs + k) ∧ ∀ k c d, cs[k]? = some c → cs[k + 1]? = some d → (unl c d).length = 2
theorem chn_one {n : Nat} {xs : List Int} (h : xs.Perm (upFrom 1 n)) : Chn n xs [xs] := by
  refine ⟨fun k c hk => ?_, fun k c d _ hd => ?_⟩
  · obtain ⟨h1, h2⟩ := List.getElem?_eq_some_iff.mp hk
    simp only [List.length_cons, List.length_nil] at h1
    have : k = 0 := by omega
    subst this
    simp only [List.getElem_cons_zero] at h2
    subst h2
    exact ⟨h, rfl⟩
  · have := (List.getElem?_eq_some_iff.mp hd).1
    simp at this
theorem chn_snoc {n : Nat} {xs c d : List Int} {cs : List (List Int)} (h : Chn n xs (cs ++ [c])) (hd : d.Perm (upFrom 1 n)) (hi : inv d = inv c + 1) (hu : (unl c d).length = 2) : Chn n xs (cs ++ [c] ++ [d]) := by
  obtain ⟨h1, h2⟩ := h
  have hc : (cs ++ [c])[cs.length]? = some c := by simp
  have hl : (cs ++ [c]).length = cs.length + 1 := by simp
  refine ⟨fun k e hk => ?_, fun k e f he hf => ?_⟩
  · by_cases q : k < (cs ++ [c]).length
    · rw [List.getElem?_append_left q] at hk
      exact h1 k e hk
    · rw [List.getElem?_append_right (by omega), List.getElem?_singleton] at hk
      have q2 : k - (cs ++ [c]).length = 0 := by
        by_cases z : k - (cs ++ [c]).length = 0
        · exact z
        · rw [if_neg z] at hk; cases hk
      rw [if_pos q2] at hk
      cases hk
      have := (h1 _ _ hc).2
      exact ⟨hd, by omega⟩
  · by_cases q : k + 1 < (cs ++ [c]).length
    · rw [List.getElem?_append_left q] at hf
      rw [List.getElem?_append_left (by omega)] at he
      exact h2 k e f he hf
    · rw [List.getElem?_append_right (by omega), List.getElem?_singleton] at hf
      have q2 : k + 1 - (cs ++ [c]).length = 0 := by
        by_cases z : k + 1 - (cs ++ [c]).length = 0
        · exact z
        · rw [if_neg z] at hf; cases hf
      rw [if_pos q2] at hf
      cases hf
      have q3 : k = cs.length := by omega
      subst q3
      rw [List.getElem?_append_left (by omega), hc] at he
      cases he
      exact hu
/-- the first place and thing by which the one is not below the other -/
def barF (n : Nat) (xs ys : List Int) : Option (Int × Int) := (upFrom 1 n).findSome? fun i => (upFrom 1 n).findSome? fun j => if cn ys i.toNat j < cn xs i.toNat j then some (i, j) else none
theorem barF_bel {n : Nat} {xs ys : List Int} : barF n xs ys = none ↔ bel n xs ys = true := by
  unfold barF bel
  simp only [List.findSome?_eq_none_iff, List.all_eq_true, decide_eq_true_eq]
  constructor
  · intro h i hi j hj
    have := h i hi (j + 1) (by have := mem_up.mp hj; exact mem_up.mpr (by omega))
    by_cases q : cn ys i.toNat (j + 1) < cn xs i.toNat (j + 1)
    · rw [if_pos q] at this; cases this
    · omega
  · intro h i hi j hj
    have := h i hi (j - 1) (by have := mem_up.mp hj; exact mem_up.mpr (by omega))
    rw [show j - 1 + 1 = j by omega] at this
    rw [if_neg (by omega)]
end UC

end
section
namespace UC
open Eg
/-! ### exchanges with one wrong pair more: nothing between is of a size between -/
theorem cntA_le {a b : Int} (hab : a < b) : ∀ {m : List Int}, (m.countP fun x => decide (x < a)) ≤ (m.countP fun x => decide (x < b)) ∧ (m.countP fun x => decide (b < x)) ≤ (m.countP fun x => decide (a < x))
  | [] => ⟨Nat.le_refl _, Nat.le_refl _⟩
  | x :: m => by
    have ih := cntA_le hab (m := m)
    simp only [List.countP_cons]
    constructor
    · by_cases h : x < a
      · rw [decide_eq_true h, decide_eq_true (by omega : x < b)]
        simp only [if_true]
        omega
      · rw [decide_eq_false h]
        simp only [Bool.false_eq_true, if_false]
        omega
    · by_cases h : b < x
      · rw [decide_eq_true h, decide_eq_true (by omega : a < x)]
        simp only [if_true]
        omega
      · rw [decide_eq_false h]
        simp only [Bool.false_eq_true, if_false]
        omega
theorem cntA_lt {a b : Int} (hab : a < b) : ∀ {m : List Int}, (∃ x ∈ m, a < x ∧ x < b) → (m.countP fun x => decide (x < a)) < (m.countP fun x => decide (x < b))
  | [], ⟨_, h, _⟩ => by cases h
  | x :: m, ⟨y, hy, h1, h2⟩ => by
    simp only [List.countP_cons]
    have le := (cntA_le hab (m := m)).1
    rcases List.mem_cons.mp hy with e | hy
    · subst e
      rw [decide_eq_false (by omega : ¬ y < a), decide_eq_true h2]
      simp only [Bool.false_eq_true, if_false, if_true]
      omega
    · have ih := cntA_lt hab ⟨y, hy, h1, h2⟩
      by_cases h : x < a
      · rw [decide_eq_true h, decide_eq_true (by omega : x < b)]
        simp only [if_true]
        omega
      · rw [decide_eq_false h]
        simp only [Bool.false_eq_true, if_false]
        omega
theorem inv_lift2 {A M R : List Int} {a b : Int} (hab : a < b) : inv (A ++ b :: (M ++ a :: R)) + (M.countP fun x => decide (x < a)) + (M.countP fun x => decide (b < x)) = inv (A ++ a :: (M ++ b :: R)) + 1 + (M.countP fun x => decide (x < b)) + (M.countP fun x => decide (a < x)) := by
  have pm : (b :: (M ++ a :: R)).Perm (a :: (M ++ b :: R)) := by
    refine (List.Perm.cons b List.perm_middle).trans ?_
    exact (List.Perm.swap a b _).trans (List.Perm.cons a List.perm_middle.symm)
  rw [inv_app, inv_app, crs_perm pm]
  simp only [inv, inv_app, crs_cons, List.countP_append, List.countP_cons]
  rw [decide_eq_true hab, decide_eq_false (by omega : ¬ b < a)]
  simp only [if_true, Bool.false_eq_true, if_false]
  omega
def midL (xs : List Int) (i j : Nat) : List Int := (xs.drop (i + 1)).take (j - i - 1)
def freeB (xs : List Int) (i j : Nat) : Bool := !(midL xs i j).any fun t => decide (min (xs.getD i 0) (xs.getD j 0) < t) && decide (t < max (xs.getD i 0) (xs.getD j 0))
theorem inv_free {xs : List Int} {i j : Nat} (hij : i < j) (hj : j < xs.length) (nd : xs.Nodup) (hlt : xs.getD i 0 < xs.getD j 0) : freeB xs i j = decide (inv (sw xs i j) = inv xs + 1) := by
  rw [Bool.eq_iff_iff, decide_eq_true_eq]
  have e1 : min (xs.getD i 0) (xs.getD j 0) = xs.getD i 0 := by omega
  have e2 : max (xs.getD i 0) (xs.getD j 0) = xs.getD j 0 := by omega
  unfold freeB
  rw [e1, e2]
  have q := inv_lift2 (A := xs.take i) (M := midL xs i j) (R := xs.drop (j + 1)) hlt
  have s1 := split_sw hij hj
  have s2 := split2 hij hj
  unfold midL at *
  rw [← s1, ← s2] at q
  constructor
  · intro h
    refine inv_sw hij hj hlt fun p h1 h2 => ?_
    have hn : ¬ (xs.getD i 0 < xs.getD p 0 ∧ xs.getD p 0 < xs.getD j 0) := fun z => by
      have hm : xs.getD p 0 ∈ (xs.drop (i + 1)).take (j - i - 1) := by
        refine List.mem_iff_getElem.mpr ⟨p - i - 1, by rw [List.length_take, List.length_drop]; omega, ?_⟩
        rw [List.getElem_take, List.getElem_drop, List.getD_eq_getElem?_getD, List.getElem?_eq_getElem (by omega : p < xs.length)]
        have : i + 1 + (p - i - 1) = p := by omega
        simp only [this]
        rfl
      have : ((xs.drop (i + 1)).take (j - i - 1)).any (fun t => decide (xs.getD i 0 < t) && decide (t < xs.getD j 0)) = true := List.any_eq_true.mpr ⟨_, hm, by simp only [Bool.and_eq_true, decide_eq_true_eq]; exact z⟩
      rw [this] at h
      cases h
    have n1 := at_ne nd (p := i) (q := p) (by omega) (by omega) (by omega)
    have n2 := at_ne nd (p := p) (q := j) (by omega) (by omega) (by omega)
    omega
  · intro h
    rw [Bool.not_eq_true', Bool.eq_false_iff]
    intro z
    obtain ⟨x, hx, hz⟩ := List.any_eq_true.mp z
    simp only [Bool.and_eq_true, decide_eq_true_eq] at hz
    have l1 := cntA_lt hlt ⟨x, hx, hz⟩
    have l2 := (cntA_le hlt (m := (xs.drop (i + 1)).take (j - i - 1))).2
    omega
theorem free_sw {xs : List Int} {i j : Nat} (hij : i < j) (hj : j < xs.length) : freeB (sw xs i j) i j = freeB xs i j := by
  have m : midL (sw xs i j) i j = midL xs i j := by
    unfold midL
    refine List.ext_getElem (by simp [sw_len]) fun p h1 h2 => ?_
    have hp : p < j - i - 1 := by rw [List.length_take] at h1; omega
    have hp2 : i + 1 + p < xs.length := by omega
    rw [List.getElem_take, List.getElem_take, List.getElem_drop, List.getElem_drop]
    have := sw_at (xs := xs) (i := i) (j := j) (by omega) hj (p := i + 1 + p)
    rw [if_neg (by omega), if_neg (by omega), List.getD_eq_getElem?_getD, List.getD_eq_getElem?_getD, List.getElem?_eq_getElem hp2, List.getElem?_eq_getElem (by rw [sw_len]; exact hp2)] at this
    exact this
  unfold freeB
  rw [m, sw_at (by omega) hj, sw_at (by omega) hj, if_pos rfl, if_neg (by omega), if_pos rfl, Int.min_comm, Int.max_comm]
theorem sw_sw {xs : List Int} {i j : Nat} (hij : i < j) (hj : j < xs.length) : sw (sw xs i j) i j = xs := by
  refine ext_getD (by rw [sw_len, sw_len]) fun p hp => ?_
  rw [sw_at (by rw [sw_len]; omega) (by rw [sw_len]; omega), sw_at (by omega) hj, sw_at (by omega) hj, sw_at (by omega) hj]
  by_cases a : p = j
  · subst a
    rw [if_pos rfl, if_neg (by omega), if_pos rfl]
  · rw [if_neg a]
    by_cases b : p = i
    · subst b
      rw [if_pos rfl, if_pos rfl]
    · rw [if_neg b, if_neg a, if_neg b]
theorem free_dn {xs : List Int} {i j : Nat} (hij : i < j) (hj : j < xs.length) (nd : xs.Nodup) (hlt : xs.getD j 0 < xs.getD i 0) : freeB xs i j = decide (inv (sw xs i j) + 1 = inv xs) := by
  have ndS : (sw xs i j).Nodup := (swap_perm (l := xs) (i := i) (j := j) (by omega) hj).nodup_iff.mpr nd
  have q := inv_free (xs := sw xs i j) hij (by rw [sw_len]; exact hj) ndS (by rw [sw_at (by omega) hj, sw_at (by omega) hj, if_neg (by omega), if_pos rfl, if_pos rfl]; exact hlt)
  rw [free_sw hij hj, sw_sw hij hj] at q
  rw [q, Bool.eq_iff_iff, decide_eq_true_eq, decide_eq_true_eq]
  omega
end UC

end
namespace UC
open PySem Eg

def nn17 : List Str := ["order", "i", "j", "found"]
/-- places_changed -/
def bb17 : S := (.seq (.set 3 (.bi .listC (.cons (.var 0) .nil)))
  (.seq (.unp (.tp (.cons (.sub 3 (.bi .sub (.cons (.var 1) (.cons (.con (.int 1)) .nil)))) (.cons (.sub 3 (.bi .sub (.cons (.var 2) (.cons (.con (.int 1)) .nil)))) .nil))) (.tup (.cons (.bi .idx (.cons (.var 0) (.cons (.bi .sub (.cons (.var 2) (.cons (.con (.int 1)) .nil))) .nil))) (.cons (.bi .idx (.cons (.var 0) (.cons (.bi .sub (.cons (.var 1) (.cons (.con (.int 1)) .nil))) .nil))) .nil))))
  (.seq (.ret (.bi .tupleC (.cons (.var 3) .nil)))
  .skip)))
def ff17 : FD := ⟨3, 4, [], [.a, .a, .a, .o], .a, bb17⟩
def nn20 : List Str := ["n", "found", "i", "j"]
/-- pairs_of -/
def bb20 : S := (.seq (.set 1 (.lst .nil))
  (.seq (.for_ (.nm 2) (.bi .rng2 (.cons (.con (.int 1)) (.cons (.var 0) .nil))) (.seq (.ext 1 (.comp [3] (.nm 3) (.bi .rng2 (.cons (.bi .add (.cons (.var 2) (.cons (.con (.int 1)) .nil))) (.cons (.bi .add (.cons (.var 0) (.cons (.con (.int 1)) .nil))) .nil))) (.con (.bl true)) (.tup (.cons (.var 2) (.cons (.var 3) .nil)))))
  .skip))
  (.seq (.ret (.mv 1))
  .skip)))
def ff20 : FD := ⟨1, 4, [], [.a, .o, .a, .a], .o, bb20⟩
def nn21 : List Str := ["order", "pair"]
/-- is_wrong -/
def bb21 : S := (.seq (.ret (.bi .gt (.cons (.bi .idx (.cons (.var 0) (.cons (.bi .sub (.cons (.bi .idx (.cons (.var 1) (.cons (.con (.int 0)) .nil))) (.cons (.con (.int 1)) .nil))) .nil))) (.cons (.bi .idx (.cons (.var 0) (.cons (.bi .sub (.cons (.bi .idx (.cons (.var 1) (.cons (.con (.int 1)) .nil))) (.cons (.con (.int 1)) .nil))) .nil))) .nil))))
  .skip)
def ff21 : FD := ⟨2, 2, [], [.a, .a], .a, bb21⟩
def nn124 : List Str := ["order", "pair", "i", "j", "low", "high", "thing"]
/-- is_step -/
def bb124 : S := (.seq (.unp (.tp (.cons (.nm 2) (.cons (.nm 3) .nil))) (.var 1))
  (.seq (.unp (.tp (.cons (.nm 4) (.cons (.nm 5) .nil))) (.bi .sorted (.cons (.lst (.cons (.bi .idx (.cons (.var 0) (.cons (.bi .sub (.cons (.var 2) (.cons (.con (.int 1)) .nil))) .nil))) (.cons (.bi .idx (.cons (.var 0) (.cons (.bi .sub (.cons (.var 3) (.cons (.con (.int 1)) .nil))) .nil))) .nil))) .nil)))
  (.seq (.ret (.not (.bi .anyL (.cons (.comp [6] (.nm 6) (.sl3 (.var 0) (.var 2) (.bi .sub (.cons (.var 3) (.cons (.con (.int 1)) .nil)))) (.con (.bl true)) (.chn .lt .lt (.var 4) (.var 6) (.var 5))) .nil))))
  .skip)))
def ff124 : FD := ⟨2, 7, [], [.a, .a, .a, .a, .a, .a, .a], .a, bb124⟩
def nn125 : List Str := ["order", "wrong", "some", "pair", "i", "j"]
/-- steps -/
def bb125 : S := (.seq (.set 2 (.comp [3] (.nm 3) (.call 20 true (.cons (.bi .len (.cons (.var 0) .nil)) .nil)) (.and (.bi .eq (.cons (.call 21 false (.cons (.var 0) (.cons (.var 3) .nil))) (.cons (.var 1) .nil))) (.call 124 false (.cons (.var 0) (.cons (.var 3) .nil)))) (.var 3)))
  (.seq (.ret (.bi .sorted (.cons (.comp [4, 5] (.tp (.cons (.nm 4) (.cons (.nm 5) .nil))) (.var 2) (.con (.bl true)) (.call 17 false (.cons (.var 0) (.cons (.var 4) (.cons (.var 5) .nil))))) .nil)))
  .skip))
def ff125 : FD := ⟨2, 6, [], [.a, .a, .a, .a, .a, .a], .o, bb125⟩
def nn126 : List Str := ["order"]
/-- steps_above -/
def bb126 : S := (.seq (.ret (.call 125 true (.cons (.var 0) (.cons (.con (.bl false)) .nil))))
  .skip)
def ff126 : FD := ⟨1, 1, [], [.a], .o, bb126⟩
def nn127 : List Str := ["order"]
/-- steps_below -/
def bb127 : S := (.seq (.ret (.call 125 true (.cons (.var 0) (.cons (.con (.bl true)) .nil))))
  .skip)
def ff127 : FD := ⟨1, 1, [], [.a], .o, bb127⟩
def nn2 : List Str := ["_law_script", "_law_k", "_law_cell", "_law_state"]
/-- _law_bag -/
def bb2 : S := (.seq (.set 2 (.con (.int 0)))
  (.seq (.ifs (.bi .lt (.cons (.var 1) (.cons (.bi .len (.cons (.var 0) .nil)) .nil))) (.seq (.set 2 (.bi .abs (.cons (.bi .idx (.cons (.var 0) (.cons (.var 1) .nil))) .nil)))
  .skip) .skip)
  (.seq (.set 3 (.bi .add (.cons (.con (.int 1)) (.cons (.bi .mod (.cons (.bi .add (.cons (.bi .add (.cons (.bi .add (.cons (.bi .mod (.cons (.var 2) (.cons (.con (.int 2147483647)) .nil))) (.cons (.bi .mul (.cons (.bi .mul (.cons (.con (.int 7919)) (.cons (.var 1) .nil))) (.cons (.var 1) .nil))) .nil))) (.cons (.bi .mul (.cons (.con (.int 17)) (.cons (.var 1) .nil))) .nil))) (.cons (.con (.int 3)) .nil))) (.cons (.con (.int 2147483646)) .nil))) .nil))))
  (.seq (.ret (.lst (.cons (.bi .mul (.cons (.var 2) (.cons (.bi .intC (.cons (.bi .ge (.cons (.var 2) (.cons (.bi .pow (.cons (.con (.int 10)) (.cons (.con (.int 18)) .nil))) .nil))) .nil)) .nil))) (.cons (.var 3) .nil))))
  .skip))))
def ff2 : FD := ⟨2, 4, [], [.a, .a, .a, .a], .o, bb2⟩
def nn3 : List Str := ["_law_bag_here", "_law_many", "_law_found"]
/-- _law_digit -/
def bb3 : S := (.seq (.ifs (.bi .gt (.cons (.bi .idx (.cons (.var 0) (.cons (.con (.int 0)) .nil))) (.cons (.con (.int 0)) .nil))) (.seq (.set 2 (.bi .mod (.cons (.bi .idx (.cons (.var 0) (.cons (.con (.int 0)) .nil))) (.cons (.var 1) .nil))))
  (.seq (.sub 0 (.con (.int 0)) (.bi .fdiv (.cons (.bi .idx (.cons (.var 0) (.cons (.con (.int 0)) .nil))) (.cons (.var 1) .nil))))
  (.seq (.ret (.var 2))
  .skip))) .skip)
  (.seq (.sub 0 (.con (.int 1)) (.bi .mod (.cons (.bi .mul (.cons (.bi .idx (.cons (.var 0) (.cons (.con (.int 1)) .nil))) (.cons (.con (.int 48271)) .nil))) (.cons (.con (.int 2147483647)) .nil))))
  (.seq (.ret (.bi .mod (.cons (.bi .fdiv (.cons (.bi .mod (.cons (.bi .mul (.cons (.bi .idx (.cons (.var 0) (.cons (.con (.int 1)) .nil))) (.cons (.bi .add (.cons (.bi .fdiv (.cons (.bi .idx (.cons (.var 0) (.cons (.con (.int 1)) .nil))) (.cons (.con (.int 65536)) .nil))) (.cons (.con (.int 9)) .nil))) .nil))) (.cons (.con (.int 2147483629)) .nil))) (.cons (.con (.int 32)) .nil))) (.cons (.var 1) .nil))))
  .skip)))
def ff3 : FD := ⟨2, 3, [0], [.o, .a, .a], .a, bb3⟩
def nn4 : List Str := ["_law_bag_here", "_law_n", "_law_left", "_law_found", "_law_at"]
/-- _law_any -/
def bb4 : S := (.seq (.set 2 (.bi .lrng2 (.cons (.con (.int 1)) (.cons (.bi .add (.cons (.var 1) (.cons (.con (.int 1)) .nil))) .nil))))
  (.seq (.set 3 (.lst .nil))
  (.seq (.whl (.bi .gt (.cons (.bi .len (.cons (.var 2) .nil)) (.cons (.con (.int 0)) .nil))) (.seq (.set 4 (.call 3 false (.cons (.io 0) (.cons (.bi .len (.cons (.var 2) .nil)) .nil))))
  (.seq (.app 3 (.bi .idx (.cons (.var 2) (.cons (.var 4) .nil))))
  (.seq (.set 2 (.bi .add (.cons (.bi .slU (.cons (.var 2) (.cons (.var 4) .nil))) (.cons (.bi .slL (.cons (.var 2) (.cons (.bi .add (.cons (.var 4) (.cons (.con (.int 1)) .nil))) .nil))) .nil))))
  .skip))))
  (.seq (.ret (.bi .tupleC (.cons (.var 3) .nil)))
  .skip))))
def ff4 : FD := ⟨2, 5, [0], [.o, .a, .a, .o, .a], .a, bb4⟩
def nn5 : List Str := ["_law_bag_here", "_law_n", "_law_way", "_law_found", "_law_k", "_law_i", "_law_j"]
/-- _law_order -/
def bb5 : S := (.seq (.set 2 (.call 3 false (.cons (.io 0) (.cons (.con (.int 4)) .nil))))
  (.seq (.ifs (.bi .gt (.cons (.var 2) (.cons (.con (.int 1)) .nil))) (.seq (.ret (.call 4 false (.cons (.io 0) (.cons (.var 1) .nil))))
  .skip) .skip)
  (.seq (.set 3 (.bi .lrng2 (.cons (.con (.int 1)) (.cons (.bi .add (.cons (.var 1) (.cons (.con (.int 1)) .nil))) .nil))))
  (.seq (.ifs (.bi .eq (.cons (.var 2) (.cons (.con (.int 1)) .nil))) (.seq (.set 3 (.bi .slRev (.cons (.var 3) .nil)))
  .skip) .skip)
  (.seq (.for_ (.nm 4) (.bi .rng1 (.cons (.call 3 false (.cons (.io 0) (.cons (.con (.int 7)) .nil))) .nil)) (.seq (.set 5 (.call 3 false (.cons (.io 0) (.cons (.var 1) .nil))))
  (.seq (.set 6 (.call 3 false (.cons (.io 0) (.cons (.var 1) .nil))))
  (.seq (.unp (.tp (.cons (.sub 3 (.var 5)) (.cons (.sub 3 (.var 6)) .nil))) (.tup (.cons (.bi .idx (.cons (.var 3) (.cons (.var 6) .nil))) (.cons (.bi .idx (.cons (.var 3) (.cons (.var 5) .nil))) .nil))))
  .skip))))
  (.seq (.ret (.bi .tupleC (.cons (.var 3) .nil)))
  .skip))))))
def ff5 : FD := ⟨2, 7, [0], [.o, .a, .a, .o, .a, .a, .a], .a, bb5⟩
def nn25 : List Str := ["_law_order_here", "_law_n", "_law_found", "_law_i", "_law_j"]
/-- _law_wrong -/
def bb25 : S := (.seq (.set 1 (.bi .len (.cons (.var 0) .nil)))
  (.seq (.set 2 (.lst .nil))
  (.seq (.for_ (.nm 3) (.bi .rng1 (.cons (.var 1) .nil)) (.seq (.ext 2 (.comp [4] (.nm 4) (.bi .rng2 (.cons (.bi .add (.cons (.var 3) (.cons (.con (.int 1)) .nil))) (.cons (.var 1) .nil))) (.bi .gt (.cons (.bi .idx (.cons (.var 0) (.cons (.var 3) .nil))) (.cons (.bi .idx (.cons (.var 0) (.cons (.var 4) .nil))) .nil))) (.tup (.cons (.bi .add (.cons (.var 3) (.cons (.con (.int 1)) .nil))) (.cons (.bi .add (.cons (.var 4) (.cons (.con (.int 1)) .nil))) .nil)))))
  .skip))
  (.seq (.ret (.mv 2))
  .skip))))
def ff25 : FD := ⟨1, 5, [], [.a, .a, .o, .a, .a], .o, bb25⟩
def nn128 : List Str := ["_law_order_here", "_law_more", "_law_many", "_law_found", "_law_i", "_law_j", "_law_left"]
/-- _law_due -/
def bb128 : S := (.seq (.set 2 (.bi .add (.cons (.bi .len (.cons (.call 25 true (.cons (.var 0) .nil)) .nil)) (.cons (.var 1) .nil))))
  (.seq (.set 3 (.lst .nil))
  (.seq (.for_ (.nm 4) (.bi .rng1 (.cons (.bi .len (.cons (.var 0) .nil)) .nil)) (.seq (.for_ (.nm 5) (.bi .rng2 (.cons (.bi .add (.cons (.var 4) (.cons (.con (.int 1)) .nil))) (.cons (.bi .len (.cons (.var 0) .nil)) .nil))) (.seq (.set 6 (.bi .listC (.cons (.var 0) .nil)))
  (.seq (.unp (.tp (.cons (.sub 6 (.var 4)) (.cons (.sub 6 (.var 5)) .nil))) (.tup (.cons (.bi .idx (.cons (.var 6) (.cons (.var 5) .nil))) (.cons (.bi .idx (.cons (.var 6) (.cons (.var 4) .nil))) .nil))))
  (.seq (.ifs (.and (.bi .eq (.cons (.bi .lt (.cons (.bi .idx (.cons (.var 0) (.cons (.var 4) .nil))) (.cons (.bi .idx (.cons (.var 0) (.cons (.var 5) .nil))) .nil))) (.cons (.bi .eq (.cons (.var 1) (.cons (.con (.int 1)) .nil))) .nil))) (.bi .eq (.cons (.bi .len (.cons (.call 25 true (.cons (.bw 6) .nil)) .nil)) (.cons (.var 2) .nil)))) (.seq (.app 3 (.bi .tupleC (.cons (.var 6) .nil)))
  .skip) .skip)
  .skip))))
  .skip))
  (.seq (.ret (.bi .sorted (.cons (.var 3) .nil)))
  .skip))))
def ff128 : FD := ⟨2, 7, [], [.a, .a, .a, .o, .a, .a, .o], .o, bb128⟩
def nn129 : List Str := ["_law_found", "_law_due_here", "_law_order_here", "_law_thing"]
/-- _law_told -/
def bb129 : S := (.seq (.ifs (.or (.not (.bi (.isi 4) (.cons (.var 0) .nil))) (.bi .ne (.cons (.var 0) (.cons (.var 1) .nil)))) (.seq (.ret (.con (.bl false)))
  .skip) .skip)
  (.seq (.forO 0 (.nm 2) (.var 0) (.seq (.ifs (.or (.not (.bi (.isi 3) (.cons (.var 2) .nil))) (.bi .anyL (.cons (.comp [3] (.nm 3) (.var 2) (.con (.bl true)) (.bi (.isi 1) (.cons (.var 3) .nil))) .nil))) (.seq (.ret (.con (.bl false)))
  .skip) .skip)
  .skip))
  (.seq (.app 0 (.con .non))
  (.seq (.ret (.con (.bl true)))
  .skip))))
def ff129 : FD := ⟨2, 4, [0], [.o, .a, .a, .a], .a, bb129⟩
def nn130 : List Str := ["_law_script", "_law_k", "_law_bag_here", "_law_order_here", "_law_above", "_law_below", "_law_turn", "_law_one"]
/-- law -/
def bb130 : S := (.seq (.for_ (.nm 1) (.bi .rng1 (.cons (.bi .max2 (.cons (.con (.int 1)) (.cons (.bi .min2 (.cons (.con (.int 2)) (.cons (.bi .len (.cons (.var 0) .nil)) .nil))) .nil))) .nil)) (.seq (.set 2 (.call 2 true (.cons (.var 0) (.cons (.var 1) .nil))))
  (.seq (.set 3 (.call 5 false (.cons (.io 2) (.cons (.bi .add (.cons (.con (.int 1)) (.cons (.call 3 false (.cons (.io 2) (.cons (.bi .idx (.cons (.lst (.cons (.con (.int 12)) (.cons (.con (.int 12)) (.cons (.con (.int 12)) (.cons (.con (.int 20)) .nil))))) (.cons (.call 3 false (.cons (.io 2) (.cons (.con (.int 4)) .nil))) .nil))) .nil))) .nil))) .nil))))
  (.seq (.set 4 (.call 128 true (.cons (.var 3) (.cons (.con (.int 1)) .nil))))
  (.seq (.set 5 (.call 128 true (.cons (.var 3) (.cons (.bi .neg (.cons (.con (.int 1)) .nil)) .nil))))
  (.seq (.for_ (.nm 6) (.bi .rng1 (.cons (.con (.int 2)) .nil)) (.seq (.ifs (.or (.not (.callF 129 (.call 126 true (.cons (.var 3) .nil)) (.cons (.var 4) .nil))) (.not (.callF 129 (.call 127 true (.cons (.var 3) .nil)) (.cons (.var 5) .nil)))) (.seq (.ret (.con (.bl false)))
  .skip) .skip)
  .skip))
  (.seq (.ifs (.bi .gt (.cons (.bi .len (.cons (.var 4) .nil)) (.cons (.con (.int 0)) .nil))) (.seq (.set 7 (.bi .idx (.cons (.var 4) (.cons (.call 3 false (.cons (.io 2) (.cons (.bi .len (.cons (.var 4) .nil)) .nil))) .nil))))
  (.seq (.ifs (.bi .notin (.cons (.var 3) (.cons (.call 127 true (.cons (.var 7) .nil)) .nil))) (.seq (.ret (.con (.bl false)))
  .skip) .skip)
  .skip)) .skip)
  .skip)))))))
  (.seq (.ret (.con (.bl true)))
  .skip))
def ff130 : FD := ⟨1, 8, [], [.a, .a, .o, .a, .a, .a, .a, .a], .a, bb130⟩
def ffD : FD := ⟨0, 0, [], [], .a, .skip⟩
def FF (n : Nat) : FD := (bif Nat.ble n 21 then (bif Nat.ble n 4 then (bif Nat.ble n 2 then (bif Nat.beq n 2 then ff2 else ffD) else (bif Nat.ble n 3 then (bif Nat.beq n 3 then ff3 else ffD) else (bif Nat.beq n 4 then ff4 else ffD))) else (bif Nat.ble n 17 then (bif Nat.ble n 5 then (bif Nat.beq n 5 then ff5 else ffD) else (bif Nat.beq n 17 then ff17 else ffD)) else (bif Nat.ble n 20 then (bif Nat.beq n 20 then ff20 else ffD) else (bif Nat.beq n 21 then ff21 else ffD)))) else (bif Nat.ble n 126 then (bif Nat.ble n 124 then (bif Nat.ble n 25 then (bif Nat.beq n 25 then ff25 else ffD) else (bif Nat.beq n 124 then ff124 else ffD)) else (bif Nat.ble n 125 then (bif Nat.beq n 125 then ff125 else ffD) else (bif Nat.beq n 126 then ff126 else ffD))) else (bif Nat.ble n 128 then (bif Nat.ble n 127 then (bif Nat.beq n 127 then ff127 else ffD) else (bif Nat.beq n 128 then ff128 else ffD)) else (bif Nat.ble n 129 then (bif Nat.beq n 129 then ff129 else ffD) else (bif Nat.beq n 130 then ff130 else ffD)))))
@[irreducible] def WF : Nat := 1000000000
theorem lt_WF {m : Nat} (h : m < 1000000000) : m < WF := by with_unfolding_all exact h
@[irreducible] def RN (n : Nat) : Nat → List D → CR := Eg.run FF WF n
theorem RN_eq {n : Nat} : RN n = Eg.run FF WF n := by with_unfolding_all rfl
theorem RN_of {n f : Nat} {g : FD} {ds env : List D} (hF : FF f = g) (he : ds ++ List.replicate (g.ns - g.np) .unset = env) : RN (n + 1) f ds = finR g.io (exK (RN n) WF g.body env .done) := by
  rw [RN_eq, RN_eq]
  exact run_eq hF he
theorem r2 {n : Nat} {a0 a1 : D} : RN (n + 1) 2 [a0, a1] = finR [] (exK (RN n) WF bb2 [a0, a1, .unset, .unset] .done) := RN_of (g := ff2) (by with_unfolding_all rfl) rfl
theorem r3 {n : Nat} {a0 a1 : D} : RN (n + 1) 3 [a0, a1] = finR [0] (exK (RN n) WF bb3 [a0, a1, .unset] .done) := RN_of (g := ff3) (by with_unfolding_all rfl) rfl
theorem r4 {n : Nat} {a0 a1 : D} : RN (n + 1) 4 [a0, a1] = finR [0] (exK (RN n) WF bb4 [a0, a1, .unset, .unset, .unset] .done) := RN_of (g := ff4) (by with_unfolding_all rfl) rfl
theorem r5 {n : Nat} {a0 a1 : D} : RN (n + 1) 5 [a0, a1] = finR [0] (exK (RN n) WF bb5 [a0, a1, .unset, .unset, .unset, .unset, .unset] .done) := RN_of (g := ff5) (by with_unfolding_all rfl) rfl
theorem r17 {n : Nat} {a0 a1 a2 : D} : RN (n + 1) 17 [a0, a1, a2] = finR [] (exK (RN n) WF bb17 [a0, a1, a2, .unset] .done) := RN_of (g := ff17) (by with_unfolding_all rfl) rfl
theorem r20 {n : Nat} {a0 : D} : RN (n + 1) 20 [a0] = finR [] (exK (RN n) WF bb20 [a0, .unset, .unset, .unset] .done) := RN_of (g := ff20) (by with_unfolding_all rfl) rfl
theorem r21 {n : Nat} {a0 a1 : D} : RN (n + 1) 21 [a0, a1] = finR [] (exK (RN n) WF bb21 [a0, a1] .done) := RN_of (g := ff21) (by with_unfolding_all rfl) rfl
theorem r25 {n : Nat} {a0 : D} : RN (n + 1) 25 [a0] = finR [] (exK (RN n) WF bb25 [a0, .unset, .unset, .unset, .unset] .done) := RN_of (g := ff25) (by with_unfolding_all rfl) rfl
theorem r124 {n : Nat} {a0 a1 : D} : RN (n + 1) 124 [a0, a1] = finR [] (exK (RN n) WF bb124 [a0, a1, .unset, .unset, .unset, .unset, .unset] .done) := RN_of (g := ff124) (by with_unfolding_all rfl) rfl
theorem r125 {n : Nat} {a0 a1 : D} : RN (n + 1) 125 [a0, a1] = finR [] (exK (RN n) WF bb125 [a0, a1, .unset, .unset, .unset, .unset] .done) := RN_of (g := ff125) (by with_unfolding_all rfl) rfl
theorem r126 {n : Nat} {a0 : D} : RN (n + 1) 126 [a0] = finR [] (exK (RN n) WF bb126 [a0] .done) := RN_of (g := ff126) (by with_unfolding_all rfl) rfl
theorem r127 {n : Nat} {a0 : D} : RN (n + 1) 127 [a0] = finR [] (exK (RN n) WF bb127 [a0] .done) := RN_of (g := ff127) (by with_unfolding_all rfl) rfl
theorem r128 {n : Nat} {a0 a1 : D} : RN (n + 1) 128 [a0, a1] = finR [] (exK (RN n) WF bb128 [a0, a1, .unset, .unset, .unset, .unset, .unset] .done) := RN_of (g := ff128) (by with_unfolding_all rfl) rfl
theorem r129 {n : Nat} {a0 a1 : D} : RN (n + 1) 129 [a0, a1] = finR [0] (exK (RN n) WF bb129 [a0, a1, .unset, .unset] .done) := RN_of (g := ff129) (by with_unfolding_all rfl) rfl
theorem r130 {n : Nat} {a0 : D} : RN (n + 1) 130 [a0] = finR [] (exK (RN n) WF bb130 [a0, .unset, .unset, .unset, .unset, .unset, .unset, .unset] .done) := RN_of (g := ff130) (by with_unfolding_all rfl) rfl
end UC

section
namespace UC
open PySem Eg
local macro_rules
  | `(tactic| simp!) => `(tactic| simp (maxSteps := 3000000) (disch := first | omega | assumption | (simp only [List.length_cons, List.length_nil, List.length_map, ints_len, List.length_append, List.length_take, List.length_drop, List.length_set, List.length_reverse, List.length_range, up_len]; omega)) only [k_var, k_con, k_glob, k_nil, k_cons, k_tup, k_lst, k_bi, k_and, k_or, k_not, k_ite, k_call, k_sl3, k_chn, k_comp, k_io, k_bw, k_mv, a_consR, a_consD, a_tup, a_lst, a_bi, a_bopK, a_and, a_or, a_not, a_ite, a_call, a_callG, a_callK, a_callX, a_sl1, a_sl2, a_sl3, a_ch1, a_ch2, a_chK, a_ch3, a_chK2, a_comp, a_exc, s_exc, s_ret, s_no, s_seq, s_seqB, s_seqC, s_done, k_skip, k_seq, k_ret, k_set, k_sub, k_unp, k_exp, k_ifs, k_for, k_rais, k_brk, k_cont, k_try, a_tryN, a_tryR, a_tryX, a_tryS, a_trySn, k_whl, k_appL, k_extL, a_appG, a_extG, k_aug, a_augG, a_ret, a_set, a_sub1, a_sub1K, a_sub2, a_aug, a_augS, a_app, a_ext, a_exp, a_ifs, a_ifsT, a_ifsF, a_for, a_forK, a_top, f_nil, s_loop, s_loopC, s_loopB, s_rh, k_retH, k_mvN, k_emN, k_compN, k_appN, k_frz, a_frzK, k_parO, a_par1, a_par2, k_forN, k_appAt, a_atG, a_at1, a_at2, k_forO, a_foK, a_foK2, finO_nx, finO_ret, fin_ret, fin_nx, fin_exc, gd0, gd1, gd2, gd3, gd4, gd5, gd6, gd7, gd8, gd9, gd10, gd11, gd12, gd13, gd14, gd15, st0, st1, st2, st3, st4, st5, st6, st7, st8, st9, st10, st11, st12, st13, st14, st15, v_non, v_bl, v_int, v_str, v_tup, v_lst, v_fl, v_dct, io_f, u_non, u_bl, u_int, u_str, u_tup, u_lst, u_fl, u_uns, v_exc, u_exc, x_non, x_uns, x_bl, x_int, x_str, x_tup, x_lst, x_fl, okRes_f, okRes_tl, n_non, n_bl, n_int, n_str, n_tup, ns_nil, ns_cons, ns_ints, rtP_ret, xs_nil, xs_cons, xs_ints, isx_e, excOk_1, excOk_2, excOk_3, excOk_4, excOk_5, excOk_6, excOk_7, excOk_8, l_lst, i_lst, i_tup, i_fl, eq_ii, ne_ii, eq_bb, ne_bb, F2_le, F2_lt, neg_i, slRev_l, slRevT_t, revI_l, enumI_l, enumT_t, enumZ_l, divmod_ii, zipI_l, listC_l, listC_t, listC_f, tupleC_l, tupleC_t, int_i, max_ii, min_ii, isi_d, isI_non, isI_bl, isI_int, isI_str, isI_tup, isI_lst, idx_ld, idx_td, idx_fd, is_bb, isnot_bb, add_ii, sub_ii, lt_ii, le_ii, gt_ii, ge_ii, len_l, len_f, len_t, abs_i, int_b, mod_ii, fdiv_ii, slU_lz, slL_lz, slU_tz, slL_tz, ints_len, ints_app, ints_one, ints_take, ints_drop, ints_rev, ints_set, at_0, at_1, at_2, atI_ints, a_subKz, a_appK, a_extK, mul_rz, mul_lz, pow_lit, lrng2_z, trng2_z, rng2_z, rng1_z, lrng1_z, add_llz, add_ttz, nxP_nx, rowP_nx, rowP_rh, f_consG, loopG_s, a_unpG, a_unpK, asgB_s, asg_nm, asg_nil, asg_cons, asg_tpT, asg_tpL, asg_sub, asgS_r, asgL_z, asgN_nm, asgNB_s, asgN_nil, asgN_cons, asgN_tpT, asgN_tpL, k_callF, a_cF1, a_cF2, cfK_ok, cfK_exc, k_extN, k_lst1, a_l1, k_addN, a_ad1, a_ad2, addF_l, k_gtL, a_gtG, a_gtL, gtF_i, k_pop, a_popG, a_pop, popK_z, k_chn3, a_c31, a_c32, a_c3K, a_c33, a_c3L, a_c34, k_rev, revK_l, k_augs, a_forNK, a_augsG, a_augs1, augs1K_z, a_augs2, augs2K_z, min_l, ioS, ioP, bwS, isIo, isBw, byNm, fillA, setMany, setAll, wipeE, decide_eq_true, decide_eq_false, Option.map_some, Bool.not_true, Bool.not_false, Bool.true_and, Bool.false_and, Bool.and_true, Bool.and_false, Bool.or_true, Bool.or_false, Bool.false_or, Bool.true_or, Bool.false_eq_true, Bool.true_eq_false, if_true, if_false, decide_eq_true_eq, decide_true, decide_false, List.all_cons, List.all_nil, List.map_cons, List.map_nil, List.append_nil, List.nil_append, List.cons_append, List.isEmpty_nil, Bool.not_eq_true, eq_self, beq_self_eq_true, and_true, true_and, and_false, false_and, not_true_eq_false, not_false_eq_true, ite_self, beq_iff_eq, decide_eq_false_iff_not, Nat.reduceBEq, Nat.reduceEqDiff, Int.reduceToNat, Int.reduceAdd, Int.reduceSub, Int.reduceNeg, Int.reduceEq, Int.reduceLT, Int.reduceLE, Int.lt_irrefl, Bool.not_eq_true', Bool.not_eq_false', List.length_cons, List.length_nil, Int.toNat_zero, Int.toNat_one, Int.toNat_natCast])
local macro_rules
  | `(tactic| simp! [$xs,*]) => `(tactic| simp (maxSteps := 3000000) (disch := first | omega | assumption | (simp only [List.length_cons, List.length_nil, List.length_map, ints_len, List.length_append, List.length_take, List.length_drop, List.length_set, List.length_reverse, List.length_range, up_len]; omega)) only [k_var, k_con, k_glob, k_nil, k_cons, k_tup, k_lst, k_bi, k_and, k_or, k_not, k_ite, k_call, k_sl3, k_chn, k_comp, k_io, k_bw, k_mv, a_consR, a_consD, a_tup, a_lst, a_bi, a_bopK, a_and, a_or, a_not, a_ite, a_call, a_callG, a_callK, a_callX, a_sl1, a_sl2, a_sl3, a_ch1, a_ch2, a_chK, a_ch3, a_chK2, a_comp, a_exc, s_exc, s_ret, s_no, s_seq, s_seqB, s_seqC, s_done, k_skip, k_seq, k_ret, k_set, k_sub, k_unp, k_exp, k_ifs, k_for, k_rais, k_brk, k_cont, k_try, a_tryN, a_tryR, a_tryX, a_tryS, a_trySn, k_whl, k_appL, k_extL, a_appG, a_extG, k_aug, a_augG, a_ret, a_set, a_sub1, a_sub1K, a_sub2, a_aug, a_augS, a_app, a_ext, a_exp, a_ifs, a_ifsT, a_ifsF, a_for, a_forK, a_top, f_nil, s_loop, s_loopC, s_loopB, s_rh, k_retH, k_mvN, k_emN, k_compN, k_appN, k_frz, a_frzK, k_parO, a_par1, a_par2, k_forN, k_appAt, a_atG, a_at1, a_at2, k_forO, a_foK, a_foK2, finO_nx, finO_ret, fin_ret, fin_nx, fin_exc, gd0, gd1, gd2, gd3, gd4, gd5, gd6, gd7, gd8, gd9, gd10, gd11, gd12, gd13, gd14, gd15, st0, st1, st2, st3, st4, st5, st6, st7, st8, st9, st10, st11, st12, st13, st14, st15, v_non, v_bl, v_int, v_str, v_tup, v_lst, v_fl, v_dct, io_f, u_non, u_bl, u_int, u_str, u_tup, u_lst, u_fl, u_uns, v_exc, u_exc, x_non, x_uns, x_bl, x_int, x_str, x_tup, x_lst, x_fl, okRes_f, okRes_tl, n_non, n_bl, n_int, n_str, n_tup, ns_nil, ns_cons, ns_ints, rtP_ret, xs_nil, xs_cons, xs_ints, isx_e, excOk_1, excOk_2, excOk_3, excOk_4, excOk_5, excOk_6, excOk_7, excOk_8, l_lst, i_lst, i_tup, i_fl, eq_ii, ne_ii, eq_bb, ne_bb, F2_le, F2_lt, neg_i, slRev_l, slRevT_t, revI_l, enumI_l, enumT_t, enumZ_l, divmod_ii, zipI_l, listC_l, listC_t, listC_f, tupleC_l, tupleC_t, int_i, max_ii, min_ii, isi_d, isI_non, isI_bl, isI_int, isI_str, isI_tup, isI_lst, idx_ld, idx_td, idx_fd, is_bb, isnot_bb, add_ii, sub_ii, lt_ii, le_ii, gt_ii, ge_ii, len_l, len_f, len_t, abs_i, int_b, mod_ii, fdiv_ii, slU_lz, slL_lz, slU_tz, slL_tz, ints_len, ints_app, ints_one, ints_take, ints_drop, ints_rev, ints_set, at_0, at_1, at_2, atI_ints, a_subKz, a_appK, a_extK, mul_rz, mul_lz, pow_lit, lrng2_z, trng2_z, rng2_z, rng1_z, lrng1_z, add_llz, add_ttz, nxP_nx, rowP_nx, rowP_rh, f_consG, loopG_s, a_unpG, a_unpK, asgB_s, asg_nm, asg_nil, asg_cons, asg_tpT, asg_tpL, asg_sub, asgS_r, asgL_z, asgN_nm, asgNB_s, asgN_nil, asgN_cons, asgN_tpT, asgN_tpL, k_callF, a_cF1, a_cF2, cfK_ok, cfK_exc, k_extN, k_lst1, a_l1, k_addN, a_ad1, a_ad2, addF_l, k_gtL, a_gtG, a_gtL, gtF_i, k_pop, a_popG, a_pop, popK_z, k_chn3, a_c31, a_c32, a_c3K, a_c33, a_c3L, a_c34, k_rev, revK_l, k_augs, a_forNK, a_augsG, a_augs1, augs1K_z, a_augs2, augs2K_z, min_l, ioS, ioP, bwS, isIo, isBw, byNm, fillA, setMany, setAll, wipeE, decide_eq_true, decide_eq_false, Option.map_some, Bool.not_true, Bool.not_false, Bool.true_and, Bool.false_and, Bool.and_true, Bool.and_false, Bool.or_true, Bool.or_false, Bool.false_or, Bool.true_or, Bool.false_eq_true, Bool.true_eq_false, if_true, if_false, decide_eq_true_eq, decide_true, decide_false, List.all_cons, List.all_nil, List.map_cons, List.map_nil, List.append_nil, List.nil_append, List.cons_append, List.isEmpty_nil, Bool.not_eq_true, eq_self, beq_self_eq_true, and_true, true_and, and_false, false_and, not_true_eq_false, not_false_eq_true, ite_self, beq_iff_eq, decide_eq_false_iff_not, Nat.reduceBEq, Nat.reduceEqDiff, Int.reduceToNat, Int.reduceAdd, Int.reduceSub, Int.reduceNeg, Int.reduceEq, Int.reduceLT, Int.reduceLE, Int.lt_irrefl, Bool.not_eq_true', Bool.not_eq_false', List.length_cons, List.length_nil, Int.toNat_zero, Int.toNat_one, Int.toNat_natCast, $xs,*])
/-! ### the bag -/
def bagD (b : Int × Int) : D := .lst [.int b.1, .int b.2]
theorem u_bag {b : Int × Int} : isU (bagD b) = false := id rfl
theorem l_bag {b : Int × Int} : isLst (bagD b) = true := id rfl
def dgR (b : Int × Int) (m : Int) : Int := if 0 < b.1 then b.1 % m else b.2 * 48271 % 2147483647 * (b.2 * 48271 % 2147483647 / 65536 + 9) % 2147483629 / 32 % m
def dgB (b : Int × Int) (m : Int) : Int × Int := if 0 < b.1 then (b.1 / m, b.2) else (b.1, b.2 * 48271 % 2147483647)
theorem dg_lo (b : Int × Int) {m : Int} (h : 0 < m) : 0 ≤ dgR b m := by
  unfold dgR; split <;> exact Int.emod_nonneg _ (by omega)
theorem dg_hi (b : Int × Int) {m : Int} (h : 0 < m) : dgR b m < m := by
  unfold dgR; split <;> exact Int.emod_lt_of_pos _ h
theorem c3 {n : Nat} {b : Int × Int} {m : Int} (hm : 0 < m) (hm2 : m < 18446744073709551616) : RN (n + 1) 3 [bagD b, .int m] = .ok (.int (dgR b m)) [bagD (dgB b m)] := by
  rw [r3]
  unfold bagD bb3 dgR dgB
  simp!
  split <;> simp!
def bag0 (ns : List Int) (k : Nat) : Int := if (k : Int) < ns.length then (if ns.getD k 0 < 0 then - ns.getD k 0 else ns.getD k 0) else 0
def bagI (ns : List Int) (k : Nat) : Int × Int := (bag0 ns k * (if 10 ^ (18 : Int).toNat ≤ bag0 ns k then 1 else 0), 1 + (bag0 ns k % 2147483647 + 7919 * k * k + 17 * k + 3) % 2147483646)
theorem c2 {n : Nat} {ns : List Int} {k : Nat} (hk : k < 100000) : RN (n + 1) 2 [.fl (intsD ns), .int k] = .ok (bagD (bagI ns k)) [] := by
  rw [r2]
  unfold bagD bb2 bagI bag0
  simp!
  by_cases h : (k : Int) < ns.length
  · simp! [h]
  · simp! [h]
    simp
/-! ### any order -/
theorem take_drop_perm {l : List Int} {q : Nat} (hq : q < l.length) : (l.getD q 0 :: (l.take q ++ l.drop (q + 1))).Perm l := by
  have e : l = l.take q ++ l[q] :: l.drop (q + 1) := by
    rw [← List.drop_eq_getElem_cons hq, List.take_append_drop]
  rw [List.getD_eq_getElem?_getD, List.getElem?_eq_getElem hq, Option.getD_some]
  exact (List.perm_middle (l₁ := l.take q)).symm.trans (List.Perm.of_eq e.symm)
def anyF : Nat → Int × Int → List Int → List Int × (Int × Int)
  | 0, b, _ => ([], b)
  | k + 1, b, left => (left.getD (dgR b (k + 1 : Nat)).toNat 0 :: (anyF k (dgB b (k + 1 : Nat)) (left.take (dgR b (k + 1 : Nat)).toNat ++ left.drop (dgR b (k + 1 : Nat) + 1).toNat)).1, (anyF k (dgB b (k + 1 : Nat)) (left.take (dgR b (k + 1 : Nat)).toNat ++ left.drop (dgR b (k + 1 : Nat) + 1).toNat)).2)
def anyL (b : Int × Int) (m : Nat) : List Int := (anyF m b (upFrom 1 m)).1
def anyB (b : Int × Int) (m : Nat) : Int × Int := (anyF m b (upFrom 1 m)).2
theorem anyF_perm : ∀ {k : Nat} {b : Int × Int} {left : List Int}, left.length = k → (anyF k b left).1.Perm left
  | 0, b, left, h => by
    rw [List.length_eq_zero_iff.mp h]
    exact .refl _
  | k + 1, b, left, h => by
    have h0 := dg_lo b (m := (k + 1 : Nat)) (by omega)
    have h1 := dg_hi b (m := (k + 1 : Nat)) (by omega)
    unfold anyF
    generalize dgR b (k + 1 : Nat) = r at *
    obtain ⟨q, rfl⟩ := Int.eq_ofNat_of_zero_le h0
    have e1 : ((q : Int) + 1).toNat = q + 1 := by omega
    have e2 : ((q : Int)).toNat = q := by omega
    rw [e1, e2]
    refine List.Perm.trans (List.Perm.cons _ (anyF_perm (k := k) ?_)) (take_drop_perm (by omega))
    rw [List.length_append, List.length_take, List.length_drop]
    omega
theorem anyL_perm (b : Int × Int) (m : Nat) : (anyL b m).Perm (upFrom 1 m) := anyF_perm up_len
theorem c4 {n : Nat} {b : Int × Int} {m : Nat} (hm : m ≤ 1000) : RN (n + 2) 4 [bagD b, .int m] = .ok (.tup (intsD (anyL b m))) [bagD (anyB b m)] := by
  rw [r4]
  unfold bb4
  simp! [u_bag]
  generalize hw : evWhile _ _ _ _ = o
  obtain ⟨e, rfl, d4, b', xs, rfl, h1, h2⟩ := while_of hw
    (fun k e => ∃ d4 b' left xs, e = [bagD b', .int m, .lst (intsD left), .lst (intsD xs), d4] ∧ left.length = k ∧ k + xs.length = m ∧ xs ++ (anyF k b' left).1 = anyL b m ∧ (anyF k b' left).2 = anyB b m)
    (fun e => ∃ d4 b' xs, e = [bagD b', .int m, .lst [], .lst (intsD xs), d4] ∧ xs = anyL b m ∧ b' = anyB b m) m (lt_WF (by omega))
    ⟨.unset, b, upFrom 1 m, [], by simp [intsD], up_len, by simp, rfl, rfl⟩ (by
      rintro k e ⟨d4, b', left, xs, rfl, hl, hm', h1, h2⟩
      refine ⟨decide (0 < (k : Int)), by simp! [u_bag, hl], fun h => ?_, fun h => ?_⟩
      · have hk : k = 0 := by simpa using h
        subst hk
        have hl0 := List.length_eq_zero_iff.mp hl
        subst hl0
        exact ⟨d4, b', xs, rfl, by simpa [anyF] using h1, by simpa [anyF] using h2⟩
      · obtain ⟨k, rfl⟩ : ∃ j, k = j + 1 := ⟨k - 1, by simp at h; omega⟩
        have g0 := dg_lo b' (m := (k + 1 : Nat)) (by omega)
        have g1 := dg_hi b' (m := (k + 1 : Nat)) (by omega)
        refine ⟨k, rfl, ?_⟩
        simp! [u_bag, hl, c3]
        refine ⟨_, _, _, _, rfl, ?_, ?_, ?_, h2⟩
        · simp only [List.length_append, List.length_take, List.length_drop]; omega
        · simp only [List.length_append, List.length_cons, List.length_nil]; omega
        · rw [← h1]; simp [anyF])
  simp! [u_bag, h1, h2]
/-! ### an order, any, or the rising or falling one with some exchanged -/
def swap (l : List Int) (i j : Nat) : List Int := (l.set i (l.getD j 0)).set j (l.getD i 0)
theorem swap_len {l : List Int} {i j : Nat} : (swap l i j).length = l.length := by simp [swap]
def swF (m : Int) (s : (Int × Int) × List Int) (_ : Int) : (Int × Int) × List Int := (dgB (dgB s.1 m) m, swap s.2 (dgR s.1 m).toNat (dgR (dgB s.1 m) m).toNat)
def ordS (b : Int × Int) (m : Nat) : (Int × Int) × List Int := (upFrom 0 (dgR (dgB b 4) 7).toNat).foldl (swF m) (dgB (dgB b 4) 7, if dgR b 4 = 1 then (upFrom 1 m).reverse else upFrom 1 m)
def ordL (b : Int × Int) (m : Nat) : List Int := if 1 < dgR b 4 then anyL (dgB b 4) m else (ordS b m).2
def ordB (b : Int × Int) (m : Nat) : Int × Int := if 1 < dgR b 4 then anyB (dgB b 4) m else (ordS b m).1
theorem c5 {n : Nat} {b : Int × Int} {m : Nat} (hm0 : 0 < m) (hm : m ≤ 1000) : RN (n + 3) 5 [bagD b, .int m] = .ok (.tup (intsD (ordL b m))) [bagD (ordB b m)] := by
  rw [r5]
  unfold bb5 ordL ordB
  have g0 := dg_lo (dgB b 4) (m := 7) (by omega)
  have g1 := dg_hi (dgB b 4) (m := 7) (by omega)
  simp! [u_bag, c3, c4]
  by_cases h : 1 < dgR b 4
  · simp! [h, u_bag]
  · have e1 : ((m : Int) + 1 - 1).toNat = m := by omega
    rw [e1]
    unfold ordS
    simp! [h]
    by_cases h1 : dgR b 4 = 1 <;> simp! [u_bag, h1] <;>
    · generalize hf : evFor _ _ _ _ = o
      obtain ⟨t, rfl, hj⟩ := fold_of hf (fun s (t : D × D × D) => [bagD s.1, .int m, .int (dgR b 4), .lst (intsD s.2), t.1, t.2.1, t.2.2]) D.int (swF m) (fun s => s.2.length = m) (upFrom 0 (dgR (dgB b 4) 7).toNat) (dgB (dgB b 4) 7, _) (.unset, .unset, .unset) rfl (by simp only [h1]; exact rfl) (by simp [up_len]) (by
        rintro ⟨b', l⟩ t a - hl
        refine ⟨_, rfl, ?_⟩
        have q0 := dg_lo b' (m := m) (by omega)
        have q1 := dg_hi b' (m := m) (by omega)
        have q2 := dg_lo (dgB b' m) (m := m) (by omega)
        have q3 := dg_hi (dgB b' m) (m := m) (by omega)
        simp only at hl
        simp! [u_bag, c3]
        refine ⟨⟨(.int a, .int (dgR b' m), .int (dgR (dgB b' m) m)), rfl⟩, ?_⟩
        simp [swF, swap_len, hl])
      simp! [u_bag, h1]
end UC

end
section
namespace UC
open PySem Eg
local macro_rules
  | `(tactic| simp!) => `(tactic| simp (maxSteps := 3000000) (disch := first | omega | assumption | (simp only [List.length_cons, List.length_nil, List.length_map, ints_len, List.length_append, List.length_take, List.length_drop, List.length_set, List.length_reverse, List.length_range, up_len]; omega)) only [k_var, k_con, k_glob, k_nil, k_cons, k_tup, k_lst, k_bi, k_and, k_or, k_not, k_ite, k_call, k_sl3, k_chn, k_comp, k_io, k_bw, k_mv, a_consR, a_consD, a_tup, a_lst, a_bi, a_bopK, a_and, a_or, a_not, a_ite, a_call, a_callG, a_callK, a_callX, a_sl1, a_sl2, a_sl3, a_ch1, a_ch2, a_chK, a_ch3, a_chK2, a_comp, a_exc, s_exc, s_ret, s_no, s_seq, s_seqB, s_seqC, s_done, k_skip, k_seq, k_ret, k_set, k_sub, k_unp, k_exp, k_ifs, k_for, k_rais, k_brk, k_cont, k_try, a_tryN, a_tryR, a_tryX, a_tryS, a_trySn, k_whl, k_appL, k_extL, a_appG, a_extG, k_aug, a_augG, a_ret, a_set, a_sub1, a_sub1K, a_sub2, a_aug, a_augS, a_app, a_ext, a_exp, a_ifs, a_ifsT, a_ifsF, a_for, a_forK, a_top, f_nil, s_loop, s_loopC, s_loopB, s_rh, k_retH, k_mvN, k_emN, k_compN, k_appN, k_frz, a_frzK, k_parO, a_par1, a_par2, k_forN, k_appAt, a_atG, a_at1, a_at2, k_forO, a_foK, a_foK2, finO_nx, finO_ret, fin_ret, fin_nx, fin_exc, gd0, gd1, gd2, gd3, gd4, gd5, gd6, gd7, gd8, gd9, gd10, gd11, gd12, gd13, gd14, gd15, st0, st1, st2, st3, st4, st5, st6, st7, st8, st9, st10, st11, st12, st13, st14, st15, v_non, v_bl, v_int, v_str, v_tup, v_lst, v_fl, v_dct, io_f, u_non, u_bl, u_int, u_str, u_tup, u_lst, u_fl, u_uns, v_exc, u_exc, x_non, x_uns, x_bl, x_int, x_str, x_tup, x_lst, x_fl, okRes_f, okRes_tl, n_non, n_bl, n_int, n_str, n_tup, ns_nil, ns_cons, ns_ints, rtP_ret, xs_nil, xs_cons, xs_ints, isx_e, excOk_1, excOk_2, excOk_3, excOk_4, excOk_5, excOk_6, excOk_7, excOk_8, l_lst, i_lst, i_tup, i_fl, eq_ii, ne_ii, eq_bb, ne_bb, F2_le, F2_lt, neg_i, slRev_l, slRevT_t, revI_l, enumI_l, enumT_t, enumZ_l, divmod_ii, zipI_l, listC_l, listC_t, listC_f, tupleC_l, tupleC_t, int_i, max_ii, min_ii, isi_d, isI_non, isI_bl, isI_int, isI_str, isI_tup, isI_lst, idx_ld, idx_td, idx_fd, is_bb, isnot_bb, add_ii, sub_ii, lt_ii, le_ii, gt_ii, ge_ii, len_l, len_f, len_t, abs_i, int_b, mod_ii, fdiv_ii, slU_lz, slL_lz, slU_tz, slL_tz, ints_len, ints_app, ints_one, ints_take, ints_drop, ints_rev, ints_set, at_0, at_1, at_2, atI_ints, a_subKz, a_appK, a_extK, mul_rz, mul_lz, pow_lit, lrng2_z, trng2_z, rng2_z, rng1_z, lrng1_z, add_llz, add_ttz, nxP_nx, rowP_nx, rowP_rh, f_consG, loopG_s, a_unpG, a_unpK, asgB_s, asg_nm, asg_nil, asg_cons, asg_tpT, asg_tpL, asg_sub, asgS_r, asgL_z, asgN_nm, asgNB_s, asgN_nil, asgN_cons, asgN_tpT, asgN_tpL, k_callF, a_cF1, a_cF2, cfK_ok, cfK_exc, k_extN, k_lst1, a_l1, k_addN, a_ad1, a_ad2, addF_l, k_gtL, a_gtG, a_gtL, gtF_i, k_pop, a_popG, a_pop, popK_z, k_chn3, a_c31, a_c32, a_c3K, a_c33, a_c3L, a_c34, k_rev, revK_l, k_augs, a_forNK, a_augsG, a_augs1, augs1K_z, a_augs2, augs2K_z, min_l, ioS, ioP, bwS, isIo, isBw, byNm, fillA, setMany, setAll, wipeE, decide_eq_true, decide_eq_false, Option.map_some, Bool.not_true, Bool.not_false, Bool.true_and, Bool.false_and, Bool.and_true, Bool.and_false, Bool.or_true, Bool.or_false, Bool.false_or, Bool.true_or, Bool.false_eq_true, Bool.true_eq_false, if_true, if_false, decide_eq_true_eq, decide_true, decide_false, List.all_cons, List.all_nil, List.map_cons, List.map_nil, List.append_nil, List.nil_append, List.cons_append, List.isEmpty_nil, Bool.not_eq_true, eq_self, beq_self_eq_true, and_true, true_and, and_false, false_and, not_true_eq_false, not_false_eq_true, ite_self, beq_iff_eq, decide_eq_false_iff_not, Nat.reduceBEq, Nat.reduceEqDiff, Int.reduceToNat, Int.reduceAdd, Int.reduceSub, Int.reduceNeg, Int.reduceEq, Int.reduceLT, Int.reduceLE, Int.lt_irrefl, Bool.not_eq_true', Bool.not_eq_false', List.length_cons, List.length_nil, Int.toNat_zero, Int.toNat_one, Int.toNat_natCast])
local macro_rules
  | `(tactic| simp! [$xs,*]) => `(tactic| simp (maxSteps := 3000000) (disch := first | omega | assumption | (simp only [List.length_cons, List.length_nil, List.length_map, ints_len, List.length_append, List.length_take, List.length_drop, List.length_set, List.length_reverse, List.length_range, up_len]; omega)) only [k_var, k_con, k_glob, k_nil, k_cons, k_tup, k_lst, k_bi, k_and, k_or, k_not, k_ite, k_call, k_sl3, k_chn, k_comp, k_io, k_bw, k_mv, a_consR, a_consD, a_tup, a_lst, a_bi, a_bopK, a_and, a_or, a_not, a_ite, a_call, a_callG, a_callK, a_callX, a_sl1, a_sl2, a_sl3, a_ch1, a_ch2, a_chK, a_ch3, a_chK2, a_comp, a_exc, s_exc, s_ret, s_no, s_seq, s_seqB, s_seqC, s_done, k_skip, k_seq, k_ret, k_set, k_sub, k_unp, k_exp, k_ifs, k_for, k_rais, k_brk, k_cont, k_try, a_tryN, a_tryR, a_tryX, a_tryS, a_trySn, k_whl, k_appL, k_extL, a_appG, a_extG, k_aug, a_augG, a_ret, a_set, a_sub1, a_sub1K, a_sub2, a_aug, a_augS, a_app, a_ext, a_exp, a_ifs, a_ifsT, a_ifsF, a_for, a_forK, a_top, f_nil, s_loop, s_loopC, s_loopB, s_rh, k_retH, k_mvN, k_emN, k_compN, k_appN, k_frz, a_frzK, k_parO, a_par1, a_par2, k_forN, k_appAt, a_atG, a_at1, a_at2, k_forO, a_foK, a_foK2, finO_nx, finO_ret, fin_ret, fin_nx, fin_exc, gd0, gd1, gd2, gd3, gd4, gd5, gd6, gd7, gd8, gd9, gd10, gd11, gd12, gd13, gd14, gd15, st0, st1, st2, st3, st4, st5, st6, st7, st8, st9, st10, st11, st12, st13, st14, st15, v_non, v_bl, v_int, v_str, v_tup, v_lst, v_fl, v_dct, io_f, u_non, u_bl, u_int, u_str, u_tup, u_lst, u_fl, u_uns, v_exc, u_exc, x_non, x_uns, x_bl, x_int, x_str, x_tup, x_lst, x_fl, okRes_f, okRes_tl, n_non, n_bl, n_int, n_str, n_tup, ns_nil, ns_cons, ns_ints, rtP_ret, xs_nil, xs_cons, xs_ints, isx_e, excOk_1, excOk_2, excOk_3, excOk_4, excOk_5, excOk_6, excOk_7, excOk_8, l_lst, i_lst, i_tup, i_fl, eq_ii, ne_ii, eq_bb, ne_bb, F2_le, F2_lt, neg_i, slRev_l, slRevT_t, revI_l, enumI_l, enumT_t, enumZ_l, divmod_ii, zipI_l, listC_l, listC_t, listC_f, tupleC_l, tupleC_t, int_i, max_ii, min_ii, isi_d, isI_non, isI_bl, isI_int, isI_str, isI_tup, isI_lst, idx_ld, idx_td, idx_fd, is_bb, isnot_bb, add_ii, sub_ii, lt_ii, le_ii, gt_ii, ge_ii, len_l, len_f, len_t, abs_i, int_b, mod_ii, fdiv_ii, slU_lz, slL_lz, slU_tz, slL_tz, ints_len, ints_app, ints_one, ints_take, ints_drop, ints_rev, ints_set, at_0, at_1, at_2, atI_ints, a_subKz, a_appK, a_extK, mul_rz, mul_lz, pow_lit, lrng2_z, trng2_z, rng2_z, rng1_z, lrng1_z, add_llz, add_ttz, nxP_nx, rowP_nx, rowP_rh, f_consG, loopG_s, a_unpG, a_unpK, asgB_s, asg_nm, asg_nil, asg_cons, asg_tpT, asg_tpL, asg_sub, asgS_r, asgL_z, asgN_nm, asgNB_s, asgN_nil, asgN_cons, asgN_tpT, asgN_tpL, k_callF, a_cF1, a_cF2, cfK_ok, cfK_exc, k_extN, k_lst1, a_l1, k_addN, a_ad1, a_ad2, addF_l, k_gtL, a_gtG, a_gtL, gtF_i, k_pop, a_popG, a_pop, popK_z, k_chn3, a_c31, a_c32, a_c3K, a_c33, a_c3L, a_c34, k_rev, revK_l, k_augs, a_forNK, a_augsG, a_augs1, augs1K_z, a_augs2, augs2K_z, min_l, ioS, ioP, bwS, isIo, isBw, byNm, fillA, setMany, setAll, wipeE, decide_eq_true, decide_eq_false, Option.map_some, Bool.not_true, Bool.not_false, Bool.true_and, Bool.false_and, Bool.and_true, Bool.and_false, Bool.or_true, Bool.or_false, Bool.false_or, Bool.true_or, Bool.false_eq_true, Bool.true_eq_false, if_true, if_false, decide_eq_true_eq, decide_true, decide_false, List.all_cons, List.all_nil, List.map_cons, List.map_nil, List.append_nil, List.nil_append, List.cons_append, List.isEmpty_nil, Bool.not_eq_true, eq_self, beq_self_eq_true, and_true, true_and, and_false, false_and, not_true_eq_false, not_false_eq_true, ite_self, beq_iff_eq, decide_eq_false_iff_not, Nat.reduceBEq, Nat.reduceEqDiff, Int.reduceToNat, Int.reduceAdd, Int.reduceSub, Int.reduceNeg, Int.reduceEq, Int.reduceLT, Int.reduceLE, Int.lt_irrefl, Bool.not_eq_true', Bool.not_eq_false', List.length_cons, List.length_nil, Int.toNat_zero, Int.toNat_one, Int.toNat_natCast, $xs,*])
theorem cut_nn {r : List Int} {a b : Nat} (h1 : a ≤ r.length) : cut2 (.lst (intsD r)) (some (a : Int)) (some (b : Int)) = some (.lst (intsD ((r.drop a).take (b - a)))) := by
  show some (D.lst (cutD (intsD r) (some (a : Int)) (some (b : Int)))) = _
  unfold cutD
  rw [HT.sIx_nat, HT.sIx_nat, ints_len, Nat.min_eq_left h1, ints_drop, ints_take]
  by_cases h : b ≤ r.length
  · rw [Nat.min_eq_left h]
  · rw [Nat.min_eq_right (by omega), List.take_of_length_le (by rw [List.length_drop]; omega), List.take_of_length_le (by rw [List.length_drop]; omega)]
theorem cut_one {r : List Int} {a : Nat} (h1 : a ≤ r.length) : cut2 (.lst (intsD r)) (some (a : Int)) (some ((a : Int) + 1)) = some (.lst (intsD ((r.drop a).take 1))) := by
  have := cut_nn (r := r) (a := a) (b := a + 1) h1
  rw [show a + 1 - a = 1 by omega] at this
  exact this
theorem ints_ofQ : ∀ {ds : List D}, (∀ d ∈ ds, ∃ i, d = .int i) → ∃ w, ds = intsD w
  | [], _ => ⟨[], rfl⟩
  | d :: ds, h => by
    obtain ⟨i, rfl⟩ := h d List.mem_cons_self
    obtain ⟨w, rfl⟩ := ints_ofQ fun d hd => h d (List.mem_cons_of_mem _ hd)
    exact ⟨i :: w, rfl⟩
theorem atI_mem {α : Type} {xs : List α} {i : Int} (h0 : 0 ≤ i) (h1 : i < xs.length) : ∃ d ∈ xs, L2.atI xs i = some d := by
  obtain ⟨k, rfl⟩ := Int.eq_ofNat_of_zero_le h0
  refine ⟨xs[k]'(by omega), List.getElem_mem _, ?_⟩
  rw [at_nat, List.getElem?_eq_getElem (by omega)]
/-! ### whole numbers, orders -/
def wholeB : D → Bool
  | .int _ => true
  | _ => false
/-- data that isinstance tells of -/
def okD : D → Bool
  | .non => true | .bl _ => true | .int _ => true | .str _ => true | .tup _ => true | .lst _ => true
  | _ => false
theorem okD_u {d : D} (h : okD d = true) : isU d = false := by cases d <;> first | (cases h; done) | rfl
def intOf : D → Int
  | .int i => i
  | _ => 0
theorem ints_of : ∀ {ds : List D}, ds.all wholeB = true → ds = intsD (ds.map intOf)
  | [], _ => rfl
  | d :: ds, h => by
    simp only [List.all_cons, Bool.and_eq_true] at h
    have := ints_of h.2
    cases d <;> first | (cases h.1; done) | skip
    simp only [List.map_cons, intOf, ints_cons]
    rw [← this]
theorem intOf_ints {l : List Int} : (intsD l).map intOf = l := by
  rw [intsD, List.map_map]
  exact List.map_id _
theorem whole_ints {l : List Int} : (intsD l).all wholeB = true := by simp [intsD, wholeB]
theorem toInts_ints : ∀ {l : List Int}, toInts (intsD l) = some l
  | [] => rfl
  | x :: l => by
    show (toInts (intsD l)).map (x :: ·) = _
    rw [toInts_ints]
    rfl
theorem toBls_map {α : Type} {f : α → Bool} : ∀ {l : List α}, toBls (l.map fun x => D.bl (f x)) = some (l.map f)
  | [] => rfl
  | x :: l => by
    show (toBls (l.map fun x => D.bl (f x))).map (f x :: ·) = _
    rw [toBls_map]
    rfl
theorem all_bls {α : Type} {f : α → Bool} {l : List α} : bop .allL [.lst (l.map fun x => D.bl (f x))] = some (.bl (l.all f)) := by
  show (toBls _).map (fun l => D.bl (l.all id)) = _
  rw [toBls_map]
  simp [List.all_map]
theorem any_bls {α : Type} {f : α → Bool} {l : List α} : bop .anyL [.lst (l.map fun x => D.bl (f x))] = some (.bl (l.any f)) := by
  show (toBls _).map (fun l => D.bl (l.any id)) = _
  rw [toBls_map]
  simp [List.any_map]
theorem isTL_ints : ∀ {l : List Int}, isTL (.lst (intsD l)) = false
  | [] => rfl
  | _ :: _ => rfl
theorem sorted_t {l : List Int} (h : l.length < 64) : bop .sorted [.tup (intsD l)] = some (.lst (intsD (sortI l))) := by
  show (if (intsD l).length < 64 then _ else _) = _
  rw [if_pos (by rw [ints_len]; exact h), toInts_ints]
  rfl
theorem sorted_l {l : List Int} (h : l.length < 64) : bop .sorted [.lst (intsD l)] = some (.lst (intsD (sortI l))) := by
  show (if isTL (.lst (intsD l)) = true then _ else if (intsD l).length < 64 then _ else _) = _
  rw [isTL_ints, if_neg Bool.false_ne_true, if_pos (by rw [ints_len]; exact h), toInts_ints]
  rfl
theorem pls_ints {n : Nat} : ∀ {l : List Int}, pls n (intsD l) = true
  | [] => by cases n <;> rfl
  | x :: l => by
    have : pls n (intsD l) = true := pls_ints
    cases n <;> (simp only [ints_cons, pls, pl, this, Bool.true_and])
theorem eqds_ints : ∀ {l r : List Int}, eqds (intsD l) (intsD r) = decide (l = r)
  | [], [] => rfl
  | [], _ :: _ => rfl
  | _ :: _, [] => rfl
  | x :: l, y :: r => by
    simp only [ints_cons, eqds, eqd]
    rw [eqds_ints]
    by_cases h : x = y <;> by_cases h2 : l = r <;> simp [h, h2]
theorem eq_ll {l r : List Int} : bop .eq [.lst (intsD l), .lst (intsD r)] = some (.bl (decide (l = r))) := by
  show (eqD _ _).map D.bl = _
  have h1 : pl 20 (.lst (intsD l)) = true := pls_ints
  have h2 : pl 20 (.lst (intsD r)) = true := pls_ints
  unfold eqD
  rw [h1, h2]
  show some (D.bl (eqds _ _)) = _
  rw [eqds_ints]
theorem ne_ll {l r : List Int} : bop .ne [.lst (intsD l), .lst (intsD r)] = some (.bl (!decide (l = r))) := by
  show (eqD _ _).map _ = _
  have h1 : pl 20 (.lst (intsD l)) = true := pls_ints
  have h2 : pl 20 (.lst (intsD r)) = true := pls_ints
  unfold eqD
  rw [h1, h2]
  show some (D.bl (!eqds _ _)) = _
  rw [eqds_ints]
theorem eq_tt {l r : List Int} : bop .eq [.tup (intsD l), .tup (intsD r)] = some (.bl (decide (l = r))) := by
  show (eqD _ _).map D.bl = _
  have h1 : pl 20 (.tup (intsD l)) = true := pls_ints
  have h2 : pl 20 (.tup (intsD r)) = true := pls_ints
  unfold eqD
  rw [h1, h2]
  show some (D.bl (eqds _ _)) = _
  rw [eqds_ints]
theorem ne_tt {l r : List Int} : bop .ne [.tup (intsD l), .tup (intsD r)] = some (.bl (!decide (l = r))) := by
  show (eqD _ _).map _ = _
  have h1 : pl 20 (.tup (intsD l)) = true := pls_ints
  have h2 : pl 20 (.tup (intsD r)) = true := pls_ints
  unfold eqD
  rw [h1, h2]
  show some (D.bl (!eqds _ _)) = _
  rw [eqds_ints]
/-- an order of n things -/
def Ord (n : Nat) (xs : List Int) : Prop := xs.Perm (upFrom 1 n)
def isOrdB : D → Bool
  | .tup ds => decide (1 ≤ ds.length ∧ ds.length ≤ 20) && (ds.all wholeB && decide (sortI (ds.map intOf) = upFrom 1 ds.length))
  | _ => false
theorem isOrd_iff {xs : List Int} : isOrdB (.tup (intsD xs)) = true ↔ ∃ n : Nat, 1 ≤ n ∧ n ≤ 20 ∧ Ord n xs := by
  unfold Ord
  simp only [isOrdB]
  rw [ints_len, whole_ints, intOf_ints, Bool.true_and, Bool.and_eq_true, decide_eq_true_eq, decide_eq_true_eq, sortI_eq_iff up_le]
  constructor
  · rintro ⟨⟨h1, h2⟩, h3⟩
    exact ⟨_, h1, h2, h3⟩
  · rintro ⟨n, h1, h2, h3⟩
    have := h3.length_eq
    rw [up_len] at this
    subst this
    exact ⟨⟨h1, h2⟩, h3⟩
theorem ord_len {n : Nat} {xs : List Int} (h : Ord n xs) : xs.length = n := by
  have := h.length_eq
  rwa [up_len] at this
theorem ord_mem {n : Nat} {xs : List Int} (h : Ord n xs) {x : Int} : x ∈ xs ↔ 1 ≤ x ∧ x ≤ n := by
  rw [h.mem_iff, mem_up]
  omega
theorem ord_nodup {n : Nat} {xs : List Int} (h : Ord n xs) : xs.Nodup := h.nodup_iff.mpr up_nodup
theorem ordL_ord {b : Int × Int} {m : Nat} (hm0 : 0 < m) : Ord m (ordL b m) := by
  unfold ordL
  split
  · exact anyL_perm _ _
  · unfold ordS
    have : ∀ (as : List Int) (s : (Int × Int) × List Int), Ord m s.2 → Ord m (as.foldl (swF m) s).2 := by
      intro as
      induction as with
      | nil => exact fun s h => h
      | cons a as ih =>
        intro s h
        refine ih _ ?_
        have q0 := dg_lo s.1 (m := m) (by omega)
        have q1 := dg_hi s.1 (m := m) (by omega)
        have q2 := dg_lo (dgB s.1 m) (m := m) (by omega)
        have q3 := dg_hi (dgB s.1 m) (m := m) (by omega)
        have hl := ord_len h
        exact (swap_perm (by omega) (by omega)).trans h
    refine this _ _ ?_
    simp only
    split
    · exact List.reverse_perm _
    · exact .refl _
end UC

end
section
namespace UC
open PySem Eg
local macro_rules
  | `(tactic| simp!) => `(tactic| simp (maxSteps := 3000000) (disch := first | omega | assumption | (simp only [List.length_cons, List.length_nil, List.length_map, ints_len, List.length_append, List.length_take, List.length_drop, List.length_set, List.length_reverse, List.length_range, up_len]; omega)) only [k_var, k_con, k_glob, k_nil, k_cons, k_tup, k_lst, k_bi, k_and, k_or, k_not, k_ite, k_call, k_sl3, k_chn, k_comp, k_io, k_bw, k_mv, a_consR, a_consD, a_tup, a_lst, a_bi, a_bopK, a_and, a_or, a_not, a_ite, a_call, a_callG, a_callK, a_callX, a_sl1, a_sl2, a_sl3, a_ch1, a_ch2, a_chK, a_ch3, a_chK2, a_comp, a_exc, s_exc, s_ret, s_no, s_seq, s_seqB, s_seqC, s_done, k_skip, k_seq, k_ret, k_set, k_sub, k_unp, k_exp, k_ifs, k_for, k_rais, k_brk, k_cont, k_try, a_tryN, a_tryR, a_tryX, a_tryS, a_trySn, k_whl, k_appL, k_extL, a_appG, a_extG, k_aug, a_augG, a_ret, a_set, a_sub1, a_sub1K, a_sub2, a_aug, a_augS, a_app, a_ext, a_exp, a_ifs, a_ifsT, a_ifsF, a_for, a_forK, a_top, f_nil, s_loop, s_loopC, s_loopB, s_rh, k_retH, k_mvN, k_emN, k_compN, k_appN, k_frz, a_frzK, k_parO, a_par1, a_par2, k_forN, k_appAt, a_atG, a_at1, a_at2, k_forO, a_foK, a_foK2, finO_nx, finO_ret, fin_ret, fin_nx, fin_exc, gd0, gd1, gd2, gd3, gd4, gd5, gd6, gd7, gd8, gd9, gd10, gd11, gd12, gd13, gd14, gd15, st0, st1, st2, st3, st4, st5, st6, st7, st8, st9, st10, st11, st12, st13, st14, st15, v_non, v_bl, v_int, v_str, v_tup, v_lst, v_fl, v_dct, io_f, u_non, u_bl, u_int, u_str, u_tup, u_lst, u_fl, u_uns, v_exc, u_exc, x_non, x_uns, x_bl, x_int, x_str, x_tup, x_lst, x_fl, okRes_f, okRes_tl, n_non, n_bl, n_int, n_str, n_tup, ns_nil, ns_cons, ns_ints, rtP_ret, xs_nil, xs_cons, xs_ints, isx_e, excOk_1, excOk_2, excOk_3, excOk_4, excOk_5, excOk_6, excOk_7, excOk_8, l_lst, i_lst, i_tup, i_fl, eq_ii, ne_ii, eq_bb, ne_bb, F2_le, F2_lt, neg_i, slRev_l, slRevT_t, revI_l, enumI_l, enumT_t, enumZ_l, divmod_ii, zipI_l, listC_l, listC_t, listC_f, tupleC_l, tupleC_t, int_i, max_ii, min_ii, isi_d, isI_non, isI_bl, isI_int, isI_str, isI_tup, isI_lst, idx_ld, idx_td, idx_fd, is_bb, isnot_bb, add_ii, sub_ii, lt_ii, le_ii, gt_ii, ge_ii, len_l, len_f, len_t, abs_i, int_b, mod_ii, fdiv_ii, slU_lz, slL_lz, slU_tz, slL_tz, ints_len, ints_app, ints_one, ints_take, ints_drop, ints_rev, ints_set, at_0, at_1, at_2, atI_ints, a_subKz, a_appK, a_extK, mul_rz, mul_lz, pow_lit, lrng2_z, trng2_z, rng2_z, rng1_z, lrng1_z, add_llz, add_ttz, nxP_nx, rowP_nx, rowP_rh, f_consG, loopG_s, a_unpG, a_unpK, asgB_s, asg_nm, asg_nil, asg_cons, asg_tpT, asg_tpL, asg_sub, asgS_r, asgL_z, asgN_nm, asgNB_s, asgN_nil, asgN_cons, asgN_tpT, asgN_tpL, k_callF, a_cF1, a_cF2, cfK_ok, cfK_exc, k_extN, k_lst1, a_l1, k_addN, a_ad1, a_ad2, addF_l, k_gtL, a_gtG, a_gtL, gtF_i, k_pop, a_popG, a_pop, popK_z, k_chn3, a_c31, a_c32, a_c3K, a_c33, a_c3L, a_c34, k_rev, revK_l, k_augs, a_forNK, a_augsG, a_augs1, augs1K_z, a_augs2, augs2K_z, min_l, ioS, ioP, bwS, isIo, isBw, byNm, fillA, setMany, setAll, wipeE, decide_eq_true, decide_eq_false, Option.map_some, Bool.not_true, Bool.not_false, Bool.true_and, Bool.false_and, Bool.and_true, Bool.and_false, Bool.or_true, Bool.or_false, Bool.false_or, Bool.true_or, Bool.false_eq_true, Bool.true_eq_false, if_true, if_false, decide_eq_true_eq, decide_true, decide_false, List.all_cons, List.all_nil, List.map_cons, List.map_nil, List.append_nil, List.nil_append, List.cons_append, List.isEmpty_nil, Bool.not_eq_true, eq_self, beq_self_eq_true, and_true, true_and, and_false, false_and, not_true_eq_false, not_false_eq_true, ite_self, beq_iff_eq, decide_eq_false_iff_not, Nat.reduceBEq, Nat.reduceEqDiff, Int.reduceToNat, Int.reduceAdd, Int.reduceSub, Int.reduceNeg, Int.reduceEq, Int.reduceLT, Int.reduceLE, Int.lt_irrefl, Bool.not_eq_true', Bool.not_eq_false', List.length_cons, List.length_nil, Int.toNat_zero, Int.toNat_one, Int.toNat_natCast])
local macro_rules
  | `(tactic| simp! [$xs,*]) => `(tactic| simp (maxSteps := 3000000) (disch := first | omega | assumption | (simp only [List.length_cons, List.length_nil, List.length_map, ints_len, List.length_append, List.length_take, List.length_drop, List.length_set, List.length_reverse, List.length_range, up_len]; omega)) only [k_var, k_con, k_glob, k_nil, k_cons, k_tup, k_lst, k_bi, k_and, k_or, k_not, k_ite, k_call, k_sl3, k_chn, k_comp, k_io, k_bw, k_mv, a_consR, a_consD, a_tup, a_lst, a_bi, a_bopK, a_and, a_or, a_not, a_ite, a_call, a_callG, a_callK, a_callX, a_sl1, a_sl2, a_sl3, a_ch1, a_ch2, a_chK, a_ch3, a_chK2, a_comp, a_exc, s_exc, s_ret, s_no, s_seq, s_seqB, s_seqC, s_done, k_skip, k_seq, k_ret, k_set, k_sub, k_unp, k_exp, k_ifs, k_for, k_rais, k_brk, k_cont, k_try, a_tryN, a_tryR, a_tryX, a_tryS, a_trySn, k_whl, k_appL, k_extL, a_appG, a_extG, k_aug, a_augG, a_ret, a_set, a_sub1, a_sub1K, a_sub2, a_aug, a_augS, a_app, a_ext, a_exp, a_ifs, a_ifsT, a_ifsF, a_for, a_forK, a_top, f_nil, s_loop, s_loopC, s_loopB, s_rh, k_retH, k_mvN, k_emN, k_compN, k_appN, k_frz, a_frzK, k_parO, a_par1, a_par2, k_forN, k_appAt, a_atG, a_at1, a_at2, k_forO, a_foK, a_foK2, finO_nx, finO_ret, fin_ret, fin_nx, fin_exc, gd0, gd1, gd2, gd3, gd4, gd5, gd6, gd7, gd8, gd9, gd10, gd11, gd12, gd13, gd14, gd15, st0, st1, st2, st3, st4, st5, st6, st7, st8, st9, st10, st11, st12, st13, st14, st15, v_non, v_bl, v_int, v_str, v_tup, v_lst, v_fl, v_dct, io_f, u_non, u_bl, u_int, u_str, u_tup, u_lst, u_fl, u_uns, v_exc, u_exc, x_non, x_uns, x_bl, x_int, x_str, x_tup, x_lst, x_fl, okRes_f, okRes_tl, n_non, n_bl, n_int, n_str, n_tup, ns_nil, ns_cons, ns_ints, rtP_ret, xs_nil, xs_cons, xs_ints, isx_e, excOk_1, excOk_2, excOk_3, excOk_4, excOk_5, excOk_6, excOk_7, excOk_8, l_lst, i_lst, i_tup, i_fl, eq_ii, ne_ii, eq_bb, ne_bb, F2_le, F2_lt, neg_i, slRev_l, slRevT_t, revI_l, enumI_l, enumT_t, enumZ_l, divmod_ii, zipI_l, listC_l, listC_t, listC_f, tupleC_l, tupleC_t, int_i, max_ii, min_ii, isi_d, isI_non, isI_bl, isI_int, isI_str, isI_tup, isI_lst, idx_ld, idx_td, idx_fd, is_bb, isnot_bb, add_ii, sub_ii, lt_ii, le_ii, gt_ii, ge_ii, len_l, len_f, len_t, abs_i, int_b, mod_ii, fdiv_ii, slU_lz, slL_lz, slU_tz, slL_tz, ints_len, ints_app, ints_one, ints_take, ints_drop, ints_rev, ints_set, at_0, at_1, at_2, atI_ints, a_subKz, a_appK, a_extK, mul_rz, mul_lz, pow_lit, lrng2_z, trng2_z, rng2_z, rng1_z, lrng1_z, add_llz, add_ttz, nxP_nx, rowP_nx, rowP_rh, f_consG, loopG_s, a_unpG, a_unpK, asgB_s, asg_nm, asg_nil, asg_cons, asg_tpT, asg_tpL, asg_sub, asgS_r, asgL_z, asgN_nm, asgNB_s, asgN_nil, asgN_cons, asgN_tpT, asgN_tpL, k_callF, a_cF1, a_cF2, cfK_ok, cfK_exc, k_extN, k_lst1, a_l1, k_addN, a_ad1, a_ad2, addF_l, k_gtL, a_gtG, a_gtL, gtF_i, k_pop, a_popG, a_pop, popK_z, k_chn3, a_c31, a_c32, a_c3K, a_c33, a_c3L, a_c34, k_rev, revK_l, k_augs, a_forNK, a_augsG, a_augs1, augs1K_z, a_augs2, augs2K_z, min_l, ioS, ioP, bwS, isIo, isBw, byNm, fillA, setMany, setAll, wipeE, decide_eq_true, decide_eq_false, Option.map_some, Bool.not_true, Bool.not_false, Bool.true_and, Bool.false_and, Bool.and_true, Bool.and_false, Bool.or_true, Bool.or_false, Bool.false_or, Bool.true_or, Bool.false_eq_true, Bool.true_eq_false, if_true, if_false, decide_eq_true_eq, decide_true, decide_false, List.all_cons, List.all_nil, List.map_cons, List.map_nil, List.append_nil, List.nil_append, List.cons_append, List.isEmpty_nil, Bool.not_eq_true, eq_self, beq_self_eq_true, and_true, true_and, and_false, false_and, not_true_eq_false, not_false_eq_true, ite_self, beq_iff_eq, decide_eq_false_iff_not, Nat.reduceBEq, Nat.reduceEqDiff, Int.reduceToNat, Int.reduceAdd, Int.reduceSub, Int.reduceNeg, Int.reduceEq, Int.reduceLT, Int.reduceLE, Int.lt_irrefl, Bool.not_eq_true', Bool.not_eq_false', List.length_cons, List.length_nil, Int.toNat_zero, Int.toNat_one, Int.toNat_natCast, $xs,*])
def pD (p : Int × Int) : D := .tup [.int p.1, .int p.2]
theorem v_pD {fc : Nat → List D → CR} {wf : Nat} {env : List D} {k : KE} {p : Int × Int} : varK fc wf (pD p) env k = apE fc wf k (.ok [pD p] env) := id rfl
/-- what exchanged at two places -/
def chg (xs : List Int) (i j : Int) : List Int := (xs.set (i - 1).toNat (xs.getD (j - 1).toNat 0)).set (j - 1).toNat (xs.getD (i - 1).toNat 0)
theorem chg_len {xs : List Int} {i j : Int} : (chg xs i j).length = xs.length := by simp [chg]
theorem c17 {n : Nat} {xs : List Int} {i j : Int} (hi : 1 ≤ i ∧ i ≤ xs.length) (hj : 1 ≤ j ∧ j ≤ xs.length) : RN (n + 1) 17 [.tup (intsD xs), .int i, .int j] = .ok (.tup (intsD (chg xs i j))) [] := by
  rw [r17]
  unfold bb17 chg
  simp!
theorem c20 {n m : Nat} (h1 : 1 ≤ m) (h2 : m ≤ 1000) : RN (n + 1) 20 [.int m] = .ok (.lst ((prs m).map pD)) [] := by
  rw [r20]
  unfold bb20
  simp!
  generalize hf : evFor _ _ _ _ = o
  have e1 : ((m : Int) - 1).toNat = m - 1 := by omega
  rw [e1] at hf
  obtain ⟨e, rfl, s2, s3, rfl⟩ := up_of hf (fun i e => ∃ s2 s3, e = [.int m, .lst (((upFrom 1 i).flatMap (prsAt m)).map pD), s2, s3]) ⟨_, _, rfl⟩ (by
    rintro i e hi ⟨s2, s3, rfl⟩
    refine ⟨_, rfl, ?_⟩
    have hl := flat_len (l := upFrom 1 i) (f := prsAt m) (c := m) fun a ha => prsAt_len (by have := mem_up.mp ha; omega)
    have hl2 : i * m ≤ 1000 * 1000 := Nat.mul_le_mul (by omega) (by omega)
    rw [up_len] at hl
    have hl3 := prsAt_len (n := m) (i := 1 + (i : Int)) (by omega)
    simp!
    rw [comp_ints (g := fun j => pD (1 + (i : Int), j)) (by rw [up_len]; omega) (by simp!; rfl) (fun a ha => ⟨_, rfl, by simp! [pD], by simp!⟩)]
    have e2 : ((m : Int) + 1 - (1 + (i : Int) + 1)).toNat = ((m : Int) - (1 + (i : Int))).toNat := by omega
    have e3 : ((upFrom (1 + (i : Int) + 1) ((m : Int) - (1 + (i : Int))).toNat).map fun j => pD (1 + (i : Int), j)) = (prsAt m (1 + (i : Int))).map pD := by simp [prsAt]
    rw [e2, e3]
    simp!
    refine ⟨.int (1 + (i : Int)), s3, ?_⟩
    rw [up_succ]
    simp)
  rw [prs_less h1]
  simp!
theorem c21 {n : Nat} {xs : List Int} {p : Int × Int} (h1 : 1 ≤ p.1 ∧ p.1 ≤ xs.length) (h2 : 1 ≤ p.2 ∧ p.2 ≤ xs.length) : RN (n + 1) 21 [.tup (intsD xs), pD p] = .ok (.bl (wrongB xs p)) [] := by
  rw [r21]
  unfold bb21 pD wrongB
  simp!
theorem eqd_pD {p q : Int × Int} : eqd (pD p) (pD q) = decide (p = q) := by
  obtain ⟨a, b⟩ := p
  obtain ⟨c, d⟩ := q
  simp only [pD, eqd, eqds, Prod.mk.injEq, Bool.and_true]
  by_cases h1 : a = c <;> by_cases h2 : b = d <;> simp [h1, h2]
theorem eqds_pD : ∀ {l r : List (Int × Int)}, eqds (l.map pD) (r.map pD) = decide (l = r)
  | [], [] => rfl
  | [], _ :: _ => rfl
  | _ :: _, [] => rfl
  | x :: l, y :: r => by
    simp only [List.map_cons, eqds]
    rw [eqds_pD, eqd_pD]
    by_cases h : x = y <;> by_cases h2 : l = r <;> simp [h, h2]
theorem pls_pD {n : Nat} : ∀ {l : List (Int × Int)}, pls (n + 1) (l.map pD) = true
  | [] => rfl
  | x :: l => by
    have : pls (n + 1) (l.map pD) = true := pls_pD
    simp only [List.map_cons, pls, this, Bool.and_true]
    rfl
theorem ne_lp {l r : List (Int × Int)} : bop .ne [.lst (l.map pD), .lst (r.map pD)] = some (.bl (!decide (l = r))) := by
  show (eqD _ _).map _ = _
  have h1 : pl 20 (.lst (l.map pD)) = true := pls_pD
  have h2 : pl 20 (.lst (r.map pD)) = true := pls_pD
  unfold eqD
  rw [h1, h2]
  show some (D.bl (!eqds _ _)) = _
  rw [eqds_pD]
theorem in_lp {x : Int × Int} {l : List (Int × Int)} : bop .in_ [pD x, .lst (l.map pD)] = some (.bl (decide (x ∈ l))) := by
  show (fIn _ _).map D.bl = _
  unfold fIn
  have h1 : pl 20 (pD x) = true := rfl
  have h2 : pls 19 (l.map pD) = true := pls_pD
  simp only [h1, h2, Bool.true_and, if_true, Option.map_some]
  congr 2
  simp only [List.any_map]
  rw [Bool.eq_iff_iff, List.any_eq_true, decide_eq_true_eq]
  constructor
  · rintro ⟨y, h1, h2⟩
    have : y = x := by simpa [eqd_pD] using h2
    exact this ▸ h1
  · exact fun h => ⟨x, h, by simp [eqd_pD]⟩
end UC

end
section
namespace UC
open PySem Eg
local macro_rules
  | `(tactic| simp!) => `(tactic| simp (maxSteps := 3000000) (disch := first | omega | assumption | (simp only [List.length_cons, List.length_nil, List.length_map, ints_len, List.length_append, List.length_take, List.length_drop, List.length_set, List.length_reverse, List.length_range, up_len]; omega)) only [k_var, k_con, k_glob, k_nil, k_cons, k_tup, k_lst, k_bi, k_and, k_or, k_not, k_ite, k_call, k_sl3, k_chn, k_comp, k_io, k_bw, k_mv, a_consR, a_consD, a_tup, a_lst, a_bi, a_bopK, a_and, a_or, a_not, a_ite, a_call, a_callG, a_callK, a_callX, a_sl1, a_sl2, a_sl3, a_ch1, a_ch2, a_chK, a_ch3, a_chK2, a_comp, a_exc, s_exc, s_ret, s_no, s_seq, s_seqB, s_seqC, s_done, k_skip, k_seq, k_ret, k_set, k_sub, k_unp, k_exp, k_ifs, k_for, k_rais, k_brk, k_cont, k_try, a_tryN, a_tryR, a_tryX, a_tryS, a_trySn, k_whl, k_appL, k_extL, a_appG, a_extG, k_aug, a_augG, a_ret, a_set, a_sub1, a_sub1K, a_sub2, a_aug, a_augS, a_app, a_ext, a_exp, a_ifs, a_ifsT, a_ifsF, a_for, a_forK, a_top, f_nil, s_loop, s_loopC, s_loopB, s_rh, k_retH, k_mvN, k_emN, k_compN, k_appN, k_frz, a_frzK, k_parO, a_par1, a_par2, k_forN, k_appAt, a_atG, a_at1, a_at2, k_forO, a_foK, a_foK2, finO_nx, finO_ret, fin_ret, fin_nx, fin_exc, gd0, gd1, gd2, gd3, gd4, gd5, gd6, gd7, gd8, gd9, gd10, gd11, gd12, gd13, gd14, gd15, st0, st1, st2, st3, st4, st5, st6, st7, st8, st9, st10, st11, st12, st13, st14, st15, v_non, v_bl, v_int, v_str, v_tup, v_lst, v_fl, v_dct, io_f, u_non, u_bl, u_int, u_str, u_tup, u_lst, u_fl, u_uns, v_exc, u_exc, x_non, x_uns, x_bl, x_int, x_str, x_tup, x_lst, x_fl, okRes_f, okRes_tl, n_non, n_bl, n_int, n_str, n_tup, ns_nil, ns_cons, ns_ints, rtP_ret, xs_nil, xs_cons, xs_ints, isx_e, excOk_1, excOk_2, excOk_3, excOk_4, excOk_5, excOk_6, excOk_7, excOk_8, l_lst, i_lst, i_tup, i_fl, eq_ii, ne_ii, eq_bb, ne_bb, F2_le, F2_lt, neg_i, slRev_l, slRevT_t, revI_l, enumI_l, enumT_t, enumZ_l, divmod_ii, zipI_l, listC_l, listC_t, listC_f, tupleC_l, tupleC_t, int_i, max_ii, min_ii, isi_d, isI_non, isI_bl, isI_int, isI_str, isI_tup, isI_lst, idx_ld, idx_td, idx_fd, is_bb, isnot_bb, add_ii, sub_ii, lt_ii, le_ii, gt_ii, ge_ii, len_l, len_f, len_t, abs_i, int_b, mod_ii, fdiv_ii, slU_lz, slL_lz, slU_tz, slL_tz, ints_len, ints_app, ints_one, ints_take, ints_drop, ints_rev, ints_set, at_0, at_1, at_2, atI_ints, a_subKz, a_appK, a_extK, mul_rz, mul_lz, pow_lit, lrng2_z, trng2_z, rng2_z, rng1_z, lrng1_z, add_llz, add_ttz, nxP_nx, rowP_nx, rowP_rh, f_consG, loopG_s, a_unpG, a_unpK, asgB_s, asg_nm, asg_nil, asg_cons, asg_tpT, asg_tpL, asg_sub, asgS_r, asgL_z, asgN_nm, asgNB_s, asgN_nil, asgN_cons, asgN_tpT, asgN_tpL, k_callF, a_cF1, a_cF2, cfK_ok, cfK_exc, k_extN, k_lst1, a_l1, k_addN, a_ad1, a_ad2, addF_l, k_gtL, a_gtG, a_gtL, gtF_i, k_pop, a_popG, a_pop, popK_z, k_chn3, a_c31, a_c32, a_c3K, a_c33, a_c3L, a_c34, k_rev, revK_l, k_augs, a_forNK, a_augsG, a_augs1, augs1K_z, a_augs2, augs2K_z, min_l, ioS, ioP, bwS, isIo, isBw, byNm, fillA, setMany, setAll, wipeE, decide_eq_true, decide_eq_false, Option.map_some, Bool.not_true, Bool.not_false, Bool.true_and, Bool.false_and, Bool.and_true, Bool.and_false, Bool.or_true, Bool.or_false, Bool.false_or, Bool.true_or, Bool.false_eq_true, Bool.true_eq_false, if_true, if_false, decide_eq_true_eq, decide_true, decide_false, List.all_cons, List.all_nil, List.map_cons, List.map_nil, List.append_nil, List.nil_append, List.cons_append, List.isEmpty_nil, Bool.not_eq_true, eq_self, beq_self_eq_true, and_true, true_and, and_false, false_and, not_true_eq_false, not_false_eq_true, ite_self, beq_iff_eq, decide_eq_false_iff_not, Nat.reduceBEq, Nat.reduceEqDiff, Int.reduceToNat, Int.reduceAdd, Int.reduceSub, Int.reduceNeg, Int.reduceEq, Int.reduceLT, Int.reduceLE, Int.lt_irrefl, Bool.not_eq_true', Bool.not_eq_false', List.length_cons, List.length_nil, Int.toNat_zero, Int.toNat_one, Int.toNat_natCast])
local macro_rules
  | `(tactic| simp! [$xs,*]) => `(tactic| simp (maxSteps := 3000000) (disch := first | omega | assumption | (simp only [List.length_cons, List.length_nil, List.length_map, ints_len, List.length_append, List.length_take, List.length_drop, List.length_set, List.length_reverse, List.length_range, up_len]; omega)) only [k_var, k_con, k_glob, k_nil, k_cons, k_tup, k_lst, k_bi, k_and, k_or, k_not, k_ite, k_call, k_sl3, k_chn, k_comp, k_io, k_bw, k_mv, a_consR, a_consD, a_tup, a_lst, a_bi, a_bopK, a_and, a_or, a_not, a_ite, a_call, a_callG, a_callK, a_callX, a_sl1, a_sl2, a_sl3, a_ch1, a_ch2, a_chK, a_ch3, a_chK2, a_comp, a_exc, s_exc, s_ret, s_no, s_seq, s_seqB, s_seqC, s_done, k_skip, k_seq, k_ret, k_set, k_sub, k_unp, k_exp, k_ifs, k_for, k_rais, k_brk, k_cont, k_try, a_tryN, a_tryR, a_tryX, a_tryS, a_trySn, k_whl, k_appL, k_extL, a_appG, a_extG, k_aug, a_augG, a_ret, a_set, a_sub1, a_sub1K, a_sub2, a_aug, a_augS, a_app, a_ext, a_exp, a_ifs, a_ifsT, a_ifsF, a_for, a_forK, a_top, f_nil, s_loop, s_loopC, s_loopB, s_rh, k_retH, k_mvN, k_emN, k_compN, k_appN, k_frz, a_frzK, k_parO, a_par1, a_par2, k_forN, k_appAt, a_atG, a_at1, a_at2, k_forO, a_foK, a_foK2, finO_nx, finO_ret, fin_ret, fin_nx, fin_exc, gd0, gd1, gd2, gd3, gd4, gd5, gd6, gd7, gd8, gd9, gd10, gd11, gd12, gd13, gd14, gd15, st0, st1, st2, st3, st4, st5, st6, st7, st8, st9, st10, st11, st12, st13, st14, st15, v_non, v_bl, v_int, v_str, v_tup, v_lst, v_fl, v_dct, io_f, u_non, u_bl, u_int, u_str, u_tup, u_lst, u_fl, u_uns, v_exc, u_exc, x_non, x_uns, x_bl, x_int, x_str, x_tup, x_lst, x_fl, okRes_f, okRes_tl, n_non, n_bl, n_int, n_str, n_tup, ns_nil, ns_cons, ns_ints, rtP_ret, xs_nil, xs_cons, xs_ints, isx_e, excOk_1, excOk_2, excOk_3, excOk_4, excOk_5, excOk_6, excOk_7, excOk_8, l_lst, i_lst, i_tup, i_fl, eq_ii, ne_ii, eq_bb, ne_bb, F2_le, F2_lt, neg_i, slRev_l, slRevT_t, revI_l, enumI_l, enumT_t, enumZ_l, divmod_ii, zipI_l, listC_l, listC_t, listC_f, tupleC_l, tupleC_t, int_i, max_ii, min_ii, isi_d, isI_non, isI_bl, isI_int, isI_str, isI_tup, isI_lst, idx_ld, idx_td, idx_fd, is_bb, isnot_bb, add_ii, sub_ii, lt_ii, le_ii, gt_ii, ge_ii, len_l, len_f, len_t, abs_i, int_b, mod_ii, fdiv_ii, slU_lz, slL_lz, slU_tz, slL_tz, ints_len, ints_app, ints_one, ints_take, ints_drop, ints_rev, ints_set, at_0, at_1, at_2, atI_ints, a_subKz, a_appK, a_extK, mul_rz, mul_lz, pow_lit, lrng2_z, trng2_z, rng2_z, rng1_z, lrng1_z, add_llz, add_ttz, nxP_nx, rowP_nx, rowP_rh, f_consG, loopG_s, a_unpG, a_unpK, asgB_s, asg_nm, asg_nil, asg_cons, asg_tpT, asg_tpL, asg_sub, asgS_r, asgL_z, asgN_nm, asgNB_s, asgN_nil, asgN_cons, asgN_tpT, asgN_tpL, k_callF, a_cF1, a_cF2, cfK_ok, cfK_exc, k_extN, k_lst1, a_l1, k_addN, a_ad1, a_ad2, addF_l, k_gtL, a_gtG, a_gtL, gtF_i, k_pop, a_popG, a_pop, popK_z, k_chn3, a_c31, a_c32, a_c3K, a_c33, a_c3L, a_c34, k_rev, revK_l, k_augs, a_forNK, a_augsG, a_augs1, augs1K_z, a_augs2, augs2K_z, min_l, ioS, ioP, bwS, isIo, isBw, byNm, fillA, setMany, setAll, wipeE, decide_eq_true, decide_eq_false, Option.map_some, Bool.not_true, Bool.not_false, Bool.true_and, Bool.false_and, Bool.and_true, Bool.and_false, Bool.or_true, Bool.or_false, Bool.false_or, Bool.true_or, Bool.false_eq_true, Bool.true_eq_false, if_true, if_false, decide_eq_true_eq, decide_true, decide_false, List.all_cons, List.all_nil, List.map_cons, List.map_nil, List.append_nil, List.nil_append, List.cons_append, List.isEmpty_nil, Bool.not_eq_true, eq_self, beq_self_eq_true, and_true, true_and, and_false, false_and, not_true_eq_false, not_false_eq_true, ite_self, beq_iff_eq, decide_eq_false_iff_not, Nat.reduceBEq, Nat.reduceEqDiff, Int.reduceToNat, Int.reduceAdd, Int.reduceSub, Int.reduceNeg, Int.reduceEq, Int.reduceLT, Int.reduceLE, Int.lt_irrefl, Bool.not_eq_true', Bool.not_eq_false', List.length_cons, List.length_nil, Int.toNat_zero, Int.toNat_one, Int.toNat_natCast, $xs,*])
/-! ### words -/
def ledL (n : Nat) (w : List Int) : List Int := w.foldl (fun o k => chg o k (k + 1)) (upFrom 1 n)
def WordOk (n : Nat) (w : List Int) : Prop := ∀ k ∈ w, 1 ≤ k ∧ k < n
theorem fold_chg_len : ∀ {w : List Int} {xs : List Int}, (w.foldl (fun o k => chg o k (k + 1)) xs).length = xs.length
  | [], _ => rfl
  | k :: w, xs => by
    rw [List.foldl_cons, fold_chg_len, chg_len]
theorem ledL_len {n : Nat} {w : List Int} : (ledL n w).length = n := by
  unfold ledL
  rw [fold_chg_len, up_len]
mutual
theorem eqd_refl : ∀ (d : D) {n : Nat}, pl n d = true → eqd d d = true
  | .unset, n, h => by cases n <;> cases h
  | .non, n, h => rfl
  | .bl b, n, h => by cases b <;> rfl
  | .int i, n, h => by simp [eqd]
  | .str x, n, h => by simp [eqd]
  | .tup xs, 0, h => by cases h
  | .tup xs, n + 1, h => eqds_refl xs h
  | .lst xs, 0, h => by cases h
  | .lst xs, n + 1, h => eqds_refl xs h
  | .fl _, n, h => by cases n <;> cases h
  | .dct _, n, h => by cases n <;> cases h
  | .ins _ _, n, h => by cases n <;> cases h
  | .exc _, n, h => by cases n <;> cases h
theorem eqds_refl : ∀ (ds : List D) {n : Nat}, pls n ds = true → eqds ds ds = true
  | [], n, h => rfl
  | d :: ds, n, h => by
    have h : pl n d = true ∧ pls n ds = true := by cases n <;> simpa [pls] using h
    simp only [eqds, eqd_refl d h.1, eqds_refl ds h.2, Bool.and_self]
end
theorem eq_self_l {ds : List D} (h : pls 19 ds = true) : bop .eq [.lst ds, .lst ds] = some (.bl true) := by
  show (eqD _ _).map _ = _
  have h1 : pl 20 (.lst ds) = true := h
  unfold eqD
  rw [h1]
  show some (D.bl (eqds ds ds)) = _
  rw [eqds_refl ds h]
end UC

end
section
namespace UC
open PySem Eg
local macro_rules
  | `(tactic| simp!) => `(tactic| simp (maxSteps := 3000000) (disch := first | omega | assumption | (simp only [List.length_cons, List.length_nil, List.length_map, ints_len, List.length_append, List.length_take, List.length_drop, List.length_set, List.length_reverse, List.length_range, up_len]; omega)) only [k_var, k_con, k_glob, k_nil, k_cons, k_tup, k_lst, k_bi, k_and, k_or, k_not, k_ite, k_call, k_sl3, k_chn, k_comp, k_io, k_bw, k_mv, a_consR, a_consD, a_tup, a_lst, a_bi, a_bopK, a_and, a_or, a_not, a_ite, a_call, a_callG, a_callK, a_callX, a_sl1, a_sl2, a_sl3, a_ch1, a_ch2, a_chK, a_ch3, a_chK2, a_comp, a_exc, s_exc, s_ret, s_no, s_seq, s_seqB, s_seqC, s_done, k_skip, k_seq, k_ret, k_set, k_sub, k_unp, k_exp, k_ifs, k_for, k_rais, k_brk, k_cont, k_try, a_tryN, a_tryR, a_tryX, a_tryS, a_trySn, k_whl, k_appL, k_extL, a_appG, a_extG, k_aug, a_augG, a_ret, a_set, a_sub1, a_sub1K, a_sub2, a_aug, a_augS, a_app, a_ext, a_exp, a_ifs, a_ifsT, a_ifsF, a_for, a_forK, a_top, f_nil, s_loop, s_loopC, s_loopB, s_rh, k_retH, k_mvN, k_emN, k_compN, k_appN, k_frz, a_frzK, k_parO, a_par1, a_par2, k_forN, k_appAt, a_atG, a_at1, a_at2, k_forO, a_foK, a_foK2, finO_nx, finO_ret, fin_ret, fin_nx, fin_exc, gd0, gd1, gd2, gd3, gd4, gd5, gd6, gd7, gd8, gd9, gd10, gd11, gd12, gd13, gd14, gd15, st0, st1, st2, st3, st4, st5, st6, st7, st8, st9, st10, st11, st12, st13, st14, st15, v_non, v_bl, v_int, v_str, v_tup, v_lst, v_fl, v_dct, io_f, u_non, u_bl, u_int, u_str, u_tup, u_lst, u_fl, u_uns, v_exc, u_exc, x_non, x_uns, x_bl, x_int, x_str, x_tup, x_lst, x_fl, okRes_f, okRes_tl, n_non, n_bl, n_int, n_str, n_tup, ns_nil, ns_cons, ns_ints, rtP_ret, xs_nil, xs_cons, xs_ints, isx_e, excOk_1, excOk_2, excOk_3, excOk_4, excOk_5, excOk_6, excOk_7, excOk_8, l_lst, i_lst, i_tup, i_fl, eq_ii, ne_ii, eq_bb, ne_bb, F2_le, F2_lt, neg_i, slRev_l, slRevT_t, revI_l, enumI_l, enumT_t, enumZ_l, divmod_ii, zipI_l, listC_l, listC_t, listC_f, tupleC_l, tupleC_t, int_i, max_ii, min_ii, isi_d, isI_non, isI_bl, isI_int, isI_str, isI_tup, isI_lst, idx_ld, idx_td, idx_fd, is_bb, isnot_bb, add_ii, sub_ii, lt_ii, le_ii, gt_ii, ge_ii, len_l, len_f, len_t, abs_i, int_b, mod_ii, fdiv_ii, slU_lz, slL_lz, slU_tz, slL_tz, ints_len, ints_app, ints_one, ints_take, ints_drop, ints_rev, ints_set, at_0, at_1, at_2, atI_ints, a_subKz, a_appK, a_extK, mul_rz, mul_lz, pow_lit, lrng2_z, trng2_z, rng2_z, rng1_z, lrng1_z, add_llz, add_ttz, nxP_nx, rowP_nx, rowP_rh, f_consG, loopG_s, a_unpG, a_unpK, asgB_s, asg_nm, asg_nil, asg_cons, asg_tpT, asg_tpL, asg_sub, asgS_r, asgL_z, asgN_nm, asgNB_s, asgN_nil, asgN_cons, asgN_tpT, asgN_tpL, k_callF, a_cF1, a_cF2, cfK_ok, cfK_exc, k_extN, k_lst1, a_l1, k_addN, a_ad1, a_ad2, addF_l, k_gtL, a_gtG, a_gtL, gtF_i, k_pop, a_popG, a_pop, popK_z, k_chn3, a_c31, a_c32, a_c3K, a_c33, a_c3L, a_c34, k_rev, revK_l, k_augs, a_forNK, a_augsG, a_augs1, augs1K_z, a_augs2, augs2K_z, min_l, ioS, ioP, bwS, isIo, isBw, byNm, fillA, setMany, setAll, wipeE, decide_eq_true, decide_eq_false, Option.map_some, Bool.not_true, Bool.not_false, Bool.true_and, Bool.false_and, Bool.and_true, Bool.and_false, Bool.or_true, Bool.or_false, Bool.false_or, Bool.true_or, Bool.false_eq_true, Bool.true_eq_false, if_true, if_false, decide_eq_true_eq, decide_true, decide_false, List.all_cons, List.all_nil, List.map_cons, List.map_nil, List.append_nil, List.nil_append, List.cons_append, List.isEmpty_nil, Bool.not_eq_true, eq_self, beq_self_eq_true, and_true, true_and, and_false, false_and, not_true_eq_false, not_false_eq_true, ite_self, beq_iff_eq, decide_eq_false_iff_not, Nat.reduceBEq, Nat.reduceEqDiff, Int.reduceToNat, Int.reduceAdd, Int.reduceSub, Int.reduceNeg, Int.reduceEq, Int.reduceLT, Int.reduceLE, Int.lt_irrefl, Bool.not_eq_true', Bool.not_eq_false', List.length_cons, List.length_nil, Int.toNat_zero, Int.toNat_one, Int.toNat_natCast])
local macro_rules
  | `(tactic| simp! [$xs,*]) => `(tactic| simp (maxSteps := 3000000) (disch := first | omega | assumption | (simp only [List.length_cons, List.length_nil, List.length_map, ints_len, List.length_append, List.length_take, List.length_drop, List.length_set, List.length_reverse, List.length_range, up_len]; omega)) only [k_var, k_con, k_glob, k_nil, k_cons, k_tup, k_lst, k_bi, k_and, k_or, k_not, k_ite, k_call, k_sl3, k_chn, k_comp, k_io, k_bw, k_mv, a_consR, a_consD, a_tup, a_lst, a_bi, a_bopK, a_and, a_or, a_not, a_ite, a_call, a_callG, a_callK, a_callX, a_sl1, a_sl2, a_sl3, a_ch1, a_ch2, a_chK, a_ch3, a_chK2, a_comp, a_exc, s_exc, s_ret, s_no, s_seq, s_seqB, s_seqC, s_done, k_skip, k_seq, k_ret, k_set, k_sub, k_unp, k_exp, k_ifs, k_for, k_rais, k_brk, k_cont, k_try, a_tryN, a_tryR, a_tryX, a_tryS, a_trySn, k_whl, k_appL, k_extL, a_appG, a_extG, k_aug, a_augG, a_ret, a_set, a_sub1, a_sub1K, a_sub2, a_aug, a_augS, a_app, a_ext, a_exp, a_ifs, a_ifsT, a_ifsF, a_for, a_forK, a_top, f_nil, s_loop, s_loopC, s_loopB, s_rh, k_retH, k_mvN, k_emN, k_compN, k_appN, k_frz, a_frzK, k_parO, a_par1, a_par2, k_forN, k_appAt, a_atG, a_at1, a_at2, k_forO, a_foK, a_foK2, finO_nx, finO_ret, fin_ret, fin_nx, fin_exc, gd0, gd1, gd2, gd3, gd4, gd5, gd6, gd7, gd8, gd9, gd10, gd11, gd12, gd13, gd14, gd15, st0, st1, st2, st3, st4, st5, st6, st7, st8, st9, st10, st11, st12, st13, st14, st15, v_non, v_bl, v_int, v_str, v_tup, v_lst, v_fl, v_dct, io_f, u_non, u_bl, u_int, u_str, u_tup, u_lst, u_fl, u_uns, v_exc, u_exc, x_non, x_uns, x_bl, x_int, x_str, x_tup, x_lst, x_fl, okRes_f, okRes_tl, n_non, n_bl, n_int, n_str, n_tup, ns_nil, ns_cons, ns_ints, rtP_ret, xs_nil, xs_cons, xs_ints, isx_e, excOk_1, excOk_2, excOk_3, excOk_4, excOk_5, excOk_6, excOk_7, excOk_8, l_lst, i_lst, i_tup, i_fl, eq_ii, ne_ii, eq_bb, ne_bb, F2_le, F2_lt, neg_i, slRev_l, slRevT_t, revI_l, enumI_l, enumT_t, enumZ_l, divmod_ii, zipI_l, listC_l, listC_t, listC_f, tupleC_l, tupleC_t, int_i, max_ii, min_ii, isi_d, isI_non, isI_bl, isI_int, isI_str, isI_tup, isI_lst, idx_ld, idx_td, idx_fd, is_bb, isnot_bb, add_ii, sub_ii, lt_ii, le_ii, gt_ii, ge_ii, len_l, len_f, len_t, abs_i, int_b, mod_ii, fdiv_ii, slU_lz, slL_lz, slU_tz, slL_tz, ints_len, ints_app, ints_one, ints_take, ints_drop, ints_rev, ints_set, at_0, at_1, at_2, atI_ints, a_subKz, a_appK, a_extK, mul_rz, mul_lz, pow_lit, lrng2_z, trng2_z, rng2_z, rng1_z, lrng1_z, add_llz, add_ttz, nxP_nx, rowP_nx, rowP_rh, f_consG, loopG_s, a_unpG, a_unpK, asgB_s, asg_nm, asg_nil, asg_cons, asg_tpT, asg_tpL, asg_sub, asgS_r, asgL_z, asgN_nm, asgNB_s, asgN_nil, asgN_cons, asgN_tpT, asgN_tpL, k_callF, a_cF1, a_cF2, cfK_ok, cfK_exc, k_extN, k_lst1, a_l1, k_addN, a_ad1, a_ad2, addF_l, k_gtL, a_gtG, a_gtL, gtF_i, k_pop, a_popG, a_pop, popK_z, k_chn3, a_c31, a_c32, a_c3K, a_c33, a_c3L, a_c34, k_rev, revK_l, k_augs, a_forNK, a_augsG, a_augs1, augs1K_z, a_augs2, augs2K_z, min_l, ioS, ioP, bwS, isIo, isBw, byNm, fillA, setMany, setAll, wipeE, decide_eq_true, decide_eq_false, Option.map_some, Bool.not_true, Bool.not_false, Bool.true_and, Bool.false_and, Bool.and_true, Bool.and_false, Bool.or_true, Bool.or_false, Bool.false_or, Bool.true_or, Bool.false_eq_true, Bool.true_eq_false, if_true, if_false, decide_eq_true_eq, decide_true, decide_false, List.all_cons, List.all_nil, List.map_cons, List.map_nil, List.append_nil, List.nil_append, List.cons_append, List.isEmpty_nil, Bool.not_eq_true, eq_self, beq_self_eq_true, and_true, true_and, and_false, false_and, not_true_eq_false, not_false_eq_true, ite_self, beq_iff_eq, decide_eq_false_iff_not, Nat.reduceBEq, Nat.reduceEqDiff, Int.reduceToNat, Int.reduceAdd, Int.reduceSub, Int.reduceNeg, Int.reduceEq, Int.reduceLT, Int.reduceLE, Int.lt_irrefl, Bool.not_eq_true', Bool.not_eq_false', List.length_cons, List.length_nil, Int.toNat_zero, Int.toNat_one, Int.toNat_natCast, $xs,*])
theorem c25 {n : Nat} {xs : List Int} (h2 : xs.length ≤ 1000) : RN (n + 1) 25 [.tup (intsD xs)] = .ok (.lst ((wrg xs).map pD)) [] := by
  rw [r25]
  unfold bb25
  simp!
  generalize hf : evFor _ _ _ _ = o
  rw [← foldw]
  generalize hF : (fun i : Int => ((upFrom (i + 1) ((xs.length : Int) - (i + 1)).toNat).filter fun j => decide (xs.getD j.toNat 0 < xs.getD i.toNat 0)).map fun j => (i + 1, j + 1)) = F
  have hFl : ∀ i : Int, 0 ≤ i → (F i).length ≤ 1000 := fun i hi => by
    rw [← hF]
    simp only [List.length_map]
    refine Nat.le_trans (List.length_filter_le _ _) ?_
    rw [up_len]
    omega
  obtain ⟨e, rfl, s2, s3, rfl⟩ := up_of hf (fun i e => ∃ s2 s3, e = [.tup (intsD xs), .int xs.length, .lst (((upFrom 0 i).flatMap F).map pD), s2, s3]) ⟨_, _, rfl⟩ (by
    rintro i e hi ⟨s2, s3, rfl⟩
    refine ⟨_, rfl, ?_⟩
    have hl := flat_len (l := upFrom 0 i) (f := F) (c := 1000) fun a ha => hFl a (by have := mem_up.mp ha; omega)
    rw [up_len] at hl
    have hl3 := hFl i (by omega)
    simp!
    rw [comp_intsF (g := fun j => pD (0 + (i : Int) + 1, j + 1)) (p := fun j => decide (xs.getD j.toNat 0 < xs.getD (0 + (i : Int)).toNat 0)) (by rw [up_len]; omega) (by simp!; rfl) (fun a ha => ⟨_, rfl, by
      have := mem_up.mp ha
      simp!, fun _ => by simp! [pD], by simp!⟩)]
    have e3 : ((upFrom (0 + (i : Int) + 1) ((xs.length : Int) - (0 + (i : Int) + 1)).toNat).filter fun j => decide (xs.getD j.toNat 0 < xs.getD (0 + (i : Int)).toNat 0)).map (fun j => pD (0 + (i : Int) + 1, j + 1)) = (F (0 + (i : Int))).map pD := by
      rw [← hF]
      simp
    rw [e3]
    have hl4 : (F (0 + (i : Int))).length ≤ 1000 := hFl _ (by omega)
    simp!
    refine ⟨.int (0 + (i : Int)), s3, ?_⟩
    rw [up_succ]
    simp)
  simp!
end UC

end
section
namespace UC
open PySem Eg
local macro_rules
  | `(tactic| simp!) => `(tactic| simp (maxSteps := 3000000) (disch := first | omega | assumption | (simp only [List.length_cons, List.length_nil, List.length_map, ints_len, List.length_append, List.length_take, List.length_drop, List.length_set, List.length_reverse, List.length_range, up_len]; omega)) only [k_var, k_con, k_glob, k_nil, k_cons, k_tup, k_lst, k_bi, k_and, k_or, k_not, k_ite, k_call, k_sl3, k_chn, k_comp, k_io, k_bw, k_mv, a_consR, a_consD, a_tup, a_lst, a_bi, a_bopK, a_and, a_or, a_not, a_ite, a_call, a_callG, a_callK, a_callX, a_sl1, a_sl2, a_sl3, a_ch1, a_ch2, a_chK, a_ch3, a_chK2, a_comp, a_exc, s_exc, s_ret, s_no, s_seq, s_seqB, s_seqC, s_done, k_skip, k_seq, k_ret, k_set, k_sub, k_unp, k_exp, k_ifs, k_for, k_rais, k_brk, k_cont, k_try, a_tryN, a_tryR, a_tryX, a_tryS, a_trySn, k_whl, k_appL, k_extL, a_appG, a_extG, k_aug, a_augG, a_ret, a_set, a_sub1, a_sub1K, a_sub2, a_aug, a_augS, a_app, a_ext, a_exp, a_ifs, a_ifsT, a_ifsF, a_for, a_forK, a_top, f_nil, s_loop, s_loopC, s_loopB, s_rh, k_retH, k_mvN, k_emN, k_compN, k_appN, k_frz, a_frzK, k_parO, a_par1, a_par2, k_forN, k_appAt, a_atG, a_at1, a_at2, k_forO, a_foK, a_foK2, finO_nx, finO_ret, fin_ret, fin_nx, fin_exc, gd0, gd1, gd2, gd3, gd4, gd5, gd6, gd7, gd8, gd9, gd10, gd11, gd12, gd13, gd14, gd15, st0, st1, st2, st3, st4, st5, st6, st7, st8, st9, st10, st11, st12, st13, st14, st15, v_non, v_bl, v_int, v_str, v_tup, v_lst, v_fl, v_dct, io_f, u_non, u_bl, u_int, u_str, u_tup, u_lst, u_fl, u_uns, v_exc, u_exc, x_non, x_uns, x_bl, x_int, x_str, x_tup, x_lst, x_fl, okRes_f, okRes_tl, n_non, n_bl, n_int, n_str, n_tup, ns_nil, ns_cons, ns_ints, rtP_ret, xs_nil, xs_cons, xs_ints, isx_e, excOk_1, excOk_2, excOk_3, excOk_4, excOk_5, excOk_6, excOk_7, excOk_8, l_lst, i_lst, i_tup, i_fl, eq_ii, ne_ii, eq_bb, ne_bb, F2_le, F2_lt, neg_i, slRev_l, slRevT_t, revI_l, enumI_l, enumT_t, enumZ_l, divmod_ii, zipI_l, listC_l, listC_t, listC_f, tupleC_l, tupleC_t, int_i, max_ii, min_ii, isi_d, isI_non, isI_bl, isI_int, isI_str, isI_tup, isI_lst, idx_ld, idx_td, idx_fd, is_bb, isnot_bb, add_ii, sub_ii, lt_ii, le_ii, gt_ii, ge_ii, len_l, len_f, len_t, abs_i, int_b, mod_ii, fdiv_ii, slU_lz, slL_lz, slU_tz, slL_tz, ints_len, ints_app, ints_one, ints_take, ints_drop, ints_rev, ints_set, at_0, at_1, at_2, atI_ints, a_subKz, a_appK, a_extK, mul_rz, mul_lz, pow_lit, lrng2_z, trng2_z, rng2_z, rng1_z, lrng1_z, add_llz, add_ttz, nxP_nx, rowP_nx, rowP_rh, f_consG, loopG_s, a_unpG, a_unpK, asgB_s, asg_nm, asg_nil, asg_cons, asg_tpT, asg_tpL, asg_sub, asgS_r, asgL_z, asgN_nm, asgNB_s, asgN_nil, asgN_cons, asgN_tpT, asgN_tpL, k_callF, a_cF1, a_cF2, cfK_ok, cfK_exc, k_extN, k_lst1, a_l1, k_addN, a_ad1, a_ad2, addF_l, k_gtL, a_gtG, a_gtL, gtF_i, k_pop, a_popG, a_pop, popK_z, k_chn3, a_c31, a_c32, a_c3K, a_c33, a_c3L, a_c34, k_rev, revK_l, k_augs, a_forNK, a_augsG, a_augs1, augs1K_z, a_augs2, augs2K_z, min_l, ioS, ioP, bwS, isIo, isBw, byNm, fillA, setMany, setAll, wipeE, decide_eq_true, decide_eq_false, Option.map_some, Bool.not_true, Bool.not_false, Bool.true_and, Bool.false_and, Bool.and_true, Bool.and_false, Bool.or_true, Bool.or_false, Bool.false_or, Bool.true_or, Bool.false_eq_true, Bool.true_eq_false, if_true, if_false, decide_eq_true_eq, decide_true, decide_false, List.all_cons, List.all_nil, List.map_cons, List.map_nil, List.append_nil, List.nil_append, List.cons_append, List.isEmpty_nil, Bool.not_eq_true, eq_self, beq_self_eq_true, and_true, true_and, and_false, false_and, not_true_eq_false, not_false_eq_true, ite_self, beq_iff_eq, decide_eq_false_iff_not, Nat.reduceBEq, Nat.reduceEqDiff, Int.reduceToNat, Int.reduceAdd, Int.reduceSub, Int.reduceNeg, Int.reduceEq, Int.reduceLT, Int.reduceLE, Int.lt_irrefl, Bool.not_eq_true', Bool.not_eq_false', List.length_cons, List.length_nil, Int.toNat_zero, Int.toNat_one, Int.toNat_natCast])
local macro_rules
  | `(tactic| simp! [$xs,*]) => `(tactic| simp (maxSteps := 3000000) (disch := first | omega | assumption | (simp only [List.length_cons, List.length_nil, List.length_map, ints_len, List.length_append, List.length_take, List.length_drop, List.length_set, List.length_reverse, List.length_range, up_len]; omega)) only [k_var, k_con, k_glob, k_nil, k_cons, k_tup, k_lst, k_bi, k_and, k_or, k_not, k_ite, k_call, k_sl3, k_chn, k_comp, k_io, k_bw, k_mv, a_consR, a_consD, a_tup, a_lst, a_bi, a_bopK, a_and, a_or, a_not, a_ite, a_call, a_callG, a_callK, a_callX, a_sl1, a_sl2, a_sl3, a_ch1, a_ch2, a_chK, a_ch3, a_chK2, a_comp, a_exc, s_exc, s_ret, s_no, s_seq, s_seqB, s_seqC, s_done, k_skip, k_seq, k_ret, k_set, k_sub, k_unp, k_exp, k_ifs, k_for, k_rais, k_brk, k_cont, k_try, a_tryN, a_tryR, a_tryX, a_tryS, a_trySn, k_whl, k_appL, k_extL, a_appG, a_extG, k_aug, a_augG, a_ret, a_set, a_sub1, a_sub1K, a_sub2, a_aug, a_augS, a_app, a_ext, a_exp, a_ifs, a_ifsT, a_ifsF, a_for, a_forK, a_top, f_nil, s_loop, s_loopC, s_loopB, s_rh, k_retH, k_mvN, k_emN, k_compN, k_appN, k_frz, a_frzK, k_parO, a_par1, a_par2, k_forN, k_appAt, a_atG, a_at1, a_at2, k_forO, a_foK, a_foK2, finO_nx, finO_ret, fin_ret, fin_nx, fin_exc, gd0, gd1, gd2, gd3, gd4, gd5, gd6, gd7, gd8, gd9, gd10, gd11, gd12, gd13, gd14, gd15, st0, st1, st2, st3, st4, st5, st6, st7, st8, st9, st10, st11, st12, st13, st14, st15, v_non, v_bl, v_int, v_str, v_tup, v_lst, v_fl, v_dct, io_f, u_non, u_bl, u_int, u_str, u_tup, u_lst, u_fl, u_uns, v_exc, u_exc, x_non, x_uns, x_bl, x_int, x_str, x_tup, x_lst, x_fl, okRes_f, okRes_tl, n_non, n_bl, n_int, n_str, n_tup, ns_nil, ns_cons, ns_ints, rtP_ret, xs_nil, xs_cons, xs_ints, isx_e, excOk_1, excOk_2, excOk_3, excOk_4, excOk_5, excOk_6, excOk_7, excOk_8, l_lst, i_lst, i_tup, i_fl, eq_ii, ne_ii, eq_bb, ne_bb, F2_le, F2_lt, neg_i, slRev_l, slRevT_t, revI_l, enumI_l, enumT_t, enumZ_l, divmod_ii, zipI_l, listC_l, listC_t, listC_f, tupleC_l, tupleC_t, int_i, max_ii, min_ii, isi_d, isI_non, isI_bl, isI_int, isI_str, isI_tup, isI_lst, idx_ld, idx_td, idx_fd, is_bb, isnot_bb, add_ii, sub_ii, lt_ii, le_ii, gt_ii, ge_ii, len_l, len_f, len_t, abs_i, int_b, mod_ii, fdiv_ii, slU_lz, slL_lz, slU_tz, slL_tz, ints_len, ints_app, ints_one, ints_take, ints_drop, ints_rev, ints_set, at_0, at_1, at_2, atI_ints, a_subKz, a_appK, a_extK, mul_rz, mul_lz, pow_lit, lrng2_z, trng2_z, rng2_z, rng1_z, lrng1_z, add_llz, add_ttz, nxP_nx, rowP_nx, rowP_rh, f_consG, loopG_s, a_unpG, a_unpK, asgB_s, asg_nm, asg_nil, asg_cons, asg_tpT, asg_tpL, asg_sub, asgS_r, asgL_z, asgN_nm, asgNB_s, asgN_nil, asgN_cons, asgN_tpT, asgN_tpL, k_callF, a_cF1, a_cF2, cfK_ok, cfK_exc, k_extN, k_lst1, a_l1, k_addN, a_ad1, a_ad2, addF_l, k_gtL, a_gtG, a_gtL, gtF_i, k_pop, a_popG, a_pop, popK_z, k_chn3, a_c31, a_c32, a_c3K, a_c33, a_c3L, a_c34, k_rev, revK_l, k_augs, a_forNK, a_augsG, a_augs1, augs1K_z, a_augs2, augs2K_z, min_l, ioS, ioP, bwS, isIo, isBw, byNm, fillA, setMany, setAll, wipeE, decide_eq_true, decide_eq_false, Option.map_some, Bool.not_true, Bool.not_false, Bool.true_and, Bool.false_and, Bool.and_true, Bool.and_false, Bool.or_true, Bool.or_false, Bool.false_or, Bool.true_or, Bool.false_eq_true, Bool.true_eq_false, if_true, if_false, decide_eq_true_eq, decide_true, decide_false, List.all_cons, List.all_nil, List.map_cons, List.map_nil, List.append_nil, List.nil_append, List.cons_append, List.isEmpty_nil, Bool.not_eq_true, eq_self, beq_self_eq_true, and_true, true_and, and_false, false_and, not_true_eq_false, not_false_eq_true, ite_self, beq_iff_eq, decide_eq_false_iff_not, Nat.reduceBEq, Nat.reduceEqDiff, Int.reduceToNat, Int.reduceAdd, Int.reduceSub, Int.reduceNeg, Int.reduceEq, Int.reduceLT, Int.reduceLE, Int.lt_irrefl, Bool.not_eq_true', Bool.not_eq_false', List.length_cons, List.length_nil, Int.toNat_zero, Int.toNat_one, Int.toNat_natCast, $xs,*])
/-! ### sorted lists of orders -/
def tD (l : List Int) : D := .tup (intsD l)
theorem v_tD {fc : Nat → List D → CR} {wf : Nat} {env : List D} {k : KE} {l : List Int} : varK fc wf (tD l) env k = apE fc wf k (.ok [tD l] env) := id rfl
def srtD (L : List (List Int)) : List D := (L.map tD).mergeSort leT
theorem mem_srt {L : List (List Int)} {d : D} : d ∈ srtD L ↔ ∃ x ∈ L, d = tD x := by
  unfold srtD
  rw [List.mem_mergeSort, List.mem_map]
  exact ⟨fun ⟨x, h, e⟩ => ⟨x, h, e.symm⟩, fun ⟨x, h, e⟩ => ⟨x, h, e.symm⟩⟩
theorem srt_len {L : List (List Int)} : (srtD L).length = L.length := by
  unfold srtD
  rw [List.length_mergeSort, List.length_map]
theorem pls_of {n : Nat} : ∀ {ds : List D}, (∀ d ∈ ds, pl n d = true) → pls n ds = true
  | [], _ => by cases n <;> rfl
  | d :: ds, h => by
    have h1 := h d List.mem_cons_self
    have h2 := pls_of (n := n) (ds := ds) fun e he => h e (List.mem_cons_of_mem _ he)
    cases n <;> simp [pls, h1, h2]
theorem noLs_of : ∀ {ds : List D}, (∀ d ∈ ds, noL d = true) → noLs ds = true
  | [], _ => rfl
  | d :: ds, h => by
    show (noL d && noLs ds) = true
    rw [h d List.mem_cons_self, noLs_of fun e he => h e (List.mem_cons_of_mem _ he)]
    rfl
theorem noLs_ints' : ∀ {l : List Int}, noLs (intsD l) = true
  | [] => rfl
  | _ :: l => noLs_ints' (l := l)
theorem pls_srt {n : Nat} {L : List (List Int)} : pls (n + 1) (srtD L) = true := pls_of fun d hd => by
  obtain ⟨x, _, rfl⟩ := mem_srt.mp hd
  show pls n (intsD x) = true
  exact pls_ints
theorem noLs_srt {L : List (List Int)} : noLs (srtD L) = true := noLs_of fun d hd => by
  obtain ⟨x, _, rfl⟩ := mem_srt.mp hd
  exact noLs_ints'
theorem ne_srt {L : List (List Int)} : bop .ne [.lst (srtD L), .lst (srtD L)] = some (.bl false) := by
  have h1 : pl 20 (.lst (srtD L)) = true := pls_srt (n := 18)
  have h2 : eqds (srtD L) (srtD L) = true := eqds_refl (n := 19) _ (pls_srt (n := 18))
  show (eqD _ _).map _ = _
  unfold eqD
  rw [h1]
  show some (D.bl (!eqds _ _)) = _
  rw [h2]
  rfl
theorem sorted_tups {L : List (List Int)} (h : ∀ x ∈ L, x ≠ []) : bop .sorted [.lst (L.map tD)] = some (.lst (srtD L)) := by
  cases L with
  | nil =>
    rw [show srtD [] = [] from by simp [srtD]]
    exact sorted_l (l := []) (by simp)
  | cons x L =>
    have ht : isTL (.lst ((x :: L).map tD)) = true := by
      show (!((x :: L).map tD).isEmpty && ((x :: L).map tD).all isIT) = true
      rw [List.map_cons, List.isEmpty_cons, ← List.map_cons, List.all_map, List.all_eq_true.mpr]
      · rfl
      · intro y hy
        have := h y hy
        cases y with
        | nil => exact absurd rfl this
        | cons i l =>
          show (toInts (intsD (i :: l))).isSome = true
          rw [toInts_ints]
          rfl
    show (if isTL (.lst ((x :: L).map tD)) = true then some (D.lst ((unL (.lst ((x :: L).map tD))).mergeSort leT)) else _) = _
    rw [if_pos ht]
    rfl
theorem eqd_tD {x y : List Int} : eqd (tD x) (tD y) = decide (x = y) := eqds_ints
theorem notin_srt {x : List Int} {L : List (List Int)} : bop .notin [tD x, .lst (srtD L)] = some (.bl (!decide (x ∈ L))) := by
  show (fIn _ _).map _ = _
  unfold fIn
  have h1 : pl 20 (tD x) = true := pls_ints
  have h2 : pls 19 (srtD L) = true := pls_srt (n := 18)
  simp only [h1, h2, Bool.true_and, if_true, Option.map_some]
  congr 3
  rw [Bool.eq_iff_iff, List.any_eq_true, decide_eq_true_eq]
  constructor
  · rintro ⟨d, hd, e⟩
    obtain ⟨y, hy, rfl⟩ := mem_srt.mp hd
    rw [eqd_tD, decide_eq_true_eq] at e
    exact e ▸ hy
  · exact fun h => ⟨tD x, mem_srt.mpr ⟨x, h, rfl⟩, by rw [eqd_tD]; simp⟩
theorem sort_two {a b : Int} : bop .sorted [.lst [.int a, .int b]] = some (.lst [.int (min a b), .int (max a b)]) := by
  have h := sorted_l (l := [a, b]) (by simp)
  have e : sortI [a, b] = [min a b, max a b] := by
    show (if a ≤ b then [a, b] else [b, a]) = _
    by_cases h : a ≤ b
    · rw [if_pos h, Int.min_eq_left h, Int.max_eq_right h]
    · rw [if_neg h, Int.min_eq_right (by omega), Int.max_eq_left (by omega)]
  rw [e] at h
  exact h
theorem HTs0 {n m : Nat} {i : Int} (h : i ≤ n) (h0 : 0 ≤ i) : HT.sIx n m (some i) = i.toNat := by
  unfold HT.sIx
  simp only []
  rw [if_neg (by omega), Nat.min_eq_left (by omega)]
theorem prs_lim {n : Nat} (h : n ≤ 1000) : (prs n).length ≤ 16777216 := by
  have := prs_len (n := n)
  have mm : n * n ≤ 1000 * 1000 := Nat.mul_le_mul h h
  omega
theorem c124 {n : Nat} {xs : List Int} {i j : Int} (h1 : 1 ≤ i) (h2 : i < j) (h3 : j ≤ xs.length) (hl : xs.length ≤ 1000) : RN (n + 1) 124 [.tup (intsD xs), pD (i, j)] = .ok (.bl (freeB xs (i - 1).toNat (j - 1).toNat)) [] := by
  rw [r124]
  unfold bb124 pD
  have hc : cut2 (.tup (intsD xs)) (some i) (some (j - 1)) = some (.tup (intsD (midL xs (i - 1).toNat (j - 1).toNat))) := by
    show some (D.tup (cutD (intsD xs) (some i) (some (j - 1)))) = _
    unfold cutD midL
    rw [HTs0 (by rw [ints_len]; omega) (by omega), HTs0 (by rw [ints_len]; omega) (by omega), ints_drop, ints_take]
    rw [show (i - 1).toNat + 1 = i.toNat by omega, show (j - 1).toNat - (i - 1).toNat - 1 = (j - 1).toNat - i.toNat by omega]
  simp! [sort_two, hc]
  rw [comp_ints (g := fun t => .bl (decide (min (xs.getD (i - 1).toNat 0) (xs.getD (j - 1).toNat 0) < t) && decide (t < max (xs.getD (i - 1).toNat 0) (xs.getD (j - 1).toNat 0)))) (by unfold midL; simp; omega) (by simp!; rfl) (fun t ht => ⟨_, rfl, by
    by_cases q : min (xs.getD (i - 1).toNat 0) (xs.getD (j - 1).toNat 0) < t
    · simp! [q]
    · simp! [q], by simp!⟩)]
  simp! [any_bls (f := fun t => decide (min (xs.getD (i - 1).toNat 0) (xs.getD (j - 1).toNat 0) < t) && decide (t < max (xs.getD (i - 1).toNat 0) (xs.getD (j - 1).toNat 0)))]
  rfl
def stepL (xs : List Int) (w : Bool) : List (List Int) := ((prs xs.length).filter fun p => (wrongB xs p == w) && freeB xs (p.1 - 1).toNat (p.2 - 1).toNat).map fun p => chg xs p.1 p.2
theorem c125 {n : Nat} {xs : List Int} {w : Bool} (h1 : 1 ≤ xs.length) (h2 : xs.length ≤ 1000) : RN (n + 2) 125 [.tup (intsD xs), .bl w] = .ok (.lst (srtD (stepL xs w))) [] := by
  rw [r125]
  unfold bb125
  have lp : (prs xs.length).length ≤ 16777216 := prs_lim h2
  simp! [c20 (n := n) (m := xs.length) h1 h2]
  rw [comp_map (da := pD) (g := pD) (p := fun p => (wrongB xs p == w) && freeB xs (p.1 - 1).toNat (p.2 - 1).toNat) lp (by simp!; rfl) (fun p hp => ⟨_, rfl, by
    have hp := mem_prs.mp hp
    have q := c124 (n := n) (xs := xs) (i := p.1) (j := p.2) hp.1 hp.2.1 hp.2.2 h2
    by_cases e : wrongB xs p = w
    · simp! [v_pD, c21 (n := n) (xs := xs) (p := p) (by omega) (by omega), q, eq_bb, e]
    · have e' : (wrongB xs p == w) = false := by simpa using e
      simp! [v_pD, c21 (n := n) (xs := xs) (p := p) (by omega) (by omega), eq_bb, e'], fun _ => by simp! [v_pD], by simp!⟩)]
  simp!
  rw [comp_all pD (fun p => tD (chg xs p.1 p.2)) (Nat.le_trans (List.length_filter_le _ _) lp) (by simp!; rfl) (fun p hp => ⟨_, rfl, by
    have hp := mem_prs.mp (List.mem_filter.mp hp).1
    simp! [c17 (n := n) (xs := xs) (i := p.1) (j := p.2) (by omega) (by omega)]
    rfl, by simp!⟩)]
  have hs := sorted_tups (L := stepL xs w) (fun x hx => by
    obtain ⟨p, _, rfl⟩ := List.mem_map.mp hx
    intro z
    have := chg_len (xs := xs) (i := p.1) (j := p.2)
    rw [z] at this
    simp at this
    omega)
  have e : (stepL xs w).map tD = ((prs xs.length).filter fun p => (wrongB xs p == w) && freeB xs (p.1 - 1).toNat (p.2 - 1).toNat).map fun p => tD (chg xs p.1 p.2) := by
    unfold stepL
    rw [List.map_map]
    rfl
  rw [e] at hs
  simp! [hs]
end UC

end
section
namespace UC
open PySem Eg
local macro_rules
  | `(tactic| simp!) => `(tactic| simp (maxSteps := 3000000) (disch := first | omega | assumption | (simp only [List.length_cons, List.length_nil, List.length_map, ints_len, List.length_append, List.length_take, List.length_drop, List.length_set, List.length_reverse, List.length_range, up_len]; omega)) only [k_var, k_con, k_glob, k_nil, k_cons, k_tup, k_lst, k_bi, k_and, k_or, k_not, k_ite, k_call, k_sl3, k_chn, k_comp, k_io, k_bw, k_mv, a_consR, a_consD, a_tup, a_lst, a_bi, a_bopK, a_and, a_or, a_not, a_ite, a_call, a_callG, a_callK, a_callX, a_sl1, a_sl2, a_sl3, a_ch1, a_ch2, a_chK, a_ch3, a_chK2, a_comp, a_exc, s_exc, s_ret, s_no, s_seq, s_seqB, s_seqC, s_done, k_skip, k_seq, k_ret, k_set, k_sub, k_unp, k_exp, k_ifs, k_for, k_rais, k_brk, k_cont, k_try, a_tryN, a_tryR, a_tryX, a_tryS, a_trySn, k_whl, k_appL, k_extL, a_appG, a_extG, k_aug, a_augG, a_ret, a_set, a_sub1, a_sub1K, a_sub2, a_aug, a_augS, a_app, a_ext, a_exp, a_ifs, a_ifsT, a_ifsF, a_for, a_forK, a_top, f_nil, s_loop, s_loopC, s_loopB, s_rh, k_retH, k_mvN, k_emN, k_compN, k_appN, k_frz, a_frzK, k_parO, a_par1, a_par2, k_forN, k_appAt, a_atG, a_at1, a_at2, k_forO, a_foK, a_foK2, finO_nx, finO_ret, fin_ret, fin_nx, fin_exc, gd0, gd1, gd2, gd3, gd4, gd5, gd6, gd7, gd8, gd9, gd10, gd11, gd12, gd13, gd14, gd15, st0, st1, st2, st3, st4, st5, st6, st7, st8, st9, st10, st11, st12, st13, st14, st15, v_non, v_bl, v_int, v_str, v_tup, v_lst, v_fl, v_dct, io_f, u_non, u_bl, u_int, u_str, u_tup, u_lst, u_fl, u_uns, v_exc, u_exc, x_non, x_uns, x_bl, x_int, x_str, x_tup, x_lst, x_fl, okRes_f, okRes_tl, n_non, n_bl, n_int, n_str, n_tup, ns_nil, ns_cons, ns_ints, rtP_ret, xs_nil, xs_cons, xs_ints, isx_e, excOk_1, excOk_2, excOk_3, excOk_4, excOk_5, excOk_6, excOk_7, excOk_8, l_lst, i_lst, i_tup, i_fl, eq_ii, ne_ii, eq_bb, ne_bb, F2_le, F2_lt, neg_i, slRev_l, slRevT_t, revI_l, enumI_l, enumT_t, enumZ_l, divmod_ii, zipI_l, listC_l, listC_t, listC_f, tupleC_l, tupleC_t, int_i, max_ii, min_ii, isi_d, isI_non, isI_bl, isI_int, isI_str, isI_tup, isI_lst, idx_ld, idx_td, idx_fd, is_bb, isnot_bb, add_ii, sub_ii, lt_ii, le_ii, gt_ii, ge_ii, len_l, len_f, len_t, abs_i, int_b, mod_ii, fdiv_ii, slU_lz, slL_lz, slU_tz, slL_tz, ints_len, ints_app, ints_one, ints_take, ints_drop, ints_rev, ints_set, at_0, at_1, at_2, atI_ints, a_subKz, a_appK, a_extK, mul_rz, mul_lz, pow_lit, lrng2_z, trng2_z, rng2_z, rng1_z, lrng1_z, add_llz, add_ttz, nxP_nx, rowP_nx, rowP_rh, f_consG, loopG_s, a_unpG, a_unpK, asgB_s, asg_nm, asg_nil, asg_cons, asg_tpT, asg_tpL, asg_sub, asgS_r, asgL_z, asgN_nm, asgNB_s, asgN_nil, asgN_cons, asgN_tpT, asgN_tpL, k_callF, a_cF1, a_cF2, cfK_ok, cfK_exc, k_extN, k_lst1, a_l1, k_addN, a_ad1, a_ad2, addF_l, k_gtL, a_gtG, a_gtL, gtF_i, k_pop, a_popG, a_pop, popK_z, k_chn3, a_c31, a_c32, a_c3K, a_c33, a_c3L, a_c34, k_rev, revK_l, k_augs, a_forNK, a_augsG, a_augs1, augs1K_z, a_augs2, augs2K_z, min_l, ioS, ioP, bwS, isIo, isBw, byNm, fillA, setMany, setAll, wipeE, decide_eq_true, decide_eq_false, Option.map_some, Bool.not_true, Bool.not_false, Bool.true_and, Bool.false_and, Bool.and_true, Bool.and_false, Bool.or_true, Bool.or_false, Bool.false_or, Bool.true_or, Bool.false_eq_true, Bool.true_eq_false, if_true, if_false, decide_eq_true_eq, decide_true, decide_false, List.all_cons, List.all_nil, List.map_cons, List.map_nil, List.append_nil, List.nil_append, List.cons_append, List.isEmpty_nil, Bool.not_eq_true, eq_self, beq_self_eq_true, and_true, true_and, and_false, false_and, not_true_eq_false, not_false_eq_true, ite_self, beq_iff_eq, decide_eq_false_iff_not, Nat.reduceBEq, Nat.reduceEqDiff, Int.reduceToNat, Int.reduceAdd, Int.reduceSub, Int.reduceNeg, Int.reduceEq, Int.reduceLT, Int.reduceLE, Int.lt_irrefl, Bool.not_eq_true', Bool.not_eq_false', List.length_cons, List.length_nil, Int.toNat_zero, Int.toNat_one, Int.toNat_natCast])
local macro_rules
  | `(tactic| simp! [$xs,*]) => `(tactic| simp (maxSteps := 3000000) (disch := first | omega | assumption | (simp only [List.length_cons, List.length_nil, List.length_map, ints_len, List.length_append, List.length_take, List.length_drop, List.length_set, List.length_reverse, List.length_range, up_len]; omega)) only [k_var, k_con, k_glob, k_nil, k_cons, k_tup, k_lst, k_bi, k_and, k_or, k_not, k_ite, k_call, k_sl3, k_chn, k_comp, k_io, k_bw, k_mv, a_consR, a_consD, a_tup, a_lst, a_bi, a_bopK, a_and, a_or, a_not, a_ite, a_call, a_callG, a_callK, a_callX, a_sl1, a_sl2, a_sl3, a_ch1, a_ch2, a_chK, a_ch3, a_chK2, a_comp, a_exc, s_exc, s_ret, s_no, s_seq, s_seqB, s_seqC, s_done, k_skip, k_seq, k_ret, k_set, k_sub, k_unp, k_exp, k_ifs, k_for, k_rais, k_brk, k_cont, k_try, a_tryN, a_tryR, a_tryX, a_tryS, a_trySn, k_whl, k_appL, k_extL, a_appG, a_extG, k_aug, a_augG, a_ret, a_set, a_sub1, a_sub1K, a_sub2, a_aug, a_augS, a_app, a_ext, a_exp, a_ifs, a_ifsT, a_ifsF, a_for, a_forK, a_top, f_nil, s_loop, s_loopC, s_loopB, s_rh, k_retH, k_mvN, k_emN, k_compN, k_appN, k_frz, a_frzK, k_parO, a_par1, a_par2, k_forN, k_appAt, a_atG, a_at1, a_at2, k_forO, a_foK, a_foK2, finO_nx, finO_ret, fin_ret, fin_nx, fin_exc, gd0, gd1, gd2, gd3, gd4, gd5, gd6, gd7, gd8, gd9, gd10, gd11, gd12, gd13, gd14, gd15, st0, st1, st2, st3, st4, st5, st6, st7, st8, st9, st10, st11, st12, st13, st14, st15, v_non, v_bl, v_int, v_str, v_tup, v_lst, v_fl, v_dct, io_f, u_non, u_bl, u_int, u_str, u_tup, u_lst, u_fl, u_uns, v_exc, u_exc, x_non, x_uns, x_bl, x_int, x_str, x_tup, x_lst, x_fl, okRes_f, okRes_tl, n_non, n_bl, n_int, n_str, n_tup, ns_nil, ns_cons, ns_ints, rtP_ret, xs_nil, xs_cons, xs_ints, isx_e, excOk_1, excOk_2, excOk_3, excOk_4, excOk_5, excOk_6, excOk_7, excOk_8, l_lst, i_lst, i_tup, i_fl, eq_ii, ne_ii, eq_bb, ne_bb, F2_le, F2_lt, neg_i, slRev_l, slRevT_t, revI_l, enumI_l, enumT_t, enumZ_l, divmod_ii, zipI_l, listC_l, listC_t, listC_f, tupleC_l, tupleC_t, int_i, max_ii, min_ii, isi_d, isI_non, isI_bl, isI_int, isI_str, isI_tup, isI_lst, idx_ld, idx_td, idx_fd, is_bb, isnot_bb, add_ii, sub_ii, lt_ii, le_ii, gt_ii, ge_ii, len_l, len_f, len_t, abs_i, int_b, mod_ii, fdiv_ii, slU_lz, slL_lz, slU_tz, slL_tz, ints_len, ints_app, ints_one, ints_take, ints_drop, ints_rev, ints_set, at_0, at_1, at_2, atI_ints, a_subKz, a_appK, a_extK, mul_rz, mul_lz, pow_lit, lrng2_z, trng2_z, rng2_z, rng1_z, lrng1_z, add_llz, add_ttz, nxP_nx, rowP_nx, rowP_rh, f_consG, loopG_s, a_unpG, a_unpK, asgB_s, asg_nm, asg_nil, asg_cons, asg_tpT, asg_tpL, asg_sub, asgS_r, asgL_z, asgN_nm, asgNB_s, asgN_nil, asgN_cons, asgN_tpT, asgN_tpL, k_callF, a_cF1, a_cF2, cfK_ok, cfK_exc, k_extN, k_lst1, a_l1, k_addN, a_ad1, a_ad2, addF_l, k_gtL, a_gtG, a_gtL, gtF_i, k_pop, a_popG, a_pop, popK_z, k_chn3, a_c31, a_c32, a_c3K, a_c33, a_c3L, a_c34, k_rev, revK_l, k_augs, a_forNK, a_augsG, a_augs1, augs1K_z, a_augs2, augs2K_z, min_l, ioS, ioP, bwS, isIo, isBw, byNm, fillA, setMany, setAll, wipeE, decide_eq_true, decide_eq_false, Option.map_some, Bool.not_true, Bool.not_false, Bool.true_and, Bool.false_and, Bool.and_true, Bool.and_false, Bool.or_true, Bool.or_false, Bool.false_or, Bool.true_or, Bool.false_eq_true, Bool.true_eq_false, if_true, if_false, decide_eq_true_eq, decide_true, decide_false, List.all_cons, List.all_nil, List.map_cons, List.map_nil, List.append_nil, List.nil_append, List.cons_append, List.isEmpty_nil, Bool.not_eq_true, eq_self, beq_self_eq_true, and_true, true_and, and_false, false_and, not_true_eq_false, not_false_eq_true, ite_self, beq_iff_eq, decide_eq_false_iff_not, Nat.reduceBEq, Nat.reduceEqDiff, Int.reduceToNat, Int.reduceAdd, Int.reduceSub, Int.reduceNeg, Int.reduceEq, Int.reduceLT, Int.reduceLE, Int.lt_irrefl, Bool.not_eq_true', Bool.not_eq_false', List.length_cons, List.length_nil, Int.toNat_zero, Int.toNat_one, Int.toNat_natCast, $xs,*])
theorem c25l {n : Nat} {xs : List Int} (h2 : xs.length ≤ 1000) : RN (n + 1) 25 [.lst (intsD xs)] = .ok (.lst ((wrg xs).map pD)) [] := by
  rw [r25]
  unfold bb25
  simp!
  generalize hf : evFor _ _ _ _ = o
  rw [← foldw]
  generalize hF : (fun i : Int => ((upFrom (i + 1) ((xs.length : Int) - (i + 1)).toNat).filter fun j => decide (xs.getD j.toNat 0 < xs.getD i.toNat 0)).map fun j => (i + 1, j + 1)) = F
  have hFl : ∀ i : Int, 0 ≤ i → (F i).length ≤ 1000 := fun i hi => by
    rw [← hF]
    simp only [List.length_map]
    refine Nat.le_trans (List.length_filter_le _ _) ?_
    rw [up_len]
    omega
  obtain ⟨e, rfl, s2, s3, rfl⟩ := up_of hf (fun i e => ∃ s2 s3, e = [.lst (intsD xs), .int xs.length, .lst (((upFrom 0 i).flatMap F).map pD), s2, s3]) ⟨_, _, rfl⟩ (by
    rintro i e hi ⟨s2, s3, rfl⟩
    refine ⟨_, rfl, ?_⟩
    have hl := flat_len (l := upFrom 0 i) (f := F) (c := 1000) fun a ha => hFl a (by have := mem_up.mp ha; omega)
    rw [up_len] at hl
    have hl3 := hFl i (by omega)
    simp!
    rw [comp_intsF (g := fun j => pD (0 + (i : Int) + 1, j + 1)) (p := fun j => decide (xs.getD j.toNat 0 < xs.getD (0 + (i : Int)).toNat 0)) (by rw [up_len]; omega) (by simp!; rfl) (fun a ha => ⟨_, rfl, by
      have := mem_up.mp ha
      simp!, fun _ => by simp! [pD], by simp!⟩)]
    have e3 : ((upFrom (0 + (i : Int) + 1) ((xs.length : Int) - (0 + (i : Int) + 1)).toNat).filter fun j => decide (xs.getD j.toNat 0 < xs.getD (0 + (i : Int)).toNat 0)).map (fun j => pD (0 + (i : Int) + 1, j + 1)) = (F (0 + (i : Int))).map pD := by
      rw [← hF]
      simp
    rw [e3]
    have hl4 : (F (0 + (i : Int))).length ≤ 1000 := hFl _ (by omega)
    simp!
    refine ⟨.int (0 + (i : Int)), s3, ?_⟩
    rw [up_succ]
    simp)
  simp!

theorem c126 {n : Nat} {xs : List Int} (h1 : 1 ≤ xs.length) (h2 : xs.length ≤ 1000) : RN (n + 3) 126 [.tup (intsD xs)] = .ok (.lst (srtD (stepL xs false))) [] := by
  rw [r126]
  unfold bb126
  simp! [c125 (n := n) (w := false) h1 h2]
theorem c127 {n : Nat} {xs : List Int} (h1 : 1 ≤ xs.length) (h2 : xs.length ≤ 1000) : RN (n + 3) 127 [.tup (intsD xs)] = .ok (.lst (srtD (stepL xs true))) [] := by
  rw [r127]
  unfold bb127
  simp! [c125 (n := n) (w := true) h1 h2]
theorem c129 {n : Nat} {L : List (List Int)} (h : ∀ x ∈ L, x.length ≤ 1000) (hl : L.length ≤ 1000000) : ∃ ps, RN (n + 1) 129 [.lst (srtD L), .lst (srtD L)] = .ok (.bl true) ps := by
  have ll := srt_len (L := L)
  rw [r129]
  unfold bb129
  simp! [ne_srt, noLs_srt]
  generalize hf : evFor _ _ _ _ = o
  obtain ⟨e, rfl, s2, s3, rfl⟩ := for_of hf (fun i e => ∃ s2 s3, e = [.unset, .lst (srtD L), s2, s3]) ⟨_, _, rfl⟩ (by
    rintro i d e hd ⟨s2, s3, rfl⟩
    obtain ⟨x, hx, rfl⟩ := mem_srt.mp (List.mem_of_getElem? hd)
    have lx := h x hx
    refine ⟨_, rfl, ?_⟩
    have e0 : tD x = .tup (intsD x) := rfl
    rw [e0]
    simp!
    rw [comp_ints (g := fun _ => .bl false) (by omega) (by simp!; rfl) (fun t ht => ⟨_, rfl, by simp!, by simp!⟩)]
    have ea : x.any (fun _ => false) = false := by simp
    simp! [any_bls (f := fun _ => false), ea]
    exact ⟨_, _, rfl⟩)
  simp!
  exact ⟨_, rfl⟩
def dueF (xs : List Int) (t : Int) (i : Int) : List (List Int) := ((upFrom (i + 1) ((xs.length : Int) - (i + 1)).toNat).filter fun j => (decide (xs.getD i.toNat 0 < xs.getD j.toNat 0) == (t == 1)) && decide ((inv (sw xs i.toNat j.toNat) : Int) = inv xs + t)).map fun j => sw xs i.toNat j.toNat
def dueL (xs : List Int) (t : Int) : List (List Int) := (upFrom 0 xs.length).flatMap (dueF xs t)
theorem dueF_len {xs : List Int} {t i : Int} (h : 0 ≤ i) : (dueF xs t i).length ≤ xs.length := by
  unfold dueF
  rw [List.length_map]
  refine Nat.le_trans (List.length_filter_le _ _) ?_
  rw [up_len]
  omega
set_option maxHeartbeats 4000000 in
theorem c128 {n : Nat} {xs : List Int} {t : Int} (h1 : 1 ≤ xs.length) (h2 : xs.length ≤ 1000) : RN (n + 2) 128 [.tup (intsD xs), .int t] = .ok (.lst (srtD (dueL xs t))) [] := by
  have lg : (wrg xs).length = inv xs := wrg_inv
  rw [r128]
  unfold bb128
  simp! [c25 (n := n) h2, List.length_map, lg]
  generalize hf : evFor _ _ _ _ = o
  obtain ⟨e, rfl, s4, s5, s6, rfl⟩ := up_of hf (fun i e => ∃ s4 s5 s6, e = [.tup (intsD xs), .int t, .int (inv xs + t), .lst (((upFrom 0 i).flatMap (dueF xs t)).map tD), s4, s5, s6]) ⟨_, _, _, rfl⟩ (by
    rintro i e hi ⟨s4, s5, s6, rfl⟩
    refine ⟨_, rfl, ?_⟩
    have hl := flat_len (l := upFrom 0 i) (f := dueF xs t) (c := xs.length) fun a ha => dueF_len (by have := mem_up.mp ha; omega)
    rw [up_len] at hl
    have hl2 : i * xs.length ≤ 1000 * 1000 := Nat.mul_le_mul (by omega) (by omega)
    have e0 : (0 : Int) + (i : Int) = (i : Int) := by omega
    rw [e0]
    simp!
    generalize hg : evFor _ _ _ _ = o2
    generalize hA : (upFrom 0 i).flatMap (dueF xs t) = A at *
    have e1 : ((xs.length : Int) - ((i : Int) + 1)).toNat = xs.length - (i + 1) := by omega
    rw [e1] at hg
    have hh := up_of hg (fun k e => ∃ s5 s6, e = [.tup (intsD xs), .int t, .int (inv xs + t), .lst ((A ++ ((upFrom ((i : Int) + 1) k).filter fun j => (decide (xs.getD i 0 < xs.getD j.toNat 0) == (t == 1)) && decide ((inv (sw xs i j.toNat) : Int) = inv xs + t)).map fun j => sw xs i j.toNat).map tD), .int i, s5, s6]) ⟨s5, s6, by rw [show upFrom ((i : Int) + 1) 0 = [] from rfl]; simp⟩ (by
      rintro k e hk ⟨s5, s6, rfl⟩
      refine ⟨_, rfl, ?_⟩
      obtain ⟨j, hj, j1, j2⟩ : ∃ j : Nat, (i : Int) + 1 + (k : Int) = j ∧ i < j ∧ j < xs.length := ⟨i + 1 + k, by omega, by omega, by omega⟩
      rw [hj]
      have lk : (((upFrom ((i : Int) + 1) k).filter fun j => (decide (xs.getD i 0 < xs.getD j.toNat 0) == (t == 1)) && decide ((inv (sw xs i j.toNat) : Int) = inv xs + t)).map fun j => sw xs i j.toNat).length ≤ 1000 := by
        rw [List.length_map]
        refine Nat.le_trans (List.length_filter_le _ _) ?_
        rw [up_len]
        omega
      generalize hB : ((upFrom ((i : Int) + 1) k).filter fun j => (decide (xs.getD i 0 < xs.getD j.toNat 0) == (t == 1)) && decide ((inv (sw xs i j.toNat) : Int) = inv xs + t)).map (fun j => sw xs i j.toNat) = B at *
      have hB2 : ((upFrom ((i : Int) + 1) (k + 1)).filter fun j => (decide (xs.getD i 0 < xs.getD j.toNat 0) == (t == 1)) && decide ((inv (sw xs i j.toNat) : Int) = inv xs + t)).map (fun j => sw xs i j.toNat) = B ++ (if ((decide (xs.getD i 0 < xs.getD j 0) == (t == 1)) && decide ((inv (sw xs i j) : Int) = inv xs + t)) = true then [sw xs i j] else []) := by
        rw [up_succ, List.filter_append, List.map_append, hB, hj]
        congr 1
        rw [List.filter_cons, List.filter_nil]
        simp only [Int.toNat_natCast]
        split <;> simp_all
      rw [hB2]
      have es : (xs.set i (xs.getD j 0)).set j (xs.getD i 0) = sw xs i j := rfl
      have lsw : (sw xs i j).length = xs.length := sw_len
      have e25 := c25l (n := n) (xs := sw xs i j) (by omega)
      have lg2 : (wrg (sw xs i j)).length = inv (sw xs i j) := wrg_inv
      have nl : noLs ((wrg (sw xs i j)).map pD) = true := noLs_of fun d hd => by
        obtain ⟨p, _, rfl⟩ := List.mem_map.mp hd
        rfl
      by_cases c1 : decide (xs.getD i 0 < xs.getD j 0) = (t == 1)
      · by_cases c2 : (inv (sw xs i j) : Int) = inv xs + t
        · rw [if_pos (by rw [c1, decide_eq_true c2]; simp)]
          simp! [es, eq_bb, c1, e25, List.length_map, lg2, c2, nl]
          exact ⟨.int j, .lst (intsD (sw xs i j)), by simp [tD]⟩
        · rw [if_neg (by rw [decide_eq_false c2]; simp)]
          simp! [es, eq_bb, c1, e25, List.length_map, lg2, c2, nl]
          exact ⟨.int j, .lst (intsD (sw xs i j)), by simp⟩
      · rw [if_neg (by rw [beq_eq_false_iff_ne.mpr c1]; simp)]
        simp! [es, eq_bb, c1]
        exact ⟨.int j, .lst (intsD (sw xs i j)), by simp⟩)
    obtain ⟨e, hh1, s5', s6', hh2⟩ := hh
    subst hh1 hh2
    simp!
    have e2 : (upFrom 0 (i + 1)).flatMap (dueF xs t) = A ++ ((upFrom ((i : Int) + 1) (xs.length - (i + 1))).filter fun j => (decide (xs.getD i 0 < xs.getD j.toNat 0) == (t == 1)) && decide ((inv (sw xs i j.toNat) : Int) = inv xs + t)).map fun j => sw xs i j.toNat := by
      rw [up_succ, List.flatMap_append, hA, e0]
      congr 1
      rw [List.flatMap_cons, List.flatMap_nil, List.append_nil]
      unfold dueF
      rw [e1, Int.toNat_natCast]
    rw [e2]
    exact ⟨.int i, s5', s6', rfl⟩)
  have hs := sorted_tups (L := dueL xs t) (fun x hx => by
    unfold dueL dueF at hx
    obtain ⟨i, _, hx⟩ := List.mem_flatMap.mp hx
    obtain ⟨j, _, rfl⟩ := List.mem_map.mp hx
    intro z
    have := sw_len (xs := xs) (i := i.toNat) (j := j.toNat)
    rw [z] at this
    simp at this
    omega)
  unfold dueL at hs
  simp! [hs]
  rfl
theorem up_1 : ∀ {n : Nat} {lo : Int}, upFrom (lo + 1) n = (upFrom lo n).map (· + 1)
  | 0, _ => rfl
  | n + 1, lo => by
    show (lo + 1) :: upFrom (lo + 1 + 1) n = _
    rw [up_1]
    rfl
theorem due_step {xs : List Int} {w : Bool} {t : Int} (h : ∀ i j : Nat, i < j → j < xs.length → ((decide (xs.getD i 0 < xs.getD j 0) == (t == 1)) && decide ((inv (sw xs i j) : Int) = inv xs + t)) = ((wrongB xs ((i : Int) + 1, (j : Int) + 1) == w) && freeB xs i j)) : dueL xs t = stepL xs w := by
  have one : ∀ i : Int, 0 ≤ i → dueF xs t i = (((prsAt xs.length (i + 1)).filter fun p => (wrongB xs p == w) && freeB xs (p.1 - 1).toNat (p.2 - 1).toNat).map fun p => chg xs p.1 p.2) := fun i hi => by
    unfold dueF prsAt
    rw [up_1 (lo := i + 1), List.map_map, List.filter_map, List.map_map]
    have hf : (upFrom (i + 1) ((xs.length : Int) - (i + 1)).toNat).filter (fun j => (decide (xs.getD i.toNat 0 < xs.getD j.toNat 0) == (t == 1)) && decide ((inv (sw xs i.toNat j.toNat) : Int) = inv xs + t)) = (upFrom (i + 1) ((xs.length : Int) - (i + 1)).toNat).filter ((fun p => (wrongB xs p == w) && freeB xs (p.1 - 1).toNat (p.2 - 1).toNat) ∘ (fun j => (i + 1, j)) ∘ fun x => x + 1) := by
      refine List.filter_congr fun j hj => ?_
      have hj := mem_up.mp hj
      have q := h i.toNat j.toNat (by omega) (by omega)
      rw [q]
      show _ = ((wrongB xs (i + 1, j + 1) == w) && freeB xs (i + 1 - 1).toNat (j + 1 - 1).toNat)
      rw [show ((i.toNat : Nat) : Int) = i by omega, show ((j.toNat : Nat) : Int) = j by omega, show i + 1 - 1 = i by omega, show j + 1 - 1 = j by omega]
    rw [hf]
    refine List.map_congr_left fun j _ => ?_
    show sw xs i.toNat j.toNat = chg xs (i + 1) (j + 1)
    unfold sw chg
    rw [show i + 1 - 1 = i by omega, show j + 1 - 1 = j by omega]
  unfold dueL stepL prs
  rw [List.filter_flatMap, List.map_flatMap, show upFrom 1 xs.length = (upFrom 0 xs.length).map (· + 1) from up_1 (lo := 0), List.flatMap_map]
  have all : ∀ l : List Int, (∀ i ∈ l, 0 ≤ i) → l.flatMap (dueF xs t) = l.flatMap fun i => (((prsAt xs.length (i + 1)).filter fun p => (wrongB xs p == w) && freeB xs (p.1 - 1).toNat (p.2 - 1).toNat).map fun p => chg xs p.1 p.2) := by
    intro l
    induction l with
    | nil => intro _; rfl
    | cons i l ih =>
      intro hl
      rw [List.flatMap_cons, List.flatMap_cons, one i (hl i List.mem_cons_self), ih fun j hj => hl j (List.mem_cons_of_mem _ hj)]
  exact all _ fun i hi => by have := mem_up.mp hi; omega
theorem due_up {xs : List Int} (nd : xs.Nodup) : dueL xs 1 = stepL xs false := due_step fun i j h1 h2 => by
  have ne := at_ne nd (p := i) (q := j) (by omega) h2 (by omega)
  have hw : wrongB xs ((i : Int) + 1, (j : Int) + 1) = decide (xs.getD j 0 < xs.getD i 0) := by
    unfold wrongB
    simp only []
    rw [show ((j : Int) + 1 - 1).toNat = j by omega, show ((i : Int) + 1 - 1).toNat = i by omega]
  rw [hw]
  by_cases c : xs.getD i 0 < xs.getD j 0
  · rw [inv_free h1 h2 nd c, decide_eq_true c, decide_eq_false (by omega : ¬ xs.getD j 0 < xs.getD i 0)]
    have : decide ((inv (sw xs i j) : Int) = inv xs + 1) = decide (inv (sw xs i j) = inv xs + 1) := by
      congr 1
      exact propext ⟨fun z => by omega, fun z => by omega⟩
    rw [this]
    rfl
  · rw [decide_eq_false c, decide_eq_true (by omega : xs.getD j 0 < xs.getD i 0)]
    rfl
theorem due_dn {xs : List Int} (nd : xs.Nodup) : dueL xs (-1) = stepL xs true := due_step fun i j h1 h2 => by
  have ne := at_ne nd (p := i) (q := j) (by omega) h2 (by omega)
  have hw : wrongB xs ((i : Int) + 1, (j : Int) + 1) = decide (xs.getD j 0 < xs.getD i 0) := by
    unfold wrongB
    simp only []
    rw [show ((j : Int) + 1 - 1).toNat = j by omega, show ((i : Int) + 1 - 1).toNat = i by omega]
  rw [hw]
  by_cases c : xs.getD j 0 < xs.getD i 0
  · rw [free_dn h1 h2 nd c, decide_eq_false (by omega : ¬ xs.getD i 0 < xs.getD j 0), decide_eq_true c]
    have : decide ((inv (sw xs i j) : Int) = inv xs + -1) = decide (inv (sw xs i j) + 1 = inv xs) := by
      congr 1
      exact propext ⟨fun z => by omega, fun z => by omega⟩
    rw [this]
    rfl
  · rw [decide_eq_true (by omega : xs.getD i 0 < xs.getD j 0), decide_eq_false c]
    rfl
theorem dueL_len {xs : List Int} {t : Int} : (dueL xs t).length ≤ xs.length * xs.length := by
  unfold dueL
  have := flat_len (l := upFrom 0 xs.length) (f := dueF xs t) (c := xs.length) fun a ha => dueF_len (by have := mem_up.mp ha; omega)
  rwa [up_len] at this
theorem due_mem {xs one : List Int} {t : Int} (h : one ∈ dueL xs t) : ∃ i j : Nat, i < j ∧ j < xs.length ∧ one = sw xs i j ∧ (xs.getD i 0 < xs.getD j 0 ↔ t = 1) ∧ (inv one : Int) = inv xs + t := by
  unfold dueL dueF at h
  obtain ⟨i, hi, h⟩ := List.mem_flatMap.mp h
  obtain ⟨j, hj, rfl⟩ := List.mem_map.mp h
  obtain ⟨hj, hc⟩ := List.mem_filter.mp hj
  have hi := mem_up.mp hi
  have hj := mem_up.mp hj
  simp only [Bool.and_eq_true, beq_iff_eq, decide_eq_true_eq] at hc
  refine ⟨i.toNat, j.toNat, by omega, by omega, rfl, ?_, hc.2⟩
  have h1 := hc.1
  constructor
  · intro z
    rw [decide_eq_true z] at h1
    simpa using h1.symm
  · intro z
    subst z
    simpa using h1
theorem mem_due {xs : List Int} {t : Int} {i j : Nat} (hij : i < j) (hj : j < xs.length) (h1 : xs.getD i 0 < xs.getD j 0 ↔ t = 1) (h2 : (inv (sw xs i j) : Int) = inv xs + t) : sw xs i j ∈ dueL xs t := by
  unfold dueL dueF
  refine List.mem_flatMap.mpr ⟨i, mem_up.mpr ⟨by omega, by omega⟩, List.mem_map.mpr ⟨j, List.mem_filter.mpr ⟨mem_up.mpr ⟨by omega, by omega⟩, ?_⟩, rfl⟩⟩
  simp only [Int.toNat_natCast, Bool.and_eq_true, beq_iff_eq, decide_eq_true_eq]
  refine ⟨?_, h2⟩
  rw [Bool.eq_iff_iff, decide_eq_true_eq, beq_iff_eq]
  exact h1
set_option maxHeartbeats 8000000 in
theorem run_law {n : Nat} (ns : List Int) (h : ns.length ≤ 63) : ∃ ps, RN (n + 4) 130 [.fl (intsD ns)] = .ok (.bl true) ps := by
  rw [r130]
  unfold bb130
  simp!
  have hr : ∃ k : Nat, k ≤ 2 ∧ (if (if (ns.length : Int) < 2 then (ns.length : Int) else 2) > 1 then (if (ns.length : Int) < 2 then (ns.length : Int) else 2) else 1) = k := by
    refine ⟨(if (if (ns.length : Int) < 2 then (ns.length : Int) else 2) > 1 then (if (ns.length : Int) < 2 then (ns.length : Int) else 2) else 1).toNat, ?_, ?_⟩ <;> (repeat' split) <;> omega
  obtain ⟨k, hk, e⟩ := hr
  rw [e]
  simp!
  generalize hf : evFor _ _ _ _ = o
  obtain ⟨e, rfl, s1, s2, s3, s4, s5, s6, s7, rfl⟩ := up_of hf (fun _ e => ∃ s1 s2 s3 s4 s5 s6 s7, e = [.fl (intsD ns), s1, s2, s3, s4, s5, s6, s7]) ⟨_, _, _, _, _, _, _, rfl⟩ (by
    rintro i e hi ⟨s1, s2, s3, s4, s5, s6, s7, rfl⟩
    refine ⟨_, rfl, ?_⟩
    have ei : (0 : Int) + (i : Int) = (i : Int) := by omega
    rw [ei]
    have q0 := dg_lo (bagI ns i) (m := 4) (by omega)
    have q1 := dg_hi (bagI ns i) (m := 4) (by omega)
    obtain ⟨d, hd, ed⟩ := atI_mem (xs := [D.int 12, D.int 12, D.int 12, D.int 20]) (i := dgR (bagI ns i) 4) q0 (by simpa using q1)
    obtain ⟨c, rfl, hc⟩ : ∃ c : Int, d = .int c ∧ 1 ≤ c ∧ c ≤ 20 := by
      simp only [List.mem_cons, List.not_mem_nil, or_false] at hd
      rcases hd with rfl | rfl | rfl | rfl <;> exact ⟨_, rfl, by omega, by omega⟩
    have e2 := c2 (n := n + 2) (ns := ns) (k := i) (by omega)
    have e3a := c3 (n := n + 2) (b := bagI ns i) (m := 4) (by omega) (by omega)
    generalize hb1 : dgB (bagI ns i) 4 = b1 at *
    have q2 := dg_lo b1 (m := c) (by omega)
    have q3 := dg_hi b1 (m := c) (by omega)
    have e3b := c3 (n := n + 2) (b := b1) (m := c) (by omega) (by omega)
    obtain ⟨m, hm, h1, h2⟩ : ∃ m : Nat, 1 + dgR b1 c = m ∧ 1 ≤ m ∧ m ≤ 20 := ⟨(1 + dgR b1 c).toNat, by omega, by omega, by omega⟩
    have ho := ordL_ord (b := dgB b1 c) (m := m) (by omega)
    have e5 := c5 (n := n) (b := dgB b1 c) (m := m) (by omega) (by omega)
    generalize ordL (dgB b1 c) m = xs at *
    generalize ordB (dgB b1 c) m = b2 at *
    have lx := ord_len ho
    have nd := ho.nodup_iff.mpr up_nodup
    have e128a := c128 (n := n + 1) (xs := xs) (t := 1) (by omega) (by omega)
    have e128b := c128 (n := n + 1) (xs := xs) (t := -1) (by omega) (by omega)
    have e126 := c126 (n := n) (xs := xs) (by omega) (by omega)
    have e127 := c127 (n := n) (xs := xs) (by omega) (by omega)
    rw [← due_up nd] at e126
    rw [← due_dn nd] at e127
    have mm : xs.length * xs.length ≤ 20 * 20 := by rw [lx]; exact Nat.mul_le_mul h2 h2
    have lA := dueL_len (xs := xs) (t := 1)
    have lB := dueL_len (xs := xs) (t := -1)
    have lens : ∀ t, ∀ x ∈ dueL xs t, x.length ≤ 1000 := fun t x hx => by
      obtain ⟨i, j, _, _, rfl, _⟩ := due_mem hx
      rw [sw_len]
      omega
    obtain ⟨ps1, e129a⟩ := c129 (n := n + 2) (L := dueL xs 1) (lens 1) (by omega)
    obtain ⟨ps2, e129b⟩ := c129 (n := n + 2) (L := dueL xs (-1)) (lens (-1)) (by omega)
    simp! [u_bag, e2, e3a, ed, e3b, hm, e5, e128a, e128b]
    generalize hg : evFor _ _ _ _ = o2
    have e20 : ((2 : Int) - 0).toNat = 2 := rfl
    have hh := up_of hg (fun i' e => ∃ s6, e = [.fl (intsD ns), .int i, bagD b2, .tup (intsD xs), .lst (srtD (dueL xs 1)), .lst (srtD (dueL xs (-1))), s6, s7]) ⟨_, rfl⟩ (by
      rintro i' e hi' ⟨s6, rfl⟩
      refine ⟨_, rfl, ?_⟩
      simp! [e126, e127, e129a, e129b]
      exact ⟨_, rfl⟩)
    obtain ⟨e, hh1, s6', hh2⟩ := hh
    subst hh1 hh2
    have ls := srt_len (L := dueL xs 1)
    by_cases c0 : 0 < (dueL xs 1).length
    · have g0 := dg_lo b2 (m := (dueL xs 1).length) (by omega)
      have g1 := dg_hi b2 (m := (dueL xs 1).length) (by omega)
      have e3c := c3 (n := n + 2) (b := b2) (m := (dueL xs 1).length) (by omega) (by omega)
      obtain ⟨d, hd, ed⟩ := atI_mem (xs := srtD (dueL xs 1)) (i := dgR b2 (dueL xs 1).length) g0 (by rw [ls]; exact g1)
      obtain ⟨one, hone, rfl⟩ := mem_srt.mp hd
      obtain ⟨i1, j1, hij, hj, rfl, o1, o2⟩ := due_mem hone
      have l1 : (sw xs i1 j1).length = xs.length := sw_len
      have nd1 : (sw xs i1 j1).Nodup := (swap_perm (l := xs) (i := i1) (j := j1) (by omega) hj).nodup_iff.mpr nd
      have e127' := c127 (n := n) (xs := sw xs i1 j1) (by omega) (by omega)
      rw [← due_dn nd1] at e127'
      have lt := o1.mpr rfl
      have hmem : xs ∈ dueL (sw xs i1 j1) (-1) := by
        have := mem_due (xs := sw xs i1 j1) (t := -1) hij (by omega) ⟨fun z => by
          rw [sw_at (by omega) hj, sw_at (by omega) hj, if_neg (by omega), if_pos rfl, if_pos rfl] at z
          omega, fun z => by omega⟩ (by rw [sw_sw hij hj]; omega)
        rwa [sw_sw hij hj] at this
      have hn := notin_srt (x := xs) (L := dueL (sw xs i1 j1) (-1))
      rw [decide_eq_true hmem] at hn
      have e0 : ∀ x, tD x = .tup (intsD x) := fun _ => rfl
      rw [e0] at ed hn
      simp! [u_bag, ls, c0, e3c, ed, e127', hn]
      exact ⟨_, _, _, _, _, _, _, rfl⟩
    · simp! [u_bag, ls, c0]
      exact ⟨_, _, _, _, _, _, _, rfl⟩)
  simp!
  exact ⟨_, rfl⟩
end UC

end
namespace UC
open PySem Eg
theorem run_lawE : ∀ ns : List Int, ns.length ≤ 63 → ∃ ps, Eg.run FF WF 4 130 [.fl (intsD ns)] = .ok (.bl true) ps := by
  intro ns h
  obtain ⟨ps, e⟩ := run_law (n := 0) ns h
  exact ⟨ps, by rw [← RN_eq]; exact e⟩
end UC
namespace UC
open PySem Eg L2
def topS (i : Nat) : Stmt := PySem.Challenge.pw_undercells_k17_steps_above_and_below.main.body.getD i (.Pass ⟨0, 0, 0, 0⟩)
def stS : Nat → Stmt
  | 2 => topS 10
  | 3 => topS 11
  | 4 => topS 12
  | 5 => topS 13
  | 17 => topS 1
  | 20 => topS 2
  | 21 => topS 3
  | 25 => topS 14
  | 124 => topS 5
  | 125 => topS 6
  | 126 => topS 7
  | 127 => topS 8
  | 128 => topS 15
  | 129 => topS 16
  | 130 => topS 17
  | _ => .Pass ⟨0, 0, 0, 0⟩
def nmS : Nat → Str
  | 2 => "_law_bag"
  | 3 => "_law_digit"
  | 4 => "_law_any"
  | 5 => "_law_order"
  | 17 => "places_changed"
  | 20 => "pairs_of"
  | 21 => "is_wrong"
  | 25 => "_law_wrong"
  | 124 => "is_step"
  | 125 => "steps"
  | 126 => "steps_above"
  | 127 => "steps_below"
  | 128 => "_law_due"
  | 129 => "_law_told"
  | 130 => "law"
  | _ => ""
def NNS : Nat → List Str
  | 2 => nn2
  | 3 => nn3
  | 4 => nn4
  | 5 => nn5
  | 17 => nn17
  | 20 => nn20
  | 21 => nn21
  | 25 => nn25
  | 124 => nn124
  | 125 => nn125
  | 126 => nn126
  | 127 => nn127
  | 128 => nn128
  | 129 => nn129
  | 130 => nn130
  | _ => []
def TT : Tx := ⟨FF, [17, 20, 21, 124, 125, 126, 127, 2, 3, 4, 5, 25, 128, 129, 130], nmS, NNS, stS, [], [], []⟩
theorem st_all : TT.ids.all TT.stat = true := by decide +kernel
end UC
open PySem PySem.W PyProof.Rows
set_option maxHeartbeats 0 in
theorem PySem.Challenge.cw_undercells_k17_steps_above_and_below_holds : PySem.Challenge.rw_undercells_k17_steps_above_and_below.Holds := by
  w_on; o_law; k_head; (case hw => w_witness2)
  k_fill
  refine L2.walk_of (l := PySem.Challenge.rw_undercells_k17_steps_above_and_below) (n := 63) (k := 4) (x := "_law_script") (CX := fun w => L2N.CX PySem.Challenge.rw_undercells_k17_steps_above_and_below.prog w) (sp := fun w => Eg.spLaw _) rfl (by decide) rfl ⟨rfl, by decide, by decide⟩ (fun w h Y => PySem.W.kIn_of Y) ?F (fun _ _ a ns hl _ hS => ⟨a, ns, rfl, hS, hl, fun _ => rfl⟩) (fun _ _ _ _ _ h => Eg.no_exc h)
  case F =>
    intro w mg fa h KX Gn hmg
    have d0 : Eg.DFact (L2.KOf KX) mg "places_changed" (UC.topS 1) ["order", "i", "j"] := by
      unfold L2.KOf
      refine' Eg.df_mk KX Gn ?a ?l ?c ?k (fun _ _ _ _ _ _ us hl => match us, hl with | [_, _, _], _ => rfl)
      (case a => k_is); (case l => k_is); (case c => k_is); (case k => k_is)
    have d1 : Eg.DFact (L2.KOf KX) mg "pairs_of" (UC.topS 2) ["n"] := by
      unfold L2.KOf
      refine' Eg.df_mk KX Gn ?a ?l ?c ?k (fun _ _ _ _ _ _ us hl => match us, hl with | [_], _ => rfl)
      (case a => k_is); (case l => k_is); (case c => k_is); (case k => k_is)
    have d2 : Eg.DFact (L2.KOf KX) mg "is_wrong" (UC.topS 3) ["order", "pair"] := by
      unfold L2.KOf
      refine' Eg.df_mk KX Gn ?a ?l ?c ?k (fun _ _ _ _ _ _ us hl => match us, hl with | [_, _], _ => rfl)
      (case a => k_is); (case l => k_is); (case c => k_is); (case k => k_is)
    have d3 : Eg.DFact (L2.KOf KX) mg "is_step" (UC.topS 5) ["order", "pair"] := by
      unfold L2.KOf
      refine' Eg.df_mk KX Gn ?a ?l ?c ?k (fun _ _ _ _ _ _ us hl => match us, hl with | [_, _], _ => rfl)
      (case a => k_is); (case l => k_is); (case c => k_is); (case k => k_is)
    have d4 : Eg.DFact (L2.KOf KX) mg "steps" (UC.topS 6) ["order", "wrong"] := by
      unfold L2.KOf
      refine' Eg.df_mk KX Gn ?a ?l ?c ?k (fun _ _ _ _ _ _ us hl => match us, hl with | [_, _], _ => rfl)
      (case a => k_is); (case l => k_is); (case c => k_is); (case k => k_is)
    have d5 : Eg.DFact (L2.KOf KX) mg "steps_above" (UC.topS 7) ["order"] := by
      unfold L2.KOf
      refine' Eg.df_mk KX Gn ?a ?l ?c ?k (fun _ _ _ _ _ _ us hl => match us, hl with | [_], _ => rfl)
      (case a => k_is); (case l => k_is); (case c => k_is); (case k => k_is)
    have d6 : Eg.DFact (L2.KOf KX) mg "steps_below" (UC.topS 8) ["order"] := by
      unfold L2.KOf
      refine' Eg.df_mk KX Gn ?a ?l ?c ?k (fun _ _ _ _ _ _ us hl => match us, hl with | [_], _ => rfl)
      (case a => k_is); (case l => k_is); (case c => k_is); (case k => k_is)
    have d7 : Eg.DFact (L2.KOf KX) mg "_law_bag" (UC.topS 10) ["_law_script", "_law_k"] := by
      unfold L2.KOf
      refine' Eg.df_mk KX Gn ?a ?l ?c ?k (fun _ _ _ _ _ _ us hl => match us, hl with | [_, _], _ => rfl)
      (case a => k_is); (case l => k_is); (case c => k_is); (case k => k_is)
    have d8 : Eg.DFact (L2.KOf KX) mg "_law_digit" (UC.topS 11) ["_law_bag_here", "_law_many"] := by
      unfold L2.KOf
      refine' Eg.df_mk KX Gn ?a ?l ?c ?k (fun _ _ _ _ _ _ us hl => match us, hl with | [_, _], _ => rfl)
      (case a => k_is); (case l => k_is); (case c => k_is); (case k => k_is)
    have d9 : Eg.DFact (L2.KOf KX) mg "_law_any" (UC.topS 12) ["_law_bag_here", "_law_n"] := by
      unfold L2.KOf
      refine' Eg.df_mk KX Gn ?a ?l ?c ?k (fun _ _ _ _ _ _ us hl => match us, hl with | [_, _], _ => rfl)
      (case a => k_is); (case l => k_is); (case c => k_is); (case k => k_is)
    have d10 : Eg.DFact (L2.KOf KX) mg "_law_order" (UC.topS 13) ["_law_bag_here", "_law_n"] := by
      unfold L2.KOf
      refine' Eg.df_mk KX Gn ?a ?l ?c ?k (fun _ _ _ _ _ _ us hl => match us, hl with | [_, _], _ => rfl)
      (case a => k_is); (case l => k_is); (case c => k_is); (case k => k_is)
    have d11 : Eg.DFact (L2.KOf KX) mg "_law_wrong" (UC.topS 14) ["_law_order_here"] := by
      unfold L2.KOf
      refine' Eg.df_mk KX Gn ?a ?l ?c ?k (fun _ _ _ _ _ _ us hl => match us, hl with | [_], _ => rfl)
      (case a => k_is); (case l => k_is); (case c => k_is); (case k => k_is)
    have d12 : Eg.DFact (L2.KOf KX) mg "_law_due" (UC.topS 15) ["_law_order_here", "_law_more"] := by
      unfold L2.KOf
      refine' Eg.df_mk KX Gn ?a ?l ?c ?k (fun _ _ _ _ _ _ us hl => match us, hl with | [_, _], _ => rfl)
      (case a => k_is); (case l => k_is); (case c => k_is); (case k => k_is)
    have d13 : Eg.DFact (L2.KOf KX) mg "_law_told" (UC.topS 16) ["_law_found", "_law_due_here"] := by
      unfold L2.KOf
      refine' Eg.df_mk KX Gn ?a ?l ?c ?k (fun _ _ _ _ _ _ us hl => match us, hl with | [_, _], _ => rfl)
      (case a => k_is); (case l => k_is); (case c => k_is); (case k => k_is)
    have d14 : Eg.DFact (L2.KOf KX) mg "law" (UC.topS 17) ["_law_script"] := by
      unfold L2.KOf
      refine' Eg.df_mk KX Gn ?a ?l ?c ?k (fun _ _ _ _ _ _ us hl => match us, hl with | [_], _ => rfl)
      (case a => k_is); (case l => k_is); (case c => k_is); (case k => k_is)
    have b0 : mg "len" = none := by
      refine' PySem.W.mg_none_of KX Gn ?z
      (case z => k_is)
    have b1 : mg "abs" = none := by
      refine' PySem.W.mg_none_of KX Gn ?z
      (case z => k_is)
    have b2 : mg "int" = none := by
      refine' PySem.W.mg_none_of KX Gn ?z
      (case z => k_is)
    have b3 : mg "str" = none := by
      refine' PySem.W.mg_none_of KX Gn ?z
      (case z => k_is)
    have b4 : mg "sorted" = none := by
      refine' PySem.W.mg_none_of KX Gn ?z
      (case z => k_is)
    have b5 : mg "sum" = none := by
      refine' PySem.W.mg_none_of KX Gn ?z
      (case z => k_is)
    have b6 : mg "all" = none := by
      refine' PySem.W.mg_none_of KX Gn ?z
      (case z => k_is)
    have b7 : mg "any" = none := by
      refine' PySem.W.mg_none_of KX Gn ?z
      (case z => k_is)
    have b8 : mg "max" = none := by
      refine' PySem.W.mg_none_of KX Gn ?z
      (case z => k_is)
    have b9 : mg "min" = none := by
      refine' PySem.W.mg_none_of KX Gn ?z
      (case z => k_is)
    have b10 : mg "list" = none := by
      refine' PySem.W.mg_none_of KX Gn ?z
      (case z => k_is)
    have b11 : mg "tuple" = none := by
      refine' PySem.W.mg_none_of KX Gn ?z
      (case z => k_is)
    have b12 : mg "isinstance" = none := by
      refine' PySem.W.mg_none_of KX Gn ?z
      (case z => k_is)
    have b13 : mg "bool" = none := by
      refine' PySem.W.mg_none_of KX Gn ?z
      (case z => k_is)
    have b14 : mg "range" = none := by
      refine' PySem.W.mg_none_of KX Gn ?z
      (case z => k_is)
    have b15 : mg "enumerate" = none := by
      refine' PySem.W.mg_none_of KX Gn ?z
      (case z => k_is)
    have b16 : mg "zip" = none := by
      refine' PySem.W.mg_none_of KX Gn ?z
      (case z => k_is)
    have b17 : mg "reversed" = none := by
      refine' PySem.W.mg_none_of KX Gn ?z
      (case z => k_is)
    have b18 : mg "dict" = none := by
      refine' PySem.W.mg_none_of KX Gn ?z
      (case z => k_is)
    have b19 : mg "set" = none := by
      refine' PySem.W.mg_none_of KX Gn ?z
      (case z => k_is)
    have b20 : mg "repr" = none := by
      refine' PySem.W.mg_none_of KX Gn ?z
      (case z => k_is)
    have b21 : mg "divmod" = none := by
      refine' PySem.W.mg_none_of KX Gn ?z
      (case z => k_is)
    have b22 : mg "ValueError" = none := by
      refine' PySem.W.mg_none_of KX Gn ?z
      (case z => k_is)
    have xs : List (Nat × Addr) := []
    obtain ⟨a, fd, q1, q2, q3⟩ := Eg.fin (T := UC.TT) (P := PySem.Challenge.rw_undercells_k17_steps_above_and_below.prog) (w := w) (K := L2.KOf KX) (mg := mg) (G := ⟨L2.KOf KX, fun _ _ => False, Eg.xvOf xs⟩) (wf := UC.WF) (k := 4) (f := 130) rfl UC.st_all (by decide +kernel) rfl
      (by intro n hn; simp only [Eg.bltNames, List.mem_cons, List.not_mem_nil, or_false] at hn; rcases hn with rfl | rfl | rfl | rfl | rfl | rfl | rfl | rfl | rfl | rfl | rfl | rfl | rfl | rfl | rfl | rfl | rfl | rfl | rfl | rfl | rfl | rfl | rfl <;> assumption)
      (fun _ _ z => z)
      Eg.mem_nil
      (fun z => by cases z)
      Eg.mem_nil
      (Eg.mem_cons d0 (Eg.mem_cons d1 (Eg.mem_cons d2 (Eg.mem_cons d3 (Eg.mem_cons d4 (Eg.mem_cons d5 (Eg.mem_cons d6 (Eg.mem_cons d7 (Eg.mem_cons d8 (Eg.mem_cons d9 (Eg.mem_cons d10 (Eg.mem_cons d11 (Eg.mem_cons d12 (Eg.mem_cons d13 (Eg.mem_cons d14 Eg.mem_nil))))))))))))))) UC.run_lawE
    have e := hmg.symm.trans q1
    cases e
    exact ⟨fd, fun s v => .of_eq (q2 [v] rfl), fun base _ _ => q3 base⟩

