import PyProof.Rows.All
import Wide.All
import OpenK.AllK
import Wide.FinOn
import HandS.Base
import HandS.Call
import HandS.List
import HandS.TupAny
import HandS.Dict
import HandS.Walk
import HandS.Words
import HandS.Text
import HandS.TupMul
import HandS.More
import HandS.Conv
import HandS.IsInst
import HandS.Style
import HandS.Flow
import HandS.SortInts
import HandS.Zip
import HandS.Iter
import KE.GoesMore
import HandS.DictComp
import HandS.Defaults
import HandS.SetFor
import HandS.Strs
import HandS.Head0
import HandS.Head1
import HandS.Head2
import HandS.HeadEnd
import HandS.HeadHook1
import HandS.HeadHook2
import KE.KStateDown
import PySem.Challenge.RW_meantlog_k76_any_event_that_can_be
set_option Elab.async false
set_option linter.all false
set_option maxRecDepth 100000
set_option maxHeartbeats 0
namespace PyE
open PySem

/-- a value: data inline; lst, dct: an object that nobody changes any more; ref: a cell of the store -/
inductive D where
  | non | bl (b : Bool) | int (i : Int) | str (s : Str)
  | tup (xs : List D) | lst (xs : List D) | dct (es : List D) | ref (n : Nat) | fn (f : Nat)
  deriving Inhabited

mutual
def D.beq : D → D → Bool
  | .non, .non => true
  | .bl a, .bl b => a == b
  | .int a, .int b => a == b
  | .str a, .str b => decide (a = b)
  | .tup a, .tup b => D.beqL a b
  | .lst a, .lst b => D.beqL a b
  | .dct a, .dct b => D.beqL a b
  | .ref a, .ref b => a == b
  | .fn a, .fn b => a == b
  | _, _ => false
def D.beqL : List D → List D → Bool
  | [], [] => true
  | a :: as, b :: bs => D.beq a b && D.beqL as bs
  | _, _ => false
end

mutual
/-- no cell is named within -/
def D.pure : D → Bool
  | .ref _ => false
  | .tup xs => D.pureL xs
  | .lst xs => D.pureL xs
  | .dct xs => D.pureL xs
  | _ => true
def D.pureL : List D → Bool
  | [] => true
  | x :: xs => D.pure x && D.pureL xs
end
mutual
/-- all cells named within are below n -/
def D.bel (n : Nat) : D → Bool
  | .ref k => decide (k < n)
  | .tup xs => D.belL n xs
  | .lst xs => D.belL n xs
  | .dct xs => D.belL n xs
  | _ => true
def D.belL (n : Nat) : List D → Bool
  | [] => true
  | x :: xs => D.bel n x && D.belL n xs
end
mutual
/-- plain data -/
def D.py : D → Option PyData
  | .non => some .none
  | .bl b => some (.bool b)
  | .int i => some (.int i)
  | .str s => some (.str s)
  | .tup xs => (D.pyL xs).map .tuple
  | .lst xs => (D.pyL xs).map .list
  | _ => none
def D.pyL : List D → Option (List PyData)
  | [] => some []
  | x :: xs => (D.py x).bind fun d => (D.pyL xs).map fun ds => d :: ds
end

abbrev Store := List D
abbrev En := List (Option D)

inductive R (α : Type) where
  | ok (a : α) (st : Store)
  | exc (e : D) (st : Store)
  | bad
/-- nothing; it keeps a rewriting out of what comes behind -/
class Un where
  u : Unit
instance un : Un := ⟨()⟩
@[reducible] def Laz {α β : Type} (f : α → Store → R β) : Type := Un
def R.bind {α β : Type} : R α → (f : α → Store → R β) → [Laz f] → R β
  | .ok a st, f, _ => f a st
  | .exc e st, _, _ => .exc e st
  | .bad, _, _ => .bad
def opt {α : Type} (o : Option α) (st : Store) : R α := match o with
  | some a => .ok a st
  | none => .bad
def guardB {α : Type} (b : Bool) (r : R α) : R α := if b = true then r else .bad
def line : Nat := 16777216

inductive BOp where | add | sub | mul | fdiv | mod | pow | xor deriving DecidableEq
inductive COp where | eq | ne | lt | le | gt | ge | is | isnot | in_ | notin deriving DecidableEq
inductive Bi where | len | abs | int | max2 | min2 | max1 | min1 | sum | all | any | tuple | list | sorted | str | sortedSet deriving DecidableEq
inductive Mt where | append | extend | insert | pop | popAt | index | get | setdefault | join deriving DecidableEq
inductive Ty where | int | bool | str | tuple | list deriving DecidableEq
mutual
inductive C where
  | lit (d : D)
  | var (i : Nat)
  | tup (es : Cs) | list (es : Cs) | dict (ks : List D) (vs : Cs)
  | mut (e : C)
  | bin (op : BOp) (a b : C)
  | neg (a : C)
  | cmp (op : COp) (a b : C)
  | and (a b : C) | or (a b : C) | not (a : C)
  | ife (c a b : C)
  | ix (a b : C)
  | sl (a : C) (lo hi : Co)
  | call (f : Nat) (es : Cs) (io : List Nat) (fresh : Bool)
  | callS (f : Nat) (es : Cs)
  | bi (f : Bi) (es : Cs)
  | mt (m : Mt) (o : C) (es : Cs)
  | isi (a : C) (ts : List Ty)
  | lc (own : List Nat) (t : T) (it : I) (cond : Co) (elt : C)
  | dc (own : List Nat) (t : T) (it : I) (cond : Co) (k v : C)
inductive Cs where | nil | cons (e : C) (es : Cs)
inductive Co where | none | some (e : C)
inductive T where
  | name (i : Nat) | tup (ts : Ts) | sub (o i : C)
inductive Ts where | nil | cons (t : T) (ts : Ts)
inductive I where
  | val (e : C) | range1 (a : C) | range2 (a b : C) | enum (e : C) | zip (a b : C)
end
mutual
inductive S where
  | asg (t : T) (e : C)
  | aug (i : Nat) (op : BOp) (e : C)
  | expr (e : C)
  | ret (e : C) | retN
  | ife (c : C) (a b : Ss)
  | for_ (t : T) (it : I) (ws : List Nat) (body : Ss)
  | pass | brk | cont
inductive Ss where | nil | cons (s : S) (r : Ss)
end
inductive Fl where | nx | brk | ct | rt (d : D)

def view (st : Store) : D → D
  | .ref n => (st[n]?).getD (.ref n)
  | d => d
def seqOf (st : Store) (d : D) : Option (List D) := match view st d with
  | .tup xs => some xs
  | .lst xs => some xs
  | _ => none
def truth (st : Store) (d : D) : Option Bool := match view st d with
  | .non => some false
  | .bl b => some b
  | .int i => some (i != 0)
  | .str s => if s.length ≤ line then some ((s.length : Int) != 0) else none
  | .tup xs => some (!xs.isEmpty)
  | .lst xs => some (!xs.isEmpty)
  | .dct xs => some (!xs.isEmpty)
  | _ => none
def mkTup (xs : List D) (st : Store) : R D := guardB (decide (xs.length ≤ line)) (.ok (.tup xs) st)
def mkLst (xs : List D) (st : Store) : R D := guardB (decide (xs.length ≤ line)) (.ok (.lst xs) st)
def mulOk (i j : Int) : Bool := (decide (-18446744073709551616 < i) && decide (i < 18446744073709551616)) || (decide (-18446744073709551616 < j) && decide (j < 18446744073709551616))
/-- keys of dicts: ints, texts -/
def isKey : D → Bool
  | .int _ => true
  | .str _ => true
  | _ => false
def keq : D → D → Bool
  | .int a, .int b => decide (a = b)
  | .str a, .str b => decide (a = b)
  | _, _ => false
def dget : List D → D → Option D
  | [], _ => none
  | .tup [k', v] :: r, k => if keq k' k = true then some v else dget r k
  | _ :: r, k => dget r k
def isK (k : D) : D → Bool
  | .tup [k', _] => keq k' k
  | _ => false
def dput (es : List D) (k v : D) : List D := if es.any (isK k) = true then es.map fun e => if isK k e = true then .tup [k, v] else e else es ++ [.tup [k, v]]
def binD (op : BOp) (x y : D) (st : Store) : R D := match op, view st x, view st y with
  | .add, .int i, .int j => .ok (.int (i + j)) st
  | .add, .str i, .str j => guardB (decide (i.length + j.length ≤ line)) (.ok (.str (i ++ j)) st)
  | .add, .tup i, .tup j => guardB (decide (i.length + j.length ≤ line)) (.ok (.tup (i ++ j)) st)
  | .add, .lst i, .lst j => guardB (decide (i.length + j.length ≤ line)) (.ok (.lst (i ++ j)) st)
  | .sub, .int i, .int j => .ok (.int (i - j)) st
  | .mul, .int i, .int j => guardB (mulOk i j) (.ok (.int (i * j)) st)
  | .fdiv, .int i, .int j => guardB (decide (0 < j) && decide (j < 1073741824)) (.ok (.int (i / j)) st)
  | .mod, .int i, .int j => guardB (decide (0 < j)) (.ok (.int (i % j)) st)
  | .pow, .int i, .int j => guardB (decide (0 ≤ j) && decide (j ≤ 1000000) && decide (i.natAbs < 18446744073709551616)) (.ok (.int (i ^ j.toNat)) st)
  | .xor, .int i, .int j => .ok (.int (Builtin.bitXor i j)) st
  | .mul, .tup i, .int j => guardB (!i.isEmpty && decide (2 ≤ j) && decide (j ≤ 1000) && decide (i.length ≤ 1000)) (.ok (.tup (List.replicate j.toNat i).flatten) st)
  | _, _, _ => .bad
def eqG (st : Store) (x y : D) : Option Bool := match (view st x).py, (view st y).py with
  | some a, some b => if SeqAt.shaped a = true ∧ SeqAt.shaped b = true then some (PyData.eqv a b) else none
  | _, _ => none
def eqD (st : Store) (x y : D) : Option Bool := match view st x, view st y with
  | .str a, .str b => some (decide (a = b))
  | _, _ => eqG st x y
def flatD : D → Bool
  | .non => true | .bl _ => true | .int _ => true | .str _ => true | _ => false
/-- == of flat values -/
def eqF : D → D → Bool
  | .non, .non => true
  | .bl a, .bl b => a == b
  | .bl a, .int b => (if a then 1 else 0) == b
  | .int a, .bl b => a == (if b then 1 else 0)
  | .int a, .int b => a == b
  | .str a, .str b => a == b
  | _, _ => false
def inD (x : D) (ys : List D) : Option Bool := if flatD x = true ∧ ys.all flatD = true then some (ys.any fun y => eqF y x) else none
def hasIn (st : Store) (x y : D) : Option Bool := match view st y with
  | .tup ys => inD x ys
  | .lst ys => inD x ys
  | .dct es => if isKey x = true then some (dget es x).isSome else none
  | .str s => (match x with
    | .str z => some (!(Builtin.Str.occurrences s z 0 s.length 1).isEmpty)
    | _ => none)
  | _ => none
def ordI (op : COp) (i j : Int) : Option Bool := match op with
  | .lt => some (decide (i < j))
  | .le => some (decide (i ≤ j))
  | .gt => some (decide (j < i))
  | .ge => some (decide (j ≤ i))
  | _ => none
def isNon : D → Bool
  | .non => true
  | _ => false
def isBl : D → Bool → Bool
  | .bl a, b => a == b
  | _, _ => false
def isB (x : D) : D → Option Bool
  | .non => some (isNon x)
  | .bl b => some (isBl x b)
  | _ => none
def ordB (op : COp) : D → D → Option Bool
  | .int i, .int j => ordI op i j
  | _, _ => none
def cmpB (op : COp) (x y : D) (st : Store) : Option Bool := match op with
  | .eq => eqD st x y
  | .ne => (eqD st x y).map (!·)
  | .in_ => hasIn st x y
  | .notin => (hasIn st x y).map (!·)
  | .is => isB x y
  | .isnot => (isB x y).map (!·)
  | op => ordB op x y
def cmpD (op : COp) (x y : D) (st : Store) : R D := opt ((cmpB op x y st).map .bl) st
def ixB (x y : D) (st : Store) : Option D := match view st x, y with
  | .tup xs, .int i => L2.atI xs i
  | .lst xs, .int i => L2.atI xs i
  | .str s, .int i => if s.length ≤ line then (L2.atI s.cps.toList i).map fun c => .str ⟨#[c]⟩ else none
  | .dct es, k => if isKey k = true then dget es k else none
  | _, _ => none
def ixD (x y : D) (st : Store) : R D := opt (ixB x y st) st
def cut {α : Type} (xs : List α) (lo hi : Option Int) : List α := (xs.drop (HT.sIx xs.length 0 lo)).take (HT.sIx xs.length xs.length hi - HT.sIx xs.length 0 lo)
def slB (x : D) (lo hi : Option Int) (st : Store) : Option D := match view st x with
  | .tup xs => some (.tup (cut xs lo hi))
  | .lst xs => some (.lst (cut xs lo hi))
  | .str s => if s.length ≤ line then some (.str ⟨(cut s.cps.toList lo hi).toArray⟩) else none
  | _ => none
def intsOf : List D → Option (List Int)
  | [] => some []
  | .int i :: r => (intsOf r).map (i :: ·)
  | _ => none
def blsOf : List D → Option (List Bool)
  | [] => some []
  | .bl i :: r => (blsOf r).map (i :: ·)
  | _ => none
def maxL : Int → List Int → Int
  | m, [] => m
  | m, n :: r => maxL (if n > m then n else m) r
def minL : Int → List Int → Int
  | m, [] => m
  | m, n :: r => minL (if n < m then n else m) r
def insI (x : Int) : List Int → List Int
  | [] => [x]
  | y :: r => if x ≤ y then x :: y :: r else y :: insI x r
def sortI : List Int → List Int
  | [] => []
  | x :: r => insI x (sortI r)
def dedupI : List Int → List Int
  | [] => []
  | x :: r => if x ∈ r then dedupI r else x :: dedupI r
def lenB : D → Option D
  | .tup xs => some (.int xs.length)
  | .lst xs => some (.int xs.length)
  | .dct xs => some (.int xs.length)
  | .str s => if s.length ≤ line then some (.int s.length) else none
  | _ => none
def absB : D → Option D
  | .int i => some (.int (if i < 0 then -i else i))
  | _ => none
def intB : D → Option D
  | .int i => some (.int i)
  | .bl b => some (.int (if b then 1 else 0))
  | _ => none
def tupB : D → Option D
  | .lst xs => some (.tup xs)
  | .tup xs => some (.tup xs)
  | _ => none
def lstB : D → Option D
  | .lst xs => some (.lst xs)
  | .tup xs => some (.lst xs)
  | _ => none
def intsB (f : List Int → Option D) : D → Option D
  | .lst xs => (intsOf xs).bind f
  | _ => none
def blsB (f : List Bool → Option D) : D → Option D
  | .lst xs => (blsOf xs).bind f
  | _ => none
def maxB : List Int → Option D
  | n :: ns => some (.int (maxL n ns))
  | [] => none
def minB : List Int → Option D
  | n :: ns => some (.int (minL n ns))
  | [] => none
def strB : D → Option D
  | .int i => if i.natAbs.log2 < 1920 then some (.str (toString i)) else none
  | _ => none
def bi1 (f : Bi) (x : D) (st : Store) : Option D := match f with
  | .len => lenB (view st x)
  | .abs => absB (view st x)
  | .int => intB (view st x)
  | .tuple => tupB (view st x)
  | .list => lstB (view st x)
  | .sum => intsB (fun ns => some (.int ns.sum)) (view st x)
  | .all => blsB (fun bs => some (.bl (bs.all id))) (view st x)
  | .any => blsB (fun bs => some (.bl (bs.any id))) (view st x)
  | .max1 => intsB maxB (view st x)
  | .min1 => intsB minB (view st x)
  | .sorted => intsB (fun ns => some (.lst ((sortI ns).map .int))) (view st x)
  | .sortedSet => intsB (fun ns => if ns.length < 64 then some (.lst ((sortI (dedupI ns)).map .int)) else none) (view st x)
  | .str => strB (view st x)
  | _ => none
def bi2 (f : Bi) (x y : D) (st : Store) : Option D := match f, x, y with
  | .max2, .int i, .int j => some (.int (if j > i then j else i))
  | .min2, .int i, .int j => some (.int (if j < i then j else i))
  | _, _, _ => none
def bd1 (f : Bi) (xs : List D) (st : Store) : R D := match xs with
  | [x] => opt (bi1 f x st) st
  | _ => .bad
def bd2 (f : Bi) (xs : List D) (st : Store) : R D := match xs with
  | [x, y] => opt (bi2 f x y st) st
  | _ => .bad
def biD (f : Bi) (xs : List D) (st : Store) : R D := match f with
  | .max2 => bd2 f xs st
  | .min2 => bd2 f xs st
  | _ => bd1 f xs st
def posOf (x : D) : List D → Nat → Option Nat
  | [], _ => none
  | y :: r, i => if eqF y x = true then some i else posOf x r (i + 1)
/-- the receiver is of the method's kind -/
def mtTy : Mt → D → Bool
  | .get, .dct _ => true
  | .setdefault, .dct _ => true
  | .join, .str _ => true
  | .get, _ => false
  | .setdefault, _ => false
  | .join, _ => false
  | _, .lst _ => true
  | _, _ => false
/-- a cell that is a list -/
def lstAt (st : Store) : D → Option (Nat × List D)
  | .ref n => (match st[n]? with
    | some (.lst ys) => some (n, ys)
    | _ => none)
  | _ => none
def apB (o : D) (xs : List D) (st : Store) : R D := match lstAt st o, xs with
  | some (n, ys), [y] => guardB (decide (ys.length < line)) (.ok .non (st.set n (.lst (ys ++ [y]))))
  | _, _ => .bad
def insB (o : D) (xs : List D) (st : Store) : R D := match lstAt st o, xs with
  | some (n, ys), [.int i, y] => guardB (decide (ys.length < line) && decide (0 ≤ i) && decide (i < 9223372036854775808)) (.ok .non (st.set n (.lst (ys.take i.toNat ++ [y] ++ ys.drop i.toNat))))
  | _, _ => .bad
def extB (o : D) (xs : List D) (st : Store) : R D := match lstAt st o, xs with
  | some (n, ys), [y] => (match view st y with
    | .lst zs => guardB (decide (ys.length + zs.length ≤ line)) (.ok .non (st.set n (.lst (ys ++ zs))))
    | _ => .bad)
  | _, _ => .bad
def popB (o : D) (xs : List D) (st : Store) : R D := match lstAt st o, xs with
  | some (n, ys), [] => (match ys[ys.length - 1]? with
    | some y => .ok y (st.set n (.lst ys.dropLast))
    | none => .bad)
  | _, _ => .bad
def popAtB (o : D) (xs : List D) (st : Store) : R D := match lstAt st o, xs with
  | some (n, ys), [.int i] => (match L2.ixN ys.length i with
    | some k => (match ys[k]? with
      | some y => guardB (decide (-9223372036854775808 ≤ i) && decide (i < 9223372036854775808)) (.ok y (st.set n (.lst (ys.eraseIdx k))))
      | none => .bad)
    | none => .bad)
  | _, _ => .bad
def idxB (o : D) (xs : List D) (st : Store) : R D := match view st o, xs with
  | .lst ys, [y] => guardB (flatD y && ys.all flatD) (opt ((posOf y ys 0).map fun (k : Nat) => D.int (k : Int)) st)
  | _, _ => .bad
def getB (o : D) (xs : List D) (st : Store) : R D := match view st o, xs with
  | .dct es, [k, d] => guardB (isKey k) (.ok ((dget es k).getD d) st)
  | _, _ => .bad
def mtD (m : Mt) (o : D) (xs : List D) (st : Store) : R D := match m with
  | .append => apB o xs st
  | .insert => insB o xs st
  | .extend => extB o xs st
  | .pop => popB o xs st
  | .popAt => popAtB o xs st
  | .index => idxB o xs st
  | _ => .bad
def isTy : D → Ty → Bool
  | .int _, .int => true
  | .bl _, .int => true
  | .bl _, .bool => true
  | .str _, .str => true
  | .tup _, .tuple => true
  | .lst _, .list => true
  | _, _ => false
def isPl : D → Bool
  | .ref _ => false
  | .fn _ => false
  | _ => true
/-- a copy without cells: the callee's cells below rs.length are the caller's rs, all others stand still from now on -/
def mapO {α β : Type} (f : α → Option β) : List α → Option (List β)
  | [] => some []
  | x :: r => (f x).bind fun y => (mapO f r).map fun ys => y :: ys
def frz (rs : List Nat) (st : Store) : Nat → D → Option D
  | 0, _ => none
  | n + 1, .tup xs => (mapO (frz rs st n) xs).map .tup
  | n + 1, .lst xs => (mapO (frz rs st n) xs).map .lst
  | n + 1, .dct xs => (mapO (frz rs st n) xs).map .dct
  | n + 1, .ref k => if k < rs.length then (rs[k]?).map .ref else (st[k]?).bind (frz rs st n)
  | _ + 1, d => some d
def back (rs : List Nat) (st : Store) (d : D) : Option D := if d.pure = true then some d else frz rs st 50 d
/-- the cells rs take what the callee has left in its first cells -/
def putBack (rs : List Nat) (cs : Store) : Nat → List Nat → Store → Option Store
  | _, [], st => some st
  | i, r :: q, st => (cs[i]?).bind fun c => (back rs cs c).bind fun c' => putBack rs cs (i + 1) q (st.set r c')
mutual
/-- no list, dict, cell within -/
def D.clean : D → Bool
  | .ref _ => false
  | .lst _ => false
  | .dct _ => false
  | .tup xs => D.cleanL xs
  | _ => true
def D.cleanL : List D → Bool
  | [] => true
  | x :: xs => D.clean x && D.cleanL xs
end
/-- a cell whose items are clean -/
def cleanCell : D → Bool
  | .lst xs => D.cleanL xs
  | .dct xs => D.cleanL xs
  | _ => false
/-- the arguments as the callee has them; the cells that it may change (io), the cells that it may look at -/
def prep (io : List Nat) (st : Store) : Nat → Nat → List D → Option (List D × List Nat × List Nat)
  | _, _, [] => some ([], [], [])
  | i, j, x :: r => if io.contains i then (match x with
      | .ref n => (prep io st (i + 1) (j + 1) r).map fun p => (.ref j :: p.1, n :: p.2.1, p.2.2)
      | _ => none)
    else if x.pure = true then (prep io st (i + 1) j r).map fun p => (x :: p.1, p.2)
    else (match x with
      | .ref n => (st[n]?).bind fun c => if c.pure = true then (prep io st (i + 1) j r).map fun p => (c :: p.1, p.2.1, n :: p.2.2) else none
      | _ => none)
def cellsAt (st : Store) : List Nat → Option Store
  | [] => some []
  | r :: q => (st[r]?).bind fun c => (cellsAt st q).bind fun cs => if c.pure = true then some (c :: cs) else none
abbrev CallF := Nat → List D → Store → R D
/-- behind a call: d what came, cs' the callee's cells -/
def callBack (rs vs : List Nat) (fresh : Bool) (st : Store) (d : D) (cs' : Store) : R D :=
  match putBack rs cs' 0 rs st with
  | none => .bad
  | some st' => if fresh = true then (match d with
      | .ref k => (match cs'[k]? with
          | some c => guardB (decide (rs.length ≤ k) && c.pure && (cs'.take rs.length).all D.pure && vs.isEmpty) (.ok (.ref st'.length) (st' ++ [c]))
          | none => .bad)
      | _ => .bad)
    else match back rs cs' d with
      | some d' => guardB (vs.isEmpty || (d'.clean && (cs'.take rs.length).all cleanCell)) (.ok d' st')
      | none => .bad
def callIn (cf : CallF) (f : Nat) (xs : List D) (io : List Nat) (fresh : Bool) (st : Store) : R D :=
  match prep io st 0 0 xs with
  | none => .bad
  | some (ys, rs, vs) => match cellsAt st rs with
    | none => .bad
    | some cs => guardB (decide rs.Nodup && vs.all fun v => !rs.contains v) (match cf f ys cs with
      | .ok d cs' => callBack rs vs fresh st d cs'
      | _ => .bad)

def foldR {β : Type} (f : D → β → Store → R β) : List D → β → Store → R β
  | [], b, st => .ok b st
  | x :: r, b, st => (f x b st).bind fun b' st' => foldR f r b' st'
def wipe (en : En) : List Nat → En
  | [] => en
  | v :: vs => (wipe en vs).set v none
abbrev Guard := List (Nat × D)
def held (g : Guard) (st : Store) : Bool := g.all fun p => match st[p.1]? with | some c => D.beq c p.2 | none => false
def pairs : Nat → List D → List D
  | _, [] => []
  | i, x :: r => .tup [.int i, x] :: pairs (i + 1) r
def zips : List D → List D → List D
  | x :: r, y :: q => .tup [x, y] :: zips r q
  | _, _ => []
def rangeD (lo : Int) (n : Nat) : List D := (List.range n).map fun i => .int (lo + (i : Nat))
def rgOk (i : Int) : Bool := decide (-4611686018427387904 ≤ i) && decide (i < 4611686018427387904)
def guardOf (st : Store) (d : D) : Guard := match d with
  | .ref n => (match st[n]? with | some c => [(n, c)] | none => [])
  | _ => []
def iterOf (st : Store) (d : D) : Option (List D × Guard) := match view st d with
  | .tup xs => some (xs, [])
  | .lst xs => some (xs, guardOf st d)
  | .str s => some (s.cps.toList.map fun c => .str ⟨#[c]⟩, [])
  | _ => none
def trim (n : Nat) (en : En) (st : Store) : Store :=
  if en.all (fun o => match o with | some d => d.bel n | none => true) && (st.take n).all (D.bel n) then st.take n else st
def dictD : List D → List D → List D → Option (List D)
  | [], [], acc => some acc
  | k :: ks, v :: vs, acc => if isKey k = true then dictD ks vs (dput acc k v) else none
  | _, _, _ => none

mutual
def evE (cf : CallF) : C → En → Store → R D
  | .lit d, _, st => .ok d st
  | .var i, en, st => (match en[i]? with
    | some (some d) => .ok d st
    | _ => .bad)
  | .tup es, en, st => (evEs cf es en st).bind fun xs s1 => mkTup xs s1
  | .list es, en, st => (evEs cf es en st).bind fun xs s1 => mkLst xs s1
  | .dict ks vs, en, st => (evEs cf vs en st).bind fun xs s1 => opt ((dictD ks xs []).map .dct) s1
  | .mut e, en, st => (evE cf e en st).bind fun x s1 => match x with
    | .lst _ => .ok (.ref s1.length) (s1 ++ [x])
    | .dct _ => .ok (.ref s1.length) (s1 ++ [x])
    | _ => .bad
  | .bin op a b, en, st => (evE cf a en st).bind fun x s1 => (evE cf b en s1).bind fun y s2 => binD op x y s2
  | .neg a, en, st => (evE cf a en st).bind fun x s1 => (match x with
    | .int i => .ok (.int (-i)) s1
    | _ => .bad)
  | .cmp op a b, en, st => (evE cf a en st).bind fun x s1 => (evE cf b en s1).bind fun y s2 => cmpD op x y s2
  | .and a b, en, st => (evE cf a en st).bind fun x s1 => (match truth s1 x with
    | some true => evE cf b en s1
    | some false => .ok x s1
    | none => .bad)
  | .or a b, en, st => (evE cf a en st).bind fun x s1 => (match truth s1 x with
    | some true => .ok x s1
    | some false => evE cf b en s1
    | none => .bad)
  | .not a, en, st => (evE cf a en st).bind fun x s1 => opt ((truth s1 x).map fun b => .bl (!b)) s1
  | .ife c a b, en, st => (evE cf c en st).bind fun x s1 => (match truth s1 x with
    | some true => evE cf a en s1
    | some false => evE cf b en s1
    | none => .bad)
  | .ix a b, en, st => (evE cf a en st).bind fun x s1 => (evE cf b en s1).bind fun y s2 => ixD x y s2
  | .sl a lo hi, en, st => (evE cf a en st).bind fun x s1 => (evO cf lo en s1).bind fun l s2 => (evO cf hi en s2).bind fun h s3 => opt (slB x l h s3) s3
  | .call f es io fresh, en, st => (evEs cf es en st).bind fun xs s1 => callIn cf f xs io fresh s1
  | .callS f es, en, st => (evEs cf es en st).bind fun xs s1 => cf f xs s1
  | .bi f es, en, st => (evEs cf es en st).bind fun xs s1 => biD f xs s1
  | .mt m o es, en, st => (evE cf o en st).bind fun x s1 => guardB (mtTy m (view s1 x)) ((evEs cf es en s1).bind fun xs s2 => mtD m x xs s2)
  | .isi a ts, en, st => (evE cf a en st).bind fun x s1 => guardB (isPl (view s1 x)) (.ok (.bl (ts.any (isTy (view s1 x)))) s1)
  | .lc own t it cond elt, en, st => (evI cf it en st).bind fun p s1 =>
    (foldR (fun x acc s2 => (asT cf t x (wipe en own) s2).bind fun en2 s3 => (evCo cf cond en2 s3).bind fun b s4 =>
      if b = true then (evE cf elt en2 s4).bind fun y s5 => guardB (decide (acc.length < line) && held p.2 s5) (.ok (acc ++ [y]) s5) else guardB (held p.2 s4) (.ok acc s4)) p.1 [] s1).bind fun acc s6 => .ok (.lst acc) s6
  | .dc own t it cond k v, en, st => (evI cf it en st).bind fun p s1 =>
    (foldR (fun x acc s2 => (asT cf t x (wipe en own) s2).bind fun en2 s3 => (evCo cf cond en2 s3).bind fun b s4 =>
      if b = true then (evE cf k en2 s4).bind fun y s5 => (evE cf v en2 s5).bind fun z s6 => guardB (isKey y && decide (acc.length < line) && held p.2 s6) (.ok (dput acc y z) s6) else guardB (held p.2 s4) (.ok acc s4)) p.1 [] s1).bind fun acc s6 => .ok (.dct acc) s6
def evEs (cf : CallF) : Cs → En → Store → R (List D)
  | .nil, _, st => .ok [] st
  | .cons e es, en, st => (evE cf e en st).bind fun x s1 => (evEs cf es en s1).bind fun xs s2 => .ok (x :: xs) s2
def evO (cf : CallF) : Co → En → Store → R (Option Int)
  | .none, _, st => .ok none st
  | .some e, en, st => (evE cf e en st).bind fun x s1 => (match x with
    | .int i => .ok (some i) s1
    | _ => .bad)
def evCo (cf : CallF) : Co → En → Store → R Bool
  | .none, _, st => .ok true st
  | .some e, en, st => (evE cf e en st).bind fun x s1 => opt (truth s1 x) s1
def asT (cf : CallF) : T → D → En → Store → R En
  | .name i, d, en, st => .ok (en.set i (some d)) st
  | .tup ts, d, en, st => (match view st d with
    | .tup xs => asTs cf ts xs en st
    | _ => .bad)
  | .sub o i, d, en, st => (evE cf o en st).bind fun x s1 => (evE cf i en s1).bind fun y s2 => (match x with
    | .ref n => (match s2[n]? with
      | some (.lst xs) => (match y with
        | .int k => (match L2.ixN xs.length k with
          | some j => .ok en (s2.set n (.lst (xs.set j d)))
          | none => .bad)
        | _ => .bad)
      | some (.dct es) => guardB (isKey y && decide (es.length < line)) (.ok en (s2.set n (.dct (dput es y d))))
      | _ => .bad)
    | _ => .bad)
def asTs (cf : CallF) : Ts → List D → En → Store → R En
  | .nil, xs, en, st => (match xs with
    | [] => .ok en st
    | _ => .bad)
  | .cons t ts, xs, en, st => (match xs with
    | x :: r => (asT cf t x en st).bind fun en1 s1 => asTs cf ts r en1 s1
    | [] => .bad)
def evI (cf : CallF) : I → En → Store → R (List D × Guard)
  | .val e, en, st => (evE cf e en st).bind fun x s1 => opt (iterOf s1 x) s1
  | .range1 a, en, st => (evE cf a en st).bind fun x s1 => (match x with
    | .int j => guardB (rgOk j) (.ok (rangeD 0 j.toNat, []) s1)
    | _ => .bad)
  | .range2 a b, en, st => (evE cf a en st).bind fun x s1 => (evE cf b en s1).bind fun y s2 => (match x, y with
    | .int i, .int j => guardB (rgOk i && rgOk j) (.ok (rangeD i (j - i).toNat, []) s2)
    | _, _ => .bad)
  | .enum e, en, st => (evE cf e en st).bind fun x s1 => (match view s1 x with
    | .lst xs => .ok (pairs 0 xs, guardOf s1 x) s1
    | .tup xs => .ok (pairs 0 xs, []) s1
    | _ => .bad)
  | .zip a b, en, st => (evE cf a en st).bind fun x s1 => (evE cf b en s1).bind fun y s2 => (match view s2 x, view s2 y with
    | .lst xs, .lst ys => .ok (zips xs ys, guardOf s2 x ++ guardOf s2 y) s2
    | .tup xs, .tup ys => .ok (zips xs ys, []) s2
    | _, _ => .bad)
end

/-- name op= value: ints, texts -/
def augD (op : BOp) (x y : D) (st : Store) : R D := match x, y with
  | .int _, .int _ => if op = .pow then .bad else binD op x y st
  | .str _, .str _ => binD op x y st
  | _, _ => .bad
/-- a for's turns -/
def forR (asg : D → En → Store → R En) (body : En → Store → R (Fl × En)) (ws : List Nat) (n : Nat) (g : Guard) : List D → En → Store → R (Fl × En)
  | [], en, st => .ok (.nx, en) st
  | x :: r, en, st => (asg x en st).bind fun en1 s1 => (body en1 s1).bind fun p s2 => match p.1 with
    | .brk => .ok (.nx, wipe p.2 ws) s2
    | .rt d => .ok (.rt d, p.2) s2
    | _ => guardB (held g s2) (forR asg body ws n g r (wipe p.2 ws) (trim n (wipe p.2 ws) s2))
mutual
def evS (cf : CallF) : S → En → Store → R (Fl × En)
  | .asg t e, en, st => (evE cf e en st).bind fun x s1 => (asT cf t x en s1).bind fun en1 s2 => .ok (.nx, en1) s2
  | .aug i op e, en, st => (match en[i]? with
    | some (some d) => (evE cf e en st).bind fun y s1 => (augD op d y s1).bind fun z s2 => .ok (.nx, en.set i (some z)) s2
    | _ => .bad)
  | .expr e, en, st => (evE cf e en st).bind fun _ s1 => .ok (.nx, en) s1
  | .ret e, en, st => (evE cf e en st).bind fun x s1 => .ok (.rt x, en) s1
  | .retN, en, st => .ok (.rt .non, en) st
  | .ife c a b, en, st => (evE cf c en st).bind fun x s1 => (match truth s1 x with
    | some true => evSs cf a en s1
    | some false => evSs cf b en s1
    | none => .bad)
  | .for_ t it ws body, en, st => (evI cf it en st).bind fun p s1 => (forR (asT cf t) (evSs cf body) ws s1.length p.2 p.1 en s1)
  | .pass, en, st => .ok (.nx, en) st
  | .brk, en, st => .ok (.brk, en) st
  | .cont, en, st => .ok (.ct, en) st
def evSs (cf : CallF) : Ss → En → Store → R (Fl × En)
  | .nil, en, st => .ok (.nx, en) st
  | .cons s r, en, st => (evS cf s en st).bind fun p s1 => match p.1 with
    | .nx => evSs cf r p.2 s1
    | f => .ok (f, p.2) s1
end
/-- a def: how many parameters, how many names, its body -/
structure Fd where
  np : Nat
  nn : Nat
  body : Ss
def runFd (cf : CallF) (d : Fd) (xs : List D) (st : Store) : R D :=
  if xs.length = d.np then (evSs cf d.body (xs.map some ++ List.replicate (d.nn - d.np) none) st).bind fun p s1 => match p.1 with
    | .rt v => .ok v s1
    | .nx => .ok .non s1
    | _ => .bad
  else .bad
def callF (P : Nat → Option Fd) : Nat → CallF
  | 0, _, _, _ => .bad
  | k + 1, f, xs, st => match P f with
    | some d => runFd (callF P k) d xs st
    | none => .bad
end PyE

namespace PyE
open PySem PySem.Spec PyProof.Rows L2

def kD : Key → D
  | .inl i => .int i
  | .inr s => .str s
section
variable (H : Hp) (K : PySem.W.Frag) (μ : Nat → Addr) (n : Nat)
mutual
inductive DV : D → V → Prop
  | non : DV .non .non
  | bl (b : Bool) : DV (.bl b) (.bl b)
  | int (i : Int) : DV (.int i) (.int i)
  | str (s : Str) : DV (.str s) (.str s)
  | tup {xs : List D} {a : Addr} {vs : List V} : SqT K H a vs → DVs xs vs → DV (.tup xs) (.ref a)
  | lst {xs : List D} {a : Addr} {vs : List V} : Rd H a (.lst vs) → (∀ i, i < n → μ i ≠ a) → DVs xs vs → DV (.lst xs) (.ref a)
  | dct {es : List D} {a : Addr} {kvs : List (Key × V)} : H a = some (.dK kvs) → (∀ i, i < n → μ i ≠ a) → DKs es kvs → DV (.dct es) (.ref a)
  | ref {k : Nat} : k < n → DV (.ref k) (.ref (μ k))
inductive DVs : List D → List V → Prop
  | nil : DVs [] []
  | cons {x : D} {v : V} {xs : List D} {vs : List V} : DV x v → DVs xs vs → DVs (x :: xs) (v :: vs)
inductive DKs : List D → List (Key × V) → Prop
  | nil : DKs [] []
  | cons {k : Key} {x : D} {v : V} {es : List D} {kvs : List (Key × V)} : DV x v → DKs es kvs → DKs (.tup [kD k, x] :: es) ((k, v) :: kvs)
end
end

def CellOk (H : Hp) (K : PySem.W.Frag) (μ : Nat → Addr) (n : Nat) (c : D) (a : Addr) : Prop := match c with
  | .lst xs => ∃ vs, H a = some (.lst vs) ∧ DVs H K μ n xs vs
  | .dct es => ∃ kvs, H a = some (.dK kvs) ∧ DKs H K μ n es kvs
  | _ => False
structure Sim (H : Hp) (K : PySem.W.Frag) (μ : Nat → Addr) (st : Store) : Prop where
  inj : ∀ i j, i < st.length → j < st.length → μ i = μ j → i = j
  cell : ∀ i c, st[i]? = some c → CellOk H K μ st.length c (μ i)
structure Ext (H : Hp) (μ : Nat → Addr) (n : Nat) (H' : Hp) (μ' : Nat → Addr) (n' : Nat) : Prop where
  le : n ≤ n'
  mu : ∀ i, i < n → μ' i = μ i
  fresh : ∀ i, n ≤ i → i < n' → H (μ' i) = none
  keep : ∀ a o, H a = some o → (∀ i, i < n → μ i ≠ a) → H' a = some o
  there : ∀ a, H' a = none → H a = none

section
variable {H H1 H2 H' : Hp} {K : PySem.W.Frag} {μ μ1 μ2 μ' : Nat → Addr} {n n1 n2 n' : Nat} {st st1 st2 st' : Store}
theorem Ext.refl : Ext H μ n H μ n := ⟨Nat.le_refl _, fun _ _ => rfl, fun i h1 h2 => absurd h2 (Nat.not_lt.mpr h1), fun _ _ h _ => h, fun _ h => h⟩
theorem Ext.trans (a : Ext H μ n H1 μ1 n1) (b : Ext H1 μ1 n1 H2 μ2 n2) : Ext H μ n H2 μ2 n2 where
  le := Nat.le_trans a.le b.le
  mu := fun i hi => (b.mu i (Nat.lt_of_lt_of_le hi a.le)).trans (a.mu i hi)
  fresh := fun i h1 h2 => by
    by_cases h : i < n1
    · rw [b.mu i h]; exact a.fresh i h1 h
    · exact a.there _ (b.fresh i (Nat.not_lt.mp h) h2)
  keep := fun c o e hc => by
    refine b.keep c o (a.keep c o e hc) fun i hi z => ?_
    by_cases h : i < n
    · exact hc i h ((a.mu i h).symm.trans z)
    · have := a.fresh i (Nat.not_lt.mp h) hi
      rw [z, e] at this; cases this
  there := fun c h => a.there c (b.there c h)
/-- an address out of the cells stays out of them -/
theorem Ext.out (x : Ext H μ n H' μ' n') {a : Addr} {o : HO} (h : H a = some o) (hn : ∀ i, i < n → μ i ≠ a) : ∀ i, i < n' → μ' i ≠ a := fun i hi z => by
  by_cases h1 : i < n
  · exact hn i h1 ((x.mu i h1).symm.trans z)
  · have := x.fresh i (Nat.not_lt.mp h1) hi
    rw [z, h] at this; cases this
/-- cells are lists and dicts -/
theorem Sim.kind (S : Sim H K μ st) {i : Nat} (hi : i < st.length) : (∃ vs, H (μ i) = some (.lst vs)) ∨ ∃ kvs, H (μ i) = some (.dK kvs) := by
  have h := S.cell i st[i] (List.getElem?_eq_getElem hi)
  cases e : st[i] with
  | lst xs => rw [e] at h; obtain ⟨vs, h1, _⟩ := h; exact .inl ⟨vs, h1⟩
  | dct xs => rw [e] at h; obtain ⟨vs, h1, _⟩ := h; exact .inr ⟨vs, h1⟩
  | _ => rw [e] at h; exact h.elim
theorem Sim.ne_tup (S : Sim H K μ st) {a : Addr} {vs : List V} (h : H a = some (.tup vs)) : ∀ i, i < st.length → μ i ≠ a := fun i hi z => by
  rcases S.kind hi with ⟨_, e⟩ | ⟨_, e⟩ <;> (rw [z, h] at e; cases e)
theorem Sim.ne_frz (S : Sim H K μ st) {a : Addr} {o : Obj} {u : HO} (h : H a = some (.frz o u)) : ∀ i, i < st.length → μ i ≠ a := fun i hi z => by
  rcases S.kind hi with ⟨_, e⟩ | ⟨_, e⟩ <;> (rw [z, h] at e; cases e)
theorem Ext.sqT (x : Ext H μ st.length H' μ' n') (S : Sim H K μ st) {a : Addr} {vs : List V} (h : SqT K H a vs) : SqT K H' a vs := by
  rcases h with (h | ⟨o, h⟩) | h
  · exact .inl (.inl (x.keep a _ h (S.ne_tup h)))
  · exact .inl (.inr ⟨o, x.keep a _ h (S.ne_frz h)⟩)
  · exact .inr h
theorem Ext.rd (x : Ext H μ n H' μ' n') {a : Addr} {u : HO} (h : Rd H a u) (hn : ∀ i, i < n → μ i ≠ a) : Rd H' a u := by
  rcases h with h | ⟨o, h⟩
  · exact .inl (x.keep a _ h hn)
  · exact .inr ⟨o, x.keep a _ h hn⟩
theorem Ext.rdOut (x : Ext H μ n H' μ' n') {a : Addr} {u : HO} (h : Rd H a u) (hn : ∀ i, i < n → μ i ≠ a) : ∀ i, i < n' → μ' i ≠ a := by
  rcases h with h | ⟨o, h⟩
  · exact x.out h hn
  · exact x.out h hn
mutual
theorem DV.mono (x : Ext H μ st.length H' μ' n') (S : Sim H K μ st) : ∀ {d : D} {v : V}, DV H K μ st.length d v → DV H' K μ' n' d v
  | _, _, .non => .non
  | _, _, .bl b => .bl b
  | _, _, .int i => .int i
  | _, _, .str s => .str s
  | _, _, .tup h1 h2 => .tup (x.sqT S h1) (DVs.mono x S h2)
  | _, _, .lst h1 h2 h3 => .lst (x.rd h1 h2) (x.rdOut h1 h2) (DVs.mono x S h3)
  | _, _, .dct h1 h2 h3 => .dct (x.keep _ _ h1 h2) (x.out h1 h2) (DKs.mono x S h3)
  | _, _, .ref (k := k) h => by rw [← x.mu k h]; exact .ref (Nat.lt_of_lt_of_le h x.le)
theorem DVs.mono (x : Ext H μ st.length H' μ' n') (S : Sim H K μ st) : ∀ {d : List D} {v : List V}, DVs H K μ st.length d v → DVs H' K μ' n' d v
  | _, _, .nil => .nil
  | _, _, .cons h t => .cons (DV.mono x S h) (DVs.mono x S t)
theorem DKs.mono (x : Ext H μ st.length H' μ' n') (S : Sim H K μ st) : ∀ {d : List D} {v : List (Key × V)}, DKs H K μ st.length d v → DKs H' K μ' n' d v
  | _, _, .nil => .nil
  | _, _, .cons h t => .cons (DV.mono x S h) (DKs.mono x S t)
end
theorem DVs.length : ∀ {xs : List D} {vs : List V}, DVs H K μ n xs vs → xs.length = vs.length
  | _, _, .nil => rfl
  | _, _, .cons _ t => by rw [List.length_cons, List.length_cons, DVs.length t]
theorem DKs.length : ∀ {xs : List D} {vs : List (Key × V)}, DKs H K μ n xs vs → xs.length = vs.length
  | _, _, .nil => rfl
  | _, _, .cons _ t => by rw [List.length_cons, List.length_cons, DKs.length t]
theorem DVs.get : ∀ {xs : List D} {vs : List V} {i : Nat} {x : D}, DVs H K μ n xs vs → xs[i]? = some x → ∃ v, vs[i]? = some v ∧ DV H K μ n x v
  | _, _, _, _, .nil, e => by simp at e
  | _, _, 0, _, .cons h t, e => by simp at e; subst e; exact ⟨_, rfl, h⟩
  | _, _, i + 1, x, .cons h t, e => by
    obtain ⟨v, h1, h2⟩ := DVs.get (i := i) (x := x) t (by simpa using e)
    exact ⟨v, by simpa using h1, h2⟩
theorem DVs.get' : ∀ {xs : List D} {vs : List V} {i : Nat} {v : V}, DVs H K μ n xs vs → vs[i]? = some v → ∃ x, xs[i]? = some x ∧ DV H K μ n x v
  | _, _, _, _, .nil, e => by simp at e
  | _, _, 0, _, .cons h t, e => by simp at e; subst e; exact ⟨_, rfl, h⟩
  | _, _, i + 1, x, .cons h t, e => by
    obtain ⟨v, h1, h2⟩ := DVs.get' (i := i) (v := x) t (by simpa using e)
    exact ⟨v, by simpa using h1, h2⟩
theorem DVs.append : ∀ {xs ys : List D} {vs ws : List V}, DVs H K μ n xs vs → DVs H K μ n ys ws → DVs H K μ n (xs ++ ys) (vs ++ ws)
  | _, _, _, _, .nil, s => s
  | _, _, _, _, .cons h t, s => .cons h (DVs.append t s)
theorem DVs.take : ∀ {xs : List D} {vs : List V} (k : Nat), DVs H K μ n xs vs → DVs H K μ n (xs.take k) (vs.take k)
  | _, _, 0, _ => .nil
  | _, _, _ + 1, .nil => .nil
  | _, _, k + 1, .cons h t => .cons h (DVs.take k t)
theorem DVs.drop : ∀ {xs : List D} {vs : List V} (k : Nat), DVs H K μ n xs vs → DVs H K μ n (xs.drop k) (vs.drop k)
  | _, _, 0, h => h
  | _, _, _ + 1, .nil => .nil
  | _, _, k + 1, .cons h t => DVs.drop k t
theorem DVs.set {x : D} {v : V} (h : DV H K μ n x v) : ∀ {xs : List D} {vs : List V} (i : Nat), DVs H K μ n xs vs → DVs H K μ n (xs.set i x) (vs.set i v)
  | _, _, _, .nil => .nil
  | _, _, 0, .cons _ t => .cons h t
  | _, _, i + 1, .cons q t => .cons q (DVs.set h i t)

theorem Ext.new {p : Addr} {o : HO} (hp : H p = none) : Ext H μ n (upd H p o) μ n where
  le := Nat.le_refl _
  mu := fun _ _ => rfl
  fresh := fun i h1 h2 => absurd h2 (Nat.not_lt.mpr h1)
  keep := fun a o e _ => by rw [upd_ne (ne_of_none e hp)]; exact e
  there := fun a h => by
    by_cases e : a = p
    · subst e; exact hp
    · rwa [upd_ne e] at h
theorem Sim.ne_none (S : Sim H K μ st) {a : Addr} (h : H a = none) : ∀ i, i < st.length → μ i ≠ a := fun i hi z => by
  rcases S.kind hi with ⟨_, e⟩ | ⟨_, e⟩ <;> (rw [z, h] at e; cases e)
theorem CellOk.mono (x : Ext H μ st.length H' μ' n') (S : Sim H K μ st) {c : D} {a a' : Addr} (e : H' a' = H a) (h : CellOk H K μ st.length c a) : CellOk H' K μ' n' c a' := by
  cases c with
  | lst xs => obtain ⟨vs, h1, h2⟩ := h; exact ⟨vs, e.trans h1, DVs.mono x S h2⟩
  | dct xs => obtain ⟨vs, h1, h2⟩ := h; exact ⟨vs, e.trans h1, DKs.mono x S h2⟩
  | _ => exact h.elim
theorem Sim.new {p : Addr} {o : HO} (S : Sim H K μ st) (hp : H p = none) : Sim (upd H p o) K μ st :=
  ⟨S.inj, fun i c e => (S.cell i c e).mono (Ext.new hp) S (upd_ne (S.ne_none hp i (List.getElem?_eq_some_iff.mp e).1))⟩
/-- the cell k is changed -/
theorem Ext.cell {k : Nat} {o : HO} (hk : k < n) (h0 : H (μ k) ≠ none) : Ext H μ n (upd H (μ k) o) μ n where
  le := Nat.le_refl _
  mu := fun _ _ => rfl
  fresh := fun i h1 h2 => absurd h2 (Nat.not_lt.mpr h1)
  keep := fun a o e hn => by rw [upd_ne (Ne.symm (hn k hk))]; exact e
  there := fun a h => by
    by_cases e : a = μ k
    · subst e; rw [upd_same] at h; cases h
    · rwa [upd_ne e] at h
theorem Sim.cellSet {k : Nat} {o : HO} {c : D} (S : Sim H K μ st) (hk : k < st.length) (ok : CellOk (upd H (μ k) o) K μ st.length c (μ k)) : Sim (upd H (μ k) o) K μ (st.set k c) := by
  have h0 : H (μ k) ≠ none := by rcases S.kind hk with ⟨_, e⟩ | ⟨_, e⟩ <;> (rw [e]; simp)
  refine ⟨fun i j hi hj => S.inj i j (by simpa using hi) (by simpa using hj), fun i d e => ?_⟩
  have hl : (st.set k c).length = st.length := List.length_set
  rw [hl]
  by_cases hik : k = i
  · subst hik
    rw [List.getElem?_set_self hk] at e
    cases e
    exact ok
  · rw [List.getElem?_set_ne hik] at e
    have hi := (List.getElem?_eq_some_iff.mp e).1
    exact (S.cell i d e).mono (Ext.cell hk h0) S (upd_ne fun z => hik (S.inj k i hk hi z.symm))
/-- an address becomes a new cell -/
def muAt (μ : Nat → Addr) (n : Nat) (a : Addr) : Nat → Addr := fun i => if i = n then a else μ i
theorem muAt_old {μ : Nat → Addr} {n i : Nat} {a : Addr} (h : i < n) : muAt μ n a i = μ i := by
  unfold muAt
  rw [if_neg (by omega)]
theorem muAt_new {μ : Nat → Addr} {n : Nat} {a : Addr} : muAt μ n a n = a := by
  unfold muAt
  rw [if_pos rfl]
theorem Ext.thaw {a : Addr} {o : HO} (h : H a = none) : Ext H μ n (upd H a o) (muAt μ n a) (n + 1) where
  le := Nat.le_succ _
  mu := fun i hi => muAt_old hi
  fresh := fun i h1 h2 => by
    have e : i = n := by omega
    subst e
    rw [muAt_new]; exact h
  keep := fun b u e _ => by rw [upd_ne (ne_of_none e h)]; exact e
  there := fun b e => by
    by_cases q : b = a
    · subst q; exact h
    · rwa [upd_ne q] at e
theorem Sim.thaw {a : Addr} {o : HO} {c : D} (S : Sim H K μ st) (h : H a = none) (ok : CellOk (upd H a o) K (muAt μ st.length a) (st.length + 1) c a) : Sim (upd H a o) K (muAt μ st.length a) (st ++ [c]) := by
  have out := S.ne_none h
  refine ⟨fun i j hi hj e => ?_, fun i d e => ?_⟩
  · rw [List.length_append, List.length_singleton] at hi hj
    by_cases h1 : i < st.length
    · by_cases h2 : j < st.length
      · rw [muAt_old h1, muAt_old h2] at e; exact S.inj i j h1 h2 e
      · have : j = st.length := by omega
        subst this
        rw [muAt_old h1, muAt_new] at e; exact absurd e (out i h1)
    · have : i = st.length := by omega
      subst this
      by_cases h2 : j < st.length
      · rw [muAt_old h2, muAt_new] at e; exact absurd e.symm (out j h2)
      · omega
  · rw [List.length_append, List.length_singleton]
    by_cases h1 : i < st.length
    · rw [List.getElem?_append_left h1] at e
      rw [muAt_old h1]
      exact (S.cell i d e).mono (Ext.thaw h) S (upd_ne (out i h1))
    · have hl := (List.getElem?_eq_some_iff.mp e).1
      rw [List.length_append, List.length_singleton] at hl
      have : i = st.length := by omega
      subst this
      rw [List.getElem?_append_right (Nat.le_refl _)] at e
      simp at e
      subst e
      rw [muAt_new]
      exact ok
end

/-- what the evaluator sees of the heap, where its cells lie, the store -/
structure Z where
  he : Hp
  mu : Nat → Addr
  st : Store
abbrev Z.n (z : Z) : Nat := z.st.length
structure Ok (K : PySem.W.Frag) (H : Hp) (z : Z) : Prop where
  sub : ∀ a o, z.he a = some o → H a = some o
  sim : Sim z.he K z.mu z.st
structure To (H : Hp) (z : Z) (H' : Hp) (z' : Z) : Prop where
  ext : Ext z.he z.mu z.n z'.he z'.mu z'.n
  hid : ∀ a o, H a = some o → z.he a = none → H' a = some o ∧ z'.he a = none
  there : ∀ a, H' a = none → H a = none
abbrev DVz (K : PySem.W.Frag) (z : Z) (d : D) (v : V) : Prop := DV z.he K z.mu z.n d v
abbrev DVsz (K : PySem.W.Frag) (z : Z) (d : List D) (v : List V) : Prop := DVs z.he K z.mu z.n d v
abbrev DKsz (K : PySem.W.Frag) (z : Z) (d : List D) (v : List (Key × V)) : Prop := DKs z.he K z.mu z.n d v
def EnvR (K : PySem.W.Frag) (z : Z) (en : En) (σ : L2.St) : Prop := en.length = σ.length ∧ ∀ (i : Nat) (d : D), en[i]? = some (some d) → ∃ v, σ[i]? = some (some v) ∧ DVz K z d v
section
variable {K : PySem.W.Frag} {H H1 H2 H' : Hp} {z z1 z2 z' : Z} {en : En} {σ : L2.St} {d : D} {v : V}
theorem To.refl : To H z H z := ⟨.refl, fun _ _ h e => ⟨h, e⟩, fun _ h => h⟩
theorem To.trans (a : To H z H1 z1) (b : To H1 z1 H2 z2) : To H z H2 z2 :=
  ⟨a.ext.trans b.ext, fun c o h e => by
    obtain ⟨h1, e1⟩ := a.hid c o h e
    exact b.hid c o h1 e1, fun c h => a.there c (b.there c h)⟩
theorem Ok.dv (ok : Ok K H z) (t : To H z H' z') (h : DVz K z d v) : DVz K z' d v := h.mono t.ext ok.sim
theorem Ok.dvs (ok : Ok K H z) (t : To H z H' z') {ds : List D} {vs : List V} (h : DVsz K z ds vs) : DVsz K z' ds vs := h.mono t.ext ok.sim
theorem Ok.env (ok : Ok K H z) (t : To H z H' z') (h : EnvR K z en σ) : EnvR K z' en σ := ⟨h.1, fun i d e => by
  obtain ⟨v, h1, h2⟩ := h.2 i d e
  exact ⟨v, h1, ok.dv t h2⟩⟩
theorem Ok.rd (ok : Ok K H z) {a : Addr} {u : HO} (h : Rd z.he a u) : Rd H a u := by
  rcases h with h | ⟨o, h⟩
  · exact .inl (ok.sub _ _ h)
  · exact .inr ⟨o, ok.sub _ _ h⟩
theorem Ok.sqT (ok : Ok K H z) {a : Addr} {vs : List V} (h : SqT K z.he a vs) : SqT K H a vs := by
  rcases h with h | h
  · exact .inl (ok.rd h)
  · exact .inr h
theorem Ok.none (ok : Ok K H z) {a : Addr} (h : H a = Option.none) : z.he a = Option.none := by
  cases e : z.he a with
  | none => rfl
  | some o => rw [ok.sub a o e] at h; cases h
theorem EnvR.set (h : EnvR K z en σ) (hv : DVz K z d v) (i : Nat) : EnvR K z (en.set i (some d)) (σ.set i (some v)) := by
  refine ⟨by rw [List.length_set, List.length_set]; exact h.1, fun j e hj => ?_⟩
  by_cases hij : i = j
  · subst hij
    by_cases hl : i < en.length
    · rw [List.getElem?_set_self hl] at hj
      cases hj
      exact ⟨v, by rw [List.getElem?_set_self (by rw [← h.1]; exact hl)], hv⟩
    · rw [List.getElem?_eq_none (by rw [List.length_set]; omega)] at hj; cases hj
  · rw [List.getElem?_set_ne hij] at hj ⊢
    exact h.2 j e hj
/-- a new object, seen -/
def Z.put (z : Z) (p : Addr) (o : HO) : Z := { z with he := upd z.he p o }
theorem Ok.put (ok : Ok K H z) {p : Addr} {o : HO} (hp : H p = Option.none) : Ok K (upd H p o) (z.put p o) :=
  ⟨fun a u e => by
    have e : upd z.he p o a = some u := e
    by_cases q : a = p
    · subst q; rw [upd_same] at e ⊢; exact e
    · rw [upd_ne q] at e ⊢; exact ok.sub a u e, ok.sim.new (ok.none hp)⟩
theorem To.put (ok : Ok K H z) {p : Addr} {o : HO} (hp : H p = Option.none) : To H z (upd H p o) (z.put p o) :=
  ⟨Ext.new (ok.none hp), fun a u e q => by
    have hne : a ≠ p := ne_of_none e hp
    exact ⟨by rw [upd_ne hne]; exact e, by show upd z.he p o a = _; rw [upd_ne hne]; exact q⟩, fun a e => by
    by_cases q : a = p
    · subst q; exact hp
    · rwa [upd_ne q] at e⟩
/-- a new object, not seen -/
theorem Ok.hide (ok : Ok K H z) {p : Addr} {o : HO} (hp : H p = Option.none) : Ok K (upd H p o) z :=
  ⟨fun a u e => by
    have h1 := ok.sub a u e
    rw [upd_ne (ne_of_none h1 hp)]; exact h1, ok.sim⟩
/-- the cell k is changed -/
def Z.cell (z : Z) (k : Nat) (o : HO) (c : D) : Z := { z with he := upd z.he (z.mu k) o, st := z.st.set k c }
theorem Z.cell_n {k : Nat} {o : HO} {c : D} : (z.cell k o c).n = z.n := by unfold Z.n Z.cell; simp
theorem Sim.there {μ : Nat → Addr} {st : Store} (S : Sim H K μ st) {k : Nat} (hk : k < st.length) : H (μ k) ≠ Option.none := by
  rcases S.kind hk with ⟨_, e⟩ | ⟨_, e⟩ <;> (rw [e]; simp)
theorem Ok.cell (ok : Ok K H z) {k : Nat} {o : HO} {c : D} (hk : k < z.n) (h : CellOk (upd z.he (z.mu k) o) K z.mu z.n c (z.mu k)) : Ok K (upd H (z.mu k) o) (z.cell k o c) :=
  ⟨fun a u e => by
    have e : upd z.he (z.mu k) o a = some u := e
    by_cases q : a = z.mu k
    · subst q; rw [upd_same] at e ⊢; exact e
    · rw [upd_ne q] at e ⊢; exact ok.sub a u e, ok.sim.cellSet hk h⟩
theorem To.cell (ok : Ok K H z) {k : Nat} {o : HO} {c : D} (hk : k < z.n) : To H z (upd H (z.mu k) o) (z.cell k o c) := by
  refine ⟨?_, fun a u e q => ?_, fun a e => ?_⟩
  · rw [Z.cell_n]; exact Ext.cell hk (ok.sim.there hk)
  · have hne : a ≠ z.mu k := fun w => ok.sim.there hk (w ▸ q)
    exact ⟨by rw [upd_ne hne]; exact e, by show upd z.he (z.mu k) o a = _; rw [upd_ne hne]; exact q⟩
  · by_cases q : a = z.mu k
    · subst q; rw [upd_same] at e; cases e
    · rwa [upd_ne q] at e
end

def isBox : D → Bool
  | .lst _ => true
  | .dct _ => true
  | _ => false
/-- a list or dict that is new and that nobody else knows -/
def FreshOk (K : PySem.W.Frag) (z z' : Z) (d : D) (v : V) : Prop := ∃ (h0 : Hp) (a : Addr), v = .ref a ∧ h0 a = none ∧ Ext z.he z.mu z.n h0 z'.mu z'.n ∧ Sim h0 K z'.mu z'.st ∧ (match d with
  | .lst xs => ∃ vs, z'.he = upd h0 a (.lst vs) ∧ DVs h0 K z'.mu z'.n xs vs
  | .dct es => ∃ kvs, z'.he = upd h0 a (.dK kvs) ∧ DKs h0 K z'.mu z'.n es kvs
  | _ => True)
theorem FreshOk.trans {K : PySem.W.Frag} {H H1 : Hp} {z z1 z2 : Z} {d : D} {v : V} (a : To H z H1 z1) (b : FreshOk K z1 z2 d v) : FreshOk K z z2 d v := by
  obtain ⟨h0, p, e, hn, x, r⟩ := b
  exact ⟨h0, p, e, hn, a.ext.trans x, r⟩
def Frs (K : PySem.W.Frag) (fr : Bool) (z z' : Z) (d : D) (v : V) : Prop := fr = true → isBox d = true → FreshOk K z z' d v
theorem Frs.no {K : PySem.W.Frag} {z z' : Z} {d : D} {v : V} : Frs K false z z' d v := fun h => by cases h
def End (K : PySem.W.Frag) (fr : Bool) (H : Hp) (z : Z) (d : D) (st' : Store) (Q : VK) : Prop :=
  ∀ H' z' v, z'.st = st' → Ok K H' z' → To H z H' z' → DVz K z' d v → Frs K fr z z' d v → Q v H'
theorem End.trans {K : PySem.W.Frag} {fr : Bool} {H H1 : Hp} {z z1 : Z} {d : D} {st' : Store} {Q : VK} (a : To H z H1 z1) (q : End K fr H z d st' Q) : End K fr H1 z1 d st' Q :=
  fun H' z' v e ok t dv f => q H' z' v e ok (a.trans t) dv fun h1 h2 => (f h1 h2).trans a
theorem End.weak {K : PySem.W.Frag} {fr : Bool} {H : Hp} {z : Z} {d : D} {st' : Store} {Q : VK} (q : End K false H z d st' Q) : End K fr H z d st' Q :=
  fun H' z' v e ok t dv _ => q H' z' v e ok t dv .no
/-- nothing changes -/
theorem End.same {K : PySem.W.Frag} {H : Hp} {z : Z} {d : D} {Q : VK} {v : V} (q : End K false H z d z.st Q) (ok : Ok K H z) (dv : DVz K z d v) : Q v H := q H z v rfl ok .refl dv .no
/-- a new tuple, list -/
theorem End.tup {K : PySem.W.Frag} {fr : Bool} {H : Hp} {z : Z} {xs : List D} {vs : List V} {Q : VK} (q : End K fr H z (.tup xs) z.st Q) (ok : Ok K H z) (dv : DVsz K z xs vs) : ∀ p, H p = none → Q (.ref p) (upd H p (.tup vs)) := fun p hp =>
  q _ (z.put p (.tup vs)) _ rfl (ok.put hp) (.put ok hp) (.tup (.inl (.inl upd_same)) (ok.dvs (.put ok hp) dv)) fun _ h => by cases h
theorem End.lst {K : PySem.W.Frag} {fr : Bool} {H : Hp} {z : Z} {xs : List D} {vs : List V} {Q : VK} (q : End K fr H z (.lst xs) z.st Q) (ok : Ok K H z) (dv : DVsz K z xs vs) : ∀ p, H p = none → Q (.ref p) (upd H p (.lst vs)) := fun p hp =>
  q _ (z.put p (.lst vs)) _ rfl (ok.put hp) (.put ok hp) (.lst (.inl upd_same) (ok.sim.ne_none (ok.none hp)) (ok.dvs (.put ok hp) dv)) fun _ _ => ⟨z.he, p, rfl, ok.none hp, .refl, ok.sim, vs, rfl, dv⟩
theorem End.dct {K : PySem.W.Frag} {fr : Bool} {H : Hp} {z : Z} {es : List D} {kvs : List (Key × V)} {Q : VK} (q : End K fr H z (.dct es) z.st Q) (ok : Ok K H z) (dv : DKsz K z es kvs) : ∀ p, H p = none → Q (.ref p) (upd H p (.dK kvs)) := fun p hp =>
  q _ (z.put p (.dK kvs)) _ rfl (ok.put hp) (.put ok hp) (.dct upd_same (ok.sim.ne_none (ok.none hp)) (dv.mono (To.put ok hp).ext ok.sim)) fun _ _ => ⟨z.he, p, rfl, ok.none hp, .refl, ok.sim, kvs, rfl, dv⟩

section
variable {K : PySem.W.Frag} {H : Hp} {z : Z} {d : D} {v : V}
theorem view_ref {n : Nat} {c : D} (h : z.st[n]? = some c) : view z.st (.ref n) = c := by
  show (z.st[n]?).getD _ = c
  rw [h]; rfl
theorem view_cases (ok : Ok K H z) (dv : DVz K z d v) : (view z.st d = d ∧ ∀ n, d ≠ .ref n) ∨ ∃ n c, d = .ref n ∧ n < z.n ∧ z.st[n]? = some c ∧ view z.st d = c ∧ v = .ref (z.mu n) ∧ CellOk z.he K z.mu z.n c (z.mu n) := by
  cases dv with
  | ref h =>
    rename_i k
    have e := List.getElem?_eq_getElem h
    exact .inr ⟨k, _, rfl, h, e, view_ref e, rfl, ok.sim.cell k _ e⟩
  | _ => exact .inl ⟨rfl, fun n => by intro z; cases z⟩
theorem view_tup {xs : List D} (ok : Ok K H z) (dv : DVz K z d v) (e : view z.st d = .tup xs) : ∃ a vs, v = .ref a ∧ SqT K z.he a vs ∧ DVsz K z xs vs := by
  rcases view_cases ok dv with ⟨h, _⟩ | ⟨n, c, _, _, _, h, _, k⟩
  · rw [h] at e; subst e
    cases dv with
    | tup h1 h2 => exact ⟨_, _, rfl, h1, h2⟩
  · rw [h] at e; subst e; exact k.elim
theorem view_lst {xs : List D} (ok : Ok K H z) (dv : DVz K z d v) (e : view z.st d = .lst xs) : ∃ a vs, v = .ref a ∧ Rd z.he a (.lst vs) ∧ DVsz K z xs vs := by
  rcases view_cases ok dv with ⟨h, _⟩ | ⟨n, c, _, _, _, h, hv, k⟩
  · rw [h] at e; subst e
    cases dv with
    | lst h1 _ h2 => exact ⟨_, _, rfl, h1, h2⟩
  · rw [h] at e; subst e
    obtain ⟨vs, h1, h2⟩ := k
    exact ⟨_, vs, hv, .inl h1, h2⟩
theorem view_dct {es : List D} (ok : Ok K H z) (dv : DVz K z d v) (e : view z.st d = .dct es) : ∃ a kvs, v = .ref a ∧ z.he a = some (.dK kvs) ∧ DKsz K z es kvs := by
  rcases view_cases ok dv with ⟨h, _⟩ | ⟨n, c, _, _, _, h, hv, k⟩
  · rw [h] at e; subst e
    cases dv with
    | dct h1 _ h2 => exact ⟨_, _, rfl, h1, h2⟩
  · rw [h] at e; subst e
    obtain ⟨vs, h1, h2⟩ := k
    exact ⟨_, vs, hv, h1, h2⟩
/-- what is no list, no dict shows itself -/
theorem view_flat (ok : Ok K H z) (dv : DVz K z d v) (h : isBox (view z.st d) = false) : view z.st d = d := by
  rcases view_cases ok dv with ⟨h, _⟩ | ⟨n, c, _, _, _, h1, hv, k⟩
  · exact h
  · rw [h1] at h
    cases c with
    | lst xs => cases h
    | dct xs => cases h
    | _ => exact k.elim
theorem view_int {i : Int} (ok : Ok K H z) (dv : DVz K z d v) (e : view z.st d = .int i) : d = .int i ∧ v = .int i := by
  have h := view_flat ok dv (by rw [e]; rfl)
  rw [h] at e; subst e; cases dv; exact ⟨rfl, rfl⟩
theorem view_str {i : Str} (ok : Ok K H z) (dv : DVz K z d v) (e : view z.st d = .str i) : d = .str i ∧ v = .str i := by
  have h := view_flat ok dv (by rw [e]; rfl)
  rw [h] at e; subst e; cases dv; exact ⟨rfl, rfl⟩
theorem view_bl {i : Bool} (ok : Ok K H z) (dv : DVz K z d v) (e : view z.st d = .bl i) : d = .bl i ∧ v = .bl i := by
  have h := view_flat ok dv (by rw [e]; rfl)
  rw [h] at e; subst e; cases dv; exact ⟨rfl, rfl⟩
theorem view_non (ok : Ok K H z) (dv : DVz K z d v) (e : view z.st d = .non) : d = .non ∧ v = .non := by
  have h := view_flat ok dv (by rw [e]; rfl)
  rw [h] at e; subst e; cases dv; exact ⟨rfl, rfl⟩
end

theorem bind_ok {α β : Type} {r : R α} {f : α → Store → R β} {b : β} {st' : Store} (h : r.bind f = .ok b st') : ∃ a s1, r = .ok a s1 ∧ f a s1 = .ok b st' := by
  cases r with
  | ok a s => exact ⟨a, s, rfl, h⟩
  | exc e s => cases h
  | bad => cases h
theorem opt_ok {α : Type} {o : Option α} {st st' : Store} {a : α} (h : opt o st = .ok a st') : o = some a ∧ st' = st := by
  cases o with
  | none => cases h
  | some b => cases h; exact ⟨rfl, rfl⟩
theorem guard_ok {α : Type} {b : Bool} {r : R α} {a : α} {st' : Store} (h : guardB b r = .ok a st') : b = true ∧ r = .ok a st' := by
  unfold guardB at h
  cases b with
  | true => exact ⟨rfl, h⟩
  | false => cases h
end PyE

namespace PyE
open PySem PySem.Spec PyProof.Rows L2

def bopOf : BOp → Operator
  | .add => .Add | .sub => .Sub | .mul => .Mult | .fdiv => .FloorDiv | .mod => .Mod | .pow => .Pow | .xor => .BitXor
def copOf : COp → CmpOp
  | .eq => .Eq | .ne => .NotEq | .lt => .Lt | .le => .LtE | .gt => .Gt | .ge => .GtE | .is => .Is | .isnot => .IsNot | .in_ => .In | .notin => .NotIn
def rD1 (K : PySem.W.Frag) (fr : Bool) (f : D → Store → R D) : V → Hp → VK → Prop := fun x H Q =>
  ∃ z dx d st', Ok K H z ∧ DVz K z dx x ∧ f dx z.st = .ok d st' ∧ End K fr H z d st' Q
def rD2 (K : PySem.W.Frag) (fr : Bool) (f : D → D → Store → R D) : R2 := fun x y H Q =>
  ∃ z dx dy d st', Ok K H z ∧ DVz K z dx x ∧ DVz K z dy y ∧ f dx dy z.st = .ok d st' ∧ End K fr H z d st' Q
theorem line_eq : line = sizeLine := by rw [sizeLine_eq]; rfl
theorem End.same' {K : PySem.W.Frag} {fr : Bool} {H : Hp} {z : Z} {d : D} {Q : VK} {v : V} (q : End K fr H z d z.st Q) (hb : isBox d = false) (ok : Ok K H z) (dv : DVz K z d v) : Q v H :=
  q H z v rfl ok .refl dv fun _ h => by rw [hb] at h; cases h
section
variable {X : Cx}
/-- list + list, of lists that are read -/
theorem op_catR : OpR X (binaryOp .Add) (fun x y H Q => ∃ l b xs zs, x = .ref l ∧ y = .ref b ∧ Rd H l (.lst xs) ∧ Rd H b (.lst zs) ∧ xs.length + zs.length ≤ sizeLine ∧ ∀ p, H p = none → Q (.ref p) (upd H p (.lst (xs ++ zs)))) := by
  intro pins s σ H x y v u Q I rx ry h
  obtain ⟨l, b, xs, zs, rfl, rfl, hH, hB, hz, q⟩ := h
  cases rx
  cases ry
  obtain ⟨z, its, n, r, e⟩ := hH.ok I.hok
  obtain ⟨z2, its2, n2, r2, e2⟩ := hB.ok I.hok
  have hl := r.length
  have hl2 := r2.length
  refine PySem.P.add_list e e2 ?_ (by rw [List.size_toArray, List.size_toArray]; omega)
  have ea : its.toArray ++ its2.toArray = (its ++ its2).toArray := by simp
  rw [ea]
  exact ⟨.ref _, _, I.lnew (t' := s.toks) (r.append r2) (by rw [List.length_append]; omega), rfl, q _ I.fresh⟩
theorem mulOk_C {i j : Int} (h : mulOk i j = true) : CMul i j := by
  unfold mulOk at h
  simp only [Bool.or_eq_true, Bool.and_eq_true, decide_eq_true_eq] at h
  unfold CMul
  rcases h with h | h
  · exact .inl ⟨by omega, by omega⟩
  · exact .inr ⟨by omega, by omega⟩
theorem nil_of_DVs {H : Hp} {K : PySem.W.Frag} {μ : Nat → Addr} {n : Nat} {xs : List D} (h : DVs H K μ n xs []) : xs = [] := by cases h; rfl
theorem DVs.nil_iff {H : Hp} {K : PySem.W.Frag} {μ : Nat → Addr} {n : Nat} {xs : List D} {vs : List V} (h : DVs H K μ n xs vs) : xs = [] ↔ vs = [] := by
  cases h with
  | nil => simp
  | cons a b => simp
theorem DVsz.rep {K : PySem.W.Frag} {z : Z} {ds : List D} {vs : List V} (h : DVsz K z ds vs) : ∀ n : Nat, DVsz K z (List.replicate n ds).flatten (List.replicate n vs).flatten
  | 0 => .nil
  | n + 1 => by
    rw [List.replicate_succ, List.flatten_cons, List.replicate_succ, List.flatten_cons]
    exact h.append (DVsz.rep h n)
theorem op_bin (op : BOp) : OpR X (binaryOp (bopOf op)) (rD2 X.K true (binD op)) := by
  intro pins s σ H x y v u Q I rx ry h
  obtain ⟨z, dx, dy, d, st', ok, vx, vy, he, q⟩ := h
  unfold binD at he
  split at he
  · rename_i hx hy
    obtain ⟨rfl, rfl⟩ := view_int ok vx hx
    obtain ⟨rfl, rfl⟩ := view_int ok vy hy
    cases he
    exact op_add pins s σ H _ _ v u Q I rx ry ⟨_, _, rfl, rfl, q.same' rfl ok (.int _)⟩
  · rename_i hx hy
    obtain ⟨rfl, rfl⟩ := view_str ok vx hx
    obtain ⟨rfl, rfl⟩ := view_str ok vy hy
    obtain ⟨hl, he⟩ := guard_ok he
    cases he
    exact op_add_str pins s σ H _ _ v u Q I rx ry ⟨_, _, rfl, rfl, by rw [← line_eq]; exact of_decide_eq_true hl, q.same' rfl ok (.str _)⟩
  · rename_i hx hy
    obtain ⟨a, vs, rfl, h1, h2⟩ := view_tup ok vx hx
    obtain ⟨b, ws, rfl, h3, h4⟩ := view_tup ok vy hy
    obtain ⟨hl, he⟩ := guard_ok he
    cases he
    have l1 := h2.length
    have l2 := h4.length
    have hz : vs.length + ws.length ≤ sizeLine := by rw [← line_eq, ← l1, ← l2]; exact of_decide_eq_true hl
    refine op_catA pins s σ H _ _ v u Q I rx ry ⟨a, b, vs, ws, rfl, rfl, ok.sqT h1, ok.sqT h3, hz, fun e => ?_, fun e1 e => ?_, fun _ _ => q.tup ok (h2.append h4)⟩
    · have e2 := h2.nil_iff.mpr e
      subst e2
      exact q.same' rfl ok (.tup h3 (by simpa using h4))
    · have e2 := h4.nil_iff.mpr e
      subst e2
      exact q.same' rfl ok (.tup h1 (by simpa using h2))
  · rename_i hx hy
    obtain ⟨a, vs, rfl, h1, h2⟩ := view_lst ok vx hx
    obtain ⟨b, ws, rfl, h3, h4⟩ := view_lst ok vy hy
    obtain ⟨hl, he⟩ := guard_ok he
    cases he
    have l1 := h2.length
    have l2 := h4.length
    have hz : vs.length + ws.length ≤ sizeLine := by rw [← line_eq, ← l1, ← l2]; exact of_decide_eq_true hl
    exact op_catR pins s σ H _ _ v u Q I rx ry ⟨a, b, vs, ws, rfl, rfl, ok.rd h1, ok.rd h3, hz, q.lst ok (h2.append h4)⟩
  · rename_i hx hy
    obtain ⟨rfl, rfl⟩ := view_int ok vx hx
    obtain ⟨rfl, rfl⟩ := view_int ok vy hy
    cases he
    exact op_sub pins s σ H _ _ v u Q I rx ry ⟨_, _, rfl, rfl, q.same' rfl ok (.int _)⟩
  · rename_i hx hy
    obtain ⟨rfl, rfl⟩ := view_int ok vx hx
    obtain ⟨rfl, rfl⟩ := view_int ok vy hy
    obtain ⟨hl, he⟩ := guard_ok he
    cases he
    exact op_mul pins s σ H _ _ v u Q I rx ry ⟨_, _, rfl, rfl, mulOk_C hl, q.same' rfl ok (.int _)⟩
  · rename_i hx hy
    obtain ⟨rfl, rfl⟩ := view_int ok vx hx
    obtain ⟨rfl, rfl⟩ := view_int ok vy hy
    obtain ⟨hl, he⟩ := guard_ok he
    simp only [Bool.and_eq_true, decide_eq_true_eq] at hl
    cases he
    exact op_fdiv pins s σ H _ _ v u Q I rx ry ⟨_, _, rfl, rfl, hl, q.same' rfl ok (.int _)⟩
  · rename_i hx hy
    obtain ⟨rfl, rfl⟩ := view_int ok vx hx
    obtain ⟨rfl, rfl⟩ := view_int ok vy hy
    obtain ⟨hl, he⟩ := guard_ok he
    simp only [decide_eq_true_eq] at hl
    cases he
    exact op_mod pins s σ H _ _ v u Q I rx ry ⟨_, _, rfl, rfl, hl, q.same' rfl ok (.int _)⟩
  · rename_i hx hy
    obtain ⟨rfl, rfl⟩ := view_int ok vx hx
    obtain ⟨rfl, rfl⟩ := view_int ok vy hy
    obtain ⟨hl, he⟩ := guard_ok he
    simp only [Bool.and_eq_true, decide_eq_true_eq] at hl
    cases he
    exact op_pow pins s σ H _ _ v u Q I rx ry ⟨_, _, rfl, rfl, ⟨hl.1.1, hl.1.2, by omega⟩, q.same' rfl ok (.int _)⟩
  · rename_i hx hy
    obtain ⟨rfl, rfl⟩ := view_int ok vx hx
    obtain ⟨rfl, rfl⟩ := view_int ok vy hy
    cases he
    exact op_xor pins s σ H _ _ v u Q I rx ry ⟨_, _, rfl, rfl, q.same' rfl ok (.int _)⟩
  · rename_i hx hy
    obtain ⟨a, vs, rfl, h1, h2⟩ := view_tup ok vx hx
    obtain ⟨rfl, rfl⟩ := view_int ok vy hy
    obtain ⟨hl, he⟩ := guard_ok he
    cases he
    simp only [Bool.and_eq_true, decide_eq_true_eq, Bool.not_eq_true'] at hl
    obtain ⟨⟨⟨l1, l2⟩, l3⟩, l4⟩ := hl
    have hl := h2.length
    refine op_repT pins s σ H _ _ v u Q I rx ry ⟨a, _, vs, rfl, rfl, ok.sqT h1, fun e => ?_, l2, l3, by omega, fun p hp => q.tup ok (DVsz.rep h2 _) p hp⟩
    have e2 := h2.nil_iff.mpr e
    rw [e2] at l1
    cases l1
  · cases he

mutual
theorem dp_of {H : Hp} {K : PySem.W.Frag} {z : Z} (ok : Ok K H z) : ∀ {d : D} {v : V} {p : PyData}, DVz K z d v → d.py = some p → Dp K H v p
  | _, _, _, .non, e => by simp [D.py] at e; subst e; exact .non
  | _, _, _, .bl b, e => by simp [D.py] at e; subst e; exact .bl b
  | _, _, _, .int b, e => by simp [D.py] at e; subst e; exact .int b
  | _, _, _, .str b, e => by simp [D.py] at e; subst e; exact .str b
  | _, _, _, .tup h1 h2, e => by
    simp only [D.py, Option.map_eq_some_iff] at e
    obtain ⟨ps, e1, e2⟩ := e
    subst e2
    exact .tup (ok.sqT h1) (dps_of ok h2 e1)
  | _, _, _, .lst h1 _ h2, e => by
    simp only [D.py, Option.map_eq_some_iff] at e
    obtain ⟨ps, e1, e2⟩ := e
    subst e2
    exact .lst (.inl (ok.rd h1)) (dps_of ok h2 e1)
  | _, _, _, .dct _ _ _, e => by simp [D.py] at e
  | _, _, _, .ref _, e => by simp [D.py] at e
theorem dps_of {H : Hp} {K : PySem.W.Frag} {z : Z} (ok : Ok K H z) : ∀ {d : List D} {v : List V} {p : List PyData}, DVsz K z d v → D.pyL d = some p → DpAll K H v p
  | _, _, _, .nil, e => by simp [D.pyL] at e; subst e; exact .nil
  | _, _, _, .cons h t, e => by
    simp only [D.pyL, Option.bind_eq_some_iff, Option.map_eq_some_iff] at e
    obtain ⟨a, e1, b, e2, e3⟩ := e
    subst e3
    exact .cons (dp_of ok h e1) (dps_of ok t e2)
end
theorem dp_view {H : Hp} {K : PySem.W.Frag} {z : Z} {d : D} {v : V} {p : PyData} (ok : Ok K H z) (dv : DVz K z d v) (e : (view z.st d).py = some p) : Dp K H v p := by
  rcases view_cases ok dv with ⟨h, _⟩ | ⟨n, c, _, _, _, h, hv, k⟩
  · rw [h] at e; exact dp_of ok dv e
  · rw [h] at e
    cases c with
    | lst xs =>
      obtain ⟨vs, h1, h2⟩ := k
      subst hv
      simp only [D.py, Option.map_eq_some_iff] at e
      obtain ⟨ps, e1, e2⟩ := e
      subst e2
      exact .lst (.inl (ok.rd (.inl h1))) (dps_of ok h2 e1)
    | dct xs => simp [D.py] at e
    | _ => exact k.elim
theorem eqD_ok {H : Hp} {K : PySem.W.Frag} {z : Z} {dx dy : D} {x y : V} {b : Bool} (ok : Ok K H z) (vx : DVz K z dx x) (vy : DVz K z dy y) (e : eqD z.st dx dy = some b) :
    (∃ i j, x = .str i ∧ y = .str j ∧ b = decide (i = j)) ∨ ∃ p q, Dp K H x p ∧ Dp K H y q ∧ SeqAt.shaped p = true ∧ SeqAt.shaped q = true ∧ b = PyData.eqv p q := by
  unfold eqD at e
  split at e
  · rename_i i j h1 h2
    cases e
    exact .inl ⟨i, j, (view_str ok vx h1).2, (view_str ok vy h2).2, rfl⟩
  · unfold eqG at e
    split at e
    · rename_i p q h1 h2
      split at e
      · rename_i h
        cases e
        exact .inr ⟨p, q, dp_view ok vx h1, dp_view ok vy h2, h.1, h.2, rfl⟩
      · cases e
    · cases e

theorem flat_of {H : Hp} {K : PySem.W.Frag} {μ : Nat → Addr} {n : Nat} {d : D} {v : V} (dv : DV H K μ n d v) (h : flatD d = true) : flatV v = true := by
  cases dv <;> first | rfl | cases h
theorem eqF_V {H : Hp} {K : PySem.W.Frag} {μ : Nat → Addr} {n : Nat} {d e : D} {v w : V} (dv : DV H K μ n d v) (ew : DV H K μ n e w) (h : flatD d = true) (h' : flatD e = true) : eqF d e = eqV v w := by
  cases dv <;> cases ew <;> first | rfl | cases h | cases h'
theorem all_flat {H : Hp} {K : PySem.W.Frag} {μ : Nat → Addr} {n : Nat} : ∀ {ds : List D} {vs : List V}, DVs H K μ n ds vs → ds.all flatD = true → vs.all flatV = true
  | _, _, .nil, _ => rfl
  | _, _, .cons h t, e => by
    rw [List.all_cons, Bool.and_eq_true] at e ⊢
    exact ⟨flat_of h e.1, all_flat t e.2⟩
theorem any_eq {H : Hp} {K : PySem.W.Frag} {μ : Nat → Addr} {n : Nat} {x : D} {v : V} (dx : DV H K μ n x v) (fx : flatD x = true) : ∀ {ds : List D} {vs : List V}, DVs H K μ n ds vs → ds.all flatD = true → (ds.any fun y => eqF y x) = inV v vs
  | _, _, .nil, _ => rfl
  | _, _, .cons h t, e => by
    rw [List.all_cons, Bool.and_eq_true] at e
    unfold inV
    rw [List.any_cons, List.any_cons, eqF_V h dx e.1 fx, any_eq dx fx t e.2]
    rfl
theorem key_of {H : Hp} {K : PySem.W.Frag} {μ : Nat → Addr} {n : Nat} {d : D} {v : V} (dv : DV H K μ n d v) (h : isKey d = true) : ∃ k : Key, d = kD k ∧ v = kV k := by
  cases dv <;> first | cases h | skip
  · rename_i i; exact ⟨.inl i, rfl, rfl⟩
  · rename_i i; exact ⟨.inr i, rfl, rfl⟩
theorem keq_kD (j k : Key) : keq (kD j) (kD k) = decide (j = k) := by
  cases j <;> cases k
  · rename_i a b
    show decide (a = b) = _
    by_cases h : a = b
    · subst h; simp
    · rw [decide_eq_false h, decide_eq_false fun e => h (Sum.inl.inj e)]
  · exact (decide_eq_false fun q => nomatch q).symm
  · exact (decide_eq_false fun q => nomatch q).symm
  · rename_i a b
    show decide (a = b) = _
    by_cases h : a = b
    · subst h; simp
    · rw [decide_eq_false h, decide_eq_false fun e => h (Sum.inr.inj e)]
/-- looking up -/
theorem dget_ok {H : Hp} {K : PySem.W.Frag} {μ : Nat → Addr} {n : Nat} (k : Key) : ∀ {es : List D} {kvs : List (Key × V)}, DKs H K μ n es kvs →
    (dget es (kD k) = none ∧ valV kvs k = none) ∨ ∃ d v, dget es (kD k) = some d ∧ valV kvs k = some v ∧ DV H K μ n d v
  | _, _, .nil => .inl ⟨rfl, rfl⟩
  | _, _, .cons (k := j) (x := x) (v := v) (es := es) (kvs := kvs) h t => by
    have e : dget (.tup [kD j, x] :: es) (kD k) = if keq (kD j) (kD k) = true then some x else dget es (kD k) := rfl
    rw [e, keq_kD]
    by_cases hk : j = k
    · subst hk
      rw [if_pos (by simp), valV_pos (by rfl)]
      exact .inr ⟨_, _, rfl, rfl, h⟩
    · rw [if_neg (by simp [hk]), valV_neg (by exact hk)]
      exact dget_ok k t
theorem DKs.any {H : Hp} {K : PySem.W.Frag} {μ : Nat → Addr} {n : Nat} {es : List D} {kvs : List (Key × V)} (h : DKs H K μ n es kvs) (k : Key) : (dget es (kD k)).isSome = (valV kvs k).isSome := by
  rcases dget_ok k h with ⟨e1, e2⟩ | ⟨d, v, e1, e2, _⟩ <;> (rw [e1, e2]; try rfl)
theorem isK_kD (j k : Key) (x : D) : isK (kD k) (.tup [kD j, x]) = decide (j = k) := keq_kD j k
theorem anyK {H : Hp} {K : PySem.W.Frag} {μ : Nat → Addr} {n : Nat} (k : Key) : ∀ {es : List D} {kvs : List (Key × V)}, DKs H K μ n es kvs → es.any (isK (kD k)) = kvs.any fun kv => decide (kv.1 = k)
  | _, _, .nil => rfl
  | _, _, .cons h t => by rw [List.any_cons, List.any_cons, anyK k t, isK_kD]
theorem mapK {H : Hp} {K : PySem.W.Frag} {μ : Nat → Addr} {n : Nat} (k : Key) {d : D} {v : V} (dv : DV H K μ n d v) : ∀ {es : List D} {kvs : List (Key × V)}, DKs H K μ n es kvs →
    DKs H K μ n (es.map fun e => if isK (kD k) e = true then .tup [kD k, d] else e) (kvs.map fun kv => if kv.1 = k then (kv.1, v) else kv)
  | _, _, .nil => .nil
  | _, _, .cons (k := j) h t => by
    rw [List.map_cons, List.map_cons, isK_kD]
    by_cases e : j = k
    · subst e
      rw [if_pos (by simp), if_pos rfl]
      exact .cons dv (mapK _ dv t)
    · rw [if_neg (by simp [e]), if_neg (by exact e)]
      exact .cons h (mapK k dv t)
theorem DKs.append {H : Hp} {K : PySem.W.Frag} {μ : Nat → Addr} {n : Nat} : ∀ {es : List D} {kvs : List (Key × V)} {fs : List D} {kws : List (Key × V)}, DKs H K μ n es kvs → DKs H K μ n fs kws → DKs H K μ n (es ++ fs) (kvs ++ kws)
  | _, _, _, _, .nil, s => s
  | _, _, _, _, .cons h t, s => .cons h (DKs.append t s)
theorem dput_ok {H : Hp} {K : PySem.W.Frag} {μ : Nat → Addr} {n : Nat} (k : Key) {d : D} {v : V} (dv : DV H K μ n d v) {es : List D} {kvs : List (Key × V)} (h : DKs H K μ n es kvs) : DKs H K μ n (dput es (kD k) d) (putK kvs k v) := by
  unfold dput putK
  rw [anyK k h]
  split
  · exact mapK k dv h
  · exact h.append (.cons dv .nil)

def blEq : V → Bool → Bool
  | .bl a, b => a == b
  | _, _ => false
theorem is_any {x : V} {b : Bool} {v u : Value} {pins : List (Addr × Obj)} {s : Shared} {σ : L2.St} {H : Hp} {Q : VK} (I : Inv X pins σ H s) (rx : RelV x v) (ru : RelV (.bl b) u) (k : Bool) (hk : blEq x b = k) :
    PySem.plainIs v u = true ∧ (v == u) = k := by
  cases (show u = Value.bool b from ru)
  cases x with
  | non => cases rx; exact ⟨rfl, hk⟩
  | bl a =>
    cases rx
    refine ⟨rfl, ?_⟩
    rw [← hk]
    show (Value.bool a == Value.bool b) = (a == b)
    cases a <;> cases b <;> rfl
  | int i => obtain ⟨t, rfl⟩ := rx; exact ⟨rfl, hk⟩
  | str i => obtain ⟨t, rfl⟩ := rx; exact ⟨rfl, hk⟩
  | byt i => obtain ⟨t, rfl⟩ := rx; exact ⟨rfl, hk⟩
  | flt i => obtain ⟨t, rfl⟩ := rx; exact ⟨rfl, hk⟩
  | ref a => cases rx; exact ⟨rfl, hk⟩
  | ty n => cases rx; exact ⟨rfl, hk⟩
theorem is_ok {H : Hp} {K : PySem.W.Frag} {z : Z} {dx dy : D} {x y : V} {b : Bool} (vx : DVz K z dx x) (vy : DVz K z dy y) (e : isB dx dy = some b) : (y = .non ∧ b = decide (x = .non)) ∨ ∃ c, y = .bl c ∧ b = blEq x c := by
  cases vy <;> first | (cases e; done) | skip
  · cases e
    refine .inl ⟨rfl, ?_⟩
    cases vx <;> rfl
  · cases e
    refine .inr ⟨_, rfl, ?_⟩
    cases vx <;> rfl
theorem ord_ok {K : PySem.W.Frag} {z : Z} {dx dy : D} {x y : V} {op : COp} {b : Bool} (vx : DVz K z dx x) (vy : DVz K z dy y) (e : ordB op dx dy = some b) : ∃ i j, x = .int i ∧ y = .int j ∧ ordI op i j = some b := by
  cases vx <;> first | (cases e; done) | skip
  cases vy <;> first | (cases e; done) | skip
  exact ⟨_, _, rfl, rfl, e⟩
theorem has_ok (hu : X.A.units + 64 < cLine) {pins : List (Addr × Obj)} {s : Shared} {σ : L2.St} {H : Hp} {x y : V} {v u : Value} {Q : VK} {z : Z} {dx dy : D} {c : Bool} (I : L2.Inv X pins σ H s) (rx : RelV x v) (ry : RelV y u) (ok : Ok X.K H z) (vx : DVz X.K z dx x) (vy : DVz X.K z dy y)
    (hc : hasIn z.st dx dy = some c) : (Q (.bl c) H → wpAny (model X.prog X.w) X.A (compareOp .In v u) (EP X pins σ Q) X.xe s) ∧ (Q (.bl (!c)) H → wpAny (model X.prog X.w) X.A (compareOp .NotIn v u) (EP X pins σ Q) X.xe s) := by
  unfold hasIn at hc
  split at hc
  · rename_i ys hy
    obtain ⟨a, vs, rfl, h1, h2⟩ := view_tup ok vy hy
    unfold inD at hc
    split at hc
    · rename_i hf
      cases hc
      rw [any_eq vx hf.1 h2 hf.2]
      exact ⟨fun q => op_in_seq pins s σ H _ _ v u Q I rx ry ⟨a, vs, rfl, .inr (ok.sqT h1), flat_of vx hf.1, all_flat h2 hf.2, q⟩, fun q => op_notIn_seq pins s σ H _ _ v u Q I rx ry ⟨a, vs, rfl, .inr (ok.sqT h1), flat_of vx hf.1, all_flat h2 hf.2, q⟩⟩
    · cases hc
  · rename_i ys hy
    obtain ⟨a, vs, rfl, h1, h2⟩ := view_lst ok vy hy
    unfold inD at hc
    split at hc
    · rename_i hf
      cases hc
      rw [any_eq vx hf.1 h2 hf.2]
      exact ⟨fun q => op_in_seq pins s σ H _ _ v u Q I rx ry ⟨a, vs, rfl, .inl (.inl (ok.rd h1)), flat_of vx hf.1, all_flat h2 hf.2, q⟩, fun q => op_notIn_seq pins s σ H _ _ v u Q I rx ry ⟨a, vs, rfl, .inl (.inl (ok.rd h1)), flat_of vx hf.1, all_flat h2 hf.2, q⟩⟩
    · cases hc
  · rename_i es hy
    obtain ⟨a, kvs, rfl, h1, h2⟩ := view_dct ok vy hy
    split at hc
    · rename_i hk
      cases hc
      obtain ⟨k, rfl, rfl⟩ := key_of vx hk
      cases ry
      rw [h2.any k]
      exact ⟨fun q => d_in (by omega) I (DGet.k (ok.sub _ _ h1)) rx fun s' I' => ⟨.bl _, H, I', rfl, q⟩, fun q => d_notIn (by omega) I (DGet.k (ok.sub _ _ h1)) rx fun s' I' => ⟨.bl _, H, I', rfl, q⟩⟩
    · cases hc
  · rename_i t hy
    obtain ⟨rfl, rfl⟩ := view_str ok vy hy
    split at hc
    · rename_i t2
      cases hc
      cases vx
      exact ⟨fun q => op_in_str pins s σ H _ _ v u Q I rx ry ⟨_, _, rfl, rfl, q⟩, fun q => L2.op_notIn_str pins s σ H _ _ v u Q I rx ry ⟨_, _, rfl, rfl, q⟩⟩
    · cases hc
  · cases hc
theorem op_cmp (hu : X.A.units + 64 < cLine) (op : COp) : OpR X (compareOp (copOf op)) (rD2 X.K false (cmpD op)) := by
  intro pins s σ H x y v u Q I rx ry h
  obtain ⟨z, dx, dy, d, st', ok, vx, vy, he0, q⟩ := h
  unfold cmpD at he0
  obtain ⟨he2, rfl⟩ := opt_ok he0
  rw [Option.map_eq_some_iff] at he2
  obtain ⟨b, he, rfl⟩ := he2
  clear he0
  have fin : Q (.bl b) H := q.same ok (.bl b)
  cases op with
  | eq =>
    rcases eqD_ok ok vx vy he with ⟨i, j, rfl, rfl, h5⟩ | ⟨p, r, h1, h2, h3, h4, h5⟩
    · refine L2.op_eq pins s σ H _ _ v u Q I rx ry ⟨rfl, ?_⟩
      have e2 : decide (V.str i = V.str j) = b := by
        rw [h5]
        by_cases e : i = j
        · subst e; simp
        · have : ¬ V.str i = V.str j := fun q => e (V.str.inj q)
          rw [decide_eq_false e, decide_eq_false this]
      rw [e2]; exact fin
    exact op_eqD hu pins s σ H _ _ v u Q I rx ry ⟨p, r, h1, h2, h3, h4, h5 ▸ fin⟩
  | ne =>
    have he : (eqD z.st dx dy).map (!·) = some b := he
    rw [Option.map_eq_some_iff] at he
    obtain ⟨c, hf, rfl⟩ := he
    rcases eqD_ok ok vx vy hf with ⟨i, j, rfl, rfl, h5⟩ | ⟨p, r, h1, h2, h3, h4, h5⟩
    · refine L2.op_ne pins s σ H _ _ v u Q I rx ry ⟨rfl, ?_⟩
      have e2 : decide (V.str i = V.str j) = c := by
        rw [h5]
        by_cases e : i = j
        · subst e; simp
        · have : ¬ V.str i = V.str j := fun q => e (V.str.inj q)
          rw [decide_eq_false e, decide_eq_false this]
      rw [e2]; exact fin
    exact op_neD hu pins s σ H _ _ v u Q I rx ry ⟨p, r, h1, h2, h3, h4, h5 ▸ fin⟩
  | in_ => exact (has_ok hu I rx ry ok vx vy he).1 fin
  | notin =>
    have he : (hasIn z.st dx dy).map (!·) = some b := he
    rw [Option.map_eq_some_iff] at he
    obtain ⟨c, hf, rfl⟩ := he
    exact (has_ok hu I rx ry ok vx vy hf).2 fin
  | is =>
    rcases is_ok (H := H) vx vy he with ⟨rfl, e⟩ | ⟨c, rfl, e⟩
    · exact op_isN pins s σ H _ _ v u Q I rx ry ⟨rfl, e ▸ fin⟩
    · obtain ⟨h1, h2⟩ := is_any (Q := Q) I rx ry b e.symm
      exact wpAny_is_plain h1 ⟨.bl b, H, I, by rw [h2]; rfl, fin⟩
  | isnot =>
    have he : (isB dx dy).map (!·) = some b := he
    rw [Option.map_eq_some_iff] at he
    obtain ⟨b', hf, rfl⟩ := he
    rcases is_ok (H := H) vx vy hf with ⟨rfl, e⟩ | ⟨c, rfl, e⟩
    · exact op_notN pins s σ H _ _ v u Q I rx ry ⟨rfl, e ▸ fin⟩
    · obtain ⟨h1, h2⟩ := is_any (Q := Q) I rx ry b' e.symm
      exact wpAny_isNot_plain h1 ⟨.bl _, H, I, by rw [h2]; rfl, fin⟩
  | lt =>
    obtain ⟨i, j, rfl, rfl, e⟩ := ord_ok vx vy he
    cases e
    exact op_lt pins s σ H _ _ v u Q I rx ry ⟨_, _, rfl, rfl, fin⟩
  | le =>
    obtain ⟨i, j, rfl, rfl, e⟩ := ord_ok vx vy he
    cases e
    exact op_le pins s σ H _ _ v u Q I rx ry ⟨_, _, rfl, rfl, fin⟩
  | gt =>
    obtain ⟨i, j, rfl, rfl, e⟩ := ord_ok vx vy he
    cases e
    exact op_gt pins s σ H _ _ v u Q I rx ry ⟨_, _, rfl, rfl, fin⟩
  | ge =>
    obtain ⟨i, j, rfl, rfl, e⟩ := ord_ok vx vy he
    cases e
    exact op_ge pins s σ H _ _ v u Q I rx ry ⟨_, _, rfl, rfl, fin⟩
end
end PyE

namespace PyE
open PySem PySem.Spec PyProof.Rows L2
def rDL (K : PySem.W.Frag) (fr : Bool) (f : List D → Store → R D) : List V → Hp → VK → Prop := fun xs H Q =>
  ∃ z ds d st', Ok K H z ∧ DVsz K z ds xs ∧ f ds z.st = .ok d st' ∧ End K fr H z d st' Q
def rDM (K : PySem.W.Frag) (f : D → List D → Store → R D) : V → List V → Hp → VK → Prop := fun x xs H Q =>
  ∃ z dx ds d st', Ok K H z ∧ DVz K z dx x ∧ DVsz K z ds xs ∧ f dx ds z.st = .ok d st' ∧ End K false H z d st' Q
section
variable {K : PySem.W.Frag} {H : Hp} {z : Z}
theorem DVs.cut {xs : List D} {vs : List V} (h : DVsz K z xs vs) (lo hi : Option Int) : DVsz K z (PyE.cut xs lo hi) (cutV vs lo hi) := by
  unfold PyE.cut cutV
  rw [h.length]
  exact (h.drop _).take _
theorem cut_all {xs : List D} {vs : List V} {lo hi : Option Int} (h : DVsz K z xs vs) (e : HT.sIx vs.length 0 lo = 0 ∧ HT.sIx vs.length vs.length hi = vs.length) : PyE.cut xs lo hi = xs := by
  unfold PyE.cut
  rw [h.length, e.1, e.2, List.drop_zero, Nat.sub_zero, ← h.length, List.take_length]
theorem atI_ok {xs : List D} {vs : List V} {i : Int} {d : D} (h : DVsz K z xs vs) (e : atI xs i = some d) : ∃ v, atI vs i = some v ∧ DVz K z d v := by
  unfold atI at e ⊢
  rw [Option.bind_eq_some_iff] at e
  obtain ⟨j, e1, e2⟩ := e
  obtain ⟨v, h1, h2⟩ := h.get e2
  rw [← h.length, e1]
  exact ⟨v, h1, h2⟩
theorem truV_of {d : D} {v : V} {k : Bool} (ok : Ok K H z) (dv : DVz K z d v) (e : truth z.st d = some k) : TruV K v H k := by
  unfold truth at e
  split at e
  · rename_i h; obtain ⟨rfl, rfl⟩ := view_non ok dv h; cases e; rfl
  · rename_i h; obtain ⟨rfl, rfl⟩ := view_bl ok dv h; cases e; rfl
  · rename_i h; obtain ⟨rfl, rfl⟩ := view_int ok dv h; cases e; rfl
  · rename_i h
    obtain ⟨rfl, rfl⟩ := view_str ok dv h
    split at e
    · rename_i hl; cases e; exact ⟨by rw [← line_eq]; exact hl, rfl⟩
    · cases e
  · rename_i h
    obtain ⟨a, vs, rfl, h1, h2⟩ := view_tup ok dv h
    cases e
    refine .inr (.inl ⟨vs, ok.sqT h1, ?_⟩)
    cases h2 <;> rfl
  · rename_i h
    obtain ⟨a, vs, rfl, h1, h2⟩ := view_lst ok dv h
    cases e
    refine .inl ⟨vs, .inl (ok.rd h1), ?_⟩
    cases h2 <;> rfl
  · rename_i h
    obtain ⟨a, vs, rfl, h1, h2⟩ := view_dct ok dv h
    cases e
    refine .inr (.inr ⟨vs, ok.sub _ _ h1, ?_⟩)
    cases h2 <;> rfl
  · cases e
theorem ints_of : ∀ {xs : List D} {vs : List V} {ns : List Int}, DVsz K z xs vs → intsOf xs = some ns → vs = ns.map V.int
  | _, _, _, .nil, e => by cases e; rfl
  | x :: xs, v :: vs, ns, .cons h t, e => by
    cases h <;> first | (cases e; done) | skip
    unfold intsOf at e
    rw [Option.map_eq_some_iff] at e
    obtain ⟨ms, e1, e2⟩ := e
    subst e2
    rw [ints_of t e1]; rfl
theorem bls_of : ∀ {xs : List D} {vs : List V} {ns : List Bool}, DVsz K z xs vs → blsOf xs = some ns → vs = ns.map V.bl
  | _, _, _, .nil, e => by cases e; rfl
  | x :: xs, v :: vs, ns, .cons h t, e => by
    cases h <;> first | (cases e; done) | skip
    unfold blsOf at e
    rw [Option.map_eq_some_iff] at e
    obtain ⟨ms, e1, e2⟩ := e
    subst e2
    rw [bls_of t e1]; rfl
theorem of_ints : ∀ (ns : List Int), DVsz K z (ns.map .int) (ns.map V.int)
  | [] => .nil
  | n :: ns => .cons (.int n) (of_ints ns)
theorem DVs.one {x : D} {vs : List V} (h : DVsz K z [x] vs) : ∃ v, vs = [v] ∧ DVz K z x v := by
  cases h with
  | cons a b => cases b; exact ⟨_, rfl, a⟩
theorem DVs.two {x y : D} {vs : List V} (h : DVsz K z [x, y] vs) : ∃ v w, vs = [v, w] ∧ DVz K z x v ∧ DVz K z y w := by
  cases h with
  | cons a b => obtain ⟨w, rfl, c⟩ := DVs.one b; exact ⟨_, _, rfl, a, c⟩
end
theorem maxL_ge (ns : List Int) : ∀ m, m ≤ maxL m ns ∧ ∀ y, y ∈ ns → y ≤ maxL m ns := by
  induction ns with
  | nil => intro m; exact ⟨Int.le_refl _, fun y h => by cases h⟩
  | cons n r ih =>
    intro m
    unfold maxL
    obtain ⟨h1, h2⟩ := ih (if n > m then n else m)
    have h3 : m ≤ (if n > m then n else m) ∧ n ≤ (if n > m then n else m) := by split <;> omega
    refine ⟨Int.le_trans h3.1 h1, fun y hy => ?_⟩
    rcases List.mem_cons.mp hy with e | e
    · subst e; exact Int.le_trans h3.2 h1
    · exact h2 y e
theorem maxL_mem (ns : List Int) : ∀ m, maxL m ns = m ∨ maxL m ns ∈ ns := by
  induction ns with
  | nil => intro m; exact .inl rfl
  | cons n r ih =>
    intro m
    unfold maxL
    rcases ih (if n > m then n else m) with h | h
    · rw [h]
      split
      · exact .inr List.mem_cons_self
      · exact .inl rfl
    · exact .inr (List.mem_cons_of_mem _ h)
theorem minL_le (ns : List Int) : ∀ m, minL m ns ≤ m ∧ ∀ y, y ∈ ns → minL m ns ≤ y := by
  induction ns with
  | nil => intro m; exact ⟨Int.le_refl _, fun y h => by cases h⟩
  | cons n r ih =>
    intro m
    unfold minL
    obtain ⟨h1, h2⟩ := ih (if n < m then n else m)
    have h3 : (if n < m then n else m) ≤ m ∧ (if n < m then n else m) ≤ n := by split <;> omega
    refine ⟨Int.le_trans h1 h3.1, fun y hy => ?_⟩
    rcases List.mem_cons.mp hy with e | e
    · subst e; exact Int.le_trans h1 h3.2
    · exact h2 y e
theorem minL_mem (ns : List Int) : ∀ m, minL m ns = m ∨ minL m ns ∈ ns := by
  induction ns with
  | nil => intro m; exact .inl rfl
  | cons n r ih =>
    intro m
    unfold minL
    rcases ih (if n < m then n else m) with h | h
    · rw [h]
      split
      · exact .inr List.mem_cons_self
      · exact .inl rfl
    · exact .inr (List.mem_cons_of_mem _ h)
theorem insI_perm (x : Int) : ∀ l, (insI x l).Perm (x :: l)
  | [] => .refl _
  | y :: r => by
    unfold insI
    split
    · exact .refl _
    · exact ((insI_perm x r).cons y).trans (.swap x y r)
theorem sortI_perm : ∀ l, (sortI l).Perm l
  | [] => .refl _
  | x :: r => by unfold sortI; exact (insI_perm x _).trans ((sortI_perm r).cons x)
theorem insI_sorted (x : Int) : ∀ l, l.Pairwise (· ≤ ·) → (insI x l).Pairwise (· ≤ ·)
  | [], _ => by unfold insI; exact List.pairwise_singleton _ _
  | y :: r, h => by
    unfold insI
    obtain ⟨h1, h2⟩ := List.pairwise_cons.mp h
    split
    · rename_i hxy
      refine List.pairwise_cons.mpr ⟨fun a ha => ?_, h⟩
      rcases List.mem_cons.mp ha with e | e
      · subst e; exact hxy
      · exact Int.le_trans hxy (h1 a e)
    · rename_i hxy
      refine List.pairwise_cons.mpr ⟨fun a ha => ?_, insI_sorted x r h2⟩
      rcases List.mem_cons.mp ((insI_perm x r).mem_iff.mp ha) with e | e
      · subst e; omega
      · exact h1 a e
theorem sortI_sorted : ∀ l, (sortI l).Pairwise (· ≤ ·)
  | [] => .nil
  | x :: r => by unfold sortI; exact insI_sorted x _ (sortI_sorted r)
theorem sorted_one : ∀ {a b : List Int}, a.Perm b → a.Pairwise (· ≤ ·) → b.Pairwise (· ≤ ·) → a = b
  | [], b, p, _, _ => by rw [List.nil_perm.mp p]
  | x :: a, [], p, _, _ => by exact absurd p.length_eq (by simp)
  | x :: a, y :: b, p, ha, hb => by
    obtain ⟨h1, h2⟩ := List.pairwise_cons.mp ha
    obtain ⟨h3, h4⟩ := List.pairwise_cons.mp hb
    have e : x = y := by
      have m1 : x ∈ y :: b := p.mem_iff.mp List.mem_cons_self
      have m2 : y ∈ x :: a := p.mem_iff.mpr List.mem_cons_self
      rcases List.mem_cons.mp m1 with e | e
      · exact e
      · rcases List.mem_cons.mp m2 with e' | e'
        · exact e'.symm
        · have := h1 y e'; have := h3 x e; omega
    subst e
    rw [sorted_one ((List.perm_cons x).mp p) h2 h4]
section
variable {X : Cx}
theorem ix_ok (hu : X.A.units + 64 < cLine) : IxR X (rD2 X.K false ixD) := by
  intro value slice pins s σ H x y v u Q I rx ry h hs
  obtain ⟨z, dx, dy, d, st', ok, vx, vy, he0, q⟩ := h
  unfold ixD at he0
  obtain ⟨he, rfl⟩ := opt_ok he0
  clear he0
  unfold ixB at he
  split at he
  · rename_i xs i hx
    obtain ⟨a, vs, rfl, h1, h2⟩ := view_tup ok vx hx
    cases vy
    obtain ⟨w, e1, e2⟩ := atI_ok h2 he
    exact ix_tup value slice pins s σ H _ _ v u Q I rx ry ⟨a, vs, i, w, rfl, rfl, ok.sqT h1, e1, q.same ok e2⟩ hs
  · rename_i xs i hx
    obtain ⟨a, vs, rfl, h1, h2⟩ := view_lst ok vx hx
    cases vy
    obtain ⟨w, e1, e2⟩ := atI_ok h2 he
    exact ix_list value slice pins s σ H _ _ v u Q I rx ry ⟨a, vs, i, w, rfl, rfl, .inl (ok.rd h1), e1, q.same ok e2⟩ hs
  · rename_i t i hx
    obtain ⟨rfl, rfl⟩ := view_str ok vx hx
    cases vy
    split at he
    · rename_i hl
      rw [Option.map_eq_some_iff] at he
      obtain ⟨c, e1, rfl⟩ := he
      exact ix_str value slice pins s σ H _ _ v u Q I rx ry ⟨t, i, c, rfl, rfl, by rw [← line_eq]; exact hl, e1, q.same ok (.str _)⟩ hs
    · cases he
  · rename_i es k hx
    obtain ⟨a, kvs, rfl, h1, h2⟩ := view_dct ok vx hx
    split at he
    · rename_i hk
      obtain ⟨k, rfl, rfl⟩ := key_of vy hk
      cases rx
      rcases dget_ok k h2 with ⟨e1, _⟩ | ⟨d', w, e1, e2, dv⟩
      · rw [e1] at he; cases he
      · rw [e1] at he; cases he
        have g : DGet H a (kV k) (some w) := e2 ▸ DGet.k (ok.sub _ _ h1)
        exact tail_any (dict_typeIs I g) PySem.F.slot_dict_getitem.lookup (d_getItem (by omega) I g ry fun w' s3 I3 rw' => ⟨w, H, I3, rw', q.same ok dv⟩) hs
    · cases he
  · cases he
/-- a slice: the bounds apart -/
def rDS (K : PySem.W.Frag) (fr : Bool) : V → Option Int → Option Int → Hp → VK → Prop := fun x lo hi H Q =>
  ∃ z dx d, Ok K H z ∧ DVz K z dx x ∧ slB dx lo hi z.st = some d ∧ End K fr H z d z.st Q
theorem sl_list_rd : SlR X (fun x lo hi H Q => ∃ a xs, x = .ref a ∧ Rd H a (.lst xs) ∧ ∀ p, H p = none → Q (.ref p) (upd H p (.lst (cutV xs lo hi)))) := by
  intro pins s σ H x v vl vu lo hi sl Q I rx hs pl pu h
  obtain ⟨a, xs, rfl, hx, q⟩ := h
  exact sl_list pins s σ H _ v vl vu lo hi sl Q I rx hs pl pu ⟨a, xs, rfl, .inl hx, q⟩
theorem sl_ok : SlR X (rDS X.K true) := by
  intro pins s σ H x v vl vu lo hi sl Q I rx hs pl pu h
  obtain ⟨z, dx, d, ok, vx, he, q⟩ := h
  unfold slB at he
  split at he
  · rename_i xs hx
    cases he
    obtain ⟨a, vs, rfl, h1, h2⟩ := view_tup ok vx hx
    refine sl_tupA pins s σ H _ v vl vu lo hi sl Q I rx hs pl pu ⟨a, vs, rfl, ok.sqT h1, fun e => ?_, fun _ => q.tup ok (h2.cut lo hi)⟩
    rw [cut_all h2 e] at q
    exact q.same' rfl ok (.tup h1 h2)
  · rename_i xs hx
    cases he
    obtain ⟨a, vs, rfl, h1, h2⟩ := view_lst ok vx hx
    exact sl_list_rd pins s σ H _ v vl vu lo hi sl Q I rx hs pl pu ⟨a, vs, rfl, ok.rd h1, q.lst ok (h2.cut lo hi)⟩
  · rename_i t hx
    split at he
    · rename_i hl
      cases he
      obtain ⟨rfl, rfl⟩ := view_str ok vx hx
      refine sl_str pins s σ H _ v vl vu lo hi sl Q I rx hs pl pu ⟨t, rfl, by rw [← line_eq]; exact hl, ?_⟩
      exact q.same' rfl ok (.str _)
    · cases he
  · cases he
def subB (x y d : D) (st : Store) : Option (Nat × D) := match x with
  | .ref n => (match st[n]? with
    | some (.lst xs) => (match y with
      | .int k => (L2.ixN xs.length k).map fun j => (n, .lst (xs.set j d))
      | _ => none)
    | some (.dct es) => if isKey y = true ∧ es.length < line then some (n, .dct (dput es y d)) else none
    | _ => none)
  | _ => none
def rDP (K : PySem.W.Frag) : V → V → V → Hp → (Hp → Prop) → Prop := fun o i v H Q =>
  ∃ z dx dy d n c, Ok K H z ∧ DVz K z dx o ∧ DVz K z dy i ∧ DVz K z d v ∧ subB dx dy d z.st = some (n, c) ∧ ∀ H' z', z'.st = z.st.set n c → Ok K H' z' → To H z H' z' → Q H'
theorem ref_inv {K : PySem.W.Frag} {z : Z} {n : Nat} {v : V} (h : DVz K z (.ref n) v) : n < z.n ∧ v = .ref (z.mu n) := by
  cases h with
  | ref hn => exact ⟨hn, rfl⟩
theorem set_ok (hu : X.A.units + 64 < cLine) : PSet X (rDP X.K) := by
  intro pins s σ H o i v ov iv u Q I ro ri rv h
  obtain ⟨z, dx, dy, d, n, c, ok, vx, vy, vd, he, q⟩ := h
  unfold subB at he
  split at he
  · rename_i m
    obtain ⟨hn, rfl⟩ := ref_inv vx
    split at he
    · rename_i xs hx
      obtain ⟨vs, h1, h2⟩ := ok.sim.cell _ _ hx
      split at he
      · rename_i k
        cases vy
        rw [Option.map_eq_some_iff] at he
        obtain ⟨j, e1, e2⟩ := he
        obtain ⟨rfl, rfl⟩ := Prod.mk.inj e2
        have ck : CellOk (upd z.he (z.mu m) (.lst (vs.set j v))) X.K z.mu z.n (.lst (xs.set j d)) (z.mu m) :=
          ⟨_, upd_same, (h2.set vd j).mono (Ext.cell hn (ok.sim.there hn)) ok.sim⟩
        exact set_list pins s σ H _ _ _ ov iv u Q I ro ri rv ⟨_, vs, k, j, rfl, rfl, ok.sub _ _ h1, by rw [← h2.length]; exact e1, q _ (z.cell m (.lst (vs.set j v)) (.lst (xs.set j d))) rfl (ok.cell hn ck) (To.cell ok hn)⟩
      · cases he
    · rename_i es hx
      obtain ⟨kvs, h1, h2⟩ := ok.sim.cell _ _ hx
      split at he
      · rename_i hk
        obtain ⟨rfl, rfl⟩ := Prod.mk.inj (Option.some.inj he)
        obtain ⟨k, rfl, rfl⟩ := key_of vy hk.1
        cases ro
        have ck : CellOk (upd z.he (z.mu m) (.dK (putK kvs k v))) X.K z.mu z.n (.dct (dput es (kD k) d)) (z.mu m) :=
          ⟨_, upd_same, (dput_ok k vd h2).mono (Ext.cell hn (ok.sim.there hn)) ok.sim⟩
        refine d_setItem (by omega) I (DPut.k (k := k) (v := v) (ok.sub _ _ h1) (by rw [← h2.length, ← line_eq]; exact hk.2)) ri rv fun s' I' => ⟨_, I', ?_⟩
        exact q _ (z.cell m (.dK (putK kvs k v)) (.dct (dput es (kD k) d))) rfl (ok.cell hn ck) (To.cell ok hn)
      · cases he
    · cases he
  · cases he
theorem d_len' {pins : List (Addr × Obj)} {s : Shared} {σ : L2.St} {H : Hp} {a : Addr} {kvs : List (Key × V)} {Q : VK} (I : L2.Inv X pins σ H s) (e : H a = some (.dK kvs)) (q : Q (.int (kvs.length : Nat)) H) :
    wpAny (model X.prog X.w) X.A (call (.builtin "len") [.ref a]) (EP X pins σ Q) X.xe s := d_len I (.inl e) fun t s' I' => ⟨.int (kvs.length : Nat), H, I', ⟨t, rfl⟩, q⟩
/-- one argument -/
theorem bi_one {fr : Bool} {f : Bi} {fv : Value} (h : ∀ (pins : List (Addr × Obj)) (s : Shared) (σ : L2.St) (H : Hp) (x : V) (us : List Value) (Q : VK) (z : Z) (dx d : D), L2.Inv X pins σ H s → Vals [x] us → Ok X.K H z → DVz X.K z dx x → bi1 f dx z.st = some d →
      End X.K fr H z d z.st Q → wpAny (model X.prog X.w) X.A (call fv us) (EP X pins σ Q) X.xe s) :
    CallR X fv (rDL X.K fr <| bd1 f) := by
  intro pins s σ H xs us Q I r q
  obtain ⟨z, ds, d, st', ok, vx, he0, q⟩ := q
  unfold bd1 at he0
  split at he0
  · obtain ⟨he, rfl⟩ := opt_ok he0
    obtain ⟨v, rfl, vv⟩ := vx.one
    exact h pins s σ H v us Q z _ d I r ok vv he q
  · cases he0
theorem bi_len : CallR X (.builtin "len") (rDL X.K false <| bd1 .len) := bi_one fun pins s σ H x us Q z dx d I r ok vx he0 q => by
  have he : lenB (view z.st dx) = some d := he0
  clear he0
  unfold lenB at he
  split at he
  · rename_i hx
    cases he
    obtain ⟨a, vs, rfl, h1, h2⟩ := view_tup ok vx hx
    exact call_len pins s σ H _ us Q I r ⟨_, vs.length, rfl, .inr ⟨vs, ok.sqT h1, rfl⟩, by rw [h2.length] at q; exact q.same ok (.int _)⟩
  · rename_i hx
    cases he
    obtain ⟨a, vs, rfl, h1, h2⟩ := view_lst ok vx hx
    exact call_len pins s σ H _ us Q I r ⟨_, vs.length, rfl, .inl ⟨vs, .inl (ok.rd h1), rfl⟩, by rw [h2.length] at q; exact q.same ok (.int _)⟩
  · rename_i hx
    cases he
    obtain ⟨a, vs, rfl, h1, h2⟩ := view_dct ok vx hx
    obtain ⟨u, rfl, ru⟩ := vals1 r
    cases ru
    exact d_len' I (ok.sub _ _ h1) (by rw [h2.length] at q; exact q.same ok (.int _))
  · rename_i hx
    split at he
    · rename_i hl
      cases he
      obtain ⟨rfl, rfl⟩ := view_str ok vx hx
      exact call_len pins s σ H _ us Q I r ⟨_, _, rfl, ⟨by rw [← line_eq]; exact hl, rfl⟩, q.same ok (.int _)⟩
    · cases he
  · cases he
theorem bi_abs : CallR X (.builtin "abs") (rDL X.K false <| bd1 .abs) := bi_one fun pins s σ H x us Q z dx d I r ok vx he q => by
  have he : absB (view z.st dx) = some d := he
  unfold absB at he
  split at he
  · rename_i hx
    cases he
    obtain ⟨rfl, rfl⟩ := view_int ok vx hx
    exact call_abs pins s σ H _ us Q I r ⟨_, rfl, q.same ok (.int _)⟩
  · cases he
theorem bi_int : CallR X (.type "int") (rDL X.K false <| bd1 .int) := bi_one fun pins s σ H x us Q z dx d I r ok vx he q => by
  have he : intB (view z.st dx) = some d := he
  unfold intB at he
  split at he
  · rename_i hx
    cases he
    obtain ⟨rfl, rfl⟩ := view_int ok vx hx
    exact call_int1 pins s σ H _ us Q I r (.inl ⟨_, rfl, q.same ok (.int _)⟩)
  · rename_i hx
    cases he
    obtain ⟨rfl, rfl⟩ := view_bl ok vx hx
    exact call_int1 pins s σ H _ us Q I r (.inr ⟨_, rfl, q.same ok (.int _)⟩)
  · cases he
theorem bi_str : CallR X (.type "str") (rDL X.K false <| bd1 .str) := bi_one fun pins s σ H x us Q z dx d I r ok vx he q => by
  have he2 : strB (view z.st dx) = some d := he
  clear he
  unfold strB at he2
  split at he2
  · rename_i hx
    obtain ⟨rfl, rfl⟩ := view_int ok vx hx
    split at he2
    · rename_i hl
      cases he2
      exact call_str_int pins s σ H _ us Q I r ⟨_, rfl, hl, q.same ok (.str _)⟩
    · cases he2
  · cases he2
theorem bi_tuple : CallR X (.type "tuple") (rDL X.K false <| bd1 .tuple) := bi_one fun pins s σ H x us Q z dx d I r ok vx he q => by
  have he : PyE.tupB (view z.st dx) = some d := he
  unfold PyE.tupB at he
  split at he
  · rename_i hx
    cases he
    obtain ⟨a, vs, rfl, h1, h2⟩ := view_lst ok vx hx
    exact call_tuple_of pins s σ H _ us Q I r ⟨a, vs, rfl, .inl ⟨.inl (ok.rd h1), q.tup ok h2⟩⟩
  · rename_i hx
    cases he
    obtain ⟨a, vs, rfl, h1, h2⟩ := view_tup ok vx hx
    exact call_tuple_of pins s σ H _ us Q I r ⟨a, vs, rfl, .inr ⟨ok.sqT h1, q.same ok (.tup h1 h2)⟩⟩
  · cases he
theorem bi_list : CallR X (.type "list") (rDL X.K true <| bd1 .list) := bi_one fun pins s σ H x us Q z dx d I r ok vx he q => by
  have he : PyE.lstB (view z.st dx) = some d := he
  unfold PyE.lstB at he
  split at he
  · rename_i hx
    cases he
    obtain ⟨a, vs, rfl, h1, h2⟩ := view_lst ok vx hx
    exact call_list_of pins s σ H _ us Q I r ⟨a, vs, rfl, .inl (.inl (ok.rd h1)), q.lst ok h2⟩
  · rename_i hx
    cases he
    obtain ⟨a, vs, rfl, h1, h2⟩ := view_tup ok vx hx
    exact call_list_of pins s σ H _ us Q I r ⟨a, vs, rfl, .inr (ok.sqT h1), q.lst ok h2⟩
  · cases he
theorem intsB_ok {H : Hp} {K : PySem.W.Frag} {z : Z} {dx d : D} {x : V} {f : List Int → Option D} (ok : Ok K H z) (vx : DVz K z dx x) (he : intsB f (view z.st dx) = some d) : ∃ a ns, x = .ref a ∧ Rd H a (.lst (ns.map V.int)) ∧ f ns = some d := by
  unfold intsB at he
  split at he
  · rename_i hx
    obtain ⟨a, vs, rfl, h1, h2⟩ := view_lst ok vx hx
    rw [Option.bind_eq_some_iff] at he
    obtain ⟨ns, e1, e2⟩ := he
    rw [ints_of h2 e1] at h1
    exact ⟨a, ns, rfl, ok.rd h1, e2⟩
  · cases he
theorem blsB_ok {H : Hp} {K : PySem.W.Frag} {z : Z} {dx d : D} {x : V} {f : List Bool → Option D} (ok : Ok K H z) (vx : DVz K z dx x) (he : blsB f (view z.st dx) = some d) : ∃ a ns, x = .ref a ∧ Rd H a (.lst (ns.map V.bl)) ∧ f ns = some d := by
  unfold blsB at he
  split at he
  · rename_i hx
    obtain ⟨a, vs, rfl, h1, h2⟩ := view_lst ok vx hx
    rw [Option.bind_eq_some_iff] at he
    obtain ⟨ns, e1, e2⟩ := he
    rw [bls_of h2 e1] at h1
    exact ⟨a, ns, rfl, ok.rd h1, e2⟩
  · cases he
theorem bi_sum (hc : X.calm = true) : CallR X (.builtin "sum") (rDL X.K false <| bd1 .sum) := bi_one fun pins s σ H x us Q z dx d I r ok vx he q => by
  obtain ⟨a, ns, rfl, h1, h2⟩ := intsB_ok (f := fun ns => some (.int ns.sum)) ok vx he
  cases h2
  exact cr_sum hc pins s σ H _ us Q I r ⟨a, ns, rfl, .inl h1, q.same ok (.int _)⟩
theorem bi_all (hc : X.calm = true) : CallR X (.builtin "all") (rDL X.K false <| bd1 .all) := bi_one fun pins s σ H x us Q z dx d I r ok vx he q => by
  obtain ⟨a, ns, rfl, h1, h2⟩ := blsB_ok (f := fun bs => some (.bl (bs.all id))) ok vx he
  cases h2
  exact cr_all hc pins s σ H _ us Q I r ⟨a, ns, rfl, .inl h1, q.same ok (.bl _)⟩
theorem bi_any (hc : X.calm = true) : CallR X (.builtin "any") (rDL X.K false <| bd1 .any) := bi_one fun pins s σ H x us Q z dx d I r ok vx he q => by
  obtain ⟨a, ns, rfl, h1, h2⟩ := blsB_ok (f := fun bs => some (.bl (bs.any id))) ok vx he
  cases h2
  exact cr_any hc pins s σ H _ us Q I r ⟨a, ns, rfl, .inl h1, q.same ok (.bl _)⟩
theorem bi_max1 (hc : X.calm = true) : CallR X (.builtin "max") (rDL X.K false <| bd1 .max1) := bi_one fun pins s σ H x us Q z dx d I r ok vx he q => by
  obtain ⟨a, ns, rfl, h1, h2⟩ := intsB_ok (f := maxB) ok vx he
  cases ns with
  | nil => cases h2
  | cons n r' =>
    cases h2
    refine cr_max hc pins s σ H _ us Q I r ⟨a, n :: r', rfl, .inl h1, by simp, fun m hm hle => ?_⟩
    have e : m = maxL n r' := by
      obtain ⟨g1, g2⟩ := maxL_ge r' n
      have hmem : maxL n r' ∈ n :: r' := by
        rcases maxL_mem r' n with e | e
        · rw [e]; exact List.mem_cons_self
        · exact List.mem_cons_of_mem _ e
      have h3 := hle _ hmem
      have h4 : m ≤ maxL n r' := by
        rcases List.mem_cons.mp hm with e | e
        · subst e; exact g1
        · exact g2 m e
      omega
    rw [e]
    exact q.same ok (.int _)
theorem bi_min1 (hc : X.calm = true) : CallR X (.builtin "min") (rDL X.K false <| bd1 .min1) := bi_one fun pins s σ H x us Q z dx d I r ok vx he q => by
  obtain ⟨a, ns, rfl, h1, h2⟩ := intsB_ok (f := minB) ok vx he
  cases ns with
  | nil => cases h2
  | cons n r' =>
    cases h2
    refine cr_min hc pins s σ H _ us Q I r ⟨a, n :: r', rfl, .inl h1, by simp, fun m hm hle => ?_⟩
    have e : m = minL n r' := by
      obtain ⟨g1, g2⟩ := minL_le r' n
      have hmem : minL n r' ∈ n :: r' := by
        rcases minL_mem r' n with e | e
        · rw [e]; exact List.mem_cons_self
        · exact List.mem_cons_of_mem _ e
      have h3 := hle _ hmem
      have h4 : minL n r' ≤ m := by
        rcases List.mem_cons.mp hm with e | e
        · subst e; exact g1
        · exact g2 m e
      omega
    rw [e]
    exact q.same ok (.int _)
theorem bi_sorted : CallR X (.builtin "sorted") (rDL X.K true <| bd1 .sorted) := bi_one fun pins s σ H x us Q z dx d I r ok vx he q => by
  obtain ⟨a, ns, rfl, h1, h2⟩ := intsB_ok (f := fun ns => some (.lst ((sortI ns).map .int))) ok vx he
  cases h2
  refine cr_sortedI pins s σ H _ us Q I r ⟨a, ns, rfl, .inl h1, fun ns' p hp hs hn => ?_⟩
  rw [sorted_one (hp.trans (sortI_perm ns).symm) hs (sortI_sorted ns)]
  exact q.lst ok (of_ints _) p hn
theorem bi_two {f : Bi} {fv : Value} (h : ∀ (pins : List (Addr × Obj)) (s : Shared) (σ : L2.St) (H : Hp) (i j : Int) (us : List Value) (Q : VK) (d : D), L2.Inv X pins σ H s → Vals [.int i, .int j] us → bi2 f (.int i) (.int j) [] = some d →
      (∀ k, d = .int k → Q (.int k) H) → wpAny (model X.prog X.w) X.A (call fv us) (EP X pins σ Q) X.xe s) (hi : ∀ x y st d, bi2 f x y st = some d → ∃ i j k, x = .int i ∧ y = .int j ∧ d = .int k ∧ bi2 f (.int i) (.int j) [] = some d) :
    CallR X fv (rDL X.K false <| bd2 f) := by
  intro pins s σ H xs us Q I r q
  obtain ⟨z, ds, d, st', ok, vx, he0, q⟩ := q
  unfold bd2 at he0
  split at he0
  · obtain ⟨he, rfl⟩ := opt_ok he0
    obtain ⟨v, w, rfl, v1, v2⟩ := vx.two
    obtain ⟨i, j, k, rfl, rfl, rfl, e⟩ := hi _ _ _ _ he
    cases v1; cases v2
    exact h pins s σ H i j us Q _ I r e fun k' e' => by cases e'; exact q.same ok (.int _)
  · cases he0
theorem bi_max2 (hc : X.calm = true) : CallR X (.builtin "max") (rDL X.K false <| bd2 .max2) :=
  bi_two (fun pins s σ H i j us Q d I r he q => by
    cases he
    exact call_max2 hc pins s σ H _ us Q I r ⟨i, j, rfl, q _ rfl⟩) fun x y st d he => by
    cases x <;> first | (cases he; done) | skip
    cases y <;> first | (cases he; done) | skip
    cases he
    exact ⟨_, _, _, rfl, rfl, rfl, rfl⟩
theorem bi_min2 (hc : X.calm = true) : CallR X (.builtin "min") (rDL X.K false <| bd2 .min2) :=
  bi_two (fun pins s σ H i j us Q d I r he q => by
    cases he
    exact call_min2 hc pins s σ H _ us Q I r ⟨i, j, rfl, q _ rfl⟩) fun x y st d he => by
    cases x <;> first | (cases he; done) | skip
    cases y <;> first | (cases he; done) | skip
    cases he
    exact ⟨_, _, _, rfl, rfl, rfl, rfl⟩
end
end PyE

namespace PyE
open PySem PySem.Spec PyProof.Rows L2
section
variable {K : PySem.W.Frag} {H : Hp} {z : Z}
theorem mtTy_lst {m : Mt} {d : D} {v : V} (hm : m ≠ .get ∧ m ≠ .setdefault ∧ m ≠ .join) (ok : Ok K H z) (dv : DVz K z d v) (h : mtTy m (view z.st d) = true) : ∃ a vs, v = .ref a ∧ Rd H a (.lst vs) := by
  cases e : view z.st d with
  | lst xs =>
    obtain ⟨a, vs, h1, h2, _⟩ := view_lst ok dv e
    exact ⟨a, vs, h1, ok.rd h2⟩
  | _ => rw [e] at h; cases m <;> first | (cases h; done) | exact absurd rfl hm.1 | exact absurd rfl hm.2.1 | exact absurd rfl hm.2.2
theorem mtTy_dct {d : D} {v : V} (ok : Ok K H z) (dv : DVz K z d v) (h : mtTy .get (view z.st d) = true) : ∃ a kvs, v = .ref a ∧ H a = some (.dK kvs) := by
  cases e : view z.st d with
  | dct xs =>
    obtain ⟨a, vs, h1, h2, _⟩ := view_dct ok dv e
    exact ⟨a, vs, h1, ok.sub _ _ h2⟩
  | _ => rw [e] at h; cases h
theorem lstAt_ok {o : D} {v : V} {n : Nat} {ys : List D} (ok : Ok K H z) (dv : DVz K z o v) (h : lstAt z.st o = some (n, ys)) : n < z.n ∧ v = .ref (z.mu n) ∧ ∃ vs, z.he (z.mu n) = some (.lst vs) ∧ DVsz K z ys vs := by
  unfold lstAt at h
  split at h
  · rename_i m
    obtain ⟨hn, e⟩ := ref_inv dv
    split at h
    · rename_i zs hz
      obtain ⟨rfl, rfl⟩ := Prod.mk.inj (Option.some.inj h)
      obtain ⟨vs, h1, h2⟩ := ok.sim.cell _ _ hz
      exact ⟨hn, e, vs, h1, h2⟩
    · cases h
  · cases h
/-- a list cell takes other items -/
theorem End.setLst {n : Nat} {ys zs : List D} {vs ws : List V} {d : D} {v : V} {Q : VK} (q : End K false H z d (z.st.set n (.lst zs)) Q) (ok : Ok K H z) (hn : n < z.n) (h2 : DVsz K z zs ws) (hd : DVz K z d v) : Q v (upd H (z.mu n) (.lst ws)) := by
  have t : To H z (upd H (z.mu n) (.lst ws)) (z.cell n (.lst ws) (.lst zs)) := To.cell ok hn
  have ck : CellOk (upd z.he (z.mu n) (.lst ws)) K z.mu z.n (.lst zs) (z.mu n) := ⟨_, upd_same, h2.mono (Ext.cell hn (ok.sim.there hn)) ok.sim⟩
  exact q _ (z.cell n (.lst ws) (.lst zs)) v rfl (ok.cell hn ck) t (ok.dv t hd) .no
theorem DVs.dropLast {xs : List D} {vs : List V} (h : DVsz K z xs vs) : DVsz K z xs.dropLast vs.dropLast := by
  rw [List.dropLast_eq_take, List.dropLast_eq_take, h.length]
  exact h.take _
theorem DVs.eraseIdx : ∀ {xs : List D} {vs : List V} (i : Nat), DVsz K z xs vs → DVsz K z (xs.eraseIdx i) (vs.eraseIdx i)
  | _, _, _, .nil => .nil
  | _, _, 0, .cons _ t => t
  | _, _, i + 1, .cons h t => .cons h (DVs.eraseIdx i t)
theorem posOf_ok {x : D} {v : V} (dx : DVz K z x v) (fx : flatD x = true) : ∀ {ys : List D} {vs : List V} {i j : Nat}, DVsz K z ys vs → ys.all flatD = true → posOf x ys i = some j →
    ∃ k w, j = i + k ∧ vs[k]? = some w ∧ eqV w v = true ∧ ∀ (m : Nat) (w' : V), m < k → vs[m]? = some w' → eqV w' v = false
  | _, _, _, _, .nil, _, e => by cases e
  | _, _, i, j, .cons (x := y) h t, f, e => by
    rw [List.all_cons, Bool.and_eq_true] at f
    unfold posOf at e
    rw [eqF_V h dx f.1 fx] at e
    split at e
    · rename_i he
      cases e
      exact ⟨0, _, rfl, rfl, he, fun m w' hm => absurd hm (Nat.not_lt_zero _)⟩
    · rename_i he
      obtain ⟨k, w, h1, h2, h3, h4⟩ := posOf_ok dx fx t f.2 e
      refine ⟨k + 1, w, by omega, by simpa using h2, h3, fun m w' hm hw => ?_⟩
      cases m with
      | zero =>
        have : _ = w' := Option.some.inj (by simpa using hw)
        subst this
        simpa using he
      | succ m => exact h4 m w' (by omega) (by simpa using hw)
end
section
variable {X : Cx}
theorem m_append : MtR X "list.append" (rDM X.K apB) := by
  intro pins s σ H x xs v us Q I rx rv h
  obtain ⟨z, dx, ds, d, st', ok, vx, vs, he, q⟩ := h
  unfold apB at he
  split at he
  · rename_i n ys y hl
    obtain ⟨hn, rfl, ws, h1, h2⟩ := lstAt_ok ok vx hl
    obtain ⟨w, rfl, vy⟩ := vs.one
    obtain ⟨hz, he⟩ := guard_ok he
    cases he
    exact mt_append pins s σ H _ _ v us Q I rx rv ⟨_, ws, w, rfl, rfl, ok.sub _ _ h1, by rw [← h2.length, ← line_eq]; exact of_decide_eq_true hz, q.setLst (ys := ys) (vs := ws) ok hn (h2.append (.cons vy .nil)) .non⟩
  · cases he
theorem m_insert : MtR X "list.insert" (rDM X.K insB) := by
  intro pins s σ H x xs v us Q I rx rv h
  obtain ⟨z, dx, ds, d, st', ok, vx, vs, he, q⟩ := h
  unfold insB at he
  split at he
  · rename_i n ys i y hl
    obtain ⟨hn, rfl, ws, h1, h2⟩ := lstAt_ok ok vx hl
    obtain ⟨w0, w, rfl, vi, vy⟩ := vs.two
    cases vi
    obtain ⟨hz, he⟩ := guard_ok he
    simp only [Bool.and_eq_true, decide_eq_true_eq] at hz
    cases he
    exact mt_insert pins s σ H _ _ v us Q I rx rv ⟨_, ws, i, w, rfl, rfl, ok.sub _ _ h1, by rw [← h2.length, ← line_eq]; exact hz.1.1, hz.1.2, by omega, q.setLst (ys := ys) (vs := ws) ok hn (((h2.take _).append (.cons vy .nil)).append (h2.drop _)) .non⟩
  · cases he
theorem m_extend : MtR X "list.extend" (rDM X.K extB) := by
  intro pins s σ H x xs v us Q I rx rv h
  obtain ⟨z, dx, ds, d, st', ok, vx, vs, he, q⟩ := h
  unfold extB at he
  split at he
  · rename_i n ys y hl
    obtain ⟨hn, rfl, ws, h1, h2⟩ := lstAt_ok ok vx hl
    obtain ⟨w, rfl, vy⟩ := vs.one
    split at he
    · rename_i zs hv
      obtain ⟨hz, he⟩ := guard_ok he
      have hz := of_decide_eq_true hz
      cases he
      obtain ⟨b, us2, rfl, h3, h4⟩ := view_lst ok vy hv
      have l1 := h2.length
      have l2 := h4.length
      have hsz : ws.length + us2.length ≤ sizeLine := by rw [← line_eq, ← l1, ← l2]; exact hz
      cases rx
      obtain ⟨u, rfl, ru⟩ := Vals.one rv
      cases ru
      obtain ⟨z1, its, n1, r1, e1⟩ := I.hok _ _ (ok.sub _ _ h1)
      obtain ⟨z2, its2, n2, r2, e2⟩ := (ok.rd h3).ok I.hok
      have k1 := r1.length
      have k2 := r2.length
      have hfit : its.toArray.size + its2.toArray.size ≤ sizeLine := by simp only [List.size_toArray]; omega
      have hshort : ¬ (!its.toArray.isEmpty && Builtin.List.listTooLong (its.toArray.size + its2.toArray.size)) = true := by
        rw [notLongL hfit, Bool.and_false]; simp
      refine call_meets F.slot_list_extend ⟨_, e1, rfl⟩ F.entry_list_extend (F.args_list_extend_2 _ _) (AutoSeq1.list_extend_list_list_0 _ its.toArray n1 b its2.toArray n2 hshort (by simp only [List.size_toArray]; omega) (by omega)) ⟨e1, e2, ?_⟩
      exact ⟨.non, _, I.lset (its' := its ++ its2) (ok.sub _ _ h1) e1 (by simp) (r1.append r2) (by simp only [List.length_append]; omega), rfl, q.setLst (ys := ys) (vs := ws) ok hn (h2.append h4) .non⟩
    · cases he
  · cases he
theorem m_pop : MtR X "list.pop" (rDM X.K popB) := by
  intro pins s σ H x xs v us Q I rx rv h
  obtain ⟨z, dx, ds, d, st', ok, vx, vs, he, q⟩ := h
  unfold popB at he
  split at he
  · rename_i n ys hl
    obtain ⟨hn, rfl, ws, h1, h2⟩ := lstAt_ok ok vx hl
    cases vs
    split at he
    · rename_i y hy
      cases he
      obtain ⟨w, hw, vw⟩ := h2.get hy
      rw [h2.length] at hw
      exact mt_pop pins s σ H _ _ v us Q I rx rv ⟨_, ws, w, rfl, rfl, ok.sub _ _ h1, hw, q.setLst (ys := ys) (vs := ws) ok hn h2.dropLast vw⟩
    · cases he
  · cases he
theorem m_popAt : MtR X "list.pop" (rDM X.K popAtB) := by
  intro pins s σ H x xs v us Q I rx rv h
  obtain ⟨z, dx, ds, d, st', ok, vx, vs, he, q⟩ := h
  unfold popAtB at he
  split at he
  · rename_i n ys i hl
    obtain ⟨hn, rfl, ws, h1, h2⟩ := lstAt_ok ok vx hl
    obtain ⟨w0, rfl, vi⟩ := vs.one
    cases vi
    split at he
    · rename_i k hk
      split at he
      · rename_i y hy
        obtain ⟨hz, he⟩ := guard_ok he
        simp only [Bool.and_eq_true, decide_eq_true_eq] at hz
        cases he
        obtain ⟨w, hw, vw⟩ := h2.get hy
        rw [h2.length] at hk
        exact mt_popAt pins s σ H _ _ v us Q I rx rv ⟨_, ws, i, k, w, rfl, rfl, ok.sub _ _ h1, by omega, by omega, (ixN_seq hk).1, hw, q.setLst (ys := ys) (vs := ws) ok hn (h2.eraseIdx k) vw⟩
      · cases he
    · cases he
  · cases he
theorem m_index : MtR X "list.index" (rDM X.K idxB) := by
  intro pins s σ H x xs v us Q I rx rv h
  obtain ⟨z, dx, ds, d, st', ok, vx, vs, he, q⟩ := h
  unfold idxB at he
  split at he
  · rename_i ys y hl
    obtain ⟨a, ws, rfl, h1, h2⟩ := view_lst ok vx hl
    obtain ⟨w, rfl, vy⟩ := vs.one
    obtain ⟨hf, he⟩ := guard_ok he
    rw [Bool.and_eq_true] at hf
    obtain ⟨hf2, rfl⟩ := opt_ok he
    rw [Option.map_eq_some_iff] at hf2
    obtain ⟨j, hj, rfl⟩ := hf2
    obtain ⟨k, w', rfl, g1, g2, g3⟩ := posOf_ok vy hf.1 h2 hf.2 hj
    refine mt_index pins s σ H _ _ v us Q I rx rv ⟨a, ws, w, k, w', rfl, rfl, .inl (ok.rd h1), flat_of vy hf.1, all_flat h2 hf.2, g1, g2, g3, ?_⟩
    rw [Nat.zero_add] at q
    exact q.same ok (.int _)
  · cases he
def tyN : D → String
  | .non => "NoneType"
  | .bl _ => "bool"
  | .int _ => "int"
  | .str _ => "str"
  | .tup _ => "tuple"
  | .lst _ => "list"
  | .dct _ => "dict"
  | _ => ""
def tyT : Ty → String
  | .int => "int"
  | .bool => "bool"
  | .str => "str"
  | .tuple => "tuple"
  | .list => "list"
theorem kit_all : ∀ (d : D) (t : Ty), isPl d = true → kitB (tyN d) (tyT t) = some (isTy d t) := by
  intro d t h
  cases d <;> first | (cases h; done) | skip
  all_goals cases t <;> (simp only [tyN, tyT, isTy]; decide +kernel)
theorem tyx_of {K : PySem.W.Frag} {H : Hp} {z : Z} {d : D} {v : V} (ok : Ok K H z) (dv : DVz K z d v) (h : isPl (view z.st d) = true) : TyX K H v (.type (tyN (view z.st d))) := by
  cases e : view z.st d with
  | non => obtain ⟨_, rfl⟩ := view_non ok dv e; exact .base .non
  | bl b => obtain ⟨_, rfl⟩ := view_bl ok dv e; exact .base (.bl b)
  | int b => obtain ⟨_, rfl⟩ := view_int ok dv e; exact .base (.int b)
  | str b => obtain ⟨_, rfl⟩ := view_str ok dv e; exact .base (.str b)
  | tup xs =>
    obtain ⟨a, vs, rfl, h1, _⟩ := view_tup ok dv e
    rcases ok.sqT h1 with (q | ⟨o, q⟩) | ⟨o, its, n, q, c, _⟩
    · exact .base (.tup q)
    · exact .fTuple q
    · exact .kTuple q c
  | lst xs =>
    obtain ⟨a, vs, rfl, h1, _⟩ := view_lst ok dv e
    rcases ok.rd h1 with q | ⟨o, q⟩
    · exact .base (.lst q)
    · exact .base (.frz q)
  | dct xs =>
    obtain ⟨a, vs, rfl, h1, _⟩ := view_dct ok dv e
    exact .base (.dK (ok.sub _ _ h1))
  | ref n => rw [e] at h; cases h
  | fn n => rw [e] at h; cases h
theorem kits : ∀ (d : D) (ts : List Ty) (K : PySem.W.Frag), isPl d = true → PySem.W.kitAny K (.type (tyN d)) (ts.map fun t => Value.type (tyT t)) = some (ts.any (isTy d))
  | d, [], K, h => kitAny_nil
  | d, t :: ts, K, h => by
    rw [List.map_cons, List.any_cons]
    have h1 : PySem.W.kitOne K (.type (tyN d)) (.type (tyT t)) = some (isTy d t) := kit_ty (kit_all d t h)
    refine kitAny_cons h1 (fun hb => ?_) fun hb => ?_
    · rw [hb, Bool.false_or]; exact kits d ts K h
    · rw [hb, Bool.true_or]
end
end PyE

namespace PyE
open PySem PySem.Spec PyProof.Rows L2
open AutoSeq1 (wpAny_loadPart')
section
theorem enum_tup_made (l : Addr) (items : Array Value) (n : Nat) (dct : Option Addr) (sl : Array (Option Value)) :
    Meets (Builtin.«enumerate.__new__» ⟨[.type "enumerate", .ref l], []⟩) (fun _ R s => s.heap.get? l = some { cls := .type "tuple", dict := dct, data := .seq items n, slots := sl } ∧
      R (.ok (.ret (.ref (s.heap.push { cls := .type "tuple_iterator", data := .fields #[.ref l, .int 0 0] }).objs.size)))
        { s with heap := (s.heap.push { cls := .type "tuple_iterator", data := .fields #[.ref l, .int 0 0] }).push { cls := .type "enumerate", data := .fields #[.none, .bool false, .ref s.heap.objs.size, rawInt 0, .none, .none] } }) :=
  .of_wp fun prog w A R s h => by
    obtain ⟨hp, g, d, tk, os⟩ := s; obtain ⟨hl, h⟩ := h
    have hsub := sub_enumerate
    have hT : Heap.IsTuple (Shared.heap ⟨hp, g, d, tk, os⟩) l items := ⟨_, hl, rfl, n, rfl⟩
    wp_walk using wpAny_loadPart' hl
    refine wpAny_stack_any fun st => wpAny_pure ?_
    split
    · rename_i c _ _ _ _ _
      cases (c == Value.type "enumerate") <;>
      · wp_walk using wpAny_loadPart' hl, wpAny_pyIter_tuple hT
        exact ⟨_, rfl, h⟩
    · wp_walk using wpAny_loadPart' hl, wpAny_pyIter_tuple hT
      exact ⟨_, rfl, h⟩
end
section
variable {prog : Program} {w : World} {A : Around} {E : Value → Shared → Prop} {s : Shared}
theorem call_enum_tup {l : Addr} {items : Array Value} {Q : Value → Shared → Prop} (hL : s.heap.IsTuple l items)
    (h : ∀ h', IsEnum h' (s.heap.objs.size + 1) s.heap.objs.size 0 .none → h'.IsTupleIter s.heap.objs.size l 0 → h'.objs.size = s.heap.objs.size + 2 →
      (∀ b o, s.heap.get? b = some o → h'.get? b = some o) → Q (.ref (s.heap.objs.size + 1)) { s with heap := h' }) :
    wpAny (model prog w) A (call (.type "enumerate") [.ref l]) Q E s := by
  obtain ⟨⟨c, dct, dt, sl⟩, hl, hc, n, hd⟩ := hL
  replace hc : c = .type "tuple" := hc
  replace hd : dt = .seq items n := hd
  subst hc hd
  refine callType_new F.called_enumerate (by decide) (F.typeCall_enumerate_1 _) (F.newCall_enumerate_1 _) (fun obj => F.args_object_init_2 obj _) F.entry_enumerate_new (enum_tup_made l items n dct sl) ⟨hl, ?_⟩
  let it : Obj := { cls := .type "tuple_iterator", data := .fields #[.ref l, .int 0 0] }
  let en : Obj := { cls := .type "enumerate", data := .fields #[.none, .bool false, .ref s.heap.objs.size, rawInt 0, .none, .none] }
  have sz : (s.heap.push it).objs.size = s.heap.objs.size + 1 := Heap.size_push ..
  have at_ : ((s.heap.push it).push en).get? (s.heap.objs.size + 1) = some en := by
    rw [← sz]; exact Heap.get?_push_size _ rfl
  show _ ∧ _
  rw [sz]
  exact ⟨⟨_, at_, rfl⟩, h _ at_ ⟨_, Heap.get?_push_of_some _ (Heap.get?_push_size _ rfl), rfl, rfl⟩ (by rw [Heap.size_push, sz]) fun b o x => Heap.get?_push_of_some _ (Heap.get?_push_of_some _ x)⟩
end
/-- the tuple at a, each item in a new pair with its number -/
def IteT (K : PySem.W.Frag) (a : Addr) : It :=
  ⟨fun i H => ∃ (xs : List V) (x : V), SqT K H a xs ∧ xs[i]? = some x, fun i H v H' => ∃ T x, v = .ref T ∧ H T = none ∧ H' = upd H T (.tup [.int (i : Nat), x]) ∧ ∀ xs, SqT K H a xs → xs[i]? = some x, fun i H => ∃ xs : List V, SqT K H a xs ∧ xs.length ≤ i⟩
theorem two_mem {b e it : Addr} (h : b ∈ [e, it]) : b = e ∨ b = it := by simpa using h
theorem turn_enumT {P : Program} {w : World} {K : PySem.W.Frag} {elts : List Expr} {kk : Nat} {tpos : Pos} (a e it : Addr) :
    Turn P w K (.Tuple elts kk tpos) (IteT K a) [e, it] e (fun i h => (∃ old, IsEnum h e it ((i : Nat) : Int) old) ∧ h.IsTupleIter it a i ∧ e ≠ it ∧ a ≠ it ∧ a ≠ e) where
  mem := List.mem_cons_self
  obj := fun i h st b hb => by
    obtain ⟨⟨old, he⟩, ⟨o, ho, hc, hd⟩, _⟩ := st
    rcases two_mem hb with rfl | rfl
    · exact ⟨_, he, fun v q => by cases q⟩
    · exact ⟨o, ho, fun v q => by rw [hd] at q; cases q⟩
  keep := fun i h h' st k => by
    obtain ⟨⟨old, he⟩, hi, hne⟩ := st
    exact ⟨⟨old, k e List.mem_cons_self _ he⟩, hi.at fun o q => k it (List.mem_cons_of_mem _ List.mem_cons_self) o q, hne⟩
  item := by
    intro X hP hw hK hc i pins s σ H E I hf st hg
    subst hP hw hK
    obtain ⟨⟨old, he⟩, hit, hne, hai, hae⟩ := st
    obtain ⟨xs, x, hq, hx⟩ := hg
    obtain ⟨its, rv, p, hz⟩ := I.tuple hq
    obtain ⟨u, hu, ru⟩ := rv.get hx
    have lte : e < s.heap.objs.size := Heap.lt_size he
    have lti : it < s.heap.objs.size := by obtain ⟨_, q, _⟩ := hit; exact Heap.lt_size q
    have hlt : i < its.toArray.size := by
      have q := (List.getElem?_eq_some_iff.mp hu).1
      simpa using q
    have Dr := Draws.tuple (prog := X.prog) (w := X.w) (A := X.A.in1) (show X.A.in1.handled = none from I.ok.hd hc) it a hai its.toArray
    refine wpAny_pyNext_enum_itemD Dr he ⟨hit, (show s.heap.IsTuple a its.toArray from p)⟩ hlt hne (by simp [hne, Ne.symm hae]) fun v h' tk hv ho st' hT hsz hk => ?_
    have ev : v = u := by
      have q : its.toArray[i]? = some u := by simpa using hu
      rw [q] at hv; exact (Option.some.inj hv).symm
    subst ev
    refine ⟨_, rfl, wpAny_letOwnedTupleGo_enum (s := { s with heap := h', toks := tk + 1 }) ho fun h2 he2 sb => ?_⟩
    have hT2 : h2.get? s.heap.objs.size = some { cls := .type "tuple", data := .seq #[.int i tk, v] } := (sb.2 _ (Nat.ne_of_gt lte)).trans hT
    have new : ObjOk X.prog X.w (upd H s.heap.objs.size (.tup [.int (i : Nat), x])) h2 s.heap.objs.size (.tup [.int (i : Nat), x]) :=
      ⟨by rw [← line_eq]; show 2 ≤ line; decide, [.int i tk, v], .cons ⟨_, rfl⟩ (.cons ru .nil), ⟨_, hT2, rfl, _, rfl⟩⟩
    have kept : ∀ b ob, b ∉ [e, it] → s.heap.get? b = some ob → h2.get? b = some ob := fun b ob hb q => by
      have n1 : b ≠ e := fun z => hb (by rw [z]; exact List.mem_cons_self)
      have n2 : b ≠ it := fun z => hb (by rw [z]; exact List.mem_cons_of_mem _ List.mem_cons_self)
      exact (sb.2 b n1).trans (hk b ob n1 n2 q)
    have I1 : L2.Inv X pins σ (upd H s.heap.objs.size (.tup [.int (i : Nat), x])) { s with heap := h2, toks := tk + 1 } := I.turnedNew (ch := [e, it]) kept hf (Nat.le_refl _) new
    refine ⟨.ref s.heap.objs.size, _, I1, rfl, ⟨_, x, rfl, I.hok.fresh (Nat.le_refl _), rfl, fun ys hy => by rw [I.tuple_inj hy hq]; exact hx⟩, ⟨⟨v, ?_⟩, st'.1.at fun o q => (sb.2 it (Ne.symm hne)).trans q, hne, hai, hae⟩, fun b hb => ?_⟩
    · rw [show ((i + 1 : Nat) : Int) = (i : Int) + 1 by omega]; exact he2
    · have hb' : b < s.heap.objs.size := by rcases two_mem hb with rfl | rfl <;> assumption
      rw [upd_ne (Nat.ne_of_lt hb')]
      exact (hf b hb).1
  done := by
    intro X hP hw hK hc i pins s σ H E I hf st hg
    subst hP hw hK
    obtain ⟨⟨old, he⟩, hit, hne, hai, hae⟩ := st
    obtain ⟨xs, hq, hx⟩ := hg
    obtain ⟨its, rv, p, hz⟩ := I.tuple hq
    obtain ⟨f0, f1, f2, f3, f4, f5⟩ := hf it (List.mem_cons_of_mem _ List.mem_cons_self)
    have hl := rv.length
    have hend : its.toArray[i]? = none := by simp; omega
    have hT : s.TypeIs (.ref e) "enumerate" := ⟨_, he, rfl⟩
    unfold pyNext
    refine wpAny_bind (wpAny_attempt (wpAny_callSpecial?_slot (name := Str.ofString "__next__") hT F.slot_enumerate_next (wpAny_call_entry F.slot_enumerate_next hT F.entry_enumerate_next ?_ (F.args_enumerate_next_1 _))))
    show wpAny _ _ (field (.ref e) 2 >>= _) _ _ _
    refine wpAny_bind (wpAny_field he rfl (x := .ref it) rfl ?_)
    refine wpAny_bind (wpAny_nextOf_tuple_end (show X.A.in1.handled = none from I.ok.hd hc) hit (show s.heap.IsTuple a its.toArray from p) hend fun h' x eb hx' => ?_)
    obtain ⟨o, ho, hcl⟩ := hx'
    refine wpAny_bind (wpAny_isInstance (T := "StopIteration") (b := true) ⟨o, ho, hcl⟩ isSubtype_stop ?_)
    exact wpAny_pure ⟨rfl, I.turned (t' := s.toks) (fun b o hb q => eb b o hb q) f0 f1 f3 f4 f5⟩
  self := fun A i s Q E st h => by
    obtain ⟨⟨_, he⟩, _⟩ := st
    exact wpAny_pyIter_enum he h
def iEnumA (K : PySem.W.Frag) (ta : TA) : TI := fun σ H R => ta σ H fun vs H1 => ∃ a xs, vs = [.ref a] ∧ ((SqL K H1 a xs ∧ R (Ite K a) H1) ∨ (SqT K H1 a xs ∧ R (IteT K a) H1))
theorem pi_enumA {X : Cx} {e : Expr} {ta : TA} {p pos tpos : Pos} {elts : List Expr} {kk : Nat} (hg : Gl X "enumerate") (hm : X.mg "enumerate" = none) (ha : PA X [e] ta) (hs : starEach [e] X.env = [(false, eval e X.env)]) :
    PI X (.Tuple elts kk tpos) (.Call (.Name "enumerate" p) [e] [] pos) (iEnumA X.K ta) := by
  refine ⟨fun pins s σ H R I h => ?_⟩
  refine Call_ (ld_blt I hg hm boot_enumerate (PyProof.Rows.callWith_type1 (thn (ha.run pos pins s σ H _ I h) fun us s1 ⟨vs, H1, I1, r1, q1⟩ => ?_) hs rfl))
  obtain ⟨a, xs, ex, q1⟩ := q1
  subst ex
  rw [Vals.ref1 r1]
  have two : ∀ b, b ∈ [s1.heap.objs.size + 1, s1.heap.objs.size] → FpOk X pins H1 b := fun b hb => by
    have hle : s1.heap.objs.size ≤ b := by rcases two_mem hb with rfl | rfl <;> omega
    exact I1.fpOk hle (I1.hok.fresh hle)
  rcases q1 with ⟨hq, q⟩ | ⟨hq, q⟩
  · obtain ⟨its, rv, p', hz⟩ := I1.list hq
    refine call_enumerate_list p'.isList fun h' he hit hsz hk => wpAny_pyIter_enum he ?_
    have I2 : L2.Inv X pins σ H1 { s1 with heap := h' } := I1.kept (t' := s1.toks) hk
    exact ⟨_, _, _, _, H1, rfl, I2, turn_enum a (s1.heap.objs.size + 1) s1.heap.objs.size, ⟨⟨.none, he⟩, hit, Nat.succ_ne_self _⟩, two, q⟩
  · obtain ⟨its, rv, p', hz⟩ := I1.tuple hq
    obtain ⟨o, ho, _⟩ := id p'
    have hlt := Heap.lt_size ho
    refine call_enum_tup (show s1.heap.IsTuple a its.toArray from p') fun h' he hit hsz hk => wpAny_pyIter_enum he ?_
    have I2 : L2.Inv X pins σ H1 { s1 with heap := h' } := I1.kept (t' := s1.toks) hk
    exact ⟨_, _, _, _, H1, rfl, I2, turn_enumT a (s1.heap.objs.size + 1) s1.heap.objs.size, ⟨⟨.none, he⟩, hit, Nat.succ_ne_self _, Nat.ne_of_lt hlt, Nat.ne_of_lt (Nat.lt_succ_of_lt hlt)⟩, two, q⟩
end PyE

namespace PyE
open PySem PySem.Spec PyProof.Rows L2
/-- what a def of the evaluator promises -/
def spF (K : PySem.W.Frag) (cf : CallF) (f : Nat) : Sp := fun vs H Q _ =>
  ∃ z ds d st', Ok K H z ∧ DVsz K z ds vs ∧ cf f ds z.st = .ok d st' ∧ End K false H z d st' Q
/-- the caller's cells that the callee doesn't get -/
def Hid (z : Z) (rs ws : List Nat) (a : Addr) : Prop := ∃ i, i < z.n ∧ i ∉ rs ∧ i ∉ ws ∧ z.mu i = a
open Classical in
noncomputable def hideH (z : Z) (rs ws : List Nat) : Hp := fun a => if Hid z rs ws a then none else z.he a
def muC (z : Z) (rs : List Nat) : Nat → Addr := fun j => z.mu (rs.getD j 0)
section
variable {K : PySem.W.Frag} {H H' : Hp} {z zc zc' : Z} {rs ws : List Nat} {cs cs' : Store}
theorem hideH_no {a : Addr} (h : ¬ Hid z rs ws a) : hideH z rs ws a = z.he a := if_neg h
theorem hideH_some {a : Addr} {o : HO} (h : hideH z rs ws a = some o) : ¬ Hid z rs ws a ∧ z.he a = some o := by
  unfold hideH at h
  split at h
  · cases h
  · rename_i n; exact ⟨n, h⟩
theorem hideH_none {a : Addr} (h : z.he a = none) : hideH z rs ws a = none := by
  unfold hideH
  split
  · rfl
  · exact h
theorem muC_get {j r : Nat} (h : rs[j]? = some r) : muC z rs j = z.mu r := by
  unfold muC
  rw [List.getD_eq_getElem?_getD, h]; rfl
theorem not_hid_of (h : ∀ i, i < z.n → z.mu i ≠ a) : ¬ Hid z rs ws a := fun ⟨i, hi, _, _, e⟩ => h i hi e
theorem hid_ref (ok : Ok K H z) {r : Nat} (hr : r < z.n) (h : r ∈ rs ∨ r ∈ ws) : ¬ Hid z rs ws (z.mu r) := fun ⟨i, hi, h1, h2, e⟩ => by
  have : i = r := ok.sim.inj i r hi hr e
  subst this
  rcases h with h | h
  · exact h1 h
  · exact h2 h
/-- pure data, seen by the callee -/
structure Into (K : PySem.W.Frag) (z : Z) (rs ws : List Nat) (n : Nat) : Prop where
  S : Sim z.he K z.mu z.st
  lt : ∀ r ∈ rs, r < z.n
  len : rs.length = n
theorem muC_ne (i : Into K z rs ws n) {a : Addr} (h : ∀ i, i < z.n → z.mu i ≠ a) : ∀ j, j < n → muC z rs j ≠ a := fun j hj => by
  have hj : j < rs.length := by rw [i.len]; exact hj
  rw [muC_get (List.getElem?_eq_getElem hj)]
  exact h _ (i.lt _ (List.getElem_mem hj))
mutual
theorem DV.into (i : Into K z rs ws n) : ∀ {d : D} {v : V}, DVz K z d v → d.pure = true → DV (hideH z rs ws) K (muC z rs) n d v
  | _, _, .non, _ => .non
  | _, _, .bl b, _ => .bl b
  | _, _, .int b, _ => .int b
  | _, _, .str b, _ => .str b
  | _, _, .tup h1 h2, p => by
    refine .tup ?_ (DVs.into i h2 (by simpa [D.pure] using p))
    rcases h1 with (q | ⟨o, q⟩) | q
    · exact .inl (.inl ((hideH_no (not_hid_of (i.S.ne_tup q))).trans q))
    · exact .inl (.inr ⟨o, (hideH_no (not_hid_of (i.S.ne_frz q))).trans q⟩)
    · exact .inr q
  | _, _, .lst h1 h2 h3, p => by
    refine .lst ?_ (muC_ne i h2) (DVs.into i h3 (by simpa [D.pure] using p))
    rcases h1 with q | ⟨o, q⟩
    · exact .inl ((hideH_no (not_hid_of h2)).trans q)
    · exact .inr ⟨o, (hideH_no (not_hid_of h2)).trans q⟩
  | _, _, .dct h1 h2 h3, p => .dct ((hideH_no (not_hid_of h2)).trans h1) (muC_ne i h2) (DKs.into i h3 (by simpa [D.pure] using p))
  | _, _, .ref _, p => by simp [D.pure] at p
theorem DVs.into (i : Into K z rs ws n) : ∀ {d : List D} {v : List V}, DVsz K z d v → D.pureL d = true → DVs (hideH z rs ws) K (muC z rs) n d v
  | _, _, .nil, _ => .nil
  | _, _, .cons h t, p => by
    simp only [D.pureL, Bool.and_eq_true] at p
    exact .cons (DV.into i h p.1) (DVs.into i t p.2)
theorem DKs.into (i : Into K z rs ws n) : ∀ {d : List D} {v : List (Key × V)}, DKsz K z d v → D.pureL d = true → DKs (hideH z rs ws) K (muC z rs) n d v
  | _, _, .nil, _ => .nil
  | _, _, .cons h t, p => by
    simp only [D.pureL, D.pure, Bool.and_eq_true] at p
    exact .cons (DV.into i h p.1.2.1) (DKs.into i t p.2)
end
theorem cells_ok : ∀ {rs : List Nat} {cs : Store}, cellsAt z.st rs = some cs → rs.length = cs.length ∧ ∀ (j r : Nat), rs[j]? = some r → ∃ c, z.st[r]? = some c ∧ cs[j]? = some c ∧ c.pure = true
  | [], cs, e => by cases e; exact ⟨rfl, fun j r h => by simp at h⟩
  | r :: q, cs, e => by
    unfold cellsAt at e
    simp only [Option.bind_eq_some_iff] at e
    obtain ⟨c, e1, cs2, e2, e3⟩ := e
    split at e3
    · rename_i hp
      cases e3
      obtain ⟨h1, h2⟩ := cells_ok e2
      refine ⟨by rw [List.length_cons, List.length_cons, h1], fun j r' h => ?_⟩
      cases j with
      | zero =>
        have : r = r' := by simpa using h
        subst this
        exact ⟨c, e1, rfl, hp⟩
      | succ j => exact h2 j r' (by simpa using h)
    · cases e3
theorem into_of {rs : List Nat} {cs : Store} (ok : Ok K H z) (e : cellsAt z.st rs = some cs) : Into K z rs ws cs.length := by
  obtain ⟨h1, h2⟩ := cells_ok e
  refine ⟨ok.sim, fun r hr => ?_, h1⟩
  obtain ⟨j, hj, e2⟩ := List.getElem_of_mem hr
  obtain ⟨c, e3, _⟩ := h2 j r (by rw [List.getElem?_eq_getElem hj, e2])
  exact (List.getElem?_eq_some_iff.mp e3).1
/-- the callee's view -/
noncomputable def zC (z : Z) (rs ws : List Nat) (cs : Store) : Z := ⟨hideH z rs ws, muC z rs, cs⟩
theorem nodup_get {rs : List Nat} (nd : rs.Nodup) {i j r : Nat} (h1 : rs[i]? = some r) (h2 : rs[j]? = some r) : i = j := by
  obtain ⟨a, e1⟩ := List.getElem?_eq_some_iff.mp h1
  obtain ⟨b, e2⟩ := List.getElem?_eq_some_iff.mp h2
  exact (List.getElem_inj nd).mp (e1.trans e2.symm)
theorem zC_ok {rs : List Nat} {cs : Store} (ok : Ok K H z) (e : cellsAt z.st rs = some cs) (nd : rs.Nodup) : Ok K H (zC z rs ws cs) := by
  obtain ⟨h1, h2⟩ := cells_ok e
  have i : Into K z rs ws cs.length := into_of ok e
  refine ⟨fun a o q => ok.sub a o (hideH_some q).2, fun a b ha hb q => ?_, fun j c q => ?_⟩
  · have ha : a < rs.length := by rw [h1]; exact ha
    have hb : b < rs.length := by rw [h1]; exact hb
    have q : muC z rs a = muC z rs b := q
    rw [muC_get (List.getElem?_eq_getElem ha), muC_get (List.getElem?_eq_getElem hb)] at q
    have e3 := ok.sim.inj _ _ (i.lt _ (List.getElem_mem ha)) (i.lt _ (List.getElem_mem hb)) q
    exact (List.getElem_inj nd).mp e3
  · have q : cs[j]? = some c := q
    have hj : j < rs.length := by rw [h1]; exact (List.getElem?_eq_some_iff.mp q).1
    obtain ⟨c', e1, e2, hp⟩ := h2 j _ (List.getElem?_eq_getElem hj)
    rw [q] at e2; cases e2
    have hr := i.lt _ (List.getElem_mem hj)
    have k := ok.sim.cell _ _ e1
    have em : (zC z rs ws cs).mu j = z.mu rs[j] := muC_get (List.getElem?_eq_getElem hj)
    have eh : hideH z rs ws (z.mu rs[j]) = z.he (z.mu rs[j]) := hideH_no (hid_ref ok hr (.inl (List.getElem_mem hj)))
    rw [em]
    cases c with
    | lst xs =>
      obtain ⟨vs, k1, k2⟩ := k
      exact ⟨vs, eh.trans k1, k2.into i (by simpa [D.pure] using hp)⟩
    | dct xs =>
      obtain ⟨vs, k1, k2⟩ := k
      exact ⟨vs, eh.trans k1, k2.into i (by simpa [D.pure] using hp)⟩
    | _ => exact k.elim
/-- the arguments -/
theorem prep_ok (ok : Ok K H z) {io : List Nat} {rs ws : List Nat} (i : Into K z rs ws n) (dis : ∀ w ∈ ws, w ∉ rs) : ∀ {xs : List D} {vs : List V} {a j : Nat} {ys : List D} {rs' ws' : List Nat}, DVsz K z xs vs → prep io z.st a j xs = some (ys, rs', ws') →
    (∀ m r, rs'[m]? = some r → rs[j + m]? = some r) → (∀ w ∈ ws', w ∈ ws) → DVs (hideH z rs ws) K (muC z rs) n ys vs
  | _, _, a, j, ys, rs', ws', .nil, e, _, _ => by cases e; exact .nil
  | _, _, a, j, ys, rs', ws', .cons (x := x) (v := v) (xs := xs) (vs := vs) h t, e, hr, hw => by
    unfold prep at e
    split at e
    · split at e
      · rename_i m
        rw [Option.map_eq_some_iff] at e
        obtain ⟨⟨ys1, rs1, ws1⟩, e1, e2⟩ := e
        cases e2
        obtain ⟨hm, rfl⟩ := ref_inv h
        have h0 := hr 0 m rfl
        rw [Nat.add_zero] at h0
        have tl := prep_ok ok i dis t e1 (fun k r hk => by
          have := hr (k + 1) r (by simpa using hk)
          rwa [show j + (k + 1) = j + 1 + k by omega] at this) hw
        refine .cons ?_ tl
        rw [← muC_get h0]
        exact .ref (by rw [← i.len]; exact (List.getElem?_eq_some_iff.mp h0).1)
      · cases e
    · split at e
      · rename_i hp
        rw [Option.map_eq_some_iff] at e
        obtain ⟨⟨ys1, rs1, ws1⟩, e1, e2⟩ := e
        cases e2
        exact .cons (h.into i hp) (prep_ok ok i dis t e1 hr hw)
      · split at e
        · rename_i m hnp
          simp only [Option.bind_eq_some_iff] at e
          obtain ⟨c, e0, e⟩ := e
          split at e
          · rename_i hp
            rw [Option.map_eq_some_iff] at e
            obtain ⟨⟨ys1, rs1, ws1⟩, e1, e2⟩ := e
            cases e2
            obtain ⟨hm, rfl⟩ := ref_inv h
            have hmw : m ∈ ws := hw m List.mem_cons_self
            refine .cons ?_ (prep_ok ok i dis t e1 hr fun w hw' => hw w (List.mem_cons_of_mem _ hw'))
            have eh : hideH z rs ws (z.mu m) = z.he (z.mu m) := hideH_no (hid_ref ok hm (.inr hmw))
            have ne : ∀ k, k < n → muC z rs k ≠ z.mu m := fun k hk q => by
              have hk : k < rs.length := by rw [i.len]; exact hk
              rw [muC_get (List.getElem?_eq_getElem hk)] at q
              have := ok.sim.inj _ _ (i.lt _ (List.getElem_mem hk)) hm q
              exact dis m hmw (this ▸ List.getElem_mem hk)
            have k := ok.sim.cell _ _ e0
            cases c with
            | lst xs =>
              obtain ⟨vs, k1, k2⟩ := k
              exact .lst (.inl (eh.trans k1)) ne (k2.into i (by simpa [D.pure] using hp))
            | dct xs =>
              obtain ⟨vs, k1, k2⟩ := k
              exact .dct (eh.trans k1) ne (k2.into i (by simpa [D.pure] using hp))
            | _ => exact k.elim
          · cases e
        · cases e
/-- what stands behind a callee -/
structure After (K : PySem.W.Frag) (H : Hp) (z : Z) (rs ws : List Nat) (cs : Store) (H' : Hp) (zc' : Z) : Prop where
  ok : Ok K H z
  nd : rs.Nodup
  lt : ∀ r ∈ rs, r < z.n
  len : rs.length = cs.length
  dis : ∀ w ∈ ws, w ∉ rs
  ok' : Ok K H' zc'
  to : To H (zC z rs ws cs) H' zc'
theorem After.le (x : After K H z rs ws cs H' zc') : rs.length ≤ zc'.n := by
  have := x.to.ext.le
  rw [x.len]; exact this
theorem After.mu (x : After K H z rs ws cs H' zc') {j r : Nat} (h : rs[j]? = some r) : zc'.mu j = z.mu r := by
  have hj : j < cs.length := by rw [← x.len]; exact (List.getElem?_eq_some_iff.mp h).1
  exact (x.to.ext.mu j hj).trans (muC_get h)
theorem After.hidden (x : After K H z rs ws cs H' zc') {a : Addr} (h : Hid z rs ws a) : zc'.he a = none := by
  obtain ⟨i, hi, h1, h2, rfl⟩ := h
  have h3 : z.he (z.mu i) ≠ none := x.ok.sim.there hi
  cases e : z.he (z.mu i) with
  | none => exact absurd e h3
  | some o => exact (x.to.hid _ o (x.ok.sub _ _ e) (show hideH z rs ws (z.mu i) = none from if_pos ⟨i, hi, h1, h2, rfl⟩)).2
open Classical in
/-- the caller's view behind the call -/
noncomputable def zB (z zc' : Z) (rs ws : List Nat) (st' : Store) : Z := ⟨fun a => if Hid z rs ws a then z.he a else zc'.he a, z.mu, st'⟩
theorem zB_hid {st' : Store} {a : Addr} (h : Hid z rs ws a) : (zB z zc' rs ws st').he a = z.he a := if_pos h
theorem zB_no {st' : Store} {a : Addr} (h : ¬ Hid z rs ws a) : (zB z zc' rs ws st').he a = zc'.he a := if_neg h
/-- what the callee sees, the caller sees -/
theorem After.sees (x : After K H z rs ws cs H' zc') {st' : Store} {a : Addr} {o : HO} (h : zc'.he a = some o) : (zB z zc' rs ws st').he a = some o := by
  rw [zB_no fun q => by rw [x.hidden q] at h; cases h]; exact h
/-- an address that the callee's cells don't have is no cell of the caller's, but one that was looked at -/
theorem After.out (x : After K H z rs ws cs H' zc') {a : Addr} {o : HO} (h : zc'.he a = some o) (hn : ∀ j, j < zc'.n → zc'.mu j ≠ a) {i : Nat} (hi : i < z.n) (e : z.mu i = a) : i ∈ ws := by
  by_cases h1 : i ∈ rs
  · obtain ⟨j, hj, e2⟩ := List.getElem_of_mem h1
    have e3 : rs[j]? = some i := by rw [List.getElem?_eq_getElem hj, e2]
    exact absurd ((x.mu e3).trans e) (hn j (Nat.lt_of_lt_of_le hj x.le))
  · by_cases h2 : i ∈ ws
    · exact h2
    · rw [x.hidden ⟨i, hi, h1, h2, e⟩] at h; cases h
theorem After.toB (x : After K H z rs ws cs H' zc') {st' : Store} (hl : st'.length = z.n) : To H z H' (zB z zc' rs ws st') := by
  have en : (zB z zc' rs ws st').n = z.n := hl
  refine ⟨?_, fun a o e q => ?_, x.to.there⟩
  · rw [en]
    refine ⟨Nat.le_refl _, fun _ _ => rfl, fun i h1 h2 => absurd h2 (Nat.not_lt.mpr h1), fun a o e hn => ?_, fun a e => ?_⟩
    · have nh : ¬ Hid z rs ws a := not_hid_of hn
      rw [zB_no nh]
      refine x.to.ext.keep a o ((hideH_no nh).trans e) fun j hj q => ?_
      have hj : j < rs.length := by rw [x.len]; exact hj
      have q : muC z rs j = a := q
      rw [muC_get (List.getElem?_eq_getElem hj)] at q
      exact hn _ (x.lt _ (List.getElem_mem hj)) q
    · by_cases nh : Hid z rs ws a
      · rw [zB_hid nh] at e; exact e
      · rw [zB_no nh] at e
        have := x.to.ext.there a e
        rwa [show (zC z rs ws cs).he a = z.he a from hideH_no nh] at this
  · obtain ⟨h1, h2⟩ := x.to.hid a o e (hideH_none q)
    refine ⟨h1, ?_⟩
    by_cases nh : Hid z rs ws a
    · rw [zB_hid nh]; exact q
    · rw [zB_no nh]; exact h2
/-- a view of the caller's in which what the callee made is seen -/
structure Out (K : PySem.W.Frag) (z zc' : Z) (rs ws : List Nat) (he : Hp) (n : Nat) : Prop where
  tup : ∀ a vs, SqT K zc'.he a vs → SqT K he a vs
  box : ∀ a u, Rd zc'.he a u → (∀ j, j < zc'.n → zc'.mu j ≠ a) → Rd he a u
  dct : ∀ a kvs, zc'.he a = some (.dK kvs) → (∀ j, j < zc'.n → zc'.mu j ≠ a) → he a = some (.dK kvs)
  no : ∀ a o, zc'.he a = some o → (∀ j, j < zc'.n → zc'.mu j ≠ a) → ws = [] → ∀ i, i < n → z.mu i ≠ a
theorem After.outB (x : After K H z rs ws cs H' zc') {st' : Store} : Out K z zc' rs ws (zB z zc' rs ws st').he z.n where
  tup := fun a vs h => by
    rcases h with (q | ⟨o, q⟩) | q
    · exact .inl (.inl (x.sees q))
    · exact .inl (.inr ⟨o, x.sees q⟩)
    · exact .inr q
  box := fun a u h _ => by
    rcases h with q | ⟨o, q⟩
    · exact .inl (x.sees q)
    · exact .inr ⟨o, x.sees q⟩
  dct := fun a kvs h _ => x.sees h
  no := fun a o h hn e i hi q => by
    have := x.out h hn hi q
    rw [e] at this; cases this
theorem Out.rd (x : Out K z zc' rs ws he n) {a : Addr} {u : HO} (h : Rd zc'.he a u) (hn : ∀ j, j < zc'.n → zc'.mu j ≠ a) (e : ws = []) : ∀ i, i < n → z.mu i ≠ a := by
  rcases h with q | ⟨o, q⟩
  · exact x.no a _ q hn e
  · exact x.no a _ q hn e
mutual
theorem DV.out (x : Out K z zc' rs ws he n) : ∀ {d : D} {v : V}, DVz K zc' d v → d.pure = true → (ws = [] ∨ d.clean = true) → DV he K z.mu n d v
  | _, _, .non, _, _ => .non
  | _, _, .bl b, _, _ => .bl b
  | _, _, .int b, _, _ => .int b
  | _, _, .str b, _, _ => .str b
  | _, _, .tup h1 h2, p, c => .tup (x.tup _ _ h1) (DVs.out x h2 (by simpa [D.pure] using p) (by simpa [D.clean] using c))
  | _, _, .lst h1 h2 h3, p, c => by
    have e : ws = [] := by simpa [D.clean] using c
    exact .lst (x.box _ _ h1 h2) (x.rd h1 h2 e) (DVs.out x h3 (by simpa [D.pure] using p) (.inl e))
  | _, _, .dct h1 h2 h3, p, c => by
    have e : ws = [] := by simpa [D.clean] using c
    exact .dct (x.dct _ _ h1 h2) (x.no _ _ h1 h2 e) (DKs.out x h3 (by simpa [D.pure] using p) (.inl e))
  | _, _, .ref _, p, _ => by simp [D.pure] at p
theorem DVs.out (x : Out K z zc' rs ws he n) : ∀ {d : List D} {v : List V}, DVsz K zc' d v → D.pureL d = true → (ws = [] ∨ D.cleanL d = true) → DVs he K z.mu n d v
  | _, _, .nil, _, _ => .nil
  | _, _, .cons h t, p, c => by
    simp only [D.pureL, Bool.and_eq_true] at p
    simp only [D.cleanL, Bool.and_eq_true] at c
    exact .cons (DV.out x h p.1 (c.imp_right And.left)) (DVs.out x t p.2 (c.imp_right And.right))
theorem DKs.out (x : Out K z zc' rs ws he n) : ∀ {d : List D} {v : List (Key × V)}, DKsz K zc' d v → D.pureL d = true → (ws = [] ∨ D.cleanL d = true) → DKs he K z.mu n d v
  | _, _, .nil, _, _ => .nil
  | _, _, .cons h t, p, c => by
    simp only [D.pureL, D.pure, Bool.and_eq_true] at p
    simp only [D.cleanL, D.clean, Bool.and_eq_true] at c
    exact .cons (DV.out x h p.1.2.1 (c.imp_right fun q => q.1.2.1)) (DKs.out x t p.2 (c.imp_right And.right))
end
end
end PyE

namespace PyE
open PySem PySem.Spec PyProof.Rows L2
section
variable {K : PySem.W.Frag} {H H' : Hp} {z zc' : Z} {rs ws : List Nat} {cs : Store}
/-- a cell that the callee made is no cell of the caller's -/
theorem After.made (x : After K H z rs ws cs H' zc') {k : Nat} (h1 : rs.length ≤ k) (h2 : k < zc'.n) : ∀ i, i < z.n → z.mu i ≠ zc'.mu k := fun i hi e => by
  have hf : hideH z rs ws (zc'.mu k) = none := x.to.ext.fresh k (by show cs.length ≤ k; rw [← x.len]; exact h1) h2
  by_cases h3 : i ∈ rs
  · obtain ⟨j, hj, e2⟩ := List.getElem_of_mem h3
    have e3 : rs[j]? = some i := by rw [List.getElem?_eq_getElem hj, e2]
    have := x.ok'.sim.inj j k (Nat.lt_of_lt_of_le hj x.le) h2 ((x.mu e3).trans e)
    omega
  · by_cases h4 : i ∈ ws
    · rw [← e, hideH_no (hid_ref x.ok hi (.inr h4))] at hf
      exact x.ok.sim.there hi hf
    · have := x.hidden ⟨i, hi, h3, h4, e⟩
      exact x.ok'.sim.there h2 this
theorem mapO_cons {α β : Type} {f : α → Option β} {x : α} {r : List α} {ys : List β} (h : mapO f (x :: r) = some ys) : ∃ y q, ys = y :: q ∧ f x = some y ∧ mapO f r = some q := by
  unfold mapO at h
  simp only [Option.bind_eq_some_iff, Option.map_eq_some_iff] at h
  obtain ⟨y, e1, q, e2, e3⟩ := h
  exact ⟨y, q, e3.symm, e1, e2⟩
theorem frz_atom {n : Nat} (k : Key) : frz rs cs (n + 1) (kD k) = some (kD k) := by cases k <;> rfl
theorem frz_ok (x : After K H z rs ws cs H' zc') {st' : Store} : ∀ (n : Nat) (d : D) (v : V) (d' : D), DVz K zc' d v → frz rs zc'.st n d = some d' → (ws = [] ∨ d'.clean = true) → DV (zB z zc' rs ws st').he K z.mu z.n d' v
  | 0, _, _, _, _, e, _ => by cases e
  | n + 1, d, v, d', dv, e, c => by
    have ih := frz_ok x (st' := st') n
    have L : ∀ (xs : List D) (vs : List V) (ds : List D), DVsz K zc' xs vs → mapO (frz rs zc'.st n) xs = some ds → (ws = [] ∨ D.cleanL ds = true) → DVs (zB z zc' rs ws st').he K z.mu z.n ds vs := by
      intro xs
      induction xs with
      | nil => intro vs ds h e c; cases h; cases e; exact .nil
      | cons a r ihr =>
        intro vs ds h e c
        obtain ⟨y, q, rfl, e1, e2⟩ := mapO_cons e
        cases h with
        | cons h t =>
          simp only [D.cleanL, Bool.and_eq_true] at c
          exact .cons (ih _ _ _ h e1 (c.imp_right And.left)) (ihr _ _ t e2 (c.imp_right And.right))
    have LK : ∀ (es : List D) (kvs : List (Key × V)) (ds : List D), DKsz K zc' es kvs → mapO (frz rs zc'.st n) es = some ds → ws = [] → DKs (zB z zc' rs ws st').he K z.mu z.n ds kvs := by
      intro es
      induction es with
      | nil => intro kvs ds h e c; cases h; cases e; exact .nil
      | cons a r ihr =>
        intro kvs ds h e c
        obtain ⟨y, q, rfl, e1, e2⟩ := mapO_cons e
        cases h with
        | cons h t =>
          rename_i k d0 w kvs'
          cases n with
          | zero => cases e1
          | succ m =>
            have e1 : (mapO (frz rs zc'.st m) [kD k, d0]).map .tup = some y := e1
            rw [Option.map_eq_some_iff] at e1
            obtain ⟨zs, e3, rfl⟩ := e1
            obtain ⟨y1, q1, rfl, e4, e5⟩ := mapO_cons e3
            obtain ⟨y2, q2, rfl, e6, e7⟩ := mapO_cons e5
            cases e7
            cases m with
            | zero => cases e4
            | succ m =>
              rw [frz_atom] at e4
              cases e4
              have h7 := frz_ok x (st' := st') (m + 1) d0 w y2 h e6 (.inl c)
              exact .cons h7 (ihr _ _ t e2 c)
    cases dv with
    | non => cases e; exact .non
    | bl b => cases e; exact .bl b
    | int b => cases e; exact .int b
    | str b => cases e; exact .str b
    | tup h1 h2 =>
      have e : (mapO (frz rs zc'.st n) _).map .tup = some d' := e
      rw [Option.map_eq_some_iff] at e
      obtain ⟨ds, e1, rfl⟩ := e
      exact .tup (x.outB.tup _ _ h1) (L _ _ _ h2 e1 (by simpa [D.clean] using c))
    | lst h1 h2 h3 =>
      have e : (mapO (frz rs zc'.st n) _).map .lst = some d' := e
      rw [Option.map_eq_some_iff] at e
      obtain ⟨ds, e1, rfl⟩ := e
      have ew : ws = [] := by simpa [D.clean] using c
      exact .lst (x.outB.box _ _ h1 h2) ((x.outB (st' := st')).rd h1 h2 ew) (L _ _ _ h3 e1 (.inl ew))
    | dct h1 h2 h3 =>
      have e : (mapO (frz rs zc'.st n) _).map .dct = some d' := e
      rw [Option.map_eq_some_iff] at e
      obtain ⟨ds, e1, rfl⟩ := e
      have ew : ws = [] := by simpa [D.clean] using c
      exact .dct (x.outB.dct _ _ h1 h2) ((x.outB (st' := st')).no _ _ h1 h2 ew) (LK _ _ _ h3 e1 ew)
    | ref hk =>
      rename_i k
      have e : (if k < rs.length then (rs[k]?).map .ref else (zc'.st[k]?).bind (frz rs zc'.st n)) = some d' := e
      split at e
      · rename_i hkr
        rw [Option.map_eq_some_iff] at e
        obtain ⟨r, e1, rfl⟩ := e
        rw [x.mu e1]
        exact .ref (x.lt r (List.mem_of_getElem? e1))
      · rename_i hkr
        rw [Option.bind_eq_some_iff] at e
        obtain ⟨c0, e1, e2⟩ := e
        have hk2 : k < zc'.n := hk
        have ck := x.ok'.sim.cell k c0 e1
        have mk := x.made (Nat.not_lt.mp hkr) hk2
        cases n with
        | zero => cases e2
        | succ m =>
          have IL : ∀ (xs : List D) (vs : List V) (ds : List D), DVsz K zc' xs vs → mapO (frz rs zc'.st m) xs = some ds → ws = [] → DVs (zB z zc' rs ws st').he K z.mu z.n ds vs := by
            intro xs
            induction xs with
            | nil => intro vs ds h e c; cases h; cases e; exact .nil
            | cons a r ihr =>
              intro vs ds h e c
              obtain ⟨y, q, rfl, e1, e2⟩ := mapO_cons e
              cases h with
              | cons h t => exact .cons (frz_ok x m _ _ _ h e1 (.inl c)) (ihr _ _ t e2 c)
          have IK : ∀ (es : List D) (kvs : List (Key × V)) (ds : List D), DKsz K zc' es kvs → mapO (frz rs zc'.st m) es = some ds → ws = [] → DKs (zB z zc' rs ws st').he K z.mu z.n ds kvs := by
            intro es
            induction es with
            | nil => intro kvs ds h e c; cases h; cases e; exact .nil
            | cons a r ihr =>
              intro kvs ds h e c
              obtain ⟨y, q, rfl, e1, e2⟩ := mapO_cons e
              cases h with
              | cons h t =>
                rename_i k' d0 w kvs'
                cases m with
                | zero => cases e1
                | succ m =>
                  have e1 : (mapO (frz rs zc'.st m) [kD k', d0]).map .tup = some y := e1
                  rw [Option.map_eq_some_iff] at e1
                  obtain ⟨zs, e3, rfl⟩ := e1
                  obtain ⟨y1, q1, rfl, e4, e5⟩ := mapO_cons e3
                  obtain ⟨y2, q2, rfl, e6, e7⟩ := mapO_cons e5
                  cases e7
                  cases m with
                  | zero => cases e4
                  | succ m =>
                    rw [frz_atom] at e4
                    cases e4
                    exact .cons (frz_ok x (m + 1) d0 w y2 h e6 (.inl c)) (ihr _ _ t e2 c)
          cases c0 with
          | lst xs =>
            obtain ⟨vs, k1, k2⟩ := ck
            have e2 : (mapO (frz rs zc'.st m) xs).map .lst = some d' := e2
            rw [Option.map_eq_some_iff] at e2
            obtain ⟨ds, e3, rfl⟩ := e2
            have ew : ws = [] := by simpa [D.clean] using c
            exact .lst (.inl (x.sees k1)) mk (IL _ _ _ k2 e3 ew)
          | dct xs =>
            obtain ⟨vs, k1, k2⟩ := ck
            have e2 : (mapO (frz rs zc'.st m) xs).map .dct = some d' := e2
            rw [Option.map_eq_some_iff] at e2
            obtain ⟨ds, e3, rfl⟩ := e2
            have ew : ws = [] := by simpa [D.clean] using c
            exact .dct (x.sees k1) mk (IK _ _ _ k2 e3 ew)
          | _ => exact ck.elim
termination_by n => n
theorem back_ok (x : After K H z rs ws cs H' zc') {st' : Store} {d d' : D} {v : V} (dv : DVz K zc' d v) (e : back rs zc'.st d = some d') (c : ws = [] ∨ d'.clean = true) : DV (zB z zc' rs ws st').he K z.mu z.n d' v := by
  unfold back at e
  split at e
  · rename_i hp
    cases e
    exact dv.out x.outB hp c
  · exact frz_ok x 50 d v d' dv e c
mutual
theorem pure_clean : ∀ d : D, d.clean = true → d.pure = true
  | .non, _ => rfl
  | .bl _, _ => rfl
  | .int _, _ => rfl
  | .str _, _ => rfl
  | .tup xs, h => by
    simp only [D.clean] at h
    simp only [D.pure]
    exact pureL_clean xs h
  | .lst _, h => by simp [D.clean] at h
  | .dct _, h => by simp [D.clean] at h
  | .ref _, h => by simp [D.clean] at h
  | .fn _, _ => rfl
theorem pureL_clean : ∀ ds : List D, D.cleanL ds = true → D.pureL ds = true
  | [], _ => rfl
  | d :: ds, h => by
    simp only [D.cleanL, Bool.and_eq_true] at h
    simp only [D.pureL, Bool.and_eq_true]
    exact ⟨pure_clean d h.1, pureL_clean ds h.2⟩
end
theorem list_frz (x : After K H z rs ws cs H' zc') {st' : Store} (m : Nat) (ew : ws = []) : ∀ (xs : List D) (vs : List V) (ds : List D), DVsz K zc' xs vs → mapO (frz rs zc'.st m) xs = some ds → DVs (zB z zc' rs ws st').he K z.mu z.n ds vs := by
  intro xs
  induction xs with
  | nil => intro vs ds h e; cases h; cases e; exact .nil
  | cons a r ihr =>
    intro vs ds h e
    obtain ⟨y, q, rfl, e1, e2⟩ := mapO_cons e
    cases h with
    | cons h t => exact .cons (frz_ok x m _ _ _ h e1 (.inl ew)) (ihr _ _ t e2)
theorem dict_frz (x : After K H z rs ws cs H' zc') {st' : Store} (m : Nat) (ew : ws = []) : ∀ (es : List D) (kvs : List (Key × V)) (ds : List D), DKsz K zc' es kvs → mapO (frz rs zc'.st m) es = some ds → DKs (zB z zc' rs ws st').he K z.mu z.n ds kvs := by
  intro es
  induction es with
  | nil => intro kvs ds h e; cases h; cases e; exact .nil
  | cons a r ihr =>
    intro kvs ds h e
    obtain ⟨y, q, rfl, e1, e2⟩ := mapO_cons e
    cases h with
    | cons h t =>
      rename_i k' d0 w kvs'
      cases m with
      | zero => cases e1
      | succ m =>
        have e1 : (mapO (frz rs zc'.st m) [kD k', d0]).map .tup = some y := e1
        rw [Option.map_eq_some_iff] at e1
        obtain ⟨zs, e3, rfl⟩ := e1
        obtain ⟨y1, q1, rfl, e4, e5⟩ := mapO_cons e3
        obtain ⟨y2, q2, rfl, e6, e7⟩ := mapO_cons e5
        cases e7
        cases m with
        | zero => cases e4
        | succ m =>
          rw [frz_atom] at e4
          cases e4
          exact .cons (frz_ok x (m + 1) d0 w y2 h e6 (.inl ew)) (ihr _ _ t e2)
theorem cell_back (x : After K H z rs ws cs H' zc') {st' : Store} {c0 c' : D} {a : Addr} (k : CellOk zc'.he K zc'.mu zc'.n c0 a) (e : back rs zc'.st c0 = some c') (c : ws = [] ∨ cleanCell c0 = true) (ha : (zB z zc' rs ws st').he a = zc'.he a) :
    CellOk (zB z zc' rs ws st').he K z.mu z.n c' a := by
  cases c0 with
  | lst xs =>
    obtain ⟨vs, k1, k2⟩ := k
    by_cases hp : D.pureL xs = true
    · have e1 : back rs zc'.st (.lst xs) = some (.lst xs) := if_pos (by simpa [D.pure] using hp)
      rw [e1] at e; cases e
      exact ⟨vs, ha.trans k1, k2.out x.outB hp c⟩
    · have ew : ws = [] := c.resolve_right fun q => hp (pureL_clean xs q)
      have e1 : back rs zc'.st (.lst xs) = frz rs zc'.st 50 (.lst xs) := if_neg (by simpa [D.pure] using hp)
      rw [e1] at e
      have e : (mapO (frz rs zc'.st 49) xs).map .lst = some c' := e
      rw [Option.map_eq_some_iff] at e
      obtain ⟨ds, e2, rfl⟩ := e
      exact ⟨vs, ha.trans k1, list_frz x 49 ew _ _ _ k2 e2⟩
  | dct xs =>
    obtain ⟨vs, k1, k2⟩ := k
    by_cases hp : D.pureL xs = true
    · have e1 : back rs zc'.st (.dct xs) = some (.dct xs) := if_pos (by simpa [D.pure] using hp)
      rw [e1] at e; cases e
      exact ⟨vs, ha.trans k1, k2.out x.outB hp c⟩
    · have ew : ws = [] := c.resolve_right fun q => hp (pureL_clean xs q)
      have e1 : back rs zc'.st (.dct xs) = frz rs zc'.st 50 (.dct xs) := if_neg (by simpa [D.pure] using hp)
      rw [e1] at e
      have e : (mapO (frz rs zc'.st 49) xs).map .dct = some c' := e
      rw [Option.map_eq_some_iff] at e
      obtain ⟨ds, e2, rfl⟩ := e
      exact ⟨vs, ha.trans k1, dict_frz x 49 ew _ _ _ k2 e2⟩
  | _ => exact k.elim
theorem putBack_ok {rs : List Nat} {cs' : Store} : ∀ {q : List Nat} {i : Nat} {st st' : Store}, putBack rs cs' i q st = some st' → q.Nodup → (∀ r ∈ q, r < st.length) →
    st'.length = st.length ∧ (∀ r, r ∉ q → st'[r]? = st[r]?) ∧ ∀ (j r : Nat), q[j]? = some r → ∃ c c', cs'[i + j]? = some c ∧ back rs cs' c = some c' ∧ st'[r]? = some c'
  | [], i, st, st', e, _, _ => by cases e; exact ⟨rfl, fun _ _ => rfl, fun j r h => by simp at h⟩
  | p :: q, i, st, st', e, nd, hl => by
    unfold putBack at e
    simp only [Option.bind_eq_some_iff] at e
    obtain ⟨c, e1, c', e2, e3⟩ := e
    obtain ⟨n1, n2⟩ := List.nodup_cons.mp nd
    obtain ⟨h1, h2, h3⟩ := putBack_ok e3 n2 fun r hr => by rw [List.length_set]; exact hl r (List.mem_cons_of_mem _ hr)
    refine ⟨h1.trans List.length_set, fun r hr => ?_, fun j r h => ?_⟩
    · rw [h2 r fun z => hr (List.mem_cons_of_mem _ z), List.getElem?_set_ne fun (w : p = r) => hr (by rw [w]; exact List.mem_cons_self)]
    · cases j with
      | zero =>
        have : p = r := by simpa using h
        subst this
        refine ⟨c, c', e1, e2, ?_⟩
        rw [h2 p n1, List.getElem?_set_self (hl p List.mem_cons_self)]
      | succ j =>
        obtain ⟨c1, c2, q1, q2, q3⟩ := h3 j r (by simpa using h)
        exact ⟨c1, c2, by rw [show i + (j + 1) = i + 1 + j by omega]; exact q1, q2, q3⟩
/-- the caller behind the call -/
theorem After.zB_ok (x : After K H z rs ws cs H' zc') {st' : Store} (e : putBack rs zc'.st 0 rs z.st = some st') (c : ws = [] ∨ (zc'.st.take rs.length).all cleanCell = true) : Ok K H' (zB z zc' rs ws st') ∧ To H z H' (zB z zc' rs ws st') ∧ st'.length = z.n := by
  obtain ⟨hl, h2, h3⟩ := putBack_ok e x.nd x.lt
  have t : To H z H' (zB z zc' rs ws st') := x.toB hl
  refine ⟨⟨fun a o q => ?_, ?_⟩, t, hl⟩
  · by_cases nh : Hid z rs ws a
    · rw [zB_hid nh] at q
      exact (x.to.hid a o (x.ok.sub a o q) (if_pos nh)).1
    · rw [zB_no nh] at q
      exact x.ok'.sub a o q
  · refine ⟨fun i j hi hj q => x.ok.sim.inj i j (Nat.lt_of_lt_of_eq hi hl) (Nat.lt_of_lt_of_eq hj hl) q, fun i d q => ?_⟩
    have hi : i < z.n := Nat.lt_of_lt_of_eq (List.getElem?_eq_some_iff.mp q).1 hl
    show CellOk (zB z zc' rs ws st').he K z.mu st'.length d (z.mu i)
    rw [hl]
    by_cases hr : i ∈ rs
    · obtain ⟨j, hj, e2⟩ := List.getElem_of_mem hr
      have e3 : rs[j]? = some i := by rw [List.getElem?_eq_getElem hj, e2]
      obtain ⟨c0, c', q1, q2, q3⟩ := h3 j i e3
      have q : st'[i]? = some d := q
      rw [q3] at q; cases q
      rw [Nat.zero_add] at q1
      have k := x.ok'.sim.cell j c0 q1
      rw [x.mu e3] at k
      refine cell_back x k q2 (c.imp_right fun w => ?_) (zB_no (hid_ref x.ok hi (.inl hr)))
      exact List.all_eq_true.mp w c0 (List.mem_of_getElem? (by rw [List.getElem?_take_of_lt hj]; exact q1))
    · have q : st'[i]? = some d := q
      rw [h2 i hr] at q
      have k := x.ok.sim.cell i d q
      have en : (zB z zc' rs ws st').n = z.n := hl
      have tx := t.ext
      rw [en] at tx
      refine k.mono tx x.ok.sim ?_
      by_cases nh : Hid z rs ws (z.mu i)
      · rw [zB_hid nh]
      · rw [zB_no nh]
        have ho : ∃ o, z.he (z.mu i) = some o := by
          cases w : z.he (z.mu i) with
          | none => exact absurd w (x.ok.sim.there hi)
          | some o => exact ⟨o, rfl⟩
        obtain ⟨o, ho⟩ := ho
        rw [ho]
        refine x.to.ext.keep _ o ((hideH_no nh).trans ho) fun j hj w => ?_
        have hj : j < rs.length := by rw [x.len]; exact hj
        have w : muC z rs j = z.mu i := w
        rw [muC_get (List.getElem?_eq_getElem hj)] at w
        have := x.ok.sim.inj _ _ (x.lt _ (List.getElem_mem hj)) hi w
        exact hr (this ▸ List.getElem_mem hj)
/-- THE CALL -/
theorem callIn_ok {cf : CallF} {f : Nat} {xs : List D} {io : List Nat} {fresh : Bool} {vs : List V} {d : D} {st' : Store} {Q : VK} {E : XK} (ok : Ok K H z) (dv : DVsz K z xs vs) (e : callIn cf f xs io fresh z.st = .ok d st') (q : End K false H z d st' Q) : spF K cf f vs H Q E := by
  unfold callIn at e
  split at e
  · cases e
  · rename_i ys rs ws e1
    split at e
    · cases e
    · rename_i cs e2
      obtain ⟨hg, e⟩ := guard_ok e
      simp only [Bool.and_eq_true, decide_eq_true_eq, List.all_eq_true, Bool.not_eq_true'] at hg
      have dis : ∀ w ∈ ws, w ∉ rs := fun w hw hr => by
        have := hg.2 w hw
        rw [List.contains_iff_mem.mpr hr] at this; cases this
      split at e
      · rename_i d0 cs' e3
        have i : Into K z rs ws cs.length := into_of ok e2
        have okc : Ok K H (zC z rs ws cs) := zC_ok ok e2 hg.1
        have dvc : DVsz K (zC z rs ws cs) ys vs := prep_ok ok i dis dv e1 (fun m r h => by rw [Nat.zero_add]; exact h) fun w h => h
        refine ⟨zC z rs ws cs, ys, d0, cs', okc, dvc, e3, fun H' zc' v ez ok' to' dv' frx => ?_⟩
        have x : After K H z rs ws cs H' zc' := ⟨ok, hg.1, i.lt, (cells_ok e2).1, dis, ok', to'⟩
        rw [← ez] at e
        unfold callBack at e
        split at e
        · cases e
        · rename_i st1 e4
          split at e
          · -- a new cell
            split at e
            · rename_i k
              split at e
              · rename_i c e5
                obtain ⟨hg2, e⟩ := guard_ok e
                simp only [Bool.and_eq_true, decide_eq_true_eq] at hg2
                obtain ⟨⟨⟨g1, g2⟩, g3⟩, g4⟩ := hg2
                have ew : ws = [] := by simpa using g4
                obtain ⟨okB, toB, lB⟩ := x.zB_ok e4 (.inl ew)
                cases e
                obtain ⟨hk, rfl⟩ := ref_inv dv'
                have mk := x.made g1 hk
                have ck := ok'.sim.cell k c e5
                obtain ⟨h0, hh0⟩ : ∃ h0 : Hp, h0 = fun b => if b = zc'.mu k then none else (zB z zc' rs ws st1).he b := ⟨_, rfl⟩
                have h0k : h0 (zc'.mu k) = none := by rw [hh0]; exact if_pos rfl
                have h0n : ∀ b, b ≠ zc'.mu k → h0 b = (zB z zc' rs ws st1).he b := fun b hb => by rw [hh0]; exact if_neg hb
                have zk : z.he (zc'.mu k) = none := by
                  have hf : hideH z rs ws (zc'.mu k) = none := to'.ext.fresh k (by show cs.length ≤ k; rw [← x.len]; exact g1) hk
                  rwa [hideH_no (not_hid_of mk)] at hf
                have kk : ∀ o, zc'.he (zc'.mu k) = some o → (∃ l, o = .lst l) ∨ ∃ l, o = .dK l := fun o ho => by
                  rcases ok'.sim.kind hk with ⟨l, w⟩ | ⟨l, w⟩
                  · rw [w] at ho; cases ho; exact .inl ⟨l, rfl⟩
                  · rw [w] at ho; cases ho; exact .inr ⟨l, rfl⟩
                have ex0 : Ext z.he z.mu z.n h0 z.mu z.n := by
                  have tx := toB.ext
                  rw [show (zB z zc' rs ws st1).n = z.n from lB] at tx
                  refine ⟨Nat.le_refl _, fun _ _ => rfl, fun i h1 h2 => absurd h2 (Nat.not_lt.mpr h1), fun a o w hn => ?_, fun a w => ?_⟩
                  · rw [h0n a (fun ea => by rw [ea, zk] at w; cases w)]
                    exact tx.keep a o w hn
                  · by_cases ea : a = zc'.mu k
                    · rw [ea]; exact zk
                    · rw [h0n a ea] at w
                      exact tx.there a w
                have out0 : Out K z zc' rs ws h0 z.n := ⟨fun a l w => by
                    have w2 := (x.outB (st' := st1)).tup a l w
                    have na : ∀ o, zc'.he a = some o → (∃ l, o = .tup l) ∨ (∃ ob u, o = .frz ob u) → a ≠ zc'.mu k := fun o ho hk2 ea => by
                      subst ea
                      rcases kk o ho with ⟨l2, e6⟩ | ⟨l2, e6⟩ <;> rcases hk2 with ⟨l3, e7⟩ | ⟨ob, u, e7⟩ <;> (rw [e6] at e7; cases e7)
                    rcases w with (w | ⟨o, w⟩) | w
                    · exact .inl (.inl ((h0n a (na _ w (.inl ⟨_, rfl⟩))).trans (x.sees w)))
                    · exact .inl (.inr ⟨o, (h0n a (na _ w (.inr ⟨_, _, rfl⟩))).trans (x.sees w)⟩)
                    · exact .inr w,
                  fun a u w hn => by
                    have na : a ≠ zc'.mu k := Ne.symm (hn k hk)
                    rcases w with w | ⟨o, w⟩
                    · exact .inl ((h0n a na).trans (x.sees w))
                    · exact .inr ⟨o, (h0n a na).trans (x.sees w)⟩,
                  fun a l w hn => (h0n a (Ne.symm (hn k hk))).trans (x.sees w),
                  fun a o w hn e i hi q => by
                    have := x.out w hn hi q
                    rw [e] at this; cases this⟩
                obtain ⟨hl1, hp2, hp3⟩ := putBack_ok e4 x.nd x.lt
                have S0 : Sim h0 K z.mu st1 := by
                  refine ⟨fun a b ha hb w => ok.sim.inj a b (Nat.lt_of_lt_of_eq ha lB) (Nat.lt_of_lt_of_eq hb lB) w, fun a dd w => ?_⟩
                  rw [lB]
                  have ha : a < z.n := Nat.lt_of_lt_of_eq (List.getElem?_eq_some_iff.mp w).1 lB
                  have hne : z.mu a ≠ zc'.mu k := mk a ha
                  by_cases hr : a ∈ rs
                  · obtain ⟨j, hj, e6⟩ := List.getElem_of_mem hr
                    have e7 : rs[j]? = some a := by rw [List.getElem?_eq_getElem hj, e6]
                    obtain ⟨c0, c', q1, q2, q3⟩ := hp3 j a e7
                    rw [q3] at w; cases w
                    rw [Nat.zero_add] at q1
                    have pc : c0.pure = true := List.all_eq_true.mp g3 c0 (List.mem_of_getElem? (by rw [List.getElem?_take_of_lt hj]; exact q1))
                    have e8 : back rs zc'.st c0 = some c0 := if_pos pc
                    rw [e8] at q2; cases q2
                    have kc := ok'.sim.cell j dd q1
                    rw [x.mu e7] at kc
                    have eh : h0 (z.mu a) = zc'.he (z.mu a) := (h0n _ hne).trans (zB_no (hid_ref ok ha (.inl hr)))
                    cases dd with
                    | lst l =>
                      obtain ⟨l2, k1, k2⟩ := kc
                      exact ⟨l2, eh.trans k1, k2.out out0 (by simpa [D.pure] using pc) (.inl ew)⟩
                    | dct l =>
                      obtain ⟨l2, k1, k2⟩ := kc
                      exact ⟨l2, eh.trans k1, k2.out out0 (by simpa [D.pure] using pc) (.inl ew)⟩
                    | _ => exact kc.elim
                  · have kz := ok.sim.cell a dd (by rw [← hp2 a hr]; exact w)
                    refine kz.mono ex0 ok.sim ((h0n _ hne).trans ?_)
                    by_cases nh : Hid z rs ws (z.mu a)
                    · rw [zB_hid nh]
                    · exfalso
                      refine nh ⟨a, ha, hr, ?_, rfl⟩
                      rw [ew]; simp
                have eqh : ∀ o, zc'.he (zc'.mu k) = some o → (zB z zc' rs ws st1).he = upd h0 (zc'.mu k) o := fun o ho => by
                  funext b
                  by_cases eb : b = zc'.mu k
                  · subst eb; rw [upd_same]; exact x.sees ho
                  · rw [upd_ne eb]; exact (h0n b eb).symm
                obtain ⟨o, ho, co⟩ : ∃ o, zc'.he (zc'.mu k) = some o ∧ CellOk (upd h0 (zc'.mu k) o) K (muAt z.mu st1.length (zc'.mu k)) (st1.length + 1) c (zc'.mu k) := by
                  cases c with
                  | lst l =>
                    obtain ⟨l2, k1, k2⟩ := ck
                    refine ⟨_, k1, l2, upd_same, ?_⟩
                    have d0 : DVs h0 K z.mu st1.length l l2 := by rw [lB]; exact k2.out out0 (by simpa [D.pure] using g2) (.inl ew)
                    exact d0.mono (Ext.thaw h0k) S0
                  | dct l =>
                    obtain ⟨l2, k1, k2⟩ := ck
                    refine ⟨_, k1, l2, upd_same, ?_⟩
                    have d0 : DKs h0 K z.mu st1.length l l2 := by rw [lB]; exact k2.out out0 (by simpa [D.pure] using g2) (.inl ew)
                    exact d0.mono (Ext.thaw h0k) S0
                  | _ => exact ck.elim
                have S2 := S0.thaw h0k co
                have exA : Ext z.he z.mu z.n (upd h0 (zc'.mu k) o) (muAt z.mu st1.length (zc'.mu k)) (st1.length + 1) := by
                  refine Ext.trans (by rw [lB]; exact ex0) (Ext.thaw h0k)
                refine q H' ⟨(zB z zc' rs ws st1).he, muAt z.mu st1.length (zc'.mu k), st1 ++ [c]⟩ _ rfl ⟨okB.sub, ?_⟩ ⟨?_, toB.hid, toB.there⟩ ?_ .no
                · rw [eqh o ho]; exact S2
                · show Ext z.he z.mu z.n _ _ (st1 ++ [c]).length
                  rw [eqh o ho, List.length_append]; exact exA
                · have h9 : DVz K ⟨(zB z zc' rs ws st1).he, muAt z.mu st1.length (zc'.mu k), st1 ++ [c]⟩ (.ref st1.length) (.ref (muAt z.mu st1.length (zc'.mu k) st1.length)) := .ref (by show _ < (st1 ++ [c]).length; rw [List.length_append]; exact Nat.lt_succ_self _)
                  rwa [muAt_new] at h9
              · cases e
            · cases e
          · split at e
            · rename_i d' e5
              obtain ⟨hg2, e⟩ := guard_ok e
              obtain ⟨rfl, rfl⟩ : d' = d ∧ st1 = st' := by cases e; exact ⟨rfl, rfl⟩
              rw [Bool.or_eq_true, Bool.and_eq_true, List.isEmpty_iff] at hg2
              obtain ⟨okB, toB, lB⟩ := x.zB_ok e4 (hg2.imp_right And.right)
              have hd : DVz K (zB z zc' rs ws st1) d' v := by
                show DV _ K z.mu st1.length d' v
                rw [lB]
                exact back_ok x dv' e5 (hg2.imp_right And.left)
              exact q H' (zB z zc' rs ws st1) v rfl okB toB hd .no
            · cases e
      · cases e
end
end PyE

namespace PyE
open PySem PySem.Spec PyProof.Rows L2
mutual
theorem beq_eq : ∀ {a b : D}, D.beq a b = true → a = b
  | .non, b, h => by cases b <;> first | rfl | (simp [D.beq] at h)
  | .bl x, b, h => by cases b <;> simp [D.beq] at h; rw [h]
  | .int x, b, h => by cases b <;> simp [D.beq] at h; rw [h]
  | .str x, b, h => by cases b <;> simp [D.beq] at h; rw [h]
  | .tup x, b, h => by cases b <;> simp [D.beq] at h; rw [beqL_eq h]
  | .lst x, b, h => by cases b <;> simp [D.beq] at h; rw [beqL_eq h]
  | .dct x, b, h => by cases b <;> simp [D.beq] at h; rw [beqL_eq h]
  | .ref x, b, h => by cases b <;> simp [D.beq] at h; rw [h]
  | .fn x, b, h => by cases b <;> simp [D.beq] at h; rw [h]
theorem beqL_eq : ∀ {a b : List D}, D.beqL a b = true → a = b
  | [], b, h => by cases b <;> first | rfl | (simp [D.beqL] at h)
  | x :: xs, b, h => by
    cases b with
    | nil => simp [D.beqL] at h
    | cons y ys =>
      simp only [D.beqL, Bool.and_eq_true] at h
      rw [beq_eq h.1, beqL_eq h.2]
end
structure WalkD (K : PySem.W.Frag) (H0 : Hp) (z0 : Z) (items : List D) (g : Guard) (J : It) : Prop where
  go : ∀ i H z, i < items.length → Ok K H z → To H0 z0 H z → held g z.st = true → J.go i H
  stop : ∀ H z, Ok K H z → To H0 z0 H z → held g z.st = true → J.stop items.length H
  yld : ∀ i H z x H', i < items.length → Ok K H z → To H0 z0 H z → held g z.st = true → J.yld i H x H' → ∃ z' d, z'.st = z.st ∧ Ok K H' z' ∧ To H z H' z' ∧ items[i]? = some d ∧ DVz K z' d x
section
variable {K : PySem.W.Frag} {H0 : Hp} {z0 : Z} {d : D} {v : V} {items : List D}
theorem DVs.at {z : Z} {vs : List V} (h : DVsz K z items vs) {i : Nat} (hi : i < items.length) : ∃ d x, items[i]? = some d ∧ vs[i]? = some x ∧ DVz K z d x := by
  obtain ⟨x, h1, h2⟩ := h.get (List.getElem?_eq_getElem hi)
  exact ⟨_, x, List.getElem?_eq_getElem hi, h1, h2⟩
/-- a list, as long as the guard holds -/
theorem lst_held (ok : Ok K H0 z0) (dv : DVz K z0 d v) (e : view z0.st d = .lst items) : ∃ a, v = .ref a ∧ ∀ H z, Ok K H z → To H0 z0 H z → held (guardOf z0.st d) z.st = true → ∃ vs, Rd H a (.lst vs) ∧ DVsz K z items vs := by
  rcases view_cases ok dv with ⟨h, hr⟩ | ⟨n, c, rfl, hn, hc, h, rfl, k⟩
  · rw [h] at e; subst e
    cases dv with
    | lst h1 h2 h3 => exact ⟨_, rfl, fun H z okz t _ => ⟨_, okz.rd (t.ext.rd h1 h2), ok.dvs t h3⟩⟩
  · rw [h] at e; subst e
    refine ⟨z0.mu n, rfl, fun H z okz t hg => ?_⟩
    have eg : guardOf z0.st (.ref n) = [(n, .lst items)] := by
      show (match z0.st[n]? with | some c => [(n, c)] | none => []) = _
      rw [hc]
    rw [eg] at hg
    unfold held at hg
    simp only [List.all_cons, List.all_nil, Bool.and_true] at hg
    split at hg
    · rename_i c2 hc2
      have := beq_eq hg
      subst this
      obtain ⟨vs, k1, k2⟩ := okz.sim.cell n _ hc2
      rw [t.ext.mu n hn] at k1
      exact ⟨vs, .inl (okz.sub _ _ k1), k2⟩
    · cases hg
theorem tup_held (ok : Ok K H0 z0) (dv : DVz K z0 d v) (e : view z0.st d = .tup items) : ∃ a, v = .ref a ∧ ∀ H z, Ok K H z → To H0 z0 H z → ∃ vs, SqT K H a vs ∧ DVsz K z items vs := by
  obtain ⟨a, vs, rfl, h1, h2⟩ := view_tup ok dv e
  exact ⟨a, rfl, fun H z okz t => ⟨vs, okz.sqT (t.ext.sqT ok.sim h1), ok.dvs t h2⟩⟩
theorem held_nil {st : Store} : held [] st = true := rfl
theorem walk_lstD {a : Addr} {g : Guard} (h : ∀ H z, Ok K H z → To H0 z0 H z → held g z.st = true → ∃ vs, Rd H a (.lst vs) ∧ DVsz K z items vs) : WalkD K H0 z0 items g (Itl K a) where
  go := fun i H z hi okz t hg => by
    obtain ⟨vs, h1, h2⟩ := h H z okz t hg
    obtain ⟨d, x, _, e, _⟩ := h2.at hi
    exact ⟨vs, x, .inl h1, e⟩
  stop := fun H z okz t hg => by
    obtain ⟨vs, h1, h2⟩ := h H z okz t hg
    exact ⟨vs, .inl h1, by rw [h2.length]; exact Nat.le_refl _⟩
  yld := fun i H z x H' hi okz t hg y => by
    obtain ⟨vs, h1, h2⟩ := h H z okz t hg
    obtain ⟨rfl, y⟩ := y
    obtain ⟨d, x', e1, e2, dv⟩ := h2.at hi
    rw [y vs (.inl h1)] at e2; cases e2
    exact ⟨z, d, rfl, okz, .refl, e1, dv⟩
theorem walk_tupD {a : Addr} {g : Guard} (h : ∀ H z, Ok K H z → To H0 z0 H z → ∃ vs, SqT K H a vs ∧ DVsz K z items vs) : WalkD K H0 z0 items g (Itt K a) where
  go := fun i H z hi okz t _ => by
    obtain ⟨vs, h1, h2⟩ := h H z okz t
    obtain ⟨d, x, _, e, _⟩ := h2.at hi
    exact ⟨vs, x, h1, e⟩
  stop := fun H z okz t _ => by
    obtain ⟨vs, h1, h2⟩ := h H z okz t
    exact ⟨vs, h1, by rw [h2.length]; exact Nat.le_refl _⟩
  yld := fun i H z x H' hi okz t _ y => by
    obtain ⟨vs, h1, h2⟩ := h H z okz t
    obtain ⟨rfl, y⟩ := y
    obtain ⟨d, x', e1, e2, dv⟩ := h2.at hi
    rw [y vs h1] at e2; cases e2
    exact ⟨z, d, rfl, okz, .refl, e1, dv⟩
theorem walk_strD {s : Str} : WalkD K H0 z0 (s.cps.toList.map fun c => .str ⟨#[c]⟩) [] (Its s) where
  go := fun i H z hi _ _ _ => by
    have hi : i < s.cps.size := by simpa using hi
    exact hi
  stop := fun H z _ _ _ => by
    show s.cps.size ≤ _
    simp
  yld := fun i H z x H' hi okz t _ y => by
    obtain ⟨rfl, c, e, rfl⟩ := y
    exact ⟨z, .str ⟨#[c]⟩, rfl, okz, .refl, by simp [e], .str _⟩
theorem walk_rangeD {lo : Int} {n : Nat} : WalkD K H0 z0 (rangeD lo n) [] (Itr lo n) where
  go := fun i H z hi _ _ _ => by
    have hi : i < n := by simpa [rangeD] using hi
    exact hi
  stop := fun H z _ _ _ => by
    show n ≤ _
    simp [rangeD]
  yld := fun i H z x H' hi okz t _ y => by
    obtain ⟨rfl, rfl⟩ := y
    have hi : i < n := by simpa [rangeD] using hi
    exact ⟨z, .int (lo + (i : Nat)), rfl, okz, .refl, by simp [rangeD, hi], .int _⟩
/-- a new pair, seen -/
theorem pair_new {H : Hp} {z : Z} {T : Addr} {d1 d2 : D} {x y : V} (okz : Ok K H z) (hT : H T = none) (h1 : DVz K z d1 x) (h2 : DVz K z d2 y) :
    ∃ z' : Z, z'.st = z.st ∧ Ok K (upd H T (.tup [x, y])) z' ∧ To H z (upd H T (.tup [x, y])) z' ∧ DVz K z' (.tup [d1, d2]) (.ref T) :=
  ⟨z.put T (.tup [x, y]), rfl, okz.put hT, .put okz hT, .tup (.inl (.inl upd_same)) (okz.dvs (.put okz hT) (.cons h1 (.cons h2 .nil)))⟩
theorem pairs_length : ∀ (xs : List D) (i : Nat), (pairs i xs).length = xs.length
  | [], _ => rfl
  | x :: r, i => by unfold pairs; rw [List.length_cons, List.length_cons, pairs_length r]
theorem pairs_get : ∀ (xs : List D) (k i : Nat) (d : D), xs[i]? = some d → (pairs k xs)[i]? = some (.tup [.int ((k + i : Nat) : Int), d])
  | [], _, _, _, h => by simp at h
  | x :: r, k, 0, d, h => by
    have : x = d := by simpa using h
    subst this
    rfl
  | x :: r, k, i + 1, d, h => by
    unfold pairs
    rw [List.getElem?_cons_succ, pairs_get r (k + 1) i d (by simpa using h), show k + 1 + i = k + (i + 1) by omega]
theorem walk_enumL {a : Addr} {g : Guard} (h : ∀ H z, Ok K H z → To H0 z0 H z → held g z.st = true → ∃ vs, Rd H a (.lst vs) ∧ DVsz K z items vs) : WalkD K H0 z0 (pairs 0 items) g (Ite K a) where
  go := fun i H z hi okz t hg => by
    rw [pairs_length] at hi
    obtain ⟨vs, h1, h2⟩ := h H z okz t hg
    obtain ⟨d, x, _, e, _⟩ := h2.at hi
    exact ⟨vs, x, .inl h1, e⟩
  stop := fun H z okz t hg => by
    obtain ⟨vs, h1, h2⟩ := h H z okz t hg
    exact ⟨vs, .inl h1, by rw [pairs_length, h2.length]; exact Nat.le_refl _⟩
  yld := fun i H z x H' hi okz t hg y => by
    rw [pairs_length] at hi
    obtain ⟨vs, h1, h2⟩ := h H z okz t hg
    obtain ⟨T, x0, rfl, hT, rfl, y⟩ := y
    obtain ⟨d, x', e1, e2, dv⟩ := h2.at hi
    rw [y vs (.inl h1)] at e2; cases e2
    obtain ⟨z', q1, q2, q3, q4⟩ := pair_new okz hT (.int (i : Nat)) dv
    refine ⟨z', _, q1, q2, q3, pairs_get items 0 i d e1, ?_⟩
    rw [Nat.zero_add]; exact q4
theorem walk_enumT {a : Addr} {g : Guard} (h : ∀ H z, Ok K H z → To H0 z0 H z → ∃ vs, SqT K H a vs ∧ DVsz K z items vs) : WalkD K H0 z0 (pairs 0 items) g (IteT K a) where
  go := fun i H z hi okz t hg => by
    rw [pairs_length] at hi
    obtain ⟨vs, h1, h2⟩ := h H z okz t
    obtain ⟨d, x, _, e, _⟩ := h2.at hi
    exact ⟨vs, x, h1, e⟩
  stop := fun H z okz t hg => by
    obtain ⟨vs, h1, h2⟩ := h H z okz t
    exact ⟨vs, h1, by rw [pairs_length, h2.length]; exact Nat.le_refl _⟩
  yld := fun i H z x H' hi okz t hg y => by
    rw [pairs_length] at hi
    obtain ⟨vs, h1, h2⟩ := h H z okz t
    obtain ⟨T, x0, rfl, hT, rfl, y⟩ := y
    obtain ⟨d, x', e1, e2, dv⟩ := h2.at hi
    rw [y vs h1] at e2; cases e2
    obtain ⟨z', q1, q2, q3, q4⟩ := pair_new okz hT (.int (i : Nat)) dv
    refine ⟨z', _, q1, q2, q3, pairs_get items 0 i d e1, ?_⟩
    rw [Nat.zero_add]; exact q4
theorem zips_length : ∀ (xs ys : List D), (zips xs ys).length = min xs.length ys.length
  | [], ys => by unfold zips; simp
  | x :: r, [] => by unfold zips; simp
  | x :: r, y :: q => by unfold zips; rw [List.length_cons, List.length_cons, List.length_cons, zips_length r q]; omega
theorem zips_get : ∀ (xs ys : List D) (i : Nat) (d e : D), xs[i]? = some d → ys[i]? = some e → (zips xs ys)[i]? = some (.tup [d, e])
  | [], _, _, _, _, h, _ => by simp at h
  | _ :: _, [], _, _, _, _, h => by simp at h
  | x :: r, y :: q, 0, d, e, h1, h2 => by
    have a1 : x = d := by simpa using h1
    have a2 : y = e := by simpa using h2
    subst a1; subst a2; rfl
  | x :: r, y :: q, i + 1, d, e, h1, h2 => by
    unfold zips
    rw [List.getElem?_cons_succ]
    exact zips_get r q i d e (by simpa using h1) (by simpa using h2)
theorem held_app {g g' : Guard} {st : Store} (h : held (g ++ g') st = true) : held g st = true ∧ held g' st = true := by
  unfold held at h ⊢
  rw [List.all_append, Bool.and_eq_true] at h
  exact h
theorem walk_zipL {a b : Addr} {g : Guard} {ys : List D} (h : ∀ H z, Ok K H z → To H0 z0 H z → held g z.st = true → ∃ vs ws, Rd H a (.lst vs) ∧ DVsz K z items vs ∧ Rd H b (.lst ws) ∧ DVsz K z ys ws) : WalkD K H0 z0 (zips items ys) g (Itz K a b) where
  go := fun i H z hi okz t hg => by
    rw [zips_length] at hi
    obtain ⟨vs, ws, h1, h2, h3, h4⟩ := h H z okz t hg
    obtain ⟨_, x, _, e, _⟩ := h2.at (Nat.lt_of_lt_of_le hi (Nat.min_le_left _ _))
    obtain ⟨_, y, _, e2, _⟩ := h4.at (Nat.lt_of_lt_of_le hi (Nat.min_le_right _ _))
    exact ⟨vs, ws, x, y, .inl h1, .inl h3, e, e2⟩
  stop := fun H z okz t hg => by
    obtain ⟨vs, ws, h1, h2, h3, h4⟩ := h H z okz t hg
    refine ⟨vs, ws, .inl h1, .inl h3, ?_⟩
    rw [zips_length, ← h2.length, ← h4.length]; omega
  yld := fun i H z x H' hi okz t hg y => by
    rw [zips_length] at hi
    obtain ⟨vs, ws, h1, h2, h3, h4⟩ := h H z okz t hg
    obtain ⟨T, x0, y0, rfl, hT, rfl, p1, p2⟩ := y
    obtain ⟨d, x', e1, e2, dv⟩ := h2.at (Nat.lt_of_lt_of_le hi (Nat.min_le_left _ _))
    obtain ⟨d', y', e3, e4, dv'⟩ := h4.at (Nat.lt_of_lt_of_le hi (Nat.min_le_right _ _))
    rw [p1 vs (.inl h1)] at e2; cases e2
    rw [p2 ws (.inl h3)] at e4; cases e4
    obtain ⟨z', q1, q2, q3, q4⟩ := pair_new okz hT dv dv'
    exact ⟨z', _, q1, q2, q3, zips_get items ys i d d' e1 e3, q4⟩
theorem walk_zipT {a b : Addr} {g : Guard} {ys : List D} (h : ∀ H z, Ok K H z → To H0 z0 H z → ∃ vs ws, SqT K H a vs ∧ DVsz K z items vs ∧ SqT K H b ws ∧ DVsz K z ys ws) : WalkD K H0 z0 (zips items ys) g (RZ.ItzT K a b) where
  go := fun i H z hi okz t hg => by
    rw [zips_length] at hi
    obtain ⟨vs, ws, h1, h2, h3, h4⟩ := h H z okz t
    obtain ⟨_, x, _, e, _⟩ := h2.at (Nat.lt_of_lt_of_le hi (Nat.min_le_left _ _))
    obtain ⟨_, y, _, e2, _⟩ := h4.at (Nat.lt_of_lt_of_le hi (Nat.min_le_right _ _))
    exact ⟨vs, ws, x, y, h1, h3, e, e2⟩
  stop := fun H z okz t hg => by
    obtain ⟨vs, ws, h1, h2, h3, h4⟩ := h H z okz t
    refine ⟨vs, ws, h1, h3, ?_⟩
    rw [zips_length, ← h2.length, ← h4.length]; omega
  yld := fun i H z x H' hi okz t hg y => by
    rw [zips_length] at hi
    obtain ⟨vs, ws, h1, h2, h3, h4⟩ := h H z okz t
    obtain ⟨T, x0, y0, rfl, hT, rfl, p1, p2⟩ := y
    obtain ⟨d, x', e1, e2, dv⟩ := h2.at (Nat.lt_of_lt_of_le hi (Nat.min_le_left _ _))
    obtain ⟨d', y', e3, e4, dv'⟩ := h4.at (Nat.lt_of_lt_of_le hi (Nat.min_le_right _ _))
    rw [p1 vs h1] at e2; cases e2
    rw [p2 ws h3] at e4; cases e4
    obtain ⟨z', q1, q2, q3, q4⟩ := pair_new okz hT dv dv'
    exact ⟨z', _, q1, q2, q3, zips_get items ys i d d' e1 e3, q4⟩
end
/-- a list, a tuple or a text is walked -/
def iVal (K : PySem.W.Frag) (tl : TE) : TI := fun σ H R => tl σ H fun x H1 =>
  (∃ a xs, x = .ref a ∧ SqL K H1 a xs ∧ R (Itl K a) H1) ∨ (∃ a xs, x = .ref a ∧ SqT K H1 a xs ∧ R (Itt K a) H1) ∨ ∃ s, x = .str s ∧ R (Its s) H1
theorem pi_val {X : Cx} {tg l : Expr} {tl : TE} (hl : PE X l tl) : PI X tg l (iVal X.K tl) := by
  refine ⟨fun pins s σ H R I h => ?_⟩
  refine thn (hl.run pins s σ H _ I h) fun v s1 ⟨x, H1, I1, r1, q1⟩ => ?_
  have one : FpOk X pins H1 s1.heap.objs.size := I1.fpOk (Nat.le_refl _) (I1.hok.fresh (Nat.le_refl _))
  rcases q1 with ⟨a, xs, rfl, hq, q⟩ | ⟨a, xs, rfl, hq, q⟩ | ⟨y, rfl, q⟩
  · cases r1
    obtain ⟨its, rv, p, hz⟩ := I1.list hq
    exact wpAny_pyIter_list p.isList ⟨_, [s1.heap.objs.size], _, _, H1, rfl, I1.kept (t' := s1.toks) fun b o e => Heap.get?_push_of_some _ e, turn_list a _, ⟨_, Heap.get?_push_size _ rfl, rfl, rfl⟩, fun b hb => by rw [List.mem_singleton.mp hb]; exact one, q⟩
  · cases r1
    obtain ⟨its, rv, p, hz⟩ := I1.tuple hq
    exact wpAny_pyIter_tuple (show s1.heap.IsTuple a its.toArray from p) ⟨_, [s1.heap.objs.size], _, _, H1, rfl, I1.kept (t' := s1.toks) fun b o e => Heap.get?_push_of_some _ e, turn_tuple a _, ⟨_, Heap.get?_push_size _ rfl, rfl, rfl⟩, fun b hb => by rw [List.mem_singleton.mp hb]; exact one, q⟩
  · obtain ⟨t, rfl⟩ := r1
    cases ha : y.cps.all (· < 128)
    · exact wpAny_pyIter_wide ha (pi_one (tk := s1.toks) I1 _ (turn_str _ y t "str_iterator" (.inr rfl)) ⟨_, Heap.get?_push_size _ rfl, rfl, rfl⟩ q)
    · exact wpAny_pyIter_ascii ha (pi_one (tk := s1.toks) I1 _ (turn_str _ y t "str_ascii_iterator" (.inl rfl)) ⟨_, Heap.get?_push_size _ rfl, rfl, rfl⟩ q)
end PyE

namespace PyE
open PySem PySem.Spec PyProof.Rows L2
/-- a def as it may be called: its name, its parameters; how many values by place, which by name, which defaults -/
structure FT where
  name : Str
  ps : List Str
  pats : List (Nat × List Str × List D)
/-- where a text stands: the scope that runs, the scope whose own names may be stored, the slots, the module's constants, the defs -/
structure Ct where
  sc : Scope
  own : Scope
  N : List Str
  glb : List (Str × D)
  fns : List FT
def visB (sc : Scope) (x : Str) : Bool := match sc.names.lookup x with
  | some .local => true
  | some .cell => true
  | some .free => true
  | _ => false
def locB (sc : Scope) (x : Str) : Bool := match sc.names.lookup x with
  | some .local => true
  | some .cell => true
  | _ => false
def gloB (sc : Scope) (x : Str) : Bool := decide (sc.names.lookup x = some .globalImplicit)
def okN (x : Str) : Bool := !(x == ("__debug__" : Str)) && (!(x == ("__classdict__" : Str)) && !(x == ("__name__" : Str)))
def constIs : Const → D → Bool
  | .none, .non => true
  | .bool a, .bl b => a == b
  | .int a, .int b => decide (a = b)
  | .str a, .str b => decide (a = b)
  | _, _ => false
def litV : D → Option V
  | .non => some .non
  | .bl b => some (.bl b)
  | .int i => some (.int i)
  | .str s => some (.str s)
  | _ => none
def biN : Bi → Str
  | .len => "len" | .abs => "abs" | .int => "int" | .max2 => "max" | .min2 => "min" | .max1 => "max" | .min1 => "min" | .sum => "sum" | .all => "all" | .any => "any"
  | .tuple => "tuple" | .list => "list" | .sorted => "sorted" | .str => "str" | .sortedSet => "sorted"
def mtN : Mt → Str
  | .append => "append" | .extend => "extend" | .insert => "insert" | .pop => "pop" | .popAt => "pop" | .index => "index" | .get => "get" | .setdefault => "setdefault" | .join => "join"
def freC : C → Bool
  | .list _ => true
  | .dict _ _ => true
  | .bin _ _ _ => true
  | .sl _ _ _ => true
  | .bi .list _ => true
  | .bi .sorted _ => true
  | .lc _ _ _ _ _ => true
  | .dc _ _ _ _ _ _ => true
  | _ => false
def litsOf : Cs → Option (List D)
  | .nil => some []
  | .cons (.lit d) r => (litsOf r).map (d :: ·)
  | .cons _ _ => none
def D.eqL (a b : List D) : Bool := D.beqL a b
def nameOf : Expr → Option Str
  | .Name x _ => some x
  | _ => none
def tyName : Expr → Ty → Bool
  | .Name x _, t => decide (x = Str.ofString (tyT t))
  | _, _ => false
def tysNames : List Expr → List Ty → Bool
  | [], [] => true
  | e :: es, t :: ts => tyName e t && tysNames es ts
  | _, _ => false
def glTys (sc : Scope) (ts : List Ty) : Bool := ts.all fun t => gloB sc (Str.ofString (tyT t))
def tysIs (sc : Scope) (e : Expr) (ts : List Ty) : Bool := glTys sc ts && decide (ts.length ≤ 8) && (match e with
  | .Tuple es _ _ => tysNames es ts
  | e => (match ts with
    | [t] => tyName e t
    | _ => false))
mutual
def slotsT : T → List Nat
  | .name i => [i]
  | .tup ts => slotsTs ts
  | .sub _ _ => []
def slotsTs : Ts → List Nat
  | .nil => []
  | .cons t r => slotsT t ++ slotsTs r
end
def ownOf (N : List Str) (own : List Nat) : List (Str × Nat) := own.filterMap fun i => (N[i]?).map fun x => (x, i)
def methO : Expr → Bool
  | .Name _ _ => true
  | .Subscript _ _ _ => true
  | .Constant _ _ _ => true
  | .Attribute _ _ _ => true
  | _ => false
def isTupE : Expr → Bool
  | .Tuple _ _ _ => true
  | _ => false
/-- one name in the middle -/
def midB : C → C → Bool
  | .cmp _ _ (.var i), .cmp _ (.var j) _ => decide (i = j)
  | _, _ => false
mutual
def chkE (Γ : Ct) : C → Expr → Bool
  | .lit d, e => (match e with
    | .Constant k _ _ => constIs k d
    | .Name x _ => gloB Γ.sc x && okN x && Γ.glb.any fun p => decide (p.1 = x) && D.beq p.2 d
    | _ => false)
  | .var i, e => (match e with
    | .Name x _ => decide (Γ.N[i]? = some x) && visB Γ.sc x && okN x
    | _ => false)
  | .tup es, e => (match e with
    | .Tuple xs _ _ => chkEs Γ es xs
    | _ => false)
  | .list es, e => (match e with
    | .List xs _ => chkEs Γ es xs
    | _ => false)
  | .dict ks vs, e => (match e with
    | .Dict keys values _ => chkKs ks keys && chkEs Γ vs values && decide (keys.length = values.length) && decide (keys.length ≤ 15)
    | _ => false)
  | .mut c, e => freC c && chkE Γ c e
  | .bin op a b, e => (match e with
    | .BinOp l o r _ => decide (o = bopOf op) && chkE Γ a l && chkE Γ b r
    | _ => false)
  | .neg a, e => (match e with
    | .UnaryOp o x _ => decide (o = .USub) && chkE Γ a x
    | _ => false)
  | .cmp op a b, e => (match e with
    | .Compare l [o] [r] _ => decide (o = copOf op) && chkE Γ a l && chkE Γ b r
    | _ => false)
  | .and a b, e => (match e with
    | .BoolOp .And (x :: y :: rest) pos => chkE Γ a x && (match rest with
      | [] => chkE Γ b y
      | _ => chkE Γ b (.BoolOp .And (y :: rest) pos))
    | .Compare l [o1, o2] [m, r] pos => midB a b && chkE Γ a (.Compare l [o1] [m] pos) && chkE Γ b (.Compare m [o2] [r] pos)
    | _ => false)
  | .or a b, e => (match e with
    | .BoolOp .Or (x :: y :: rest) pos => chkE Γ a x && (match rest with
      | [] => chkE Γ b y
      | _ => chkE Γ b (.BoolOp .Or (y :: rest) pos))
    | _ => false)
  | .not a, e => (match e with
    | .UnaryOp o x _ => decide (o = .Not) && chkE Γ a x
    | _ => false)
  | .ife c a b, e => (match e with
    | .IfExp t x y _ => chkE Γ c t && chkE Γ a x && chkE Γ b y
    | _ => false)
  | .ix a b, e => (match e with
    | .Subscript x y _ => chkE Γ a x && chkE Γ b y
    | _ => false)
  | .sl a lo hi, e => (match e with
    | .Subscript x (.Slice l h none _) _ => chkE Γ a x && chkO Γ lo l && chkO Γ hi h
    | _ => false)
  | .call f es _ _, e => (match e with
    | .Call (.Name x _) args kws _ => gloB Γ.sc x && okN x && (match Γ.fns[f]? with
      | some ft => decide (ft.name = x) && ft.pats.any fun p => decide (p.1 = args.length) && decide (p.2.1.map some = kws.map (·.arg)) && chkC Γ es args kws p.2.2
      | none => false)
    | _ => false)
  | .callS f es, e => (match e with
    | .Call (.Name x _) args kws _ => gloB Γ.sc x && okN x && (match Γ.fns[f]? with
      | some ft => decide (ft.name = x) && ft.pats.any fun p => decide (p.1 = args.length) && decide (p.2.1.map some = kws.map (·.arg)) && chkC Γ es args kws p.2.2
      | none => false)
    | _ => false)
  | .bi f es, e => (match e with
    | .Call (.Name x _) args [] _ => gloB Γ.sc x && decide (x = biN f) && (match f with
      | .sortedSet => (match args with
        | [.Call (.Name y _) as [] _] => gloB Γ.sc y && decide (y = ("set" : Str)) && decide (as.length = 1) && chkEs Γ es as
        | _ => false)
      | .max2 => decide (args.length = 2) && chkEs Γ es args
      | .min2 => decide (args.length = 2) && chkEs Γ es args
      | _ => decide (args.length = 1) && chkEs Γ es args)
    | _ => false)
  | .mt m o es, e => (match e with
    | .Call (.Attribute ob nm apos) args [] cpos => decide (nm = mtN m) && methO ob && (apos.endLine == cpos.line) && decide (args.length < 30) && decide (args.isEmpty = decide (m = .pop)) && chkE Γ o ob && chkEs Γ es args
    | _ => false)
  | .isi a ts, e => (match e with
    | .Call (.Name x _) [e1, e2] [] _ => gloB Γ.sc x && decide (x = ("isinstance" : Str)) && chkE Γ a e1 && tysIs Γ.sc e2 ts
    | _ => false)
  | .lc own t it cond elt, e => (match e with
    | .ListComp el [⟨tg, iter, ifs, ia⟩] scope _ => decide (ia = 0) && blkC Γ.N Γ.sc scope (ownOf Γ.N own) && decide ((ownOf Γ.N own).map (·.2) = own) && chkI Γ it tg iter &&
      chkT { Γ with sc := relS scope Γ.sc, own := scope } t tg && (slotsT t).all (own.contains ·) && chkCo { Γ with sc := relS scope Γ.sc, own := scope } cond ifs && chkE { Γ with sc := relS scope Γ.sc, own := scope } elt el
    | _ => false)
  | .dc own t it cond k v, e => (match e with
    | .DictComp kl vl [⟨tg, iter, ifs, ia⟩] scope _ => decide (ia = 0) && blkC Γ.N Γ.sc scope (ownOf Γ.N own) && decide ((ownOf Γ.N own).map (·.2) = own) && chkI Γ it tg iter &&
      chkT { Γ with sc := relS scope Γ.sc, own := scope } t tg && (slotsT t).all (own.contains ·) && chkCo { Γ with sc := relS scope Γ.sc, own := scope } cond ifs && chkE { Γ with sc := relS scope Γ.sc, own := scope } k kl &&
      chkE { Γ with sc := relS scope Γ.sc, own := scope } v vl
    | _ => false)
def chkEs (Γ : Ct) : Cs → List Expr → Bool
  | .nil, [] => true
  | .cons c r, e :: es => chkE Γ c e && chkEs Γ r es
  | _, _ => false
/-- the values by place, those by name, the defaults -/
def chkC (Γ : Ct) : Cs → List Expr → List Keyword → List D → Bool
  | .cons c r, e :: es, kws, ds => chkE Γ c e && chkC Γ r es kws ds
  | .cons c r, [], k :: kws, ds => chkE Γ c k.value && chkC Γ r [] kws ds
  | .cons (.lit d) r, [], [], d' :: ds => D.beq d d' && (litV d).isSome && chkC Γ r [] [] ds
  | .nil, [], [], [] => true
  | _, _, _, _ => false
def chkKs : List D → List (Option Expr) → Bool
  | [], [] => true
  | d :: ds, some (.Constant k _ _) :: es => constIs k d && isKey d && chkKs ds es
  | _, _ => false
def chkO (Γ : Ct) : Co → Option Expr → Bool
  | .none, none => true
  | .some c, some e => chkE Γ c e
  | _, _ => false
def chkCo (Γ : Ct) : Co → List Expr → Bool
  | .none, [] => true
  | .some c, [e] => chkE Γ c e
  | _, _ => false
def chkT (Γ : Ct) : T → Expr → Bool
  | .name i, e => (match e with
    | .Name x _ => decide (Γ.N[i]? = some x) && locB Γ.own x
    | _ => false)
  | .tup ts, e => (match e with
    | .Tuple es _ _ => chkTs Γ ts es
    | _ => false)
  | .sub o i, e => (match e with
    | .Subscript x y _ => chkE Γ o x && chkE Γ i y
    | _ => false)
def chkTs (Γ : Ct) : Ts → List Expr → Bool
  | .nil, [] => true
  | .cons t r, e :: es => chkT Γ t e && chkTs Γ r es
  | _, _ => false
def chkI (Γ : Ct) : I → Expr → Expr → Bool
  | .val c, _, iter => chkE Γ c iter
  | .range1 a, _, iter => (match iter with
    | .Call (.Name x _) [e] [] _ => gloB Γ.sc x && decide (x = ("range" : Str)) && chkE Γ a e
    | _ => false)
  | .range2 a b, _, iter => (match iter with
    | .Call (.Name x _) [e, e2] [] _ => gloB Γ.sc x && decide (x = ("range" : Str)) && chkE Γ a e && chkE Γ b e2
    | _ => false)
  | .enum c, tg, iter => isTupE tg && (match iter with
    | .Call (.Name x _) [e] [] _ => gloB Γ.sc x && decide (x = ("enumerate" : Str)) && chkE Γ c e
    | _ => false)
  | .zip a b, tg, iter => isTupE tg && (match iter with
    | .Call (.Name x _) [e, e2] [] _ => gloB Γ.sc x && decide (x = ("zip" : Str)) && chkE Γ a e && chkE Γ b e2
    | _ => false)
end
end PyE

namespace PyE
open PySem PySem.Spec PyProof.Rows L2
def tE (K : PySem.W.Frag) (fr : Bool) (cf : CallF) (c : C) : TE := fun σ H Q => ∃ z en d st', Ok K H z ∧ EnvR K z en σ ∧ evE cf c en z.st = .ok d st' ∧ End K fr H z d st' Q
def tT (K : PySem.W.Frag) (cf : CallF) (c : C) : TT := fun σ H Q => ∃ z en d st' b, Ok K H z ∧ EnvR K z en σ ∧ evE cf c en z.st = .ok d st' ∧ truth st' d = some b ∧ ∀ H' z', z'.st = st' → Ok K H' z' → To H z H' z' → Q b H'
def tEs (K : PySem.W.Frag) (cf : CallF) (es : Cs) : TA := fun σ H Q => ∃ z en xs st', Ok K H z ∧ EnvR K z en σ ∧ evEs cf es en z.st = .ok xs st' ∧ ∀ H' z' vs, z'.st = st' → Ok K H' z' → To H z H' z' → DVsz K z' xs vs → Q vs H'
def tO (K : PySem.W.Frag) (cf : CallF) (c : Co) : TO := fun σ H Q => ∃ z en o st', Ok K H z ∧ EnvR K z en σ ∧ evO cf c en z.st = .ok o st' ∧ ∀ H' z', z'.st = st' → Ok K H' z' → To H z H' z' → Q o H'
def tCo (K : PySem.W.Frag) (cf : CallF) (c : Co) : TT := fun σ H Q => ∃ z en st' b, Ok K H z ∧ EnvR K z en σ ∧ evCo cf c en z.st = .ok b st' ∧ ∀ H' z', z'.st = st' → Ok K H' z' → To H z H' z' → Q b H'
def gT (K : PySem.W.Frag) (cf : CallF) (t : T) : TG := fun v σ H Q => ∃ z en d en' st', Ok K H z ∧ EnvR K z en σ ∧ DVz K z d v ∧ asT cf t d en z.st = .ok en' st' ∧
  ∀ H' z' σ', z'.st = st' → Ok K H' z' → To H z H' z' → EnvR K z' en' σ' → (∀ vs, (∀ i ∈ slotsT t, i ∈ vs) → L2.wipe σ' vs = L2.wipe σ vs) → Q σ' H'
def gTs (K : PySem.W.Frag) (cf : CallF) (t : Ts) : TGs := fun vs σ H Q => ∃ z en ds en' st', Ok K H z ∧ EnvR K z en σ ∧ DVsz K z ds vs ∧ asTs cf t ds en z.st = .ok en' st' ∧
  ∀ H' z' σ', z'.st = st' → Ok K H' z' → To H z H' z' → EnvR K z' en' σ' → (∀ vs, (∀ i ∈ slotsTs t, i ∈ vs) → L2.wipe σ' vs = L2.wipe σ vs) → Q σ' H'
def iT (K : PySem.W.Frag) (cf : CallF) (i : I) : TI := fun σ H R => ∃ z en p st', Ok K H z ∧ EnvR K z en σ ∧ evI cf i en z.st = .ok p st' ∧
  ∀ H' z' J, z'.st = st' → Ok K H' z' → To H z H' z' → WalkD K H' z' p.1 p.2 J → R J H'
def CX0 : CXT := fun _ _ _ _ _ _ => False
def E0 : XK := fun _ _ _ => False
theorem pass0 {X : Cx} {E : XK} : Passes CX0 X E := fun _ _ _ _ _ _ _ h => h.elim
structure FnX (cf : CallF) (X : Cx) (f : Nat) (ft : FT) : Prop where
  ex : ∃ (k : Nat) (a : Addr) (fd : FuncData), X.mg ft.name = some (.ref a) ∧ PySem.W.keepIn X.K (.ref a) = true ∧ FnOk X.prog X.w X.K X.mg X.base CX0 k a fd ft.ps (spF X.K cf f) ∧ Room k X.A ∧
    ∀ p ∈ ft.pats, ∀ dv, mapO litV p.2.2 = some dv → ∃ ds : List Value, Vals dv ds ∧ ∀ (s : Shared) (us ws : List Value), X.K.In s.heap → us.length = p.1 → ws.length = p.2.1.length → BindsTo s fd ⟨us, p.2.1.zip ws⟩ (ft.ps.zip (us ++ ws ++ ds))
def bltNames : List Str := ["len", "abs", "int", "max", "min", "sum", "all", "any", "tuple", "list", "sorted", "str", "set", "bool", "isinstance", "range", "enumerate", "zip"]
structure XOk (Γ : Ct) (cf : CallF) (X : Cx) : Prop where
  calm : X.calm = true
  nd : X.N.Nodup
  N : X.N = Γ.N
  sc : X.env.scope = Γ.sc
  un : X.A.units + 64 < cLine
  loc : ∀ x, locB Γ.own x = true → L2.Loc X.env.scope x ∧ (X.fn x = true ∨ X.env.scope.names.lookup x = some .local)
  glb : ∀ p ∈ Γ.glb, ∃ u v, X.mg p.1 = some u ∧ RelV v u ∧ ∀ (H : Hp) (z : Z), Ok X.K H z → DVz X.K z p.2 v
  bi : ∀ x ∈ bltNames, X.mg x = none
  fns : ∀ f ft, Γ.fns[f]? = some ft → FnX cf X f ft
def isBool : Expr → Bool
  | .BoolOp _ _ _ => true
  | _ => false
structure Snd (X : Cx) (cf : CallF) (c : C) (e : Expr) : Prop where
  pe : PE X e (tE X.K (freC c) cf c)
  pt : PT X e (tT X.K cf c)
  pw : isBool e = true → PW X e (tT X.K cf c)
def SndC (cf : CallF) (c : C) : Prop := ∀ Γ X e, XOk Γ cf X → chkE Γ c e = true → Snd X cf c e
section
variable {X : Cx} {e : Expr}
theorem _root_.L2.PE.imp {t t' : TE} (h : PE X e t) (i : ∀ σ H Q, t' σ H Q → t σ H Q) : PE X e t' := ⟨fun pins s σ H Q I q => h.run pins s σ H Q I (i σ H Q q)⟩
theorem _root_.L2.PT.imp {t t' : TT} (h : PT X e t) (i : ∀ σ H Q, t' σ H Q → t σ H Q) : PT X e t' := ⟨fun pins s σ H Q I q => h.run pins s σ H Q I (i σ H Q q)⟩
theorem _root_.L2.PW.imp {t t' : TT} (h : PW X e t) (i : ∀ σ H Q, t' σ H Q → t σ H Q) : PW X e t' := ⟨fun wh pins s σ H Q I q => h.run wh pins s σ H Q I (i σ H Q q)⟩
theorem _root_.L2.PA.imp {es : List Expr} {t t' : TA} (h : PA X es t) (i : ∀ σ H Q, t' σ H Q → t σ H Q) : PA X es t' := ⟨fun pos pins s σ H Q I q => h.run pos pins s σ H Q I (i σ H Q q)⟩
theorem _root_.L2.PG.imp {t t' : TG} (h : PG X e t) (i : ∀ v σ H Q, t' v σ H Q → t v σ H Q) : PG X e t' := ⟨fun pins s σ H v u Q I r q => h.run pins s σ H v u Q I r (i v σ H Q q)⟩
theorem _root_.L2.PGs.imp {es : List Expr} {t t' : TGs} (h : PGs X es t) (i : ∀ v σ H Q, t' v σ H Q → t v σ H Q) : PGs X es t' := ⟨fun pins s σ H v u Q I r q => h.run pins s σ H v u Q I r (i v σ H Q q)⟩
theorem _root_.L2.PI.imp {tg : Expr} {t t' : TI} (h : PI X tg e t) (i : ∀ σ H Q, t' σ H Q → t σ H Q) : PI X tg e t' := ⟨fun pins s σ H Q I q => h.run pins s σ H Q I (i σ H Q q)⟩
theorem _root_.L2.PO.imp {o : Option Expr} {t t' : TO} (h : PO X o t) (i : ∀ σ H Q, t' σ H Q → t σ H Q) : PO X o t' := ⟨fun pins s σ H Q I q => h.run pins s σ H Q I (i σ H Q q)⟩
theorem _root_.L2.PTs.imp {o : List Expr} {t t' : TT} (h : PTs X o t) (i : ∀ σ H Q, t' σ H Q → t σ H Q) : PTs X o t' := ⟨fun pins s σ H Q I q => h.run pins s σ H Q I (i σ H Q q)⟩
theorem _root_.L2.PS.imp {st : Stmt} {t t' : TS} (h : PS X st t) (i : ∀ D σ H, t' D σ H → t D σ H) : PS X st t' := ⟨fun pins s σ H D I q => h.run pins s σ H D I (i D σ H q)⟩
theorem _root_.L2.PSs.imp {st : List Stmt} {t t' : TS} (h : PSs X st t) (i : ∀ D σ H, t' D σ H → t D σ H) : PSs X st t' := ⟨fun pins s σ H D I q => h.run pins s σ H D I (i D σ H q)⟩
def plainE : Expr → Bool
  | .Constant _ _ _ => true
  | .Name _ _ => true
  | .Tuple _ _ _ => true
  | .List _ _ => true
  | .Dict _ _ _ => true
  | .UnaryOp _ _ _ => true
  | .BinOp _ _ _ _ => true
  | .Compare _ _ _ _ => true
  | .BoolOp _ _ _ => true
  | .IfExp _ _ _ _ => true
  | .Subscript _ _ _ => true
  | .Call _ _ _ _ => true
  | .ListComp _ _ _ _ => true
  | .DictComp _ _ _ _ _ => true
  | _ => false
theorem chk_plain {Γ : Ct} : ∀ (c : C) (e : Expr), chkE Γ c e = true → plainE e = true := by
  intro c
  cases c
  case «mut» c =>
    intro e h
    simp only [chkE, Bool.and_eq_true] at h
    have h0 := h.1
    have h1 := h.2
    cases c <;> first | (simp only [freC] at h0; cases h0; done) | skip
    all_goals (simp only [chkE] at h1; split at h1 <;> first | rfl | (cases h1; done))
  all_goals (intro e h; simp only [chkE] at h; split at h <;> first | rfl | (cases h; done))
theorem plain_star (h : plainE e = true) (es : List Expr) (env : Env) : starEach (e :: es) env = (false, eval e env) :: starEach es env := by
  cases e <;> first | rfl | (cases h; done)
theorem plain_assign (h : plainE e = true) (es : List Expr) (env : Env) : assignEach (e :: es) env = (false, assign e env) :: assignEach es env := by
  cases e <;> first | rfl | (cases h; done)
theorem plain_ix (h : plainE e = true) : PlainIx e := by
  cases e <;> first | (intro _ _; rfl; done) | (cases h; done)
theorem plain_mark (h : plainE e = true) (op : CmpOp) : behindInMarks op e = false := by
  cases e <;> first | rfl | (cases h; done)
theorem plain_fold (h : plainE e = true) (x : Value) : foldedSetIterable e X.env x = pure x := by
  cases e <;> first | rfl | (cases h; done)
theorem plain_sub {o : Expr} {pos : Pos} (h : plainE e = true) : ∀ v, assign (.Subscript o e pos) X.env v = (do
      let ov ← holding [v] (eval o X.env)
      let iv ← holding [v, ov] (eval e X.env)
      standAt pos
      holding [v, ov, iv] (setItem ov iv v)
      release [v, ov, iv] []) := by
  cases e <;> first | (intro _; rfl; done) | (cases h; done)
theorem meth_base (h : methO e = true) (m : Str) : attributeBase e m X.env (eval e X.env) = eval e X.env := by
  cases e <;> first | rfl | (cases h; done)
def plainT : Expr → Bool
  | .UnaryOp .Not _ _ => false
  | .BoolOp _ _ _ => false
  | .IfExp _ _ _ _ => false
  | .Compare _ _ _ _ => false
  | _ => true
theorem plain_true (h : plainT e = true) : ∀ whole, isTrue e X.env whole = (do let v ← whole; standAt e.pos; holding [v] (truthy v)) := by
  cases e <;> first | (intro _; rfl; done) | (cases h; done) | skip
  rename_i op _ _
  cases op <;> first | (intro _; rfl; done) | (cases h; done)
end
section
variable {X : Cx} {e : Expr} {cf : CallF} {c : C} {Γ : Ct}
theorem tE_weak {K : PySem.W.Frag} {fr : Bool} {σ : L2.St} {H : Hp} {Q : VK} (h : tE K false cf c σ H Q) : tE K fr cf c σ H Q := by
  obtain ⟨z, en, d, st', ok, er, ev, q⟩ := h
  exact ⟨z, en, d, st', ok, er, ev, q.weak⟩
theorem Snd.pe0 (h : Snd X cf c e) : PE X e (tE X.K false cf c) := h.pe.imp fun _ _ _ q => tE_weak q
theorem Snd.plain (hp : plainT e = true) (h : PE X e (tE X.K (freC c) cf c)) : Snd X cf c e where
  pe := h
  pt := (pt_truth (h.imp fun _ _ _ q => tE_weak q : PE X e (tE X.K false cf c)) (plain_true hp)).imp fun σ H Q ⟨z, en, d, st', b, ok, er, ev, tb, q⟩ => ⟨z, en, d, st', ok, er, ev, fun H' z' v hs ok' t' dv' _ => ⟨b, truV_of ok' dv' (by rw [hs]; exact tb), q H' z' hs ok' t'⟩⟩
  pw := fun h => by cases e <;> first | (cases h; done) | (cases hp; done)
theorem constIs_V {k : Const} {d : D} (h : constIs k d = true) : ∃ v, litV d = some v := by
  cases k <;> cases d <;> first | (cases h; done) | exact ⟨_, rfl⟩
theorem litV_dv {K : PySem.W.Frag} {z : Z} {d : D} {v : V} (h : litV d = some v) : DVz K z d v := by
  cases d <;> first | (cases h; done) | (cases h; constructor; done)
theorem pe_const {k : Const} {d : D} {v : V} {j pos} (h : constIs k d = true) (hv : litV d = some v) : PE X (.Constant k j pos) (tC v) := by
  cases k <;> cases d <;> first | (cases h; done) | skip
  · cases hv; exact pe_non
  · cases hv
    have h : (_ == _) = true := h
    rw [eq_of_beq h]; exact pe_bl
  · cases hv
    have h := of_decide_eq_true h
    rw [h]; exact pe_int
  · cases hv
    have h := of_decide_eq_true h
    rw [h]; exact pe_str
theorem snd_lit (d : D) : SndC cf (.lit d) := fun Γ X e XO h => by
  simp only [chkE] at h
  have fin : ∀ v, (∀ (H : Hp) (z : Z), Ok X.K H z → DVz X.K z d v) → ∀ σ H Q, tE X.K false cf (.lit d) σ H Q → tC v σ H Q := fun v hv σ H Q ⟨z, en, d', st', ok, er, ev, q⟩ => by
    simp only [evE] at ev
    cases ev
    exact q.same ok (hv H z ok)
  split at h
  · obtain ⟨v, hv⟩ := constIs_V h
    exact .plain rfl ((pe_const h hv).imp (fin v fun H z _ => litV_dv hv))
  · rename_i x pos
    simp only [Bool.and_eq_true, List.any_eq_true] at h
    obtain ⟨⟨hg, hk⟩, p, hp, h2⟩ := h
    obtain ⟨h3, h2⟩ := h2
    have h3 := of_decide_eq_true h3
    subst h3
    have h2 := beq_eq h2
    subst h2
    obtain ⟨u, v, hm, r, hv⟩ := XO.glb p hp
    have hgl : Gl X p.1 := by
      show X.env.scope.names.lookup p.1 = _
      rw [XO.sc]; exact of_decide_eq_true hg
    simp only [okN, Bool.and_eq_true, Bool.not_eq_true'] at hk
    exact .plain rfl ((pe_glob hgl hm r hk.1).imp (fin v hv))
  · cases h
theorem vis_of {sc : Scope} {x : Str} (h : visB sc x = true) : Vis sc x := by
  unfold visB at h
  unfold Vis
  split at h <;> first | (rename_i e; rw [e]; simp; done) | (cases h; done)
theorem loc_of {sc : Scope} {x : Str} (h : locB sc x = true) : L2.Loc sc x := by
  unfold locB at h
  unfold L2.Loc
  split at h <;> first | (rename_i e; rw [e]; simp; done) | (cases h; done)
theorem snd_var (i : Nat) : SndC cf (.var i) := fun Γ X e XO h => by
  simp only [chkE] at h
  split at h
  · rename_i x pos
    simp only [Bool.and_eq_true] at h
    obtain ⟨⟨hN, hv⟩, hk⟩ := h
    simp only [okN, Bool.and_eq_true, Bool.not_eq_true'] at hk
    refine .plain rfl ((pe_var (by rw [XO.N]; exact of_decide_eq_true hN) (by rw [XO.sc]; exact vis_of hv) hk.1 hk.2.1).imp fun σ H Q ⟨z, en, d, st', ok, er, ev, q⟩ => ?_)
    simp only [evE] at ev
    split at ev
    · rename_i d' hd
      cases ev
      obtain ⟨v, h1, h2⟩ := er.2 i _ hd
      exact ⟨v, h1, q.same ok h2⟩
    · cases ev
  · cases h
theorem op_imp {K : PySem.W.Frag} {a b : C} {fr : Bool} {f : D → D → Store → R D} (hc : ∀ en st, evE cf c en st = (evE cf a en st).bind fun x s1 => (evE cf b en s1).bind fun y s2 => f x y s2) (σ : L2.St) (H : Hp) (Q : VK)
    (h : tE K fr cf c σ H Q) : tOp (rD2 K fr f) (tE K false cf a) (tE K false cf b) σ H Q := by
  obtain ⟨z, en, d, st', ok, er, ev, q⟩ := h
  rw [hc] at ev
  obtain ⟨x, s1, e1, ev⟩ := bind_ok ev
  obtain ⟨y, s2, e2, ev⟩ := bind_ok ev
  refine ⟨z, en, x, s1, ok, er, e1, fun H1 z1 v1 hs1 ok1 t1 dv1 _ => ?_⟩
  subst hs1
  refine ⟨z1, en, y, s2, ok1, ok.env t1 er, e2, fun H2 z2 v2 hs2 ok2 t2 dv2 _ => ?_⟩
  subst hs2
  exact ⟨z2, x, y, d, st', ok2, ok1.dv t2 dv1, dv2, ev, q.trans (t1.trans t2)⟩
theorem snd_bin {op : BOp} {a b : C} (ha : SndC cf a) (hb : SndC cf b) : SndC cf (.bin op a b) := fun Γ X e XO h => by
  simp only [chkE] at h
  split at h
  · simp only [Bool.and_eq_true] at h
    obtain ⟨⟨ho, h1⟩, h2⟩ := h
    have ho := of_decide_eq_true ho
    subst ho
    exact .plain rfl ((pe_op (op_bin op) (ha Γ X _ XO h1).pe0 (hb Γ X _ XO h2).pe0).imp (op_imp fun en st => by simp only [evE]))
  · cases h
theorem snd_ix {a b : C} (ha : SndC cf a) (hb : SndC cf b) : SndC cf (.ix a b) := fun Γ X e XO h => by
  simp only [chkE] at h
  split at h
  · simp only [Bool.and_eq_true] at h
    obtain ⟨h1, h2⟩ := h
    exact .plain rfl ((pe_ix (ix_ok XO.un) (ha Γ X _ XO h1).pe0 (hb Γ X _ XO h2).pe0 (plain_ix (chk_plain _ _ h2))).imp (op_imp fun en st => by simp only [evE]))
  · cases h
theorem cmp_bl {op : COp} {x y d : D} {st st' : Store} (h : cmpD op x y st = .ok d st') : ∃ k, d = .bl k := by
  obtain ⟨h, _⟩ := opt_ok h
  rw [Option.map_eq_some_iff] at h
  obtain ⟨k, _, e⟩ := h
  exact ⟨k, e.symm⟩
theorem snd_cmp {op : COp} {a b : C} (ha : SndC cf a) (hb : SndC cf b) : SndC cf (.cmp op a b) := fun Γ X e XO h => by
  simp only [chkE] at h
  split at h
  · simp only [Bool.and_eq_true] at h
    obtain ⟨⟨ho, h1⟩, h2⟩ := h
    have ho := of_decide_eq_true ho
    subst ho
    have hc : ∀ en st, evE cf (.cmp op a b) en st = (evE cf a en st).bind fun x s1 => (evE cf b en s1).bind fun y s2 => cmpD op x y s2 := fun en st => by simp only [evE]
    refine ⟨(pe_cmpR (op_cmp XO.un op) (ha Γ X _ XO h1).pe0 (hb Γ X _ XO h2).pe0 (plain_mark (chk_plain _ _ h2) _)).imp (op_imp hc), ?_, fun h => by cases h⟩
    refine (pt_cmpR (op_cmp XO.un op) (ha Γ X _ XO h1).pe0 (hb Γ X _ XO h2).pe0 (plain_mark (chk_plain _ _ h2) _)).imp fun σ H Q ⟨z, en, d, st', k, ok, er, ev, tb, q⟩ => ?_
    refine op_imp hc σ H _ ⟨z, en, d, st', ok, er, ev, fun H' z' v hs ok' t' dv' _ => ?_⟩
    rw [hc] at ev
    obtain ⟨x, s1, e1, ev⟩ := bind_ok ev
    obtain ⟨y, s2, e2, ev⟩ := bind_ok ev
    obtain ⟨k', rfl⟩ := cmp_bl ev
    cases dv'
    cases tb
    exact ⟨_, rfl, q H' z' hs ok' t'⟩
  · cases h
theorem snd_neg {a : C} (ha : SndC cf a) : SndC cf (.neg a) := fun Γ X e XO h => by
  simp only [chkE] at h
  split at h
  · simp only [Bool.and_eq_true] at h
    obtain ⟨ho, h1⟩ := h
    have ho := of_decide_eq_true ho
    subst ho
    refine .plain rfl ((pe_un un_neg (ha Γ X _ XO h1).pe0).imp fun σ H Q ⟨z, en, d, st', ok, er, ev, q⟩ => ?_)
    simp only [evE] at ev
    obtain ⟨x, s1, e1, ev⟩ := bind_ok ev
    refine ⟨z, en, x, s1, ok, er, e1, fun H1 z1 v1 hs1 ok1 t1 dv1 _ => ?_⟩
    subst hs1
    split at ev
    · cases ev
      cases dv1
      exact ⟨_, rfl, (q.trans t1).same ok1 (.int _)⟩
    · cases ev
  · cases h
theorem snd_not {a : C} (ha : SndC cf a) : SndC cf (.not a) := fun Γ X e XO h => by
  simp only [chkE] at h
  split at h
  · simp only [Bool.and_eq_true] at h
    obtain ⟨ho, h1⟩ := h
    have ho := of_decide_eq_true ho
    subst ho
    refine ⟨(pe_notT (ha Γ X _ XO h1).pe0).imp fun σ H Q ⟨z, en, d, st', ok, er, ev, q⟩ => ?_, (pt_not (ha Γ X _ XO h1).pt).imp fun σ H Q ⟨z, en, d, st', k, ok, er, ev, tb, q⟩ => ?_, fun h => by cases h⟩
    · simp only [evE] at ev
      obtain ⟨x, s1, e1, ev⟩ := bind_ok ev
      obtain ⟨ev, rfl⟩ := opt_ok ev
      rw [Option.map_eq_some_iff] at ev
      obtain ⟨k, e2, rfl⟩ := ev
      refine ⟨z, en, x, st', ok, er, e1, fun H1 z1 v1 hs1 ok1 t1 dv1 _ => ?_⟩
      subst hs1
      exact ⟨k, truV_of ok1 dv1 e2, (q.trans t1).same ok1 (.bl _)⟩
    · simp only [evE] at ev
      obtain ⟨x, s1, e1, ev⟩ := bind_ok ev
      obtain ⟨ev, rfl⟩ := opt_ok ev
      rw [Option.map_eq_some_iff] at ev
      obtain ⟨k', e2, rfl⟩ := ev
      cases tb
      exact ⟨z, en, x, st', k', ok, er, e1, e2, fun H1 z1 hs1 ok1 t1 => q H1 z1 hs1 ok1 t1⟩
  · cases h
theorem and_ev {K : PySem.W.Frag} {a b : C} {σ : L2.St} {H : Hp} {Q : VK} (h : tE K false cf (.and a b) σ H Q) : tAndT K (tE K false cf a) (tE K false cf b) σ H Q := by
  obtain ⟨z, en, d, st', ok, er, ev, q⟩ := h
  simp only [evE] at ev
  obtain ⟨x, s1, e1, ev⟩ := bind_ok ev
  refine ⟨z, en, x, s1, ok, er, e1, fun H1 z1 v1 hs1 ok1 t1 dv1 _ => ?_⟩
  subst hs1
  split at ev
  · rename_i ht
    refine ⟨true, truV_of ok1 dv1 ht, ?_⟩
    rw [if_pos rfl]
    exact ⟨z1, en, d, st', ok1, ok.env t1 er, ev, q.trans t1⟩
  · rename_i ht
    refine ⟨false, truV_of ok1 dv1 ht, ?_⟩
    rw [if_neg (by decide)]
    cases ev
    exact (q.trans t1).same ok1 dv1
  · cases ev
theorem or_ev {K : PySem.W.Frag} {a b : C} {σ : L2.St} {H : Hp} {Q : VK} (h : tE K false cf (.or a b) σ H Q) : tOrT K (tE K false cf a) (tE K false cf b) σ H Q := by
  obtain ⟨z, en, d, st', ok, er, ev, q⟩ := h
  simp only [evE] at ev
  obtain ⟨x, s1, e1, ev⟩ := bind_ok ev
  refine ⟨z, en, x, s1, ok, er, e1, fun H1 z1 v1 hs1 ok1 t1 dv1 _ => ?_⟩
  subst hs1
  split at ev
  · rename_i ht
    refine ⟨true, truV_of ok1 dv1 ht, ?_⟩
    rw [if_pos rfl]
    cases ev
    exact (q.trans t1).same ok1 dv1
  · rename_i ht
    refine ⟨false, truV_of ok1 dv1 ht, ?_⟩
    rw [if_neg (by decide)]
    exact ⟨z1, en, d, st', ok1, ok.env t1 er, ev, q.trans t1⟩
  · cases ev
theorem and_tv {K : PySem.W.Frag} {a b : C} {σ : L2.St} {H : Hp} {Q : Bool → Hp → Prop} (h : tT K cf (.and a b) σ H Q) : tAnd (tT K cf a) (tT K cf b) σ H Q := by
  obtain ⟨z, en, d, st', k, ok, er, ev, tb, q⟩ := h
  simp only [evE] at ev
  obtain ⟨x, s1, e1, ev⟩ := bind_ok ev
  split at ev
  · rename_i ht
    refine ⟨z, en, x, s1, true, ok, er, e1, ht, fun H1 z1 hs1 ok1 t1 => ?_⟩
    subst hs1
    rw [if_pos rfl]
    exact ⟨z1, en, d, st', k, ok1, ok.env t1 er, ev, tb, fun H2 z2 hs2 ok2 t2 => q H2 z2 hs2 ok2 (t1.trans t2)⟩
  · rename_i ht
    cases ev
    rw [ht] at tb
    cases tb
    exact ⟨z, en, d, st', false, ok, er, e1, ht, fun H1 z1 hs1 ok1 t1 => (if_neg (by decide)).mpr (q H1 z1 hs1 ok1 t1)⟩
  · cases ev
theorem or_tv {K : PySem.W.Frag} {a b : C} {σ : L2.St} {H : Hp} {Q : Bool → Hp → Prop} (h : tT K cf (.or a b) σ H Q) : tOr (tT K cf a) (tT K cf b) σ H Q := by
  obtain ⟨z, en, d, st', k, ok, er, ev, tb, q⟩ := h
  simp only [evE] at ev
  obtain ⟨x, s1, e1, ev⟩ := bind_ok ev
  split at ev
  · rename_i ht
    cases ev
    rw [ht] at tb
    cases tb
    exact ⟨z, en, d, st', true, ok, er, e1, ht, fun H1 z1 hs1 ok1 t1 => (if_pos rfl).mpr (q H1 z1 hs1 ok1 t1)⟩
  · rename_i ht
    refine ⟨z, en, x, s1, false, ok, er, e1, ht, fun H1 z1 hs1 ok1 t1 => ?_⟩
    subst hs1
    rw [if_neg (by decide)]
    exact ⟨z1, en, d, st', k, ok1, ok.env t1 er, ev, tb, fun H2 z2 hs2 ok2 t2 => q H2 z2 hs2 ok2 (t1.trans t2)⟩
  · cases ev
/-- what is known of a comparison's two sides -/
def Sub1 (cf : CallF) : C → Prop
  | .cmp _ a b => SndC cf a ∧ SndC cf b
  | _ => True
theorem chain_imp {K : PySem.W.Frag} {op op' : COp} {a c : C} {i : Nat} {σ : L2.St} {H : Hp} {Q : VK} (h : tE K false cf (.and (.cmp op a (.var i)) (.cmp op' (.var i) c)) σ H Q) :
    tChain (rD2 K false (cmpD op)) (rD2 K false (cmpD op')) (tE K false cf a) (tE K false cf (.var i)) (tE K false cf c) σ H Q := by
  obtain ⟨z, en, d, st', ok, er, ev, q⟩ := h
  have h0 : evE cf (.and (.cmp op a (.var i)) (.cmp op' (.var i) c)) en z.st = (evE cf (.cmp op a (.var i)) en z.st).bind fun x s1 => (match truth s1 x with
    | some true => evE cf (.cmp op' (.var i) c) en s1
    | some false => .ok x s1
    | none => .bad) := by first | (simp only [evE]; done) | (simp only [evE]; rfl)
  have hc : ∀ (op : COp) (a b : C) en st, evE cf (.cmp op a b) en st = (evE cf a en st).bind fun x s1 => (evE cf b en s1).bind fun y s2 => cmpD op x y s2 := fun op a b en st => by simp only [evE]
  have hv : ∀ en st, evE cf (.var i) en st = (match en[i]? with
    | some (some d) => .ok d st
    | _ => .bad) := fun en st => by first | (simp only [evE]; done) | (simp only [evE]; rfl)
  rw [h0] at ev
  obtain ⟨x, s0, f0, ev⟩ := bind_ok ev
  rw [hc] at f0
  obtain ⟨xa, s1, e1, f1⟩ := bind_ok f0
  obtain ⟨y, s2, e2, e0⟩ := bind_ok f1
  clear f0 f1
  obtain ⟨k, rfl⟩ := cmp_bl e0
  have hy := e2
  rw [hv] at hy
  obtain ⟨hy, hs2⟩ : en[i]? = some (some y) ∧ s2 = s1 := by
    split at hy
    · rename_i d hd
      cases hy
      exact ⟨hd, rfl⟩
    · cases hy
  subst hs2
  have hs0 : s0 = s2 := by
    obtain ⟨_, e⟩ := opt_ok e0
    exact e
  subst hs0
  refine ⟨z, en, xa, s0, ok, er, e1, fun H1 z1 v1 hs1 ok1 t1 dv1 _ => ?_⟩
  subst hs1
  refine ⟨z1, en, y, z1.st, ok1, ok.env t1 er, e2, fun H2 z2 v2 hs2 ok2 t2 dv2 _ => ?_⟩
  have e0' : cmpD op xa y z2.st = .ok (.bl k) z2.st := by rw [hs2]; exact e0
  refine ⟨z2, xa, y, .bl k, z2.st, ok2, ok1.dv t2 dv1, dv2, e0', fun H3 z3 v3 hs3 ok3 t3 dv3 _ => ?_⟩
  cases dv3
  refine ⟨k, rfl, ?_⟩
  have t13 := t2.trans t3
  have hs31 : z3.st = z1.st := hs3.trans hs2
  cases k with
  | false =>
    rw [if_neg (by decide)]
    have hd : R.ok (D.bl false) z1.st = .ok d st' := ev
    cases hd
    exact q H3 z3 _ hs31 ok3 (t1.trans t13) (.bl false) .no
  | true =>
    rw [if_pos rfl]
    have ev : evE cf (.cmp op' (.var i) c) en z1.st = .ok d st' := ev
    rw [hc] at ev
    obtain ⟨y', s3, e3, ev⟩ := bind_ok ev
    obtain ⟨w, s4, e4, ev⟩ := bind_ok ev
    rw [e2] at e3
    cases e3
    have e4' : evE cf c en z3.st = .ok w s4 := by rw [hs31]; exact e4
    refine ⟨z3, en, w, s4, ok3, ok1.env t13 (ok.env t1 er), e4', fun H4 z4 v4 hs4 ok4 t4 dv4 _ => ?_⟩
    subst hs4
    exact ⟨z4, y, w, d, st', ok4, (ok2.dv (t3.trans t4) dv2), dv4, ev, q.trans (t1.trans (t13.trans t4))⟩
theorem chain_bl {op op' : COp} {a c : C} {i : Nat} {en : En} {st st' : Store} {d : D} (h : evE cf (.and (.cmp op a (.var i)) (.cmp op' (.var i) c)) en st = .ok d st') : ∃ k, d = .bl k := by
  have hc : ∀ (op : COp) (a b : C) en st, evE cf (.cmp op a b) en st = (evE cf a en st).bind fun x s1 => (evE cf b en s1).bind fun y s2 => cmpD op x y s2 := fun op a b en st => by simp only [evE]
  have hb : ∀ {op : COp} {a b : C} {st st' : Store} {d : D}, evE cf (.cmp op a b) en st = .ok d st' → ∃ k, d = .bl k := fun {op a b st st' d} e => by
    rw [hc] at e
    obtain ⟨_, _, _, e⟩ := bind_ok e
    obtain ⟨_, _, _, e⟩ := bind_ok e
    exact cmp_bl e
  have h0 : evE cf (.and (.cmp op a (.var i)) (.cmp op' (.var i) c)) en st = (evE cf (.cmp op a (.var i)) en st).bind fun x s1 => (match truth s1 x with
    | some true => evE cf (.cmp op' (.var i) c) en s1
    | some false => .ok x s1
    | none => .bad) := by first | (simp only [evE]; done) | (simp only [evE]; rfl)
  rw [h0] at h
  obtain ⟨x, s1, e1, h⟩ := bind_ok h
  split at h
  · exact hb h
  · cases h; exact hb e1
  · cases h
theorem snd_and {a b : C} (ha : SndC cf a) (hb : SndC cf b) (ka : Sub1 cf a) (kb : Sub1 cf b) : SndC cf (.and a b) := fun Γ X e XO h => by
  simp only [chkE] at h
  split at h
  · rename_i x y rest pos
    simp only [Bool.and_eq_true] at h
    obtain ⟨h1, h2⟩ := h
    have key : PE X (.BoolOp .And (y :: rest) pos) (tE X.K false cf b) ∧ PW X (.BoolOp .And (y :: rest) pos) (tT X.K cf b) := by
      cases rest with
      | nil =>
        have s := hb Γ X _ XO h2
        exact ⟨pe_one s.pe0, pw_and1 s.pt⟩
      | cons w r =>
        have s := hb Γ X _ XO h2
        exact ⟨s.pe0, s.pw rfl⟩
    have s := ha Γ X _ XO h1
    have w := (pw_and s.pt key.2).imp fun σ H Q q => and_tv q
    exact ⟨(pe_andT s.pe0 key.1).imp fun σ H Q q => and_ev q, w.pt, fun _ => w⟩
  · rename_i l o1 o2 m r pos
    simp only [Bool.and_eq_true] at h
    obtain ⟨⟨h0, h1⟩, h2⟩ := h
    unfold midB at h0
    split at h0
    · rename_i op a1 i op' j c2
      have h0 := of_decide_eq_true h0
      subst h0
      simp only [chkE] at h1 h2
      simp only [Bool.and_eq_true] at h1 h2
      obtain ⟨⟨p1, p2⟩, p3⟩ := h1
      obtain ⟨⟨q1, q2⟩, q3⟩ := h2
      have p1 := of_decide_eq_true p1
      have q1 := of_decide_eq_true q1
      subst p1
      subst q1
      have sa := (ka.1 Γ X _ XO p2).pe0
      have sm := (ka.2 Γ X m XO (by simp only [chkE]; exact p3)).pe0
      have sc := (kb.2 Γ X _ XO q3).pe0
      have hm : lastMarks [copOf op, copOf op'] [m, r] = false := plain_mark (chk_plain _ _ q3) _
      refine ⟨(pe_chain (op_cmp XO.un op) (op_cmp XO.un op') sa sm sc hm).imp fun σ H Q q => chain_imp q, ?_, fun h => by cases h⟩
      refine (pt_chain (op_cmp XO.un op) (op_cmp XO.un op') sa sm sc hm).imp fun σ H Q ⟨z, en, d, st', k, ok, er, ev, tb, q⟩ => ?_
      obtain ⟨k', rfl⟩ := chain_bl ev
      exact chain_imp ⟨z, en, _, st', ok, er, ev, fun H' z' v hs ok' t' dv' _ => by
        cases dv'
        cases tb
        exact ⟨_, rfl, q H' z' hs ok' t'⟩⟩
    · cases h0
  · cases h
theorem snd_or {a b : C} (ha : SndC cf a) (hb : SndC cf b) : SndC cf (.or a b) := fun Γ X e XO h => by
  simp only [chkE] at h
  split at h
  · rename_i x y rest pos
    simp only [Bool.and_eq_true] at h
    obtain ⟨h1, h2⟩ := h
    have key : PE X (.BoolOp .Or (y :: rest) pos) (tE X.K false cf b) ∧ PW X (.BoolOp .Or (y :: rest) pos) (tT X.K cf b) := by
      cases rest with
      | nil =>
        have s := hb Γ X _ XO h2
        exact ⟨pe_one s.pe0, pw_or1 s.pt⟩
      | cons w r =>
        have s := hb Γ X _ XO h2
        exact ⟨s.pe0, s.pw rfl⟩
    have s := ha Γ X _ XO h1
    have w := (pw_or s.pt key.2).imp fun σ H Q q => or_tv q
    exact ⟨(pe_orT s.pe0 key.1).imp fun σ H Q q => or_ev q, w.pt, fun _ => w⟩
  · cases h
theorem snd_ife {c a b : C} (hc : SndC cf c) (ha : SndC cf a) (hb : SndC cf b) : SndC cf (.ife c a b) := fun Γ X e XO h => by
  simp only [chkE] at h
  split at h
  · simp only [Bool.and_eq_true] at h
    obtain ⟨⟨h0, h1⟩, h2⟩ := h
    have s0 := hc Γ X _ XO h0
    have s1 := ha Γ X _ XO h1
    have s2 := hb Γ X _ XO h2
    refine ⟨(pe_ifExp s0.pt s1.pe0 s2.pe0).imp fun σ H Q ⟨z, en, d, st', ok, er, ev, q⟩ => ?_, ⟨fun pins s σ H Q I ⟨z, en, d, st', k, ok, er, ev, tb, q⟩ => ?_⟩, fun h => by cases h⟩
    · simp only [evE] at ev
      obtain ⟨x, st1, e1, ev⟩ := bind_ok ev
      split at ev
      · rename_i ht
        refine ⟨z, en, x, st1, true, ok, er, e1, ht, fun H1 z1 hs1 ok1 t1 => ?_⟩
        subst hs1
        rw [if_pos rfl]
        exact ⟨z1, en, d, st', ok1, ok.env t1 er, ev, q.trans t1⟩
      · rename_i ht
        refine ⟨z, en, x, st1, false, ok, er, e1, ht, fun H1 z1 hs1 ok1 t1 => ?_⟩
        subst hs1
        rw [if_neg (by decide)]
        exact ⟨z1, en, d, st', ok1, ok.env t1 er, ev, q.trans t1⟩
      · cases ev
    · simp only [evE] at ev
      obtain ⟨x, st1, e1, ev⟩ := bind_ok ev
      refine isTrue_IfExp ?_
      split at ev
      · rename_i ht
        refine thn (s0.pt.run pins s σ H (fun c H1 => c = true ∧ tT X.K cf a σ H1 Q) I ⟨z, en, x, st1, true, ok, er, e1, ht, fun H1 z1 hs1 ok1 t1 => ⟨rfl, ?_⟩⟩) fun c s' ⟨H1, I1, hc, q1⟩ => ?_
        · subst hs1
          exact ⟨z1, en, d, st', k, ok1, ok.env t1 er, ev, tb, fun H2 z2 hs2 ok2 t2 => q H2 z2 hs2 ok2 (t1.trans t2)⟩
        · subst hc
          rw [if_pos rfl]
          exact s1.pt.run pins s' σ H1 Q I1 q1
      · rename_i ht
        refine thn (s0.pt.run pins s σ H (fun c H1 => c = false ∧ tT X.K cf b σ H1 Q) I ⟨z, en, x, st1, false, ok, er, e1, ht, fun H1 z1 hs1 ok1 t1 => ⟨rfl, ?_⟩⟩) fun c s' ⟨H1, I1, hc, q1⟩ => ?_
        · subst hs1
          exact ⟨z1, en, d, st', k, ok1, ok.env t1 er, ev, tb, fun H2 z2 hs2 ok2 t2 => q H2 z2 hs2 ok2 (t1.trans t2)⟩
        · subst hc
          rw [if_neg (by decide)]
          exact s2.pt.run pins s' σ H1 Q I1 q1
      · cases ev
  · cases h
end
end PyE

namespace PyE
open PySem PySem.Spec PyProof.Rows L2
def AllC (P : C → Prop) : Cs → Prop
  | .nil => True
  | .cons c r => P c ∧ AllC P r
section
variable {X : Cx} {cf : CallF} {Γ : Ct}
theorem chkEs_plain : ∀ {es : Cs} {xs : List Expr}, chkEs Γ es xs = true → xs.all plainE = true
  | .nil, [], _ => rfl
  | .cons c r, e :: es, h => by
    simp only [chkEs, Bool.and_eq_true] at h
    simp only [List.all_cons, Bool.and_eq_true]
    exact ⟨chk_plain c e h.1, chkEs_plain h.2⟩
  | .nil, _ :: _, h => by simp [chkEs] at h
  | .cons _ _, [], h => by simp [chkEs] at h
theorem stars_map {env : Env} : ∀ {xs : List Expr}, xs.all plainE = true → starEach xs env = xs.map fun e => (false, eval e env)
  | [], _ => rfl
  | e :: es, h => by
    simp only [List.all_cons, Bool.and_eq_true] at h
    rw [plain_star h.1, stars_map h.2]; rfl
theorem stars_any {env : Env} {pos : Pos} {xs : List Expr} (h : xs.all plainE = true) : (backTo pos (starEach xs env)).any (·.1) = false := by
  rw [stars_map h]
  unfold backTo
  simp [List.any_map, Function.comp_def]
theorem stars_all {env : Env} {pos : Pos} {xs : List Expr} (h : xs.all plainE = true) : (backTo pos (starEach xs env)).all (fun x => !x.1) = true := by
  rw [stars_map h]
  unfold backTo
  simp [List.all_map, Function.comp_def]
theorem ofEs {K : PySem.W.Frag} {c : C} {r : Cs} {σ : L2.St} {H : Hp} {Q : List V → Hp → Prop} (h : tEs K cf (.cons c r) σ H Q) : tCons (tE K false cf c) (tEs K cf r) σ H Q := by
  obtain ⟨z, en, xs, st', ok, er, ev, q⟩ := h
  simp only [evEs] at ev
  obtain ⟨x, s1, e1, ev⟩ := bind_ok ev
  obtain ⟨ys, s2, e2, ev⟩ := bind_ok ev
  cases ev
  refine ⟨z, en, x, s1, ok, er, e1, fun H1 z1 v1 hs1 ok1 t1 dv1 _ => ?_⟩
  subst hs1
  exact ⟨z1, en, ys, st', ok1, ok.env t1 er, e2, fun H2 z2 vs hs2 ok2 t2 dv2 => q H2 z2 _ hs2 ok2 (t1.trans t2) (.cons (ok1.dv t2 dv1) dv2)⟩
theorem pa_of (XO : XOk Γ cf X) : ∀ {es : Cs} {xs : List Expr}, AllC (SndC cf) es → chkEs Γ es xs = true → PA X xs (tEs X.K cf es)
  | .nil, [], _, _ => pa_nil.imp fun σ H Q ⟨z, en, xs, st', ok, er, ev, q⟩ => by
    simp only [evEs] at ev
    cases ev
    exact q H z [] rfl ok .refl .nil
  | .cons c r, e :: es, hs, h => by
    simp only [chkEs, Bool.and_eq_true] at h
    exact (pa_cons (hs.1 Γ X e XO h.1).pe0 (pa_of XO hs.2 h.2) (plain_star (chk_plain _ _ h.1) _ _)).imp fun σ H Q q => ofEs q
  | .nil, _ :: _, _, h => by simp [chkEs] at h
  | .cons _ _, [], _, h => by simp [chkEs] at h
theorem len_Es : ∀ {es : Cs} {en : En} {st st' : Store} {xs : List D} {ys : List Expr}, chkEs Γ es ys = true → evEs cf es en st = .ok xs st' → xs.length = ys.length
  | .nil, en, st, st', xs, [], _, e => by simp only [evEs] at e; cases e; rfl
  | .cons c r, en, st, st', xs, y :: ys, h, e => by
    simp only [chkEs, Bool.and_eq_true] at h
    simp only [evEs] at e
    obtain ⟨x, s1, e1, e⟩ := bind_ok e
    obtain ⟨zs, s2, e2, e⟩ := bind_ok e
    cases e
    rw [List.length_cons, List.length_cons, len_Es h.2 e2]
  | .nil, _, _, _, _, _ :: _, h, _ => by simp [chkEs] at h
  | .cons _ _, _, _, _, _, [], h, _ => by simp [chkEs] at h
theorem snd_tup {es : Cs} (hs : AllC (SndC cf) es) : SndC cf (.tup es) := fun Γ X e XO h => by
  simp only [chkE] at h
  split at h
  · refine .plain rfl ((pe_tup (pa_of XO hs h)).imp fun σ H Q ⟨z, en, d, st', ok, er, ev, q⟩ => ?_)
    simp only [evE] at ev
    obtain ⟨xs, s1, e1, ev⟩ := bind_ok ev
    obtain ⟨hg, ev⟩ := guard_ok ev
    cases ev
    refine ⟨z, en, xs, st', ok, er, e1, fun H1 z1 vs hs1 ok1 t1 dv1 => ⟨by rw [← dv1.length, ← line_eq]; exact of_decide_eq_true hg, ?_⟩⟩
    subst hs1
    exact (q.trans t1).tup ok1 dv1
  · cases h
theorem snd_list {es : Cs} (hs : AllC (SndC cf) es) : SndC cf (.list es) := fun Γ X e XO h => by
  simp only [chkE] at h
  split at h
  · refine .plain rfl ((pe_lst (pa_of XO hs h)).imp fun σ H Q ⟨z, en, d, st', ok, er, ev, q⟩ => ?_)
    simp only [evE] at ev
    obtain ⟨xs, s1, e1, ev⟩ := bind_ok ev
    obtain ⟨hg, ev⟩ := guard_ok ev
    cases ev
    refine ⟨z, en, xs, st', ok, er, e1, fun H1 z1 vs hs1 ok1 t1 dv1 => ⟨by rw [← dv1.length, ← line_eq]; exact of_decide_eq_true hg, ?_⟩⟩
    subst hs1
    exact (q.trans t1).lst ok1 dv1
  · cases h
theorem Ok.at {K : PySem.W.Frag} {H : Hp} {z : Z} {p : Addr} {o : HO} (ok : Ok K H z) (hp : z.he p = Option.none) : Ok K (upd H p o) z :=
  ⟨fun a u e => by
    have hne : a ≠ p := fun w => by rw [w, hp] at e; cases e
    rw [upd_ne hne]; exact ok.sub a u e, ok.sim⟩
theorem To.at {H H' : Hp} {z z' : Z} {p : Addr} {o : HO} (t : To H z H' z') (hp : H p = Option.none) : To H z (upd H' p o) z' :=
  ⟨t.ext, fun a u e q => by
    have hne : a ≠ p := ne_of_none e hp
    rw [upd_ne hne]; exact t.hid a u e q, fun a e => by
    by_cases w : a = p
    · subst w; exact hp
    · rw [upd_ne w] at e; exact t.there a e⟩
/-- it comes to be seen -/
theorem Ok.show {K : PySem.W.Frag} {H : Hp} {z : Z} {p : Addr} {o : HO} (ok : Ok K H z) (hp : z.he p = Option.none) (e : H p = some o) : Ok K H (z.put p o) :=
  ⟨fun a u q => by
    have q : upd z.he p o a = some u := q
    by_cases w : a = p
    · subst w; rw [upd_same] at q; cases q; exact e
    · rw [upd_ne w] at q; exact ok.sub a u q, ok.sim.new hp⟩
theorem To.show {H H' : Hp} {z z' : Z} {p : Addr} {o : HO} (t : To H z H' z') (hp : H p = Option.none) (hz : z'.he p = Option.none) : To H z H' (z'.put p o) :=
  ⟨t.ext.trans (Ext.new hz), fun a u e q => by
    have hne : a ≠ p := ne_of_none e hp
    obtain ⟨h1, h2⟩ := t.hid a u e q
    exact ⟨h1, by show upd z'.he p o a = _; rw [upd_ne hne]; exact h2⟩, t.there⟩
theorem End.lstAt {K : PySem.W.Frag} {fr : Bool} {H H' : Hp} {z z' : Z} {xs : List D} {vs : List V} {p : Addr} {st' : Store} {Q : VK} (q : End K fr H z (.lst xs) st' Q) (hs : z'.st = st') (ok : Ok K H' z') (t : To H z H' z') (hp : H p = Option.none) (hz : z'.he p = Option.none) (e : H' p = some (.lst vs)) (dv : DVsz K z' xs vs) : Q (.ref p) H' :=
  q _ (z'.put p (.lst vs)) _ hs (ok.show hz e) (t.show hp hz) (.lst (.inl upd_same) (ok.sim.ne_none hz) (dv.mono (Ext.new hz) ok.sim)) fun _ _ => ⟨z'.he, p, rfl, hz, t.ext, ok.sim, vs, rfl, dv⟩
theorem End.dctAt {K : PySem.W.Frag} {fr : Bool} {H H' : Hp} {z z' : Z} {es : List D} {kvs : List (Key × V)} {p : Addr} {st' : Store} {Q : VK} (q : End K fr H z (.dct es) st' Q) (hs : z'.st = st') (ok : Ok K H' z') (t : To H z H' z') (hp : H p = Option.none) (hz : z'.he p = Option.none) (e : H' p = some (.dK kvs)) (dv : DKsz K z' es kvs) : Q (.ref p) H' :=
  q _ (z'.put p (.dK kvs)) _ hs (ok.show hz e) (t.show hp hz) (.dct upd_same (ok.sim.ne_none hz) (dv.mono (Ext.new hz) ok.sim)) fun _ _ => ⟨z'.he, p, rfl, hz, t.ext, ok.sim, kvs, rfl, dv⟩
theorem isKey_lit {d : D} (h : isKey d = true) : ∃ k : Key, d = kD k := by
  cases d <;> first | (cases h; done) | skip
  · exact ⟨.inl _, rfl⟩
  · exact ⟨.inr _, rfl⟩
theorem litV_key (k : Key) : litV (kD k) = some (kV k) := by cases k <;> rfl
theorem chkKs_cons {d : D} {ds : List D} {keys : List (Option Expr)} (h : chkKs (d :: ds) keys = true) : ∃ k j p keys', keys = some (.Constant k j p) :: keys' ∧ constIs k d = true ∧ isKey d = true ∧ chkKs ds keys' = true := by
  cases keys with
  | nil => simp [chkKs] at h
  | cons o r =>
    cases o with
    | none => simp [chkKs] at h
    | some e =>
      cases e <;> first | (simp [chkKs] at h; done) | skip
      simp only [chkKs, Bool.and_eq_true] at h
      exact ⟨_, _, _, _, rfl, h.1.1, h.1.2, h.2⟩
theorem chkEs_cons {v : Expr} {vals : List Expr} {cs : Cs} (h : chkEs Γ cs (v :: vals) = true) : ∃ c r, cs = .cons c r ∧ chkE Γ c v = true ∧ chkEs Γ r vals = true := by
  cases cs with
  | nil => simp [chkEs] at h
  | cons c r =>
    simp only [chkEs, Bool.and_eq_true] at h
    exact ⟨c, r, rfl, h.1, h.2⟩
theorem pps_of (XO : XOk Γ cf X) {pos : Pos} : ∀ (ks : List D) (cs : Cs) (keys : List (Option Expr)) (vals : List Expr), AllC (SndC cf) cs → chkKs ks keys = true → chkEs Γ cs vals = true → keys.length = vals.length →
    ∃ (trs : List (TE × TE)) (kks : List Key), ks = kks.map kD ∧ kks.length = keys.length ∧ PPs X pos keys vals trs ∧ ∀ (σ : L2.St) (H : Hp) (Q : List (V × V) → Hp → Prop) (z : Z) (en : En) (xs : List D) (st' : Store), Ok X.K H z → EnvR X.K z en σ → evEs cf cs en z.st = .ok xs st' →
      (∀ H' z' vs, z'.st = st' → Ok X.K H' z' → To H z H' z' → DVsz X.K z' xs vs → Q ((kks.map kV).zip vs) H') → tPairs trs σ H Q := by
  intro ks
  induction ks with
  | nil =>
    intro cs keys vals hs h1 h2 hl
    cases keys with
    | cons _ _ => simp [chkKs] at h1
    | nil =>
      cases vals with
      | cons _ _ => simp at hl
      | nil =>
        cases cs with
        | cons _ _ => simp [chkEs] at h2
        | nil =>
          refine ⟨[], [], rfl, rfl, pps_nil, fun σ H Q z en xs st' ok er ev q => ?_⟩
          simp only [evEs] at ev
          cases ev
          exact q H z [] rfl ok .refl .nil
  | cons d ds ih =>
    intro cs keys vals hs h1 h2 hl
    obtain ⟨k, j, p, keys', rfl, h3, h4, h5⟩ := chkKs_cons h1
    cases vals with
    | nil => simp at hl
    | cons v vals =>
      obtain ⟨c, r, rfl, h6, h7⟩ := chkEs_cons h2
      obtain ⟨trs, kks, e1, e2, pp, ih⟩ := ih r keys' vals hs.2 h5 h7 (by simpa using hl)
      obtain ⟨kk, rfl⟩ := isKey_lit h4
      have s := (hs.1 Γ X v XO h6).pe0
      refine ⟨(tC (kV kk), tE X.K false cf c) :: trs, kk :: kks, by rw [e1]; rfl, by simp [e2], pps_cons (pe_const h3 (litV_key kk)) s pp, fun σ H Q z en xs st' ok er ev q => ?_⟩
      simp only [evEs] at ev
      obtain ⟨x, s1, e3, ev⟩ := bind_ok ev
      obtain ⟨ys, s2, e4, ev⟩ := bind_ok ev
      cases ev
      refine ⟨z, en, x, s1, ok, er, e3, fun H1 z1 v1 hs1 ok1 t1 dv1 _ => ?_⟩
      subst hs1
      exact ih σ H1 _ z1 en ys st' ok1 (ok.env t1 er) e4 fun H2 z2 vs hs2 ok2 t2 dv2 => q H2 z2 (v1 :: vs) hs2 ok2 (t1.trans t2) (.cons (ok1.dv t2 dv1) dv2)
theorem dictD_ok {K : PySem.W.Frag} {H : Hp} {μ : Nat → Addr} {n : Nat} : ∀ {kks : List Key} {xs : List D} {vs : List V} {acc es : List D} {kacc : List (Key × V)}, dictD (kks.map kD) xs acc = some es → DVs H K μ n xs vs → DKs H K μ n acc kacc →
    kks.length = vs.length ∧ DKs H K μ n es (mergeK kacc (kks.zip vs))
  | [], [], _, acc, es, kacc, h, .nil, a => by
    simp only [List.map_nil, dictD] at h
    cases h
    exact ⟨rfl, a⟩
  | k :: kks, x :: xs, _, acc, es, kacc, h, .cons dv dvs, a => by
    simp only [List.map_cons, dictD] at h
    split at h
    · obtain ⟨h1, h2⟩ := dictD_ok h dvs (dput_ok k dv a)
      exact ⟨by simp [h1], h2⟩
    · cases h
  | [], _ :: _, _, _, _, _, h, _, _ => by simp [dictD] at h
  | _ :: _, [], _, _, _, _, h, _, _ => by simp [dictD] at h
theorem zip_keys : ∀ (kks : List Key) (vs : List V), (kks.map kV).zip vs = (kks.zip vs).map fun kv => (kV kv.1, kv.2)
  | [], _ => rfl
  | _ :: _, [] => rfl
  | k :: kks, v :: vs => by simp [zip_keys kks vs]
theorem snd_dict {ks : List D} {vs : Cs} (hs : AllC (SndC cf) vs) : SndC cf (.dict ks vs) := fun Γ X e XO h => by
  simp only [chkE] at h
  split at h
  · rename_i keys values pos
    simp only [Bool.and_eq_true] at h
    obtain ⟨⟨⟨h1, h2⟩, h3⟩, h4⟩ := h
    have h3 := of_decide_eq_true h3
    have h4 := of_decide_eq_true h4
    obtain ⟨trs, kks, e1, e2, pp, run⟩ := pps_of (pos := pos) XO ks vs keys values hs h1 h2 h3
    have fin : ∀ {σ : L2.St} {H : Hp} {Q : VK}, tE X.K true cf (.dict ks vs) σ H Q → ∀ p, H p = none → tPairs trs σ (upd H p (.dK [])) fun ps H2 => H2 p = some (.dK []) ∧ ∃ kvs : List (Key × V), ps = kvs.map (fun kv => (kV kv.1, kv.2)) ∧ kvs.length ≤ 15 ∧ Q (.ref p) (upd H2 p (.dK (mergeK [] kvs))) := by
      intro σ H Q ⟨z, en, d, st', ok, er, ev, q⟩ p hp
      simp only [evE] at ev
      obtain ⟨xs, s1, e3, ev⟩ := bind_ok ev
      obtain ⟨ev', hst⟩ := opt_ok ev
      subst hst
      rw [Option.map_eq_some_iff] at ev'
      obtain ⟨es, e4, rfl⟩ := ev'
      have hz := ok.none hp
      refine run σ _ _ z en xs st' (ok.at hz) er e3 fun H' z' ws hs' ok' t' dv' => ?_
      obtain ⟨g1, g2⟩ := t'.hid p _ upd_same hz
      rw [e1] at e4
      obtain ⟨l1, dk⟩ := dictD_ok (kacc := []) e4 dv' .nil
      have l2 : (kks.zip ws).length ≤ 15 := by rw [List.length_zip]; omega
      have t0 : To H z H' z' := ⟨t'.ext, fun a u e q => t'.hid a u (by rw [upd_ne (ne_of_none e hp)]; exact e) q, fun a e => by
        have := t'.there a e
        by_cases w : a = p
        · subst w; exact hp
        · rwa [upd_ne w] at this⟩
      refine ⟨g1, kks.zip ws, zip_keys _ _, l2, ?_⟩
      exact q.dctAt hs' (ok'.at g2) (t0.at hp) hp g2 upd_same dk
    by_cases h0 : keys = []
    · subst h0
      cases values with
      | cons _ _ => simp at h3
      | nil =>
        refine .plain rfl (pe_dnewK.imp fun σ H Q q p hp => ?_)
        have kk0 : kks = [] := by simpa using e2
        subst kk0
        cases vs with
        | cons _ _ => simp [chkEs] at h2
        | nil =>
          obtain ⟨z, en, d, st', ok, er, ev, q⟩ := q
          simp only [evE, evEs] at ev
          have ev : opt ((dictD ks [] []).map .dct) z.st = .ok d st' := ev
          obtain ⟨ev', hst⟩ := opt_ok ev
          subst hst
          rw [e1] at ev'
          cases ev'
          exact q.dct ok .nil p hp
    · have hall : keys.all (·.isSome) = true := by
        have : ∀ (ks : List D) (keys : List (Option Expr)), chkKs ks keys = true → keys.all (·.isSome) = true := by
          intro ks
          induction ks with
          | nil => intro keys h; cases keys with
            | nil => rfl
            | cons _ _ => simp [chkKs] at h
          | cons d ds ih =>
            intro keys h
            obtain ⟨_, _, _, _, rfl, _, _, h5⟩ := chkKs_cons h
            simp only [List.all_cons, Bool.and_eq_true]
            exact ⟨rfl, ih _ h5⟩
        exact this ks keys h1
      exact .plain rfl ((pe_disp pp hall h3 h0 h4).imp fun σ H Q q => fin q)
  · cases h
end
end PyE

namespace PyE
open PySem PySem.Spec PyProof.Rows L2
section
variable {X : Cx} {cf : CallF} {Γ : Ct}
theorem thaw_ok {K : PySem.W.Frag} {H H' : Hp} {z z' : Z} {x : D} {v : V} (hb : isBox x = true) (ok' : Ok K H' z') (t : To H z H' z') (f : FreshOk K z z' x v) :
    ∃ z2 : Z, z2.st = z'.st ++ [x] ∧ Ok K H' z2 ∧ To H z H' z2 ∧ DVz K z2 (.ref z'.n) v := by
  obtain ⟨h0, a, rfl, hn, ex, sm, r⟩ := f
  have go : ∀ o, z'.he = upd h0 a o → CellOk z'.he K (muAt z'.mu z'.n a) (z'.n + 1) x a → ∃ z2 : Z, z2.st = z'.st ++ [x] ∧ Ok K H' z2 ∧ To H z H' z2 ∧ DVz K z2 (.ref z'.n) (.ref a) := fun o eo ck => by
    have hl : (z'.st ++ [x]).length = z'.n + 1 := by rw [List.length_append, List.length_singleton]
    refine ⟨⟨z'.he, muAt z'.mu z'.n a, z'.st ++ [x]⟩, rfl, ⟨ok'.sub, ?_⟩, ⟨?_, t.hid, t.there⟩, ?_⟩
    · show Sim z'.he K (muAt z'.mu z'.st.length a) (z'.st ++ [x])
      rw [eo]
      refine sm.thaw hn ?_
      rw [← eo]; exact ck
    · show Ext z.he z.mu z.n z'.he (muAt z'.mu z'.n a) (z'.st ++ [x]).length
      rw [hl, eo]
      exact ex.trans (Ext.thaw hn)
    · have : DV z'.he K (muAt z'.mu z'.n a) (z'.st ++ [x]).length (.ref z'.n) (.ref (muAt z'.mu z'.n a z'.n)) := .ref (by rw [hl]; exact Nat.lt_succ_self _)
      rw [muAt_new] at this
      exact this
  cases x with
  | lst xs =>
    obtain ⟨vs, e, dv⟩ := r
    refine go _ e ⟨vs, by rw [e, upd_same], ?_⟩
    rw [e]
    exact dv.mono (Ext.thaw hn) sm
  | dct es =>
    obtain ⟨kvs, e, dv⟩ := r
    refine go _ e ⟨kvs, by rw [e, upd_same], ?_⟩
    rw [e]
    exact dv.mono (Ext.thaw hn) sm
  | _ => cases hb
theorem mut_imp {K : PySem.W.Frag} {c : C} {σ : L2.St} {H : Hp} {Q : VK} (h : tE K false cf (.mut c) σ H Q) : tE K true cf c σ H Q := by
  obtain ⟨z, en, d, st', ok, er, ev, q⟩ := h
  simp only [evE] at ev
  obtain ⟨x, s1, e1, ev⟩ := bind_ok ev
  refine ⟨z, en, x, s1, ok, er, e1, fun H' z' v hs ok' t dv f => ?_⟩
  subst hs
  split at ev
  · cases ev
    obtain ⟨z2, h1, h2, h3, h4⟩ := thaw_ok rfl ok' t (f rfl rfl)
    exact q H' z2 v h1 h2 h3 h4 .no
  · cases ev
    obtain ⟨z2, h1, h2, h3, h4⟩ := thaw_ok rfl ok' t (f rfl rfl)
    exact q H' z2 v h1 h2 h3 h4 .no
  · cases ev
theorem fre_plainT {c : C} {e : Expr} (h0 : freC c = true) (h : chkE Γ c e = true) : plainT e = true := by
  cases c <;> first | (simp only [freC] at h0; cases h0; done) | skip
  all_goals (simp only [chkE] at h; split at h <;> first | rfl | (cases h; done))
theorem snd_mut {c : C} (hc : SndC cf c) : SndC cf (.mut c) := fun Γ X e XO h => by
  simp only [chkE, Bool.and_eq_true] at h
  have s := (hc Γ X e XO h.2).pe
  rw [h.1] at s
  exact .plain (fre_plainT h.1 h.2) (s.imp fun σ H Q q => mut_imp q)
def OptC (cf : CallF) : Co → Prop
  | .none => True
  | .some c => SndC cf c
theorem po_of (XO : XOk Γ cf X) {c : Co} {o : Option Expr} (hc : OptC cf c) (h : chkO Γ c o = true) : PO X o (tO X.K cf c) := by
  cases c with
  | none =>
    cases o with
    | some _ => simp [chkO] at h
    | none =>
      refine po_none.imp fun σ H Q ⟨z, en, d, st', ok, er, ev, q⟩ => ?_
      simp only [evO] at ev
      cases ev
      exact q H z rfl ok .refl
  | some c =>
    cases o with
    | none => simp [chkO] at h
    | some e =>
      simp only [chkO] at h
      refine (po_some (hc Γ X e XO h).pe0).imp fun σ H Q ⟨z, en, d, st', ok, er, ev, q⟩ => ?_
      simp only [evO] at ev
      obtain ⟨x, s1, e1, ev⟩ := bind_ok ev
      split at ev
      · cases ev
        refine ⟨z, en, _, st', ok, er, e1, fun H' z' v hs ok' t dv _ => ?_⟩
        cases dv
        exact ⟨_, rfl, q H' z' hs ok' t⟩
      · cases ev
theorem snd_sl {a : C} {lo hi : Co} (ha : SndC cf a) (hl : OptC cf lo) (hh : OptC cf hi) : SndC cf (.sl a lo hi) := fun Γ X e XO h => by
  simp only [chkE] at h
  split at h
  · simp only [Bool.and_eq_true] at h
    obtain ⟨⟨h1, h2⟩, h3⟩ := h
    refine .plain rfl ((pe_slice sl_ok (ha Γ X _ XO h1).pe0 (po_of XO hl h2) (po_of XO hh h3)).imp fun σ H Q ⟨z, en, d, st', ok, er, ev, q⟩ => ?_)
    simp only [evE] at ev
    obtain ⟨x, s1, e1, ev⟩ := bind_ok ev
    obtain ⟨l, s2, e2, ev⟩ := bind_ok ev
    obtain ⟨u, s3, e3, ev⟩ := bind_ok ev
    obtain ⟨ev2, hst⟩ := opt_ok ev
    subst hst
    refine ⟨z, en, x, s1, ok, er, e1, fun H1 z1 v1 hs1 ok1 t1 dv1 _ => ?_⟩
    subst hs1
    refine ⟨z1, en, l, s2, ok1, ok.env t1 er, e2, fun H2 z2 hs2 ok2 t2 => ?_⟩
    subst hs2
    refine ⟨z2, en, u, _, ok2, ok1.env t2 (ok.env t1 er), e3, fun H3 z3 hs3 ok3 t3 => ?_⟩
    subst hs3
    exact ⟨z3, x, d, ok3, ok2.dv t3 (ok1.dv t2 dv1), ev2, q.trans (t1.trans (t2.trans t3))⟩
  · cases h
theorem chkC_lit {c : C} {r : Cs} {ds : List D} (h : chkC Γ (.cons c r) [] [] ds = true) : ∃ d ds', c = .lit d ∧ ds = d :: ds' ∧ (litV d).isSome = true ∧ chkC Γ r [] [] ds' = true := by
  cases c with
  | lit d =>
    cases ds with
    | nil => simp [chkC] at h
    | cons d' ds =>
      simp only [chkC, Bool.and_eq_true] at h
      have := beq_eq h.1.1
      subst this
      exact ⟨d, ds, rfl, rfl, h.1.2, h.2⟩
  | _ => cases ds <;> simp [chkC] at h
theorem lits_ok : ∀ (es : Cs) {ds : List D}, chkC Γ es [] [] ds = true → ∀ {en : En} {st st' : Store} {xs : List D}, evEs cf es en st = .ok xs st' → st' = st ∧ ∃ dv, mapO litV ds = some dv ∧ ∀ (K : PySem.W.Frag) (z : Z), DVsz K z xs dv
  | .nil, ds, h, en, st, st', xs, e => by
    cases ds with
    | cons _ _ => simp [chkC] at h
    | nil =>
      simp only [evEs] at e
      cases e
      exact ⟨rfl, [], rfl, fun K z => .nil⟩
  | .cons c r, ds, h, en, st, st', xs, e => by
    obtain ⟨d, ds, rfl, rfl, h2, h3⟩ := chkC_lit h
    simp only [evEs, evE] at e
    obtain ⟨x, s1, e1, e⟩ := bind_ok e
    cases e1
    obtain ⟨ys, s2, e2, e⟩ := bind_ok e
    cases e
    obtain ⟨r1, dv, r2, r3⟩ := lits_ok r h3 e2
    obtain ⟨w, hw⟩ := Option.isSome_iff_exists.mp h2
    refine ⟨r1, w :: dv, ?_, fun K z => .cons (litV_dv hw) (r3 K z)⟩
    unfold mapO
    rw [hw, r2]; rfl
/-- the state behind the arguments -/
def AfterA (X : Cx) (pins : List (Addr × Obj)) (σ : L2.St) (H : Hp) (z : Z) (xs : List D) (st' : Store) (ds : List D) (n m : Nat) (us ws : List Value) (s2 : Shared) : Prop :=
  ∃ H' z' vs1 vs2 dv, z'.st = st' ∧ L2.Inv X pins σ H' s2 ∧ Ok X.K H' z' ∧ To H z H' z' ∧ Vals vs1 us ∧ Vals vs2 ws ∧ mapO litV ds = some dv ∧ DVsz X.K z' xs (vs1 ++ vs2 ++ dv) ∧ us.length = n ∧ ws.length = m
theorem run_kw (XO : XOk Γ cf X) {pos : Pos} {pins : List (Addr × Obj)} {σ : L2.St} {en : En} {ds : List D} : ∀ (es : Cs) {kws : List Keyword} {s : Shared} {H : Hp} {z : Z} {xs : List D} {st' : Store}, AllC (SndC cf) es → chkC Γ es [] kws ds = true → L2.Inv X pins σ H s → Ok X.K H z → EnvR X.K z en σ → evEs cf es en z.st = .ok xs st' →
    wpAny (model X.prog X.w) X.A (evalAll ((backToKw pos (keywordEach kws X.env)).map (·.2))) (fun ws s2 => AfterA X pins σ H z xs st' ds 0 kws.length [] ws s2) X.xe s
  | es, [], s, H, z, xs, st', hs, h, I, ok, er, ev => by
    obtain ⟨rfl, dv, h2, h3⟩ := lits_ok es h ev
    exact wpAny_evalAll_nil ⟨H, z, [], [], dv, rfl, I, ok, .refl, .nil, .nil, h2, h3 X.K z, rfl, rfl⟩
  | .nil, k :: kws, s, H, z, xs, st', hs, h, I, ok, er, ev => by simp [chkC] at h
  | .cons c r, ⟨nm, e, kp⟩ :: kws, s, H, z, xs, st', hs, h, I, ok, er, ev => by
    simp only [chkC, Bool.and_eq_true] at h
    simp only [evEs] at ev
    obtain ⟨x, s1, e1, ev⟩ := bind_ok ev
    obtain ⟨ys, s2, e2, ev⟩ := bind_ok ev
    cases ev
    show wpAny _ _ (evalAll ((do let v ← eval e X.env; standAt pos; pure v) :: (backToKw pos (keywordEach kws X.env)).map (·.2))) _ _ s
    refine wpAny_evalAll_cons (wpAny_bind (thn ((hs.1 Γ X e XO h.1).pe0.run pins s σ H (fun v H1 => ∃ z1 : Z, z1.st = s1 ∧ Ok X.K H1 z1 ∧ To H z H1 z1 ∧ DVz X.K z1 x v) I ⟨z, en, x, s1, ok, er, e1, fun H1 z1 v hs1 ok1 t1 dv1 _ => ⟨z1, hs1, ok1, t1, dv1⟩⟩) fun u s3 ⟨v, H1, I1, r1, z1, hs1, ok1, t1, dv1⟩ => wpAny_bind (wpAny_standAt (wpAny_pure ?_))))
    subst hs1
    exact thn (run_kw XO r hs.2 h.2 I1 ok1 (ok.env t1 er) e2) fun ws s4 ⟨H2, z2, vs1, vs2, dv, a1, a2, a3, a4, a5, a6, a7, a8, l1, l2⟩ => by
      cases a5
      exact ⟨H2, z2, [], v :: vs2, dv, a1, a2, a3, t1.trans a4, .nil, .cons r1 a6, a7, .cons (ok1.dv a4 dv1) a8, rfl, by rw [List.length_cons, List.length_cons, l2]⟩
theorem run_args (XO : XOk Γ cf X) {pos : Pos} {pins : List (Addr × Obj)} {σ : L2.St} {en : En} {ds : List D} {kws : List Keyword} : ∀ (es : Cs) {args : List Expr} {s : Shared} {H : Hp} {z : Z} {xs : List D} {st' : Store}, AllC (SndC cf) es → chkC Γ es args kws ds = true → L2.Inv X pins σ H s → Ok X.K H z → EnvR X.K z en σ → evEs cf es en z.st = .ok xs st' →
    wpAny (model X.prog X.w) X.A (spliced (backTo pos (starEach args X.env))) (fun us s1 => wpAny (model X.prog X.w) X.A (evalAll ((backToKw pos (keywordEach kws X.env)).map (·.2))) (fun ws s2 => AfterA X pins σ H z xs st' ds args.length kws.length us ws s2) X.xe s1) X.xe s
  | es, [], s, H, z, xs, st', hs, h, I, ok, er, ev => Calls.spliced_nil (thn (run_kw XO es hs h I ok er ev) fun ws s2 w => w)
  | .nil, e :: args, s, H, z, xs, st', hs, h, I, ok, er, ev => by simp [chkC] at h
  | .cons c r, e :: args, s, H, z, xs, st', hs, h, I, ok, er, ev => by
    simp only [chkC, Bool.and_eq_true] at h
    simp only [evEs] at ev
    obtain ⟨x, s1, e1, ev⟩ := bind_ok ev
    obtain ⟨ys, s2, e2, ev⟩ := bind_ok ev
    cases ev
    rw [plain_star (chk_plain _ _ h.1)]
    show wpAny _ _ (spliced ((false, eval e X.env) :: backTo pos (starEach args X.env))) _ _ s
    refine Calls.spliced_cons (thn ((hs.1 Γ X e XO h.1).pe0.run pins s σ H (fun v H1 => ∃ z1 : Z, z1.st = s1 ∧ Ok X.K H1 z1 ∧ To H z H1 z1 ∧ DVz X.K z1 x v) I ⟨z, en, x, s1, ok, er, e1, fun H1 z1 v hs1 ok1 t1 dv1 _ => ⟨z1, hs1, ok1, t1, dv1⟩⟩) fun u s3 ⟨v, H1, I1, r1, z1, hs1, ok1, t1, dv1⟩ => ?_)
    subst hs1
    exact thn (run_args XO r hs.2 h.2 I1 ok1 (ok.env t1 er) e2) fun us s4 w => thn w fun ws s5 ⟨H2, z2, vs1, vs2, dv, a1, a2, a3, a4, a5, a6, a7, a8, l1, l2⟩ => ⟨H2, z2, v :: vs1, vs2, dv, a1, a2, a3, t1.trans a4, .cons r1 a5, a6, a7, .cons (ok1.dv a4 dv1) a8, by rw [List.length_cons, List.length_cons, l1], l2⟩
theorem chkC_plain : ∀ (es : Cs) {args : List Expr} {kws : List Keyword} {ds : List D}, chkC Γ es args kws ds = true → args.all plainE = true
  | _, [], _, _, _ => rfl
  | .nil, _ :: _, _, _, h => by simp [chkC] at h
  | .cons c r, e :: args, _, _, h => by
    simp only [chkC, Bool.and_eq_true] at h
    simp only [List.all_cons, Bool.and_eq_true]
    exact ⟨chk_plain _ _ h.1, chkC_plain r h.2⟩
theorem kw_all {env : Env} {pos : Pos} : ∀ {kws : List Keyword} {ks : List Str}, ks.map some = kws.map (·.arg) → (backToKw pos (keywordEach kws env)).all (·.1.isSome) = true ∧ (backToKw pos (keywordEach kws env)).any (·.1.isNone) = false ∧ (backToKw pos (keywordEach kws env)).filterMap (·.1) = ks
  | [], [], _ => ⟨rfl, rfl, rfl⟩
  | ⟨nm, e, kp⟩ :: kws, k :: ks, h => by
    simp only [List.map_cons, List.cons.injEq] at h
    obtain ⟨h1, h2⟩ := h
    obtain ⟨i1, i2, i3⟩ := kw_all (env := env) (pos := pos) h2
    have h1 : some k = nm := h1
    subst h1
    have e1 : backToKw pos (keywordEach (⟨some k, e, kp⟩ :: kws) env) = (some k, do let v ← eval e env; standAt pos; pure v) :: backToKw pos (keywordEach kws env) := rfl
    rw [e1]
    exact ⟨by rw [List.all_cons, i1]; rfl, by rw [List.any_cons, i2]; rfl, by rw [List.filterMap_cons_some (show (fun (x : Option Str × Sem Value) => x.1) _ = some k from rfl), i3]⟩
  | [], _ :: _, h => by simp at h
  | _ :: _, [], h => by simp at h
/-- f(..): what the callee wants -/
theorem pe_own {f : Nat} {es : Cs} {x : Str} {p pos : Pos} {args : List Expr} {kws : List Keyword} {ft : FT} {pat : Nat × List Str × List D} (XO : XOk Γ cf X) (hs : AllC (SndC cf) es) (hg : gloB Γ.sc x = true) (hk : okN x = true) (hf : Γ.fns[f]? = some ft) (hx : ft.name = x) (hp : pat ∈ ft.pats)
    (h1 : pat.1 = args.length) (h2 : pat.2.1.map some = kws.map (·.arg)) (h3 : chkC Γ es args kws pat.2.2 = true) :
    PE X (.Call (.Name x p) args kws pos) (fun σ H Q => ∃ z en xs st', Ok X.K H z ∧ EnvR X.K z en σ ∧ evEs cf es en z.st = .ok xs st' ∧ ∀ H' z' vs, z'.st = st' → Ok X.K H' z' → To H z H' z' → DVsz X.K z' xs vs → spF X.K cf f vs H' Q E0) := by
  refine ⟨fun pins s σ H Q I ⟨z, en, xs, st', ok, er, ev, q⟩ => ?_⟩
  obtain ⟨k, a, fd, hm, kp, F, rm, binds⟩ := (XO.fns f ft hf).ex
  subst hx
  have hgl : Gl X ft.name := by
    show X.env.scope.names.lookup ft.name = _
    rw [XO.sc]; exact of_decide_eq_true hg
  simp only [okN, Bool.and_eq_true, Bool.not_eq_true'] at hk
  obtain ⟨ka, kn, kf⟩ := kw_all (env := X.env) (pos := pos) h2
  have pl := chkC_plain es h3
  have go : ∀ (us ws : List Value) (s2 : Shared), AfterA X pins σ H z xs st' pat.2.2 args.length kws.length us ws s2 →
      X.K.In s2.heap ∧ wpAny (model X.prog X.w) X.A (call (.ref a) us (((backToKw pos (keywordEach kws X.env)).filterMap (·.1)).zip ws)) (EP X pins σ Q) X.xe s2 := fun us ws s2 ⟨H2, z2, vs1, vs2, dv, a1, I2, a3, a4, a5, a6, a7, a8, l1, l2⟩ => by
    refine ⟨I2.kIn, ?_⟩
    rw [kf]
    obtain ⟨ds, rd, bd⟩ := binds pat hp dv a7
    have lk : pat.2.1.length = kws.length := by
      have := congrArg List.length h2
      simpa using this
    have r2 := (a5.append a6).append rd
    refine wpAny_call (codeAny_mono (F.run X.A X.stack s2 H2 ⟨us, pat.2.1.zip ws⟩ (us ++ ws ++ ds) (vs1 ++ vs2 ++ dv) Q E0 rm I2.env0 (bd s2 us ws I2.kIn (l1.trans h1.symm) (l2.trans lk.symm)) r2 (q H2 z2 _ a1 a3 a4 a8)) fun r s' hq => ?_)
    cases r with
    | error e => exact hq.elim
    | ok fl =>
      cases fl with
      | ret u => exact I2.after hq
      | next => exact False.elim hq
      | brk => exact False.elim hq
      | cont => exact False.elim hq
  refine wpAny_Call_Name_kw (ld_glob I hgl hm ?_ hk.1)
  cases args with
  | nil =>
    refine PySem.W.callWith_KW0 (h₀ := X.base) I.ok.mod.kin kp ka ?_ (by rw [kn]; rfl)
    exact thn (run_kw (pos := pos) XO es hs h3 I ok er ev) fun ws s2 w => go [] ws s2 w
  | cons e es' =>
    have pl' : plainE e = true ∧ es'.all plainE = true := by simpa using pl
    refine PySem.W.callWith_KW (h₀ := X.base) I.ok.mod.kin kp ka ?_ (by rw [kn, stars_any pl]; rfl) (plain_star pl'.1 _ _)
    exact thn (run_args (pos := pos) XO es hs h3 I ok er ev) fun us s1 w => thn w fun ws s2 w => go us ws s2 w
theorem ft_of {f : Nat} {es : Cs} {x : Str} {args : List Expr} {kws : List Keyword} (h : (match Γ.fns[f]? with
      | some ft => decide (ft.name = x) && ft.pats.any fun p => decide (p.1 = args.length) && decide (p.2.1.map some = kws.map (·.arg)) && chkC Γ es args kws p.2.2
      | none => false) = true) : ∃ ft pat, Γ.fns[f]? = some ft ∧ ft.name = x ∧ pat ∈ ft.pats ∧ pat.1 = args.length ∧ pat.2.1.map some = kws.map (·.arg) ∧ chkC Γ es args kws pat.2.2 = true := by
  split at h
  · rename_i ft hft
    simp only [Bool.and_eq_true, List.any_eq_true] at h
    obtain ⟨h1, p, hp, ⟨h2, h3⟩, h4⟩ := h
    exact ⟨ft, p, hft, of_decide_eq_true h1, hp, of_decide_eq_true h2, of_decide_eq_true h3, h4⟩
  · cases h
theorem snd_call {f : Nat} {es : Cs} {io : List Nat} {fresh : Bool} (hs : AllC (SndC cf) es) : SndC cf (.call f es io fresh) := fun Γ X e XO h => by
  simp only [chkE] at h
  split at h
  · rename_i x p args kws pos
    simp only [Bool.and_eq_true] at h
    obtain ⟨⟨h1, h2⟩, h3⟩ := h
    obtain ⟨ft, pat, g1, g2, g3, g4, g5, g6⟩ := ft_of h3
    refine .plain rfl ((pe_own XO hs h1 h2 g1 g2 g3 g4 g5 g6).imp fun σ H Q ⟨z, en, d, st', ok, er, ev, q⟩ => ?_)
    simp only [evE] at ev
    obtain ⟨xs, s1, e1, ev⟩ := bind_ok ev
    refine ⟨z, en, xs, s1, ok, er, e1, fun H' z' vs hs' ok' t dv => ?_⟩
    subst hs'
    exact callIn_ok ok' dv ev (q.trans t)
  · cases h
theorem snd_callS {f : Nat} {es : Cs} (hs : AllC (SndC cf) es) : SndC cf (.callS f es) := fun Γ X e XO h => by
  simp only [chkE] at h
  split at h
  · rename_i x p args kws pos
    simp only [Bool.and_eq_true] at h
    obtain ⟨⟨h1, h2⟩, h3⟩ := h
    obtain ⟨ft, pat, g1, g2, g3, g4, g5, g6⟩ := ft_of h3
    refine .plain rfl ((pe_own XO hs h1 h2 g1 g2 g3 g4 g5 g6).imp fun σ H Q ⟨z, en, d, st', ok, er, ev, q⟩ => ?_)
    simp only [evE] at ev
    obtain ⟨xs, s1, e1, ev⟩ := bind_ok ev
    refine ⟨z, en, xs, s1, ok, er, e1, fun H' z' vs hs' ok' t dv => ?_⟩
    subst hs'
    exact ⟨z', xs, d, st', ok', dv, ev, q.trans t⟩
  · cases h
end
end PyE

namespace PyE
open PySem PySem.Spec PyProof.Rows L2
section
variable {X : Cx} {cf : CallF} {Γ : Ct}
theorem gl_of (XO : XOk Γ cf X) {x : Str} (h : gloB Γ.sc x = true) : Gl X x := by
  show X.env.scope.names.lookup x = _
  rw [XO.sc]; exact of_decide_eq_true h
theorem okD (s : Str) (h : (s == ("__debug__" : Str)) = false := by decide) : (s == ("__debug__" : Str)) = false := h
/-- a built-in call by values -/
theorem pe_biB {f : Bi} {es : Cs} {x : Str} {args : List Expr} {p pos : Pos} {id : String} {fr : Bool} {bd : List D → Store → R D} (XO : XOk Γ cf X) (hs : AllC (SndC cf) es) (hg : gloB Γ.sc x = true) (hb : x ∈ bltNames) (hv : bootBuiltins x = some (.builtin id)) (hn : x ≠ "__name__") (hd : (x == ("__debug__" : Str)) = false)
    (h : chkEs Γ es args = true) (h0 : 0 < args.length) (hc : CallR X (.builtin id) (rDL X.K fr bd)) (he : ∀ en st, evE cf (.bi f es) en st = (evEs cf es en st).bind fun xs s1 => bd xs s1) : PE X (.Call (.Name x p) args [] pos) (tE X.K fr cf (.bi f es)) := by
  have pl := chkEs_plain h
  cases args with
  | nil => simp at h0
  | cons e es' =>
    have pl' : plainE e = true ∧ es'.all plainE = true := by simpa using pl
    refine (pe_callB hc (gl_of XO hg) (XO.bi x hb) hv (pa_of XO hs h) hn hd (plain_star pl'.1 _ _) (stars_any pl'.2)).imp fun σ H Q ⟨z, en, d, st', ok, er, ev, q⟩ => ?_
    rw [he] at ev
    obtain ⟨xs, s1, e1, ev⟩ := bind_ok ev
    refine ⟨z, en, xs, s1, ok, er, e1, fun H' z' vs hs' ok' t dv => ?_⟩
    subst hs'
    exact ⟨z', xs, d, st', ok', dv, ev, q.trans t⟩
theorem pe_biT {f : Bi} {es : Cs} {x : Str} {args : List Expr} {p pos : Pos} {id : String} {fr : Bool} {bd : List D → Store → R D} (XO : XOk Γ cf X) (hs : AllC (SndC cf) es) (hg : gloB Γ.sc x = true) (hb : x ∈ bltNames) (hv : bootBuiltins x = some (.type id)) (hn : x ≠ "__name__") (hd : (x == ("__debug__" : Str)) = false)
    (h : chkEs Γ es args = true) (h0 : 0 < args.length) (hc : CallR X (.type id) (rDL X.K fr bd)) (he : ∀ en st, evE cf (.bi f es) en st = (evEs cf es en st).bind fun xs s1 => bd xs s1) : PE X (.Call (.Name x p) args [] pos) (tE X.K fr cf (.bi f es)) := by
  have pl := chkEs_plain h
  cases args with
  | nil => simp at h0
  | cons e es' =>
    have pl' : plainE e = true ∧ es'.all plainE = true := by simpa using pl
    refine (pe_callTy hc (gl_of XO hg) (XO.bi x hb) hv (pa_of XO hs h) hn hd (plain_star pl'.1 _ _) (stars_any pl'.2)).imp fun σ H Q ⟨z, en, d, st', ok, er, ev, q⟩ => ?_
    rw [he] at ev
    obtain ⟨xs, s1, e1, ev⟩ := bind_ok ev
    refine ⟨z, en, xs, s1, ok, er, e1, fun H' z' vs hs' ok' t dv => ?_⟩
    subst hs'
    exact ⟨z', xs, d, st', ok', dv, ev, q.trans t⟩
theorem bi_ev {f : Bi} {es : Cs} {bd : List D → Store → R D} (h : ∀ xs st, biD f xs st = bd xs st) : ∀ en st, evE cf (.bi f es) en st = (evEs cf es en st).bind fun xs s1 => bd xs s1 := fun en st => by
  simp only [evE]
  congr 1
  funext xs s1
  exact h xs s1
/-- the one that is not a plain call -/
def SortedSetOk (cf : CallF) : Prop := ∀ (Γ : Ct) (X : Cx) (es : Cs) (x y : Str) (as : List Expr) (p p2 q pos : Pos), XOk Γ cf X → AllC (SndC cf) es → gloB Γ.sc x = true → x = ("sorted" : Str) → gloB Γ.sc y = true → y = ("set" : Str) → as.length = 1 → chkEs Γ es as = true →
  PE X (.Call (.Name x p) [.Call (.Name y p2) as [] q] [] pos) (tE X.K false cf (.bi .sortedSet es))
theorem snd_bi {f : Bi} {es : Cs} (hS : SortedSetOk cf) (hs : AllC (SndC cf) es) : SndC cf (.bi f es) := fun Γ X e XO h => by
  simp only [chkE] at h
  split at h
  · rename_i x p args pos
    simp only [Bool.and_eq_true] at h
    obtain ⟨⟨hg, hx⟩, h⟩ := h
    have hx := of_decide_eq_true hx
    have one : ∀ {n : Nat}, (decide (args.length = n) && chkEs Γ es args) = true → args.length = n ∧ chkEs Γ es args = true := fun {n} q => by
      simp only [Bool.and_eq_true] at q
      exact ⟨of_decide_eq_true q.1, q.2⟩
    cases f with
    | len => obtain ⟨h1, h2⟩ := one h; subst hx; exact .plain rfl (pe_biB XO hs hg (by decide) boot_len (by decide) (by decide) h2 (by omega) bi_len (bi_ev fun _ _ => rfl))
    | abs => obtain ⟨h1, h2⟩ := one h; subst hx; exact .plain rfl (pe_biB XO hs hg (by decide) boot_abs (by decide) (by decide) h2 (by omega) bi_abs (bi_ev fun _ _ => rfl))
    | int => obtain ⟨h1, h2⟩ := one h; subst hx; exact .plain rfl (pe_biT XO hs hg (by decide) boot_int (by decide) (by decide) h2 (by omega) bi_int (bi_ev fun _ _ => rfl))
    | max2 => obtain ⟨h1, h2⟩ := one h; subst hx; exact .plain rfl (pe_biB XO hs hg (by decide) boot_max (by decide) (by decide) h2 (by omega) (bi_max2 XO.calm) (bi_ev fun _ _ => rfl))
    | min2 => obtain ⟨h1, h2⟩ := one h; subst hx; exact .plain rfl (pe_biB XO hs hg (by decide) boot_min (by decide) (by decide) h2 (by omega) (bi_min2 XO.calm) (bi_ev fun _ _ => rfl))
    | max1 => obtain ⟨h1, h2⟩ := one h; subst hx; exact .plain rfl (pe_biB XO hs hg (by decide) boot_max (by decide) (by decide) h2 (by omega) (bi_max1 XO.calm) (bi_ev fun _ _ => rfl))
    | min1 => obtain ⟨h1, h2⟩ := one h; subst hx; exact .plain rfl (pe_biB XO hs hg (by decide) boot_min (by decide) (by decide) h2 (by omega) (bi_min1 XO.calm) (bi_ev fun _ _ => rfl))
    | sum => obtain ⟨h1, h2⟩ := one h; subst hx; exact .plain rfl (pe_biB XO hs hg (by decide) boot_sum (by decide) (by decide) h2 (by omega) (bi_sum XO.calm) (bi_ev fun _ _ => rfl))
    | all => obtain ⟨h1, h2⟩ := one h; subst hx; exact .plain rfl (pe_biB XO hs hg (by decide) boot_all (by decide) (by decide) h2 (by omega) (bi_all XO.calm) (bi_ev fun _ _ => rfl))
    | any => obtain ⟨h1, h2⟩ := one h; subst hx; exact .plain rfl (pe_biB XO hs hg (by decide) boot_any (by decide) (by decide) h2 (by omega) (bi_any XO.calm) (bi_ev fun _ _ => rfl))
    | tuple => obtain ⟨h1, h2⟩ := one h; subst hx; exact .plain rfl (pe_biT XO hs hg (by decide) boot_tuple (by decide) (by decide) h2 (by omega) bi_tuple (bi_ev fun _ _ => rfl))
    | list => obtain ⟨h1, h2⟩ := one h; subst hx; exact .plain rfl (pe_biT XO hs hg (by decide) boot_list (by decide) (by decide) h2 (by omega) bi_list (bi_ev fun _ _ => rfl))
    | sorted => obtain ⟨h1, h2⟩ := one h; subst hx; exact .plain rfl (pe_biB XO hs hg (by decide) boot_sorted (by decide) (by decide) h2 (by omega) bi_sorted (bi_ev fun _ _ => rfl))
    | str => obtain ⟨h1, h2⟩ := one h; subst hx; exact .plain rfl (pe_biT XO hs hg (by decide) boot_str (by decide) (by decide) h2 (by omega) bi_str (bi_ev fun _ _ => rfl))
    | sortedSet =>
      clear one
      dsimp only at h
      split at h
      · rename_i y p2 as q
        simp only [Bool.and_eq_true] at h
        obtain ⟨⟨⟨h1, h2⟩, h3⟩, h4⟩ := h
        exact .plain rfl (hS Γ X es x y as p p2 q pos XO hs hg hx h1 (of_decide_eq_true h2) (of_decide_eq_true h3) h4)
      · cases h
  · cases h
theorem pe_mtL {m : Mt} {o : C} {es : Cs} {ob : Expr} {args : List Expr} {apos cpos : Pos} {name : Str} {id : String} {bd : D → List D → Store → R D} (XO : XOk Γ cf X) (ho : SndC cf o) (hs : AllC (SndC cf) es) (hk : m ≠ .get ∧ m ≠ .setdefault ∧ m ≠ .join) (hm : MtR X id (rDM X.K bd)) (slot : Slot "list" name id)
    (hty : typeOf (.builtin id) = pure (.type "method_descriptor")) (hmo : methO ob = true) (hl : (apos.endLine == cpos.line) = true) (h30 : args.length < 30) (h1 : chkE Γ o ob = true) (h2 : chkEs Γ es args = true)
    (he : ∀ x xs st, mtD m x xs st = bd x xs st) : PE X (.Call (.Attribute ob name apos) args [] cpos) (tE X.K false cf (.mt m o es)) := by
  have pl := chkEs_plain h2
  have run : ∀ {σ : L2.St} {H : Hp} {Q : VK}, tE X.K false cf (.mt m o es) σ H Q → tBM X.K "list" (rDM X.K bd) (tE X.K false cf o) (tEs X.K cf es) σ H Q := fun {σ H Q} ⟨z, en, d, st', ok, er, ev, q⟩ => by
    simp only [evE] at ev
    obtain ⟨x, s1, e1, ev⟩ := bind_ok ev
    obtain ⟨g, ev⟩ := guard_ok ev
    obtain ⟨xs, s2, e2, ev⟩ := bind_ok ev
    rw [he] at ev
    refine ⟨z, en, x, s1, ok, er, e1, fun H1 z1 v1 hs1 ok1 t1 dv1 _ => ?_⟩
    subst hs1
    obtain ⟨a, vs, rfl, hr⟩ := mtTy_lst hk ok1 dv1 g
    refine ⟨.inl ⟨rfl, vs, .inl hr⟩, z1, en, xs, s2, ok1, ok.env t1 er, e2, fun H2 z2 ws hs2 ok2 t2 dv2 => ?_⟩
    subst hs2
    exact ⟨z2, x, xs, d, st', ok2, ok1.dv t2 dv1, dv2, ev, q.trans (t1.trans t2)⟩
  cases args with
  | nil =>
    refine (pe_bm0 PySem.F.plainAttrs_list slot hty hm (ho Γ X ob XO h1).pe0 (meth_base hmo _) hl).imp fun σ H Q q => ?_
    obtain ⟨z, en, d, st', ok, er, ev, q⟩ := q
    simp only [evE] at ev
    obtain ⟨x, s1, e1, ev⟩ := bind_ok ev
    obtain ⟨g, ev⟩ := guard_ok ev
    obtain ⟨xs, s2, e2, ev⟩ := bind_ok ev
    rw [he] at ev
    cases es with
    | cons _ _ => simp [chkEs] at h2
    | nil =>
      simp only [evEs] at e2
      cases e2
      refine ⟨z, en, x, _, ok, er, e1, fun H1 z1 v1 hs1 ok1 t1 dv1 _ => ?_⟩
      subst hs1
      obtain ⟨a, vs, rfl, hr⟩ := mtTy_lst hk ok1 dv1 g
      exact ⟨.inl ⟨rfl, vs, .inl hr⟩, z1, x, [], d, st', ok1, dv1, .nil, ev, q.trans t1⟩
  | cons e es' =>
    have pl' : plainE e = true ∧ es'.all plainE = true := by simpa using pl
    have few : ((backTo cpos (starEach (e :: es') X.env)).all (fun x => !x.1) && (backToKw cpos (keywordEach [] X.env)).all (fun x => x.1.isSome)
      && decide ((e :: es').length + ([] : List Keyword).length + (if ([] : List Keyword).isEmpty then 0 else 1) < 30)) = true := by
      rw [stars_all pl]
      show (true && true && decide ((e :: es').length + 0 + 0 < 30)) = true
      simpa using h30
    exact (pe_bm PySem.F.plainAttrs_list slot hty hm (ho Γ X ob XO h1).pe0 (pa_of XO hs h2) (meth_base hmo _) few hl (plain_star pl'.1 _ _) (stars_any pl'.2)).imp fun σ H Q q => run q
theorem ev_mtBad {m : Mt} {o : C} {es : Cs} (h : ∀ x xs st, mtD m x xs st = .bad) {en : En} {st st' : Store} {d : D} : evE cf (.mt m o es) en st ≠ .ok d st' := fun ev => by
  simp only [evE] at ev
  obtain ⟨x, s1, e1, ev⟩ := bind_ok ev
  obtain ⟨g, ev⟩ := guard_ok ev
  obtain ⟨xs, s2, e2, ev⟩ := bind_ok ev
  rw [h] at ev
  cases ev
theorem snd_mt {m : Mt} {o : C} {es : Cs} (ho : SndC cf o) (hs : AllC (SndC cf) es) : SndC cf (.mt m o es) := fun Γ X e XO h => by
  simp only [chkE] at h
  split at h
  · rename_i ob nm apos args cpos
    simp only [Bool.and_eq_true] at h
    obtain ⟨⟨⟨⟨⟨⟨h1, h2⟩, h3⟩, h4⟩, h5⟩, h6⟩, h7⟩ := h
    have h1 := of_decide_eq_true h1
    have h4 := of_decide_eq_true h4
    subst h1
    have bad : (∀ x xs st, mtD m x xs st = .bad) → PE X (.Call (.Attribute ob (mtN m) apos) args [] cpos) (tE X.K false cf (.mt m o es)) := fun hb => ⟨fun pins s σ H Q I ⟨z, en, d, st', ok, er, ev, q⟩ => (ev_mtBad hb ev).elim⟩
    refine .plain rfl ?_
    cases m with
    | append => exact pe_mtL XO ho hs (by decide) m_append PySem.F.slot_list_append PySem.F.type_list_append h2 h3 h4 h6 h7 fun _ _ _ => rfl
    | extend => exact pe_mtL XO ho hs (by decide) m_extend PySem.F.slot_list_extend PySem.F.type_list_extend h2 h3 h4 h6 h7 fun _ _ _ => rfl
    | insert => exact pe_mtL XO ho hs (by decide) m_insert PySem.F.slot_list_insert PySem.F.type_list_insert h2 h3 h4 h6 h7 fun _ _ _ => rfl
    | pop => exact pe_mtL XO ho hs (by decide) m_pop PySem.F.slot_list_pop PySem.F.type_list_pop h2 h3 h4 h6 h7 fun _ _ _ => rfl
    | popAt => exact pe_mtL XO ho hs (by decide) m_popAt PySem.F.slot_list_pop PySem.F.type_list_pop h2 h3 h4 h6 h7 fun _ _ _ => rfl
    | index => exact pe_mtL XO ho hs (by decide) m_index PySem.F.slot_list_index PySem.F.type_list_index h2 h3 h4 h6 h7 fun _ _ _ => rfl
    | get => exact bad fun _ _ _ => rfl
    | setdefault => exact bad fun _ _ _ => rfl
    | join => exact bad fun _ _ _ => rfl
  · cases h
theorem boot_ty (t : Ty) : bootBuiltins (Str.ofString (tyT t)) = some (.type (tyT t)) ∧ Str.ofString (tyT t) ∈ bltNames ∧ Str.ofString (tyT t) ≠ "__name__" ∧ ((Str.ofString (tyT t)) == ("__debug__" : Str)) = false := by
  cases t
  · exact ⟨boot_int, by decide, by decide, by decide⟩
  · exact ⟨boot_bool, by decide, by decide, by decide⟩
  · exact ⟨boot_str, by decide, by decide, by decide⟩
  · exact ⟨boot_tuple, by decide, by decide, by decide⟩
  · exact ⟨boot_list, by decide, by decide, by decide⟩
theorem pe_tyN (XO : XOk Γ cf X) {e : Expr} {t : Ty} (h : tyName e t = true) (hg : gloB Γ.sc (Str.ofString (tyT t)) = true) : PE X e (tC (.ty (tyT t))) ∧ plainE e = true := by
  cases e <;> first | (cases h; done) | skip
  have h := of_decide_eq_true h
  subst h
  obtain ⟨b1, b2, b3, b4⟩ := boot_ty t
  exact ⟨pe_bltn (gl_of XO hg) (XO.bi _ b2) b1 rfl b3 b4, rfl⟩
def tTys (ts : List Ty) : TA := fun _ H Q => Q (ts.map fun t => V.ty (tyT t)) H
theorem pa_tys (XO : XOk Γ cf X) : ∀ {es : List Expr} {ts : List Ty}, tysNames es ts = true → glTys Γ.sc ts = true → PA X es (tTys ts)
  | [], [], _, _ => pa_nil.imp fun σ H Q q => q
  | e :: es, t :: ts, h, g => by
    simp only [tysNames, Bool.and_eq_true] at h
    have g' : gloB Γ.sc (Str.ofString (tyT t)) = true ∧ glTys Γ.sc ts = true := by simpa [glTys] using g
    obtain ⟨p1, p2⟩ := pe_tyN XO h.1 g'.1
    exact (pa_cons p1 (pa_tys XO h.2 g'.2) (plain_star p2 _ _)).imp fun σ H Q q => q
  | [], _ :: _, h, _ => by simp [tysNames] at h
  | _ :: _, [], h, _ => by simp [tysNames] at h
theorem cls_all : ∀ ts : List Ty, Paired ClsV (ts.map fun t => V.ty (tyT t)) (ts.map fun t => Value.type (tyT t))
  | [] => .nil
  | t :: ts => .cons (.ty _) (cls_all ts)
theorem snd_isi {a : C} {ts : List Ty} (ha : SndC cf a) : SndC cf (.isi a ts) := fun Γ X e XO h => by
  simp only [chkE] at h
  split at h
  · rename_i x p e1 e2 pos
    simp only [Bool.and_eq_true] at h
    obtain ⟨⟨⟨h1, h2⟩, h3⟩, h4⟩ := h
    have h2 := of_decide_eq_true h2
    subst h2
    have s := (ha Γ X e1 XO h3).pe0
    have p1 := plain_star (chk_plain _ _ h3)
    simp only [tysIs, Bool.and_eq_true] at h4
    obtain ⟨⟨hgl, hn8⟩, h4⟩ := h4
    replace hn8 := of_decide_eq_true hn8
    refine .plain rfl ?_
    split at h4
    · -- a tuple of classes
      rename_i es k tp
      have pt := pe_tup (x1 := k) (pos := tp) (pa_tys XO h4 hgl)
      have pa : PA X [e1, .Tuple es k tp] _ := pa_cons s (pa_cons pt pa_nil (plain_star rfl _ _)) (p1 _ _)
      refine (pe_callB call_isiT (gl_of XO h1) (XO.bi _ (by decide)) boot_isinstance pa (by decide) (by decide) (p1 _ _) (stars_any rfl)).imp fun σ H Q ⟨z, en, d, st', ok, er, ev, q⟩ => ?_
      simp only [evE] at ev
      obtain ⟨x, s1, e3, ev⟩ := bind_ok ev
      obtain ⟨g, ev⟩ := guard_ok ev
      cases ev
      refine ⟨z, en, x, _, ok, er, e3, fun H1 z1 v1 hs1 ok1 t1 dv1 _ => ?_⟩
      subst hs1
      refine ⟨?_, fun p hp => ?_⟩
      · rw [List.length_map, sizeLine_eq]; omega
      · have ok2 : Ok X.K (upd H1 p (.tup (ts.map fun t => V.ty (tyT t)))) (z1.put p (.tup (ts.map fun t => V.ty (tyT t)))) := ok1.put hp
        have t2 := To.put (o := .tup (ts.map fun t => V.ty (tyT t))) ok1 hp
        refine ⟨v1, p, _, _, _, _, rfl, upd_same, cls_all ts, tyx_of ok2 (ok1.dv t2 dv1) g, kits _ ts X.K g, ?_⟩
        exact (q.trans (t1.trans t2)).same ok2 (.bl _)
    · rename_i hne
      split at h4
      · rename_i t
        have hg' : gloB Γ.sc (Str.ofString (tyT t)) = true := by simpa [glTys] using hgl
        obtain ⟨pt, pp⟩ := pe_tyN XO h4 hg'
        have pa : PA X [e1, e2] _ := pa_cons s (pa_cons pt pa_nil (plain_star pp _ _)) (p1 _ _)
        refine (pe_callB call_isi (gl_of XO h1) (XO.bi _ (by decide)) boot_isinstance pa (by decide) (by decide) (p1 _ _) (stars_any (by simpa using pp))).imp fun σ H Q ⟨z, en, d, st', ok, er, ev, q⟩ => ?_
        simp only [evE] at ev
        obtain ⟨x, s1, e3, ev⟩ := bind_ok ev
        obtain ⟨g, ev⟩ := guard_ok ev
        cases ev
        refine ⟨z, en, x, _, ok, er, e3, fun H1 z1 v1 hs1 ok1 t1 dv1 _ => ?_⟩
        subst hs1
        refine ⟨v1, _, _, _, _, rfl, .ty _, tyx_of ok1 dv1 g, kit_ty (kit_all _ t g), ?_⟩
        have e : ([t].any (isTy (view z1.st x))) = isTy (view z1.st x) t := by simp
        rw [e] at q
        exact (q.trans t1).same ok1 (.bl _)
      · cases h4
  · cases h
end
end PyE

namespace PyE
open PySem PySem.Spec PyProof.Rows L2
section
variable {P : Program} {w : World} {A : Around} {E : Value → Shared → Prop} {s : Shared}
set_option maxHeartbeats 3200000 in
theorem call_set_lstI {l : Addr} {items : Array Value} (ns : List Int) {Q : Value → Shared → Prop} (hh : A.handled = none) (hl : s.heap.IsList l items) (hit : IntsAre items.toList ns) (hb : ns.length + 1 < scanBound)
    (h : ∀ (h' : Heap) (tk c : Nat), SetR w h' s.heap.objs.size (fun j => decide (j ∈ ns)) c → c ≤ ns.length → (∀ b o, s.heap.get? b = some o → h'.get? b = some o) → Q (.ref s.heap.objs.size) { s with heap := h', toks := tk }) :
    wpAny (model P w) A (call (.type "set") [.ref l]) Q E s := by
  have hisz : items.size = ns.length := by
    have q := IntsAre.length hit
    rw [Array.length_toList] at q
    exact q
  obtain ⟨c, tl, hmro⟩ := F.called_set.mro
  have hmade := F.called_set.made
  have hsub := F.called_set.sub
  refine wpAny_call (codeAny_of_tree ?_)
  show wpAny _ _ (callAny (.type "set") _) _ _ _
  refine wpAny_pure ⟨Code.quiet_builtin _ (by decide +kernel), codeAny_builtin F.entry_type_call ?_⟩
  rw [Around.under_plain (weight_type_call_type "set" [.ref l] []) rfl]
  have h1 := F.called_set.notType
  have h2 := F.called_set.canCreate
  have hct := F.typeCall_set_1 (.ref l)
  repeat (any_goals (first | assumption | wp_step))

  refine codeAny_mono (code_set_led1 (.ref l) (E := E) (Q₁ := fun obj s₁ => obj = .ref s.heap.objs.size ∧ s₁ = { s with heap := s.heap.push { cls := .type "set", dict := none, data := .set #[] 0 (.fresh 0 0 (!w.params.followText "set-order")) } }) ⟨rfl, rfl⟩) fun r s₁ hr => ?_
  cases r with
  | error e => exact hr
  | ok fl =>
    cases fl with
    | ret obj =>
      obtain ⟨rfl, rfl⟩ := hr
      have hS : (s.heap.push { cls := .type "set", dict := none, data := .set #[] 0 (.fresh 0 0 (!w.params.followText "set-order")) }).get? s.heap.objs.size = some { cls := .type "set", dict := none, data := .set #[] 0 (.fresh 0 0 (!w.params.followText "set-order")) } := Heap.get?_push_size _ rfl
      have hT : Shared.TypeIs { s with heap := s.heap.push { cls := .type "set", dict := none, data := .set #[] 0 (.fresh 0 0 (!w.params.followText "set-order")) } } (.ref s.heap.objs.size) "set" := ⟨_, hS, rfl⟩
      have hli := F.called_set.init.lookup
      have hbi := F.called_set.init.bind (.ref s.heap.objs.size)
      repeat (any_goals (first | assumption | wp_step))

      refine codeAny_mono (codeAny_call_builtin (R := wants (fun r s₂ => r = .none ∧ ∃ h' tk c, s₂ = { s with heap := h', toks := tk } ∧ SetR w h' s.heap.objs.size (fun j => decide (j ∈ ns)) c ∧ c ≤ ns.length ∧
          (∀ b o, s.heap.get? b = some o → h'.get? b = some o)) E) F.called_set.init.plain F.entry_set_init (check_set_init_1 hT ?_)) fun r₂ s₂ hr₂ => ?_
      · obtain ⟨ol, hol, hcl, nl, hdl⟩ := hl
        obtain ⟨ocls, odict, odata, oslots⟩ := ol
        simp only at hcl hdl
        subst hcl; subst hdl
        have hol' : (s.heap.push { cls := .type "set", dict := none, data := .set #[] 0 (.fresh 0 0 (!w.params.followText "set-order")) }).get? l = some { cls := .type "list", dict := odict, data := .seq items nl, slots := oslots } := Heap.get?_push_of_some _ hol
        have hsls := F.sub_list_set
        have hslf := F.sub_list_frozenset
        have hne : (Value.type "list" == Value.type "dict") = false := by decide
        have hl1 : (s.heap.push { cls := .type "set", dict := none, data := .set #[] 0 (.fresh 0 0 (!w.params.followText "set-order")) }).IsList l items := ⟨_, hol', rfl, nl, rfl⟩
        unfold Builtin.«set.__init__» noKeywords Builtin.Frozenset.updateFrom
        generalize hPI : pyIter = PI
        wp_walk
        subst hPI

        refine wpAny_pyIter_list hl1 ?_
        refine wpAny_bind (wpAny_runValue ?_)
        have hlS : l < s.heap.objs.size := Heap.lt_size hol
        have hh3 : A.in1.in1.in1.handled = none := by simp [hh]
        have hz1 : (s.heap.push { cls := .type "set", dict := none, data := .set #[] 0 (.fresh 0 0 (!w.params.followText "set-order")) }).objs.size = s.heap.objs.size + 1 := Heap.size_push ..
        have hneI : l ≠ (s.heap.push { cls := .type "set", dict := none, data := .set #[] 0 (.fresh 0 0 (!w.params.followText "set-order")) }).objs.size := by
          rw [Heap.size_push]; exact Nat.ne_of_lt (Nat.lt_succ_of_lt hlS)
        have hSf : s.heap.objs.size ∉ [(s.heap.push { cls := .type "set", dict := none, data := .set #[] 0 (.fresh 0 0 (!w.params.followText "set-order")) }).objs.size, l] := by
          rw [Heap.size_push]; simp only [List.mem_cons, List.mem_singleton, List.not_mem_nil, or_false, not_or]
          exact ⟨Nat.ne_of_lt (Nat.lt_succ_self _), Nat.ne_of_gt hlS⟩
        have hval : ∀ (i : Nat) (v : Value), items[i]? = some v → ∃ k t, ns[i]? = some k ∧ v = .int k t := fun i v hv => by
          have hi : i < ns.length := by rw [← hisz]; exact (Array.getElem?_eq_some_iff.mp hv).1
          obtain ⟨t, e⟩ := PyProof.Rows.IntsAre.int_at hit i v (by rw [Array.getElem?_toList]; exact hv)
          refine ⟨ns[i], t, List.getElem?_eq_getElem hi, ?_⟩
          rw [e, List.getD_eq_getElem?_getD, List.getElem?_eq_getElem hi] <;> rfl
        refine set_update_ints ((Walks.list hh3 _ l hneI items).toS) s.heap.objs.size
          hSf ns hisz hb hval (items.size - 0) 0 _ (by omega) (Nat.zero_le _)
          ⟨⟨_, Heap.get?_push_size _ rfl, rfl, rfl⟩, (hl1.push _)⟩ ?hS0 ?hR
        case hS0 =>
          have hget : ((s.heap.push { cls := .type "set", dict := none, data := .set #[] 0 (.fresh 0 0 (!w.params.followText "set-order")) }).push { cls := .type "list_iterator", data := .fields #[.ref l, .int 0 0] }).get? s.heap.objs.size
              = some { cls := .type "set", dict := none, data := .set #[] 0 (.fresh 0 0 (!w.params.followText "set-order")) } := Heap.get?_push_of_some _ hS
          exact ⟨0, Nat.le_refl 0, setR_new_at hget⟩
        case hR =>
          intro s' c' hm hc' hS'
          obtain ⟨h', g2, d', tk', os'⟩ := s'
          have eg : g2 = s.gens := hm.gens
          have ed : d' = s.drawn := hm.drawn
          have eo : os' = s.os := hm.os
          subst eg; subst ed; subst eo
          show wpAny _ _ _ _ _ _
          refine wpAny_pure ?_
          show wpAny _ _ (ret Value.none) _ _ _
          rw [hisz] at hc'
          refine wpAny_pure ⟨rfl, h', tk', c', rfl, hS', hc', fun b o e => ?_⟩
          have hb0 : b < s.heap.objs.size := Heap.lt_size e
          have hb1 : b ≠ s.heap.objs.size := Nat.ne_of_lt hb0
          have hb2 : b ≠ (s.heap.push { cls := .type "set", dict := none, data := .set #[] 0 (.fresh 0 0 (!w.params.followText "set-order")) }).objs.size := by
            rw [Heap.size_push]; exact Nat.ne_of_lt (Nat.lt_succ_of_lt hb0)
          exact hm.heap b o (by simp only [List.mem_cons, List.mem_singleton, List.not_mem_nil, or_false, not_or]; exact ⟨hb1, hb2⟩) (Heap.get?_push_of_some _ (Heap.get?_push_of_some _ e))

      · cases r₂ with
        | error e => exact hr₂
        | ok fl₂ =>
          cases fl₂ with
          | ret r =>
            obtain ⟨rfl, h', tk, c', rfl, hS', hc', hk'⟩ := hr₂
            repeat (any_goals (first | assumption | wp_step))
            exact h _ _ _ hS' hc' hk'
          | _ => exact hr₂.elim
    | _ => exact hr.elim

end
end PyE

namespace PyE
open PySem PySem.Spec PyProof.Rows L2
section
variable {X : Cx} {cf : CallF} {Γ : Ct}
theorem mem_dedupI (k : Int) : ∀ l : List Int, k ∈ dedupI l ↔ k ∈ l
  | [] => Iff.rfl
  | x :: r => by
    unfold dedupI
    have ih := mem_dedupI k r
    split
    · rename_i hx
      rw [ih, List.mem_cons]
      exact ⟨.inr, fun h => h.elim (fun e => e ▸ hx) id⟩
    · rw [List.mem_cons, List.mem_cons, ih]
theorem nodup_dedupI : ∀ l : List Int, (dedupI l).Nodup
  | [] => List.nodup_nil
  | x :: r => by
    unfold dedupI
    split
    · exact nodup_dedupI r
    · rename_i hx
      exact List.nodup_cons.mpr ⟨fun h => hx ((mem_dedupI x r).mp h), nodup_dedupI r⟩
def rSetL (w : World) : List V → Hp → VK → Prop := fun vs H Q => ∃ (a : Addr) (ns : List Int), vs = [.ref a] ∧ Rd H a (.lst (ns.map V.int)) ∧ ns.length < 64 ∧ ∀ p c, H p = none → c ≤ ns.length → Q (.ref p) (upd H p (SetO w p (fun j => decide (j ∈ ns)) c))
theorem cr_setL (hc : X.calm = true) : CallR X (.type "set") (rSetL X.w) := by
  intro pins s σ H xs us Q I r h
  obtain ⟨a, ns, rfl, hr, hl, q⟩ := h
  rw [Vals.ref1 r]
  obtain ⟨its, rv, pl, hz⟩ := I.list (.inl hr : SqL X.K H a _)
  have hi : IntsAre its.toArray.toList ns := by simpa using intsAre_of rv
  refine call_set_lstI ns (I.ok.hd hc) pl.isList hi (by unfold scanBound; omega) fun h' tk c R1 hcn k => ?_
  have hn : H s.heap.objs.size = none := I.hok.fresh (Nat.le_refl _)
  exact ⟨.ref _, _, I.laid k (Nat.le_refl _) (setO_new R1), rfl, q _ c hn hcn⟩
theorem sortedSet_ok (cf : CallF) : SortedSetOk cf := fun Γ X es x y as p p2 q pos XO hs hg hx hg2 hy hl h => by
  subst hx
  subst hy
  have pl := chkEs_plain h
  cases as with
  | nil => simp at hl
  | cons e es' =>
    cases es' with
    | cons _ _ => simp at hl
    | nil =>
      have pl' : plainE e = true := by simpa using pl
      have p1 := pe_callTy (p := p2) (pos := q) (cr_setL XO.calm) (gl_of XO hg2) (XO.bi _ (by decide)) boot_set (pa_of XO hs h) (by decide) (by decide) (plain_star pl' _ _) (stars_any rfl)
      have pa := pa_cons p1 pa_nil (plain_star rfl _ _)
      refine (pe_callB (p := p) (pos := pos) (cr_sortedSet XO.calm) (gl_of XO hg) (XO.bi _ (by decide)) boot_sorted pa (by decide) (by decide) (plain_star rfl _ _) (stars_any rfl)).imp fun σ H Q ⟨z, en, d, st', ok, er, ev, qe⟩ => ?_
      simp only [evE] at ev
      obtain ⟨xs, s1, e1, ev⟩ := bind_ok ev
      have ev : bd1 .sortedSet xs s1 = .ok d st' := ev
      unfold bd1 at ev
      split at ev
      · obtain ⟨ev2, hst⟩ := opt_ok ev
        subst hst
        refine ⟨z, en, [_], _, ok, er, e1, fun H1 z1 vs hs1 ok1 t1 dv1 => ?_⟩
        subst hs1
        obtain ⟨v, rfl, dv⟩ := dv1.one
        obtain ⟨a, ns, rfl, hr, hf⟩ := intsB_ok ok1 dv ev2
        split at hf
        · rename_i h64
          cases hf
          refine ⟨a, ns, rfl, hr, h64, fun p0 c hp0 hc => ?_⟩
          refine ⟨p0, _, c, rfl, upd_same, by omega, fun ks p3 hp hm hk hn3 => ?_⟩
          have ek : ks = sortI (dedupI ns) := by
            refine sorted_one ((List.perm_ext_iff_of_nodup (hp.imp fun h => Int.ne_of_lt h) (nodup_dedupI ns)).mpr (fun k => ?_) |>.trans (sortI_perm _).symm) (hp.imp fun h => Int.le_of_lt h) (sortI_sorted _)
            rw [hm k, mem_dedupI, decide_eq_true_eq]
          rw [ek]
          have ok2 : Ok X.K (upd H1 p0 (SetO X.w p0 (fun j => decide (j ∈ ns)) c)) z1 := ok1.at (ok1.none hp0)
          have t2 : To H1 z1 (upd H1 p0 (SetO X.w p0 (fun j => decide (j ∈ ns)) c)) z1 := To.refl.at hp0
          exact (qe.trans (t1.trans t2)).lst ok2 (of_ints _) p3 hn3
        · cases hf
      · cases ev
theorem wipe_set {σ : L2.St} {i : Nat} {o : Option V} : ∀ {vs : List Nat}, i ∈ vs → L2.wipe (σ.set i o) vs = L2.wipe σ vs
  | v :: vs, h => by
    unfold L2.wipe
    by_cases e : i ∈ vs
    · rw [wipe_set e]
    · have hv : i = v := by
        rcases List.mem_cons.mp h with w | w
        · exact w
        · exact absurd w e
      subst hv
      have : ∀ {us : List Nat}, i ∉ us → L2.wipe (σ.set i o) us = (L2.wipe σ us).set i o := by
        intro us
        induction us with
        | nil => intro _; rfl
        | cons u us ih =>
          intro hu
          obtain ⟨h1, h2⟩ : i ≠ u ∧ i ∉ us := by simpa using hu
          unfold L2.wipe
          rw [ih h2, List.set_comm _ _ h1]
      rw [this e, List.set_set]
theorem wipe_env {K : PySem.W.Frag} {z : Z} {en : En} {σ : L2.St} (h : EnvR K z en σ) : ∀ vs : List Nat, EnvR K z (wipe en vs) (L2.wipe σ vs)
  | [] => h
  | v :: vs => by
    have ih := wipe_env h vs
    unfold wipe L2.wipe
    refine ⟨by rw [List.length_set, List.length_set]; exact ih.1, fun j d e => ?_⟩
    by_cases hj : v = j
    · subst hj
      by_cases hl : v < (wipe en vs).length
      · rw [List.getElem?_set_self hl] at e; cases e
      · rw [List.getElem?_eq_none (by rw [List.length_set]; omega)] at e; cases e
    · rw [List.getElem?_set_ne hj] at e ⊢
      exact ih.2 j d e
def SndT (cf : CallF) (t : T) : Prop := ∀ Γ X e, XOk Γ cf X → chkT Γ t e = true → PG X e (gT X.K cf t) ∧ plainE e = true
def SndTs (cf : CallF) (t : Ts) : Prop := ∀ Γ X es, XOk Γ cf X → chkTs Γ t es = true → PGs X es (gTs X.K cf t) ∧ es.all plainE = true ∧ ∀ ds en st en' st', asTs cf t ds en st = .ok en' st' → ds.length = es.length
theorem snd_tname (i : Nat) : SndT cf (.name i) := fun Γ X e XO h => by
  simp only [chkT] at h
  split at h
  · simp only [Bool.and_eq_true] at h
    obtain ⟨h1, h2⟩ := h
    obtain ⟨l1, l2⟩ := XO.loc _ h2
    refine ⟨(pg_name XO.nd (by rw [XO.N]; exact of_decide_eq_true h1) l1 l2).imp fun v σ H Q ⟨z, en, d, en', st', ok, er, dv, ev, q⟩ => ?_, rfl⟩
    simp only [asT] at ev
    cases ev
    exact q H z _ rfl ok .refl (er.set dv i) fun vs hv => wipe_set (hv i (by simp [slotsT]))
  · cases h
theorem sub_ev {x y d : D} {en en' : En} {st st' : Store} (h : (match x with
    | .ref n => (match st[n]? with
      | some (.lst xs) => (match y with
        | .int k => (match L2.ixN xs.length k with
          | some j => R.ok en (st.set n (.lst (xs.set j d)))
          | none => .bad)
        | _ => .bad)
      | some (.dct es) => guardB (isKey y && decide (es.length < line)) (.ok en (st.set n (.dct (dput es y d))))
      | _ => .bad)
    | _ => .bad) = .ok en' st') : en' = en ∧ ∃ n c, subB x y d st = some (n, c) ∧ st' = st.set n c := by
  unfold subB
  split at h
  · split at h
    · split at h
      · split at h
        · cases h
          exact ⟨rfl, _, _, by simp [*], rfl⟩
        · cases h
      · cases h
    · obtain ⟨g, h⟩ := guard_ok h
      cases h
      simp only [Bool.and_eq_true] at g
      have g2 := of_decide_eq_true g.2
      exact ⟨rfl, _, _, by simp [*], rfl⟩
    · cases h
  · cases h
theorem snd_tsub {o i : C} (ho : SndC cf o) (hi : SndC cf i) : SndT cf (.sub o i) := fun Γ X e XO h => by
  simp only [chkT] at h
  split at h
  · simp only [Bool.and_eq_true] at h
    obtain ⟨h1, h2⟩ := h
    refine ⟨(pg_sub (ho Γ X _ XO h1).pe0 (hi Γ X _ XO h2).pe0 (set_ok XO.un) (plain_sub (chk_plain _ _ h2))).imp fun v σ H Q ⟨z, en, d, en', st', ok, er, dv, ev, q⟩ => ?_, rfl⟩
    simp only [asT] at ev
    obtain ⟨x, s1, e1, ev⟩ := bind_ok ev
    obtain ⟨y, s2, e2, ev⟩ := bind_ok ev
    obtain ⟨rfl, n, c, hb, rfl⟩ := sub_ev ev
    refine ⟨z, _, x, s1, ok, er, e1, fun H1 z1 v1 hs1 ok1 t1 dv1 _ => ?_⟩
    subst hs1
    refine ⟨z1, _, y, s2, ok1, ok.env t1 er, e2, fun H2 z2 v2 hs2 ok2 t2 dv2 _ => ?_⟩
    subst hs2
    refine ⟨z2, x, y, d, n, c, ok2, ok1.dv t2 dv1, dv2, ok1.dv t2 (ok.dv t1 dv), hb, fun H3 z3 hs3 ok3 t3 => ?_⟩
    exact q H3 z3 σ hs3 ok3 (t1.trans (t2.trans t3)) (ok.env (t1.trans (t2.trans t3)) er) fun _ _ => rfl
  · cases h
theorem assigns_map {env : Env} : ∀ {xs : List Expr}, xs.all plainE = true → assignEach xs env = xs.map fun e => (false, assign e env)
  | [], _ => rfl
  | e :: es, h => by
    simp only [List.all_cons, Bool.and_eq_true] at h
    rw [plain_assign h.1, assigns_map h.2]; rfl
theorem snd_ttup {ts : Ts} (hs : SndTs cf ts) : SndT cf (.tup ts) := fun Γ X e XO h => by
  simp only [chkT] at h
  split at h
  · rename_i es k pos
    obtain ⟨pg, pl, hlen⟩ := hs Γ X es XO h
    refine ⟨(pg_tup (n := es.length) XO.calm pg (by rw [assigns_map pl, List.length_map]) (by rw [assigns_map pl]; simp [List.findIdx?_map, Function.comp_def])).imp fun v σ H Q ⟨z, en, d, en', st', ok, er, dv, ev, q⟩ => ?_, rfl⟩
    simp only [asT] at ev
    split at ev
    · rename_i xs hx
      obtain ⟨a, vs, rfl, h1, h2⟩ := view_tup ok dv hx
      exact ⟨a, vs, rfl, ok.sqT h1, by rw [← h2.length]; exact hlen _ _ _ _ _ ev, z, en, xs, en', st', ok, er, h2, ev, q⟩
    · cases ev
  · cases h
theorem snd_tsnil : SndTs cf .nil := fun Γ X es XO h => by
  cases es with
  | cons _ _ => simp [chkTs] at h
  | nil =>
    refine ⟨pgs_nil.imp fun vs σ H Q ⟨z, en, ds, en', st', ok, er, dv, ev, q⟩ => ?_, rfl, fun ds en st en' st' ev => ?_⟩
    · simp only [asTs] at ev
      split at ev
      · cases ev
        cases dv
        exact ⟨rfl, q H z σ rfl ok .refl er fun _ _ => rfl⟩
      · cases ev
    · simp only [asTs] at ev
      split at ev
      · rfl
      · cases ev
theorem snd_tscons {t : T} {r : Ts} (ht : SndT cf t) (hr : SndTs cf r) : SndTs cf (.cons t r) := fun Γ X es XO h => by
  cases es with
  | nil => simp [chkTs] at h
  | cons e es =>
    simp only [chkTs, Bool.and_eq_true] at h
    obtain ⟨p1, l1⟩ := ht Γ X e XO h.1
    obtain ⟨p2, l2, n2⟩ := hr Γ X es XO h.2
    refine ⟨(pgs_cons p1 p2 (by rw [plain_assign l1]; rfl)).imp fun vs σ H Q ⟨z, en, ds, en', st', ok, er, dv, ev, q⟩ => ?_, by simp only [List.all_cons, Bool.and_eq_true]; exact ⟨l1, l2⟩, fun ds en st en' st' ev => ?_⟩
    · simp only [asTs] at ev
      split at ev
      · rename_i x xr
        obtain ⟨en1, s1, e1, ev⟩ := bind_ok ev
        cases dv with
        | cons d1 d2 =>
          refine ⟨_, _, rfl, z, en, x, en1, s1, ok, er, d1, e1, fun H1 z1 σ1 hs1 ok1 t1 er1 w1 => ?_⟩
          subst hs1
          refine ⟨z1, en1, xr, en', st', ok1, er1, ok.dvs t1 d2, ev, fun H2 z2 σ2 hs2 ok2 t2 er2 w2 => ?_⟩
          refine q H2 z2 σ2 hs2 ok2 (t1.trans t2) er2 fun vs hv => ?_
          rw [w2 vs fun i hi => hv i (by simp only [slotsTs, List.mem_append]; exact .inr hi), w1 vs fun i hi => hv i (by simp only [slotsTs, List.mem_append]; exact .inl hi)]
      · cases ev
    · simp only [asTs] at ev
      split at ev
      · obtain ⟨en1, s1, e1, ev⟩ := bind_ok ev
        rw [List.length_cons, List.length_cons, n2 _ _ _ _ _ ev]
      · cases ev
def SndI (cf : CallF) (i : I) : Prop := ∀ Γ X tg e, XOk Γ cf X → chkI Γ i tg e = true → PI X tg e (iT X.K cf i) ∧ plainE e = true
theorem snd_ival {c : C} (hc : SndC cf c) : SndI cf (.val c) := fun Γ X tg e XO h => by
  simp only [chkI] at h
  refine ⟨(pi_val (hc Γ X e XO h).pe0).imp fun σ H R ⟨z, en, p, st', ok, er, ev, q⟩ => ?_, chk_plain _ _ h⟩
  simp only [evI] at ev
  obtain ⟨x, s1, e1, ev⟩ := bind_ok ev
  obtain ⟨ev2, hst⟩ := opt_ok ev
  subst hst
  refine ⟨z, en, x, _, ok, er, e1, fun H1 z1 v1 hs1 ok1 t1 dv1 _ => ?_⟩
  subst hs1
  unfold iterOf at ev2
  split at ev2
  · rename_i xs hx
    cases ev2
    obtain ⟨a, rfl, w⟩ := tup_held ok1 dv1 hx
    obtain ⟨b, vs, hab, h1, h2⟩ := view_tup ok1 dv1 hx
    cases hab
    exact .inr (.inl ⟨a, vs, rfl, ok1.sqT h1, q H1 z1 _ rfl ok1 t1 (walk_tupD w)⟩)
  · rename_i xs hx
    cases ev2
    obtain ⟨a, rfl, w⟩ := lst_held ok1 dv1 hx
    obtain ⟨b, vs, hab, h1, h2⟩ := view_lst ok1 dv1 hx
    cases hab
    exact .inl ⟨a, vs, rfl, .inl (ok1.rd h1), q H1 z1 _ rfl ok1 t1 (walk_lstD w)⟩
  · rename_i s hx
    cases ev2
    obtain ⟨rfl, rfl⟩ := view_str ok1 dv1 hx
    exact .inr (.inr ⟨s, rfl, q H1 z1 _ rfl ok1 t1 walk_strD⟩)
  · cases ev2
theorem rgOk_iff {i : Int} (h : rgOk i = true) : -(2 ^ 62) ≤ i ∧ i < 2 ^ 62 := by
  simp only [rgOk, Bool.and_eq_true, decide_eq_true_eq] at h
  omega
theorem snd_irange1 {a : C} (ha : SndC cf a) : SndI cf (.range1 a) := fun Γ X tg e XO h => by
  simp only [chkI] at h
  split at h
  · simp only [Bool.and_eq_true] at h
    obtain ⟨⟨h1, h2⟩, h3⟩ := h
    have h2 := of_decide_eq_true h2
    subst h2
    have p1 := plain_star (chk_plain _ _ h3)
    refine ⟨(pi_range1 (gl_of XO h1) (XO.bi _ (by decide)) (pa_cons (ha Γ X _ XO h3).pe0 pa_nil (p1 _ _)) (p1 _ _)).imp fun σ H R ⟨z, en, p, st', ok, er, ev, q⟩ => ?_, rfl⟩
    simp only [evI] at ev
    obtain ⟨x, s1, e1, ev⟩ := bind_ok ev
    refine ⟨z, en, x, _, ok, er, e1, fun H1 z1 v1 hs1 ok1 t1 dv1 _ => ?_⟩
    subst hs1
    split at ev
    · obtain ⟨g, ev⟩ := guard_ok ev
      cases ev
      cases dv1
      exact ⟨_, rfl, (rgOk_iff g).1, (rgOk_iff g).2, q H1 z1 _ rfl ok1 t1 walk_rangeD⟩
    · cases ev
  · cases h
theorem snd_irange2 {a b : C} (ha : SndC cf a) (hb : SndC cf b) : SndI cf (.range2 a b) := fun Γ X tg e XO h => by
  simp only [chkI] at h
  split at h
  · simp only [Bool.and_eq_true] at h
    obtain ⟨⟨⟨h1, h2⟩, h3⟩, h4⟩ := h
    have h2 := of_decide_eq_true h2
    subst h2
    have p1 := plain_star (chk_plain _ _ h3)
    have p2 := plain_star (chk_plain _ _ h4)
    refine ⟨(pi_range2 (gl_of XO h1) (XO.bi _ (by decide)) (pa_cons (ha Γ X _ XO h3).pe0 (pa_cons (hb Γ X _ XO h4).pe0 pa_nil (p2 _ _)) (p1 _ _)) (by rw [p1, p2]; rfl) (p2 _ _)).imp fun σ H R ⟨z, en, p, st', ok, er, ev, q⟩ => ?_, rfl⟩
    simp only [evI] at ev
    obtain ⟨x, s1, e1, ev⟩ := bind_ok ev
    obtain ⟨y, s2, e2, ev⟩ := bind_ok ev
    refine ⟨z, en, x, _, ok, er, e1, fun H1 z1 v1 hs1 ok1 t1 dv1 _ => ?_⟩
    subst hs1
    refine ⟨z1, en, y, _, ok1, ok.env t1 er, e2, fun H2 z2 v2 hs2 ok2 t2 dv2 _ => ?_⟩
    subst hs2
    have dv1 := ok1.dv t2 dv1
    split at ev
    · obtain ⟨g, ev⟩ := guard_ok ev
      cases ev
      cases dv1
      cases dv2
      simp only [Bool.and_eq_true] at g
      exact ⟨_, _, rfl, ⟨(rgOk_iff g.1).1, (rgOk_iff g.1).2, (rgOk_iff g.2).1, (rgOk_iff g.2).2⟩, q H2 z2 _ rfl ok2 (t1.trans t2) walk_rangeD⟩
    · cases ev
  · cases h
theorem isTup_inv {e : Expr} (h : isTupE e = true) : ∃ es k p, e = .Tuple es k p := by
  cases e <;> first | (cases h; done) | exact ⟨_, _, _, rfl⟩
theorem snd_ienum {c : C} (hc : SndC cf c) : SndI cf (.enum c) := fun Γ X tg e XO h => by
  simp only [chkI, Bool.and_eq_true] at h
  obtain ⟨ht, h⟩ := h
  obtain ⟨es, k, tp, rfl⟩ := isTup_inv ht
  split at h
  · simp only [Bool.and_eq_true] at h
    obtain ⟨⟨h1, h2⟩, h3⟩ := h
    have h2 := of_decide_eq_true h2
    subst h2
    have p1 := plain_star (chk_plain _ _ h3)
    refine ⟨(pi_enumA (gl_of XO h1) (XO.bi _ (by decide)) (pa_cons (hc Γ X _ XO h3).pe0 pa_nil (p1 _ _)) (p1 _ _)).imp fun σ H R ⟨z, en, p, st', ok, er, ev, q⟩ => ?_, rfl⟩
    simp only [evI] at ev
    obtain ⟨x, s1, e1, ev⟩ := bind_ok ev
    refine ⟨z, en, x, _, ok, er, e1, fun H1 z1 v1 hs1 ok1 t1 dv1 _ => ?_⟩
    subst hs1
    split at ev
    · rename_i xs hx
      cases ev
      obtain ⟨a, rfl, w⟩ := lst_held ok1 dv1 hx
      obtain ⟨b, vs, hab, h1, h2⟩ := view_lst ok1 dv1 hx
      cases hab
      exact ⟨a, vs, rfl, .inl ⟨.inl (ok1.rd h1), q H1 z1 _ rfl ok1 t1 (walk_enumL w)⟩⟩
    · rename_i xs hx
      cases ev
      obtain ⟨a, rfl, w⟩ := tup_held ok1 dv1 hx
      obtain ⟨b, vs, hab, h1, h2⟩ := view_tup ok1 dv1 hx
      cases hab
      exact ⟨a, vs, rfl, .inr ⟨ok1.sqT h1, q H1 z1 _ rfl ok1 t1 (walk_enumT w)⟩⟩
    · cases ev
  · cases h
theorem snd_izip {c c2 : C} (hc : SndC cf c) (hc2 : SndC cf c2) : SndI cf (.zip c c2) := fun Γ X tg e XO h => by
  simp only [chkI, Bool.and_eq_true] at h
  obtain ⟨ht, h⟩ := h
  obtain ⟨es, k, tp, rfl⟩ := isTup_inv ht
  split at h
  · simp only [Bool.and_eq_true] at h
    obtain ⟨⟨⟨h1, h2⟩, h3⟩, h4⟩ := h
    have h2 := of_decide_eq_true h2
    subst h2
    have p1 := plain_star (chk_plain _ _ h3)
    have p2 := plain_star (chk_plain _ _ h4)
    refine ⟨(RZ.pi_zipA (gl_of XO h1) (XO.bi _ (by decide)) (pa_cons (hc Γ X _ XO h3).pe0 (pa_cons (hc2 Γ X _ XO h4).pe0 pa_nil (p2 _ _)) (p1 _ _)) (p1 _ _) (stars_any (by simpa using chk_plain _ _ h4))).imp fun σ H R ⟨z, en, p, st', ok, er, ev, q⟩ => ?_, rfl⟩
    simp only [evI] at ev
    obtain ⟨x, s1, e1, ev⟩ := bind_ok ev
    obtain ⟨y, s2, e2, ev⟩ := bind_ok ev
    refine ⟨z, en, x, _, ok, er, e1, fun H1 z1 v1 hs1 ok1 t1 dv1 _ => ?_⟩
    subst hs1
    refine ⟨z1, en, y, _, ok1, ok.env t1 er, e2, fun H2 z2 v2 hs2 ok2 t2 dv2 _ => ?_⟩
    subst hs2
    have dv1 := ok1.dv t2 dv1
    split at ev
    · rename_i xs ys hx hy
      cases ev
      obtain ⟨a, rfl, w⟩ := lst_held ok2 dv1 hx
      obtain ⟨b, vs, hab, g1, g2⟩ := view_lst ok2 dv1 hx
      cases hab
      obtain ⟨a', rfl, w'⟩ := lst_held ok2 dv2 hy
      obtain ⟨b', vs', hab', g1', g2'⟩ := view_lst ok2 dv2 hy
      cases hab'
      refine ⟨a, a', vs, vs', rfl, .inl ⟨.inl (ok2.rd g1), .inl (ok2.rd g1'), q H2 z2 _ rfl ok2 (t1.trans t2) (walk_zipL fun H3 z3 ok3 t3 hg => ?_)⟩⟩
      obtain ⟨k1, k2⟩ := held_app hg
      obtain ⟨us, u1, u2⟩ := w H3 z3 ok3 t3 k1
      obtain ⟨us', u1', u2'⟩ := w' H3 z3 ok3 t3 k2
      exact ⟨us, us', u1, u2, u1', u2'⟩
    · rename_i xs ys hx hy
      cases ev
      obtain ⟨a, rfl, w⟩ := tup_held ok2 dv1 hx
      obtain ⟨b, vs, hab, g1, g2⟩ := view_tup ok2 dv1 hx
      cases hab
      obtain ⟨a', rfl, w'⟩ := tup_held ok2 dv2 hy
      obtain ⟨b', vs', hab', g1', g2'⟩ := view_tup ok2 dv2 hy
      cases hab'
      refine ⟨a, a', vs, vs', rfl, .inr ⟨ok2.sqT g1, ok2.sqT g1', q H2 z2 _ rfl ok2 (t1.trans t2) (walk_zipT fun H3 z3 ok3 t3 => ?_)⟩⟩
      obtain ⟨us, u1, u2⟩ := w H3 z3 ok3 t3
      obtain ⟨us', u1', u2'⟩ := w' H3 z3 ok3 t3
      exact ⟨us, us', u1, u2, u1', u2'⟩
    · cases ev
  · cases h
end
end PyE

namespace PyE
open PySem PySem.Spec PyProof.Rows L2
section
variable {X : Cx} {cf : CallF} {Γ : Ct}
mutual
theorem beq_refl : ∀ d : D, D.beq d d = true
  | .non => rfl
  | .bl b => by simp [D.beq]
  | .int b => by simp [D.beq]
  | .str b => by simp [D.beq]
  | .tup xs => by simp only [D.beq]; exact beqL_refl xs
  | .lst xs => by simp only [D.beq]; exact beqL_refl xs
  | .dct xs => by simp only [D.beq]; exact beqL_refl xs
  | .ref b => by simp [D.beq]
  | .fn b => by simp [D.beq]
theorem beqL_refl : ∀ d : List D, D.beqL d d = true
  | [] => rfl
  | x :: xs => by simp only [D.beqL, Bool.and_eq_true]; exact ⟨beq_refl x, beqL_refl xs⟩
end
theorem held_guard (st : Store) (d : D) : held (guardOf st d) st = true := by
  cases d <;> first | rfl | skip
  rename_i n
  unfold guardOf held
  cases e : st[n]? with
  | none => simp [e]
  | some c => simp [e, beq_refl]
theorem held_two {g g' : Guard} {st : Store} (h : held g st = true) (h' : held g' st = true) : held (g ++ g') st = true := by
  unfold held at h h' ⊢
  rw [List.all_append, h, h']; rfl
theorem evI_held {i : I} {en : En} {st st' : Store} {p : List D × Guard} (h : evI cf i en st = .ok p st') : held p.2 st' = true := by
  cases i with
  | val e =>
    simp only [evI] at h
    obtain ⟨x, s1, e1, h⟩ := bind_ok h
    obtain ⟨h2, hst⟩ := opt_ok h
    subst hst
    unfold iterOf at h2
    split at h2 <;> first | (cases h2; first | rfl | exact held_guard _ _) | cases h2
  | range1 a =>
    simp only [evI] at h
    obtain ⟨x, s1, e1, h⟩ := bind_ok h
    split at h
    · obtain ⟨g, h⟩ := guard_ok h
      cases h; rfl
    · cases h
  | range2 a b =>
    simp only [evI] at h
    obtain ⟨x, s1, e1, h⟩ := bind_ok h
    obtain ⟨y, s2, e2, h⟩ := bind_ok h
    split at h
    · obtain ⟨g, h⟩ := guard_ok h
      cases h; rfl
    · cases h
  | enum a =>
    simp only [evI] at h
    obtain ⟨x, s1, e1, h⟩ := bind_ok h
    split at h <;> first | (cases h; first | rfl | exact held_guard _ _) | cases h
  | zip a b =>
    simp only [evI] at h
    obtain ⟨x, s1, e1, h⟩ := bind_ok h
    obtain ⟨y, s2, e2, h⟩ := bind_ok h
    split at h <;> first | (cases h; first | rfl | exact held_two (held_guard _ _) (held_guard _ _)) | cases h
theorem wipe_get {σ : L2.St} {i : Nat} : ∀ vs : List Nat, (L2.wipe σ vs)[i]? = if i ∈ vs then (σ[i]?).map fun _ => none else σ[i]?
  | [] => by simp [L2.wipe]
  | v :: vs => by
    unfold L2.wipe
    rw [List.getElem?_set, L2.wipe_length, wipe_get vs]
    by_cases h : v = i
    · subst h
      simp only [if_true, List.mem_cons, true_or]
      by_cases hl : v < σ.length
      · rw [if_pos hl, List.getElem?_eq_getElem hl]; rfl
      · rw [if_neg hl, List.getElem?_eq_none (by omega)]; rfl
    · rw [if_neg h]
      have : i ≠ v := fun e => h e.symm
      simp [this]
theorem wipe_wipe {σ : L2.St} {vs : List Nat} : L2.wipe (L2.wipe σ vs) vs = L2.wipe σ vs := by
  apply List.ext_getElem?
  intro i
  rw [wipe_get, wipe_get]
  split
  · cases σ[i]? <;> rfl
  · rfl
abbrev Ct.blk (Γ : Ct) (scope : Scope) : Ct := { Γ with sc := relS scope Γ.sc, own := scope }
theorem XOk.blk (XO : XOk Γ cf X) (s : Shared) (H : Hp) (scope : Scope) (C : Addr) (cl : List (Str × Addr)) (fp : List Addr) : XOk (Γ.blk scope) cf (X.blk s H scope (compEnvC scope cl C X.env) fp) where
  calm := XO.calm
  nd := XO.nd
  N := XO.N
  sc := by
    show relS scope X.env.scope = relS scope Γ.sc
    rw [XO.sc]
  un := XO.un
  loc := fun x h => by
    have h : locB scope x = true := h
    have l := loc_of h
    show L2.Loc (relS scope X.env.scope) x ∧ ((scope.names.lookup x == some .cell) = true ∨ (relS scope X.env.scope).names.lookup x = some .local)
    rcases l with l | l
    · have k : (relS scope X.env.scope).names.lookup x = some .local := lookup_relS_keep (by decide) l
      exact ⟨.inl k, .inr k⟩
    · have k : (relS scope X.env.scope).names.lookup x = some .cell := lookup_relS_keep (by decide) l
      exact ⟨.inr k, .inl (by rw [l]; rfl)⟩
  glb := XO.glb
  bi := XO.bi
  fns := fun f ft h => ⟨(XO.fns f ft h).ex⟩
theorem pts_of (XO : XOk Γ cf X) {c : Co} {ifs : List Expr} (hc : OptC cf c) (h : chkCo Γ c ifs = true) : PTs X ifs (tCo X.K cf c) := by
  cases c with
  | none =>
    cases ifs with
    | cons _ _ => simp [chkCo] at h
    | nil =>
      refine pts_nil.imp fun σ H Q ⟨z, en, st', b, ok, er, ev, q⟩ => ?_
      simp only [evCo] at ev
      cases ev
      exact q H z rfl ok .refl
  | some c =>
    cases ifs with
    | nil => simp [chkCo] at h
    | cons e r =>
      cases r with
      | cons _ _ => simp [chkCo] at h
      | nil =>
        simp only [chkCo] at h
        refine (pts_one (hc Γ X e XO h).pt).imp fun σ H Q ⟨z, en, st', b, ok, er, ev, q⟩ => ?_
        simp only [evCo] at ev
        obtain ⟨x, s1, e1, ev⟩ := bind_ok ev
        obtain ⟨ev2, hst⟩ := opt_ok ev
        subst hst
        exact ⟨z, en, x, _, b, ok, er, e1, ev2, q⟩
theorem lc_imp {K : PySem.W.Frag} {own : List Nat} {t : T} {it : I} {cond : Co} {elt : C} (hown : ∀ i ∈ slotsT t, i ∈ own) {σ : L2.St} {H : Hp} {Q : VK} (h : tE K true cf (.lc own t it cond elt) σ H Q) :
    tLc (iT K cf it) (gT K cf t) (tCo K cf cond) (tE K false cf elt) own σ H Q := by
  obtain ⟨z, en, d, st', ok, er, ev, q⟩ := h
  simp only [evE] at ev
  obtain ⟨p, s1, e1, ev⟩ := bind_ok ev
  have hg0 := evI_held e1
  obtain ⟨accF, s6, e2, ev⟩ := bind_ok ev
  cases ev
  refine ⟨z, en, p, s1, ok, er, e1, fun H1 z1 J hs1 ok1 t1 walk Dn hD => ?_⟩
  subst hs1
  have hz1 := ok1.none hD
  have hH : H Dn = none := t1.there _ hD
  generalize hF : (fun x (acc : List D) s2 => (asT cf t x (wipe en own) s2).bind fun en2 s3 => (evCo cf cond en2 s3).bind fun b s4 =>
      if b = true then (evE cf elt en2 s4).bind fun y s5 => guardB (decide (acc.length < line) && held p.2 s5) (R.ok (acc ++ [y]) s5) else guardB (held p.2 s4) (R.ok acc s4)) = F at e2
  let P : Nat → Hp → Prop := fun i Hn => ∃ zn acc vs, Ok K Hn zn ∧ To H1 z1 Hn zn ∧ zn.he Dn = none ∧ Hn Dn = some (.lst vs) ∧ DVsz K zn acc vs ∧ held p.2 zn.st = true ∧ foldR F (p.1.drop i) acc zn.st = .ok accF st'
  refine ⟨fun i m Hn => m = p.1.length - i ∧ i ≤ p.1.length ∧ P i Hn, ⟨_, rfl, Nat.zero_le _, z1, [], [], ok1.at hz1, To.refl.at hD, hz1, upd_same, .nil, hg0, e2⟩, ?_⟩
  rintro i m Hn ⟨rfl, hi, zn, acc, vs, okn, tn, hzn, hHn, dvs, hgn, fl⟩
  by_cases hlt : i < p.1.length
  · refine .inr ⟨walk.go i Hn zn hlt okn tn hgn, P (i + 1), fun H' p' => ⟨p.1.length - (i + 1), by omega, rfl, hlt, p'⟩, fun x H' y => ?_⟩
    obtain ⟨z2, d, hz2, ok2, t2, hd, dv⟩ := walk.yld i Hn zn x H' hlt okn tn hgn y
    have hcons : p.1.drop i = d :: p.1.drop (i + 1) := by
      obtain ⟨hl, he⟩ := List.getElem?_eq_some_iff.mp hd
      rw [List.drop_eq_getElem_cons hl, he]
    rw [hcons] at fl
    unfold foldR at fl
    obtain ⟨acc2, s7, e3, fl⟩ := bind_ok fl
    rw [← hF] at e3
    obtain ⟨en2, s3, e4, e3⟩ := bind_ok e3
    obtain ⟨b, s4, e5, e3⟩ := bind_ok e3
    rw [← hz2] at e4
    refine ⟨z2, wipe en own, d, en2, s3, ok2, wipe_env (ok.env (t1.trans (tn.trans t2)) er) own, dv, e4, fun H3 z3 σ3 hs3 ok3 t3 er3 w3 => ⟨(w3 own hown).trans wipe_wipe, z3, en2, s4, b, ok3, er3, by rw [hs3]; exact e5, fun H4 z4 hs4 ok4 t4 => ?_⟩⟩
    have t24 : To Hn zn H4 z4 := t2.trans (t3.trans t4)
    cases b with
    | true =>
      dsimp only
      rw [if_pos rfl] at e3 ⊢
      obtain ⟨y, s5, e6, e3⟩ := bind_ok e3
      obtain ⟨g, e3⟩ := guard_ok e3
      cases e3
      simp only [Bool.and_eq_true] at g
      refine ⟨z4, en2, y, s7, ok4, ok3.env t4 er3, by rw [hs4]; exact e6, fun H5 z5 v hs5 ok5 t5 dv5 _ => ?_⟩
      have t25 : To Hn zn H5 z5 := t24.trans t5
      obtain ⟨k1, k2⟩ := t25.hid Dn _ hHn hzn
      refine ⟨vs, k1, by rw [← dvs.length, ← line_eq]; exact of_decide_eq_true g.1, z5, acc ++ [y], vs ++ [v], ok5.at k2, (tn.trans t25).at hD, k2, upd_same, (okn.dvs t25 dvs).append (.cons dv5 .nil), by rw [hs5]; exact g.2, by rw [hs5]; exact fl⟩
    | false =>
      dsimp only
      rw [if_neg (by decide)] at e3 ⊢
      obtain ⟨g, e3⟩ := guard_ok e3
      cases e3
      obtain ⟨k1, k2⟩ := t24.hid Dn _ hHn hzn
      exact ⟨z4, acc, vs, ok4, tn.trans t24, k2, k1, okn.dvs t24 dvs, by rw [hs4]; exact g, by rw [hs4]; exact fl⟩
  · have ei : i = p.1.length := by omega
    subst ei
    refine .inl ⟨walk.stop Hn zn okn tn hgn, ?_⟩
    rw [List.drop_length] at fl
    unfold foldR at fl
    cases fl
    exact q.lstAt rfl okn (t1.trans tn) hH hzn hHn dvs
/-- {k: v for t in it if cond} -/
theorem dc_imp {K : PySem.W.Frag} {own : List Nat} {t : T} {it : I} {cond : Co} {ck cv : C} (hown : ∀ i ∈ slotsT t, i ∈ own) {σ : L2.St} {H : Hp} {Q : VK} (h : tE K true cf (.dc own t it cond ck cv) σ H Q) :
    tDc (iT K cf it) (gT K cf t) (tCo K cf cond) (tE K false cf ck) (tE K false cf cv) own σ H Q := by
  obtain ⟨z, en, d, st', ok, er, ev, q⟩ := h
  simp only [evE] at ev
  obtain ⟨p, s1, e1, ev⟩ := bind_ok ev
  have hg0 := evI_held e1
  obtain ⟨accF, s6, e2, ev⟩ := bind_ok ev
  cases ev
  refine ⟨z, en, p, s1, ok, er, e1, fun H1 z1 J hs1 ok1 t1 walk Dn hD => ?_⟩
  subst hs1
  have hz1 := ok1.none hD
  have hH : H Dn = none := t1.there _ hD
  generalize hF : (fun x (acc : List D) s2 => (asT cf t x (wipe en own) s2).bind fun en2 s3 => (evCo cf cond en2 s3).bind fun b s4 =>
      if b = true then (evE cf ck en2 s4).bind fun y s5 => (evE cf cv en2 s5).bind fun z s6 => guardB (isKey y && decide (acc.length < line) && held p.2 s6) (R.ok (dput acc y z) s6) else guardB (held p.2 s4) (R.ok acc s4)) = F at e2
  let P : Nat → Hp → Prop := fun i Hn => ∃ zn acc vs, Ok K Hn zn ∧ To H1 z1 Hn zn ∧ zn.he Dn = none ∧ Hn Dn = some (.dK vs) ∧ DKsz K zn acc vs ∧ held p.2 zn.st = true ∧ foldR F (p.1.drop i) acc zn.st = .ok accF st'
  refine ⟨fun i m Hn => m = p.1.length - i ∧ i ≤ p.1.length ∧ P i Hn, ⟨_, rfl, Nat.zero_le _, z1, [], [], ok1.at hz1, To.refl.at hD, hz1, upd_same, .nil, hg0, e2⟩, ?_⟩
  rintro i m Hn ⟨rfl, hi, zn, acc, vs, okn, tn, hzn, hHn, dvs, hgn, fl⟩
  by_cases hlt : i < p.1.length
  · refine .inr ⟨walk.go i Hn zn hlt okn tn hgn, P (i + 1), fun H' p' => ⟨p.1.length - (i + 1), by omega, rfl, hlt, p'⟩, fun x H' y => ?_⟩
    obtain ⟨z2, d, hz2, ok2, t2, hd, dv⟩ := walk.yld i Hn zn x H' hlt okn tn hgn y
    have hcons : p.1.drop i = d :: p.1.drop (i + 1) := by
      obtain ⟨hl, he⟩ := List.getElem?_eq_some_iff.mp hd
      rw [List.drop_eq_getElem_cons hl, he]
    rw [hcons] at fl
    unfold foldR at fl
    obtain ⟨acc2, s7, e3, fl⟩ := bind_ok fl
    rw [← hF] at e3
    obtain ⟨en2, s3, e4, e3⟩ := bind_ok e3
    obtain ⟨b, s4, e5, e3⟩ := bind_ok e3
    rw [← hz2] at e4
    refine ⟨z2, wipe en own, d, en2, s3, ok2, wipe_env (ok.env (t1.trans (tn.trans t2)) er) own, dv, e4, fun H3 z3 σ3 hs3 ok3 t3 er3 w3 => ⟨(w3 own hown).trans wipe_wipe, z3, en2, s4, b, ok3, er3, by rw [hs3]; exact e5, fun H4 z4 hs4 ok4 t4 => ?_⟩⟩
    have t24 : To Hn zn H4 z4 := t2.trans (t3.trans t4)
    cases b with
    | true =>
      dsimp only
      rw [if_pos rfl] at e3 ⊢
      obtain ⟨y, s5, e6, e3⟩ := bind_ok e3
      obtain ⟨w, s6, e7, e3⟩ := bind_ok e3
      obtain ⟨g, e3⟩ := guard_ok e3
      cases e3
      simp only [Bool.and_eq_true] at g
      refine ⟨z4, en2, y, s5, ok4, ok3.env t4 er3, by rw [hs4]; exact e6, fun H5 z5 v hs5 ok5 t5 dv5 _ => ?_⟩
      refine ⟨z5, en2, w, s7, ok5, ok4.env t5 (ok3.env t4 er3), by rw [hs5]; exact e7, fun H6 z6 v6 hs6 ok6 t6 dv6 _ => ?_⟩
      have t26 : To Hn zn H6 z6 := t24.trans (t5.trans t6)
      obtain ⟨k1, k2⟩ := t26.hid Dn _ hHn hzn
      obtain ⟨kk, rfl, rfl⟩ := key_of dv5 g.1.1
      refine ⟨vs, kk, rfl, k1, by rw [← dvs.length, ← line_eq]; exact of_decide_eq_true g.1.2, z6, dput acc (kD kk) w, putK vs kk v6, ok6.at k2, (tn.trans t26).at hD, k2, upd_same, dput_ok kk dv6 (dvs.mono t26.ext okn.sim), by rw [hs6]; exact g.2, by rw [hs6]; exact fl⟩
    | false =>
      dsimp only
      rw [if_neg (by decide)] at e3 ⊢
      obtain ⟨g, e3⟩ := guard_ok e3
      cases e3
      obtain ⟨k1, k2⟩ := t24.hid Dn _ hHn hzn
      exact ⟨z4, acc, vs, ok4, tn.trans t24, k2, k1, dvs.mono t24.ext okn.sim, by rw [hs4]; exact g, by rw [hs4]; exact fl⟩
  · have ei : i = p.1.length := by omega
    subst ei
    refine .inl ⟨walk.stop Hn zn okn tn hgn, ?_⟩
    rw [List.drop_length] at fl
    unfold foldR at fl
    cases fl
    exact q.dctAt rfl okn (t1.trans tn) hH hzn hHn dvs
/-- what a list comprehension's rule asks -/
structure LcP (X : Cx) (cf : CallF) (own : List Nat) (t : T) (it : I) (cond : Co) (elt : C) (tg iter el : Expr) (ifs : List Expr) (scope : Scope) (o : List (Str × Nat)) : Prop where
  eo : o.map (·.2) = own
  sub : ∀ i ∈ slotsT t, i ∈ own
  pi : PI X tg iter (iT X.K cf it)
  blk : BlkOk X.N X.env.scope scope o
  pg : ∀ (s : Shared) (H : Hp) (C : Addr) (cl : List (Str × Addr)) (fp : List Addr), PG (X.blk s H scope (compEnvC scope cl C X.env) fp) tg (gT X.K cf t)
  pt : ∀ (s : Shared) (H : Hp) (C : Addr) (cl : List (Str × Addr)) (fp : List Addr), PTs (X.blk s H scope (compEnvC scope cl C X.env) fp) ifs (tCo X.K cf cond)
  pe : ∀ (s : Shared) (H : Hp) (C : Addr) (cl : List (Str × Addr)) (fp : List Addr), PE (X.blk s H scope (compEnvC scope cl C X.env) fp) el (tE X.K false cf elt)
  fold : ∀ x, foldedSetIterable iter X.env x = pure x
theorem lc_parts {own : List Nat} {t : T} {it : I} {cond : Co} {elt : C} {tg iter el : Expr} {ifs : List Expr} {scope : Scope} (XO : XOk Γ cf X) (ht : SndT cf t) (hi : SndI cf it) (hc : OptC cf cond) (he : SndC cf elt) (h1 : blkC Γ.N Γ.sc scope (ownOf Γ.N own) = true) (h2 : decide ((ownOf Γ.N own).map (·.2) = own) = true)
    (h3 : chkI Γ it tg iter = true) (h4 : chkT (Γ.blk scope) t tg = true) (h5 : (slotsT t).all (own.contains ·) = true) (h6 : chkCo (Γ.blk scope) cond ifs = true) (h7 : chkE (Γ.blk scope) elt el = true) : LcP X cf own t it cond elt tg iter el ifs scope (ownOf Γ.N own) where
  eo := of_decide_eq_true h2
  sub := fun i hi => by
    have := List.all_eq_true.mp h5 i hi
    simpa using this
  pi := (hi Γ X tg iter XO h3).1
  blk := blkOk_by (by rw [XO.N, XO.sc]; exact h1)
  pg := fun s H C cl fp => (ht _ _ tg (XO.blk s H scope C cl fp) h4).1
  pt := fun s H C cl fp => pts_of (XO.blk s H scope C cl fp) hc h6
  pe := fun s H C cl fp => (he _ _ el (XO.blk s H scope C cl fp) h7).pe0
  fold := plain_fold (hi Γ X tg iter XO h3).2
theorem LcP.run {own : List Nat} {t : T} {it : I} {cond : Co} {elt : C} {tg iter el : Expr} {ifs : List Expr} {scope : Scope} {o : List (Str × Nat)} {pos : Pos} (XO : XOk Γ cf X) (p : LcP X cf own t it cond elt tg iter el ifs scope o) : PE X (.ListComp el [⟨tg, iter, ifs, 0⟩] scope pos) (tE X.K true cf (.lc own t it cond elt)) := by
  have := pe_lc (pos := pos) XO.calm XO.nd p.pi p.blk p.pg p.pt p.pe p.fold
  rw [p.eo] at this
  exact this.imp fun σ H Q q => lc_imp p.sub q
theorem snd_lc {own : List Nat} {t : T} {it : I} {cond : Co} {elt : C} (ht : SndT cf t) (hi : SndI cf it) (hc : OptC cf cond) (he : SndC cf elt) : SndC cf (.lc own t it cond elt) := fun Γ X e XO h => by
  simp only [chkE] at h
  split at h
  · rename_i el tg iter ifs ia scope pos
    simp only [Bool.and_eq_true] at h
    obtain ⟨⟨⟨⟨⟨⟨⟨h0, h1⟩, h2⟩, h3⟩, h4⟩, h5⟩, h6⟩, h7⟩ := h
    have h0 := of_decide_eq_true h0
    subst h0
    exact .plain rfl ((lc_parts XO ht hi hc he h1 h2 h3 h4 h5 h6 h7).run XO)
  · cases h
theorem snd_dc {own : List Nat} {t : T} {it : I} {cond : Co} {ck cv : C} (ht : SndT cf t) (hi : SndI cf it) (hc : OptC cf cond) (hk : SndC cf ck) (he : SndC cf cv) : SndC cf (.dc own t it cond ck cv) := fun Γ X e XO h => by
  simp only [chkE] at h
  split at h
  · rename_i kl vl tg iter ifs ia scope pos
    simp only [Bool.and_eq_true] at h
    obtain ⟨⟨⟨⟨⟨⟨⟨⟨h0, h1⟩, h2⟩, h3⟩, h4⟩, h5⟩, h6⟩, h7⟩, h8⟩ := h
    have h0 := of_decide_eq_true h0
    subst h0
    have p := lc_parts XO ht hi hc he h1 h2 h3 h4 h5 h6 h8
    have := pe_dc (pos := pos) (tk := tE X.K false cf ck) XO.calm XO.nd p.pi p.blk p.pg p.pt (fun s H C cl fp => (hk _ _ kl (XO.blk s H scope C cl fp) h7).pe0) p.pe p.fold
    rw [p.eo] at this
    exact .plain rfl (this.imp fun σ H Q q => dc_imp p.sub q)
  · cases h
end
mutual
theorem sndC (cf : CallF) : ∀ c : C, SndC cf c
  | .lit d => snd_lit d
  | .var i => snd_var i
  | .tup es => snd_tup (sndCs cf es)
  | .list es => snd_list (sndCs cf es)
  | .dict ks vs => snd_dict (sndCs cf vs)
  | .mut e => snd_mut (sndC cf e)
  | .bin op a b => snd_bin (sndC cf a) (sndC cf b)
  | .neg a => snd_neg (sndC cf a)
  | .cmp op a b => snd_cmp (sndC cf a) (sndC cf b)
  | .and a b => snd_and (sndC cf a) (sndC cf b) (sub1 cf a) (sub1 cf b)
  | .or a b => snd_or (sndC cf a) (sndC cf b)
  | .not a => snd_not (sndC cf a)
  | .ife c a b => snd_ife (sndC cf c) (sndC cf a) (sndC cf b)
  | .ix a b => snd_ix (sndC cf a) (sndC cf b)
  | .sl a lo hi => snd_sl (sndC cf a) (sndCo cf lo) (sndCo cf hi)
  | .call f es io fresh => snd_call (sndCs cf es)
  | .callS f es => snd_callS (sndCs cf es)
  | .bi f es => snd_bi (sortedSet_ok cf) (sndCs cf es)
  | .mt m o es => snd_mt (sndC cf o) (sndCs cf es)
  | .isi a ts => snd_isi (sndC cf a)
  | .lc own t it cond elt => snd_lc (sndT cf t) (sndI cf it) (sndCo cf cond) (sndC cf elt)
  | .dc own t it cond k v => snd_dc (sndT cf t) (sndI cf it) (sndCo cf cond) (sndC cf k) (sndC cf v)
theorem sub1 (cf : CallF) : ∀ c : C, Sub1 cf c
  | .cmp _ a b => ⟨sndC cf a, sndC cf b⟩
  | .lit _ | .var _ | .tup _ | .list _ | .dict _ _ | .mut _ | .bin _ _ _ | .neg _ | .and _ _ | .or _ _ | .not _ | .ife _ _ _ | .ix _ _ | .sl _ _ _ | .call _ _ _ _ | .callS _ _ | .bi _ _ | .mt _ _ _ | .isi _ _ | .lc _ _ _ _ _ | .dc _ _ _ _ _ _ => trivial
theorem sndCs (cf : CallF) : ∀ es : Cs, AllC (SndC cf) es
  | .nil => trivial
  | .cons c r => ⟨sndC cf c, sndCs cf r⟩
theorem sndCo (cf : CallF) : ∀ c : Co, OptC cf c
  | .none => trivial
  | .some c => sndC cf c
theorem sndT (cf : CallF) : ∀ t : T, SndT cf t
  | .name i => snd_tname i
  | .tup ts => snd_ttup (sndTs cf ts)
  | .sub o i => snd_tsub (sndC cf o) (sndC cf i)
theorem sndTs (cf : CallF) : ∀ t : Ts, SndTs cf t
  | .nil => snd_tsnil
  | .cons t r => snd_tscons (sndT cf t) (sndTs cf r)
theorem sndI (cf : CallF) : ∀ i : I, SndI cf i
  | .val c => snd_ival (sndC cf c)
  | .range1 a => snd_irange1 (sndC cf a)
  | .range2 a b => snd_irange2 (sndC cf a) (sndC cf b)
  | .enum c => snd_ienum (sndC cf c)
  | .zip a b => snd_izip (sndC cf a) (sndC cf b)
end
end PyE

namespace PyE
open PySem PySem.Spec PyProof.Rows L2
def isComp : Expr → Bool
  | .ListComp _ _ _ _ => true
  | .SetComp _ _ _ _ => true
  | .DictComp _ _ _ _ _ => true
  | _ => false
def isNameE : Expr → Bool
  | .Name _ _ => true
  | _ => false
def swapOff (sc : Scope) (tg v : Expr) : Bool := !isComp v || (match tg with
  | .Name t _ => !(sc.names.lookup t == some .local)
  | _ => true)
def nmsOf (sc : Scope) (line : Nat) (ts : List Expr) : List Str := ts.filterMap fun
    | .Name id pos => if sc.names.lookup id == some .local && pos.line == line then some id else none
    | _ => none
def lineOf (ts : List Expr) : Nat := (ts.head?.map (·.pos.line)).getD 0
def storesOff (sc : Scope) (tg v : Expr) : Bool := match tg, v with
  | .Tuple ts _ _, .Tuple vs _ _ => !(ts.length == 2 || ts.length == 3) || (vs.length != ts.length || ((nmsOf sc (lineOf ts) ts).length != ts.length || (nmsOf sc (lineOf ts) ts).eraseDups.length != (nmsOf sc (lineOf ts) ts).length))
  | .List _ _, _ => false
  | _, _ => true
def parB (Γ : Ct) (t : T) (e : C) (tg v : Expr) : Bool := match t, e, tg, v with
  | .tup (.cons (.name i) (.cons (.name j) .nil)), .tup es, .Tuple [.Name x px, .Name y py] _ _, .Tuple [a, b] _ _ =>
    decide (i ≠ j) && (Γ.sc.names.lookup x == some .local && (Γ.sc.names.lookup y == some .local && (py.line == px.line && (([x, y] : List Str).eraseDups.length == 2 && (!([a, b].all (foldedForSure 8)) && !([a, b].all (constantsAlone 8)))))))
  | _, _, _, _ => false
def parB3 (Γ : Ct) (t : T) (e : C) (tg v : Expr) : Bool := match t, e, tg, v with
  | .tup (.cons (.name i) (.cons (.name j) (.cons (.name l) .nil))), .tup es, .Tuple [.Name x px, .Name y py, .Name z pz] _ _, .Tuple [a, b, c] _ _ =>
    decide (i ≠ j) && decide (i ≠ l) && decide (j ≠ l) && (Γ.sc.names.lookup x == some .local && (Γ.sc.names.lookup y == some .local && (Γ.sc.names.lookup z == some .local && (py.line == px.line && (pz.line == px.line && (([x, y, z] : List Str).eraseDups.length == 3 && (!([a, b, c].all (foldedForSure 8)) && !([a, b, c].all (constantsAlone 8)))))))))
  | _, _, _, _ => false
def unMut : C → C
  | .mut c => c
  | c => c
def lcB (Γ : Ct) (t : T) (e : C) (tg v : Expr) : Bool := match t, unMut e, tg, v with
  | .name _, .lc _ _ _ _ _, .Name y py, .ListComp _ _ scope p => (Γ.sc.names.lookup y == some .local) && (py.line == p.line && !(scope.names.any fun (n, k) => n == y && (k == .local || k == .cell)))
  | _, _, _, _ => false
mutual
def chkS (Γ : Ct) : S → Stmt → Bool
  | .asg t e, st => (match st with
    | .Assign [tg] v _ => chkT Γ t tg && chkE Γ e v && ((swapOff Γ.sc tg v && (storesOff Γ.sc tg v || (parB Γ t e tg v || parB3 Γ t e tg v))) || lcB Γ t e tg v)
    | _ => false)
  | .aug i op e, st => (match st with
    | .AugAssign (.Name x _) o v _ => decide (Γ.N[i]? = some x) && locB Γ.own x && decide (o = bopOf op) && chkE Γ e v
    | _ => false)
  | .expr e, st => (match st with
    | .Expr v _ => chkE Γ e v && !isComp v
    | _ => false)
  | .ret e, st => (match st with
    | .Return (some v) _ => chkE Γ e v
    | _ => false)
  | .retN, st => (match st with
    | .Return none _ => true
    | _ => false)
  | .ife c a b, st => (match st with
    | .If t x y _ => chkE Γ c t && chkSs Γ a x && chkSs Γ b y
    | _ => false)
  | .for_ t it _ body, st => (match st with
    | .For tg iter b [] _ => chkI Γ it tg iter && chkT Γ t tg && chkSs Γ body b
    | _ => false)
  | .pass, st => (match st with
    | .Pass _ => true
    | .Expr (.Constant (.str _) _ _) _ => true
    | _ => false)
  | .brk, st => (match st with
    | .Break _ => true
    | _ => false)
  | .cont, st => (match st with
    | .Continue _ => true
    | _ => false)
def chkSs (Γ : Ct) : Ss → List Stmt → Bool
  | .nil, [] => true
  | .cons s r, st :: sts => chkS Γ s st && chkSs Γ r sts
  | _, _ => false
end
def EndS (K : PySem.W.Frag) (H : Hp) (z : Z) (f : Fl) (en' : En) (st' : Store) (D : Ends) : Prop := match f with
  | .nx => ∀ H' z' σ', z'.st = st' → Ok K H' z' → To H z H' z' → EnvR K z' en' σ' → D.nx σ' H'
  | .brk => ∀ H' z' σ', z'.st = st' → Ok K H' z' → To H z H' z' → EnvR K z' en' σ' → D.bk σ' H'
  | .ct => ∀ H' z' σ', z'.st = st' → Ok K H' z' → To H z H' z' → EnvR K z' en' σ' → D.ct σ' H'
  | .rt d => ∀ H' z' v, z'.st = st' → Ok K H' z' → To H z H' z' → DVz K z' d v → D.rt v H'
theorem EndS.trans {K : PySem.W.Frag} {H H1 : Hp} {z z1 : Z} {f : Fl} {en' : En} {st' : Store} {D : Ends} (a : To H z H1 z1) (q : EndS K H z f en' st' D) : EndS K H1 z1 f en' st' D := by
  cases f <;> exact fun H' z' w e ok t => q H' z' w e ok (a.trans t)
def tS (K : PySem.W.Frag) (cf : CallF) (s : S) : TS := fun D σ H => ∃ z en f en' st', Ok K H z ∧ EnvR K z en σ ∧ evS cf s en z.st = .ok (f, en') st' ∧ EndS K H z f en' st' D
def tSs (K : PySem.W.Frag) (cf : CallF) (s : Ss) : TS := fun D σ H => ∃ z en f en' st', Ok K H z ∧ EnvR K z en σ ∧ evSs cf s en z.st = .ok (f, en') st' ∧ EndS K H z f en' st' D
section
variable {X : Cx} {cf : CallF} {Γ : Ct}
theorem swap_off {tg v : Expr} {l : Nat} {env : Env} (h : swapOff env.scope tg v = true) : swapsWithSole [tg] v l env = pure false := by
  have nm : ∀ (t : Str) (pos : Pos) (a b c : Bool), (!(env.scope.names.lookup t == some .local)) = true → (pure (a && env.kindOf t == some .local && b && c) : Sem Bool) = pure false := fun t pos a b c h => by
    have hk : (env.kindOf t == some .local) = false := by
      rw [Bool.not_eq_true'] at h
      exact h
    rw [hk]; simp
  cases v with
  | ListComp el gs s p =>
    cases tg <;> first | rfl | (simp [swapOff, isComp] at h; done) | skip
    rename_i t pos
    exact nm t pos _ _ _ (by simpa [swapOff, isComp] using h)
  | SetComp el gs s p =>
    cases tg <;> first | rfl | (simp [swapOff, isComp] at h; done) | skip
    rename_i t pos
    exact nm t pos _ _ _ (by simpa [swapOff, isComp] using h)
  | DictComp k el gs s p =>
    cases tg <;> first | rfl | (simp [swapOff, isComp] at h; done) | skip
    rename_i t pos
    exact nm t pos _ _ _ (by simpa [swapOff, isComp] using h)
  | _ => rfl
theorem swap_none {v : Expr} {l : Nat} {env : Env} (h : isComp v = false) : swapsWith v none l env = pure false := by
  cases v <;> first | rfl | (simp [isComp] at h; done)
theorem stores_off {tg v : Expr} {env : Env} (hk : env.scope.kind = .function) (pl : plainE tg = true) (hv : ∀ vs k p, v = .Tuple vs k p → vs.all plainE = true) (h : storesOff env.scope tg v = true) : swappedStores [tg] v env = pure none := by
  have hb : env.blockKind = .function := by unfold Env.blockKind; rw [hk]; rfl
  cases tg <;> first | (cases pl; done) | skip
  case Tuple ts k p =>
    cases v <;> first | rfl | skip
    rename_i vs k2 p2
    simp only [storesOff] at h
    unfold swappedStores
    dsimp only
    by_cases c1 : (!(ts.length == 2 || ts.length == 3) || vs.length != ts.length || env.blockKind != .function) = true
    · rw [if_pos c1]
    · rw [if_neg c1, if_neg (by
        rw [Bool.not_eq_true, List.any_eq_false]
        intro e he
        have := List.all_eq_true.mp (hv vs k2 p2 rfl) e he
        cases e <;> first | (cases this; done) | simp)]
      rw [if_pos]
      simp only [Bool.or_eq_true] at h c1
      rcases h with h | h | h | h
      · exact absurd (.inl (.inl h)) c1
      · exact absurd (.inl (.inr h)) c1
      · exact (Bool.or_eq_true _ _).mpr (.inl h)
      · exact (Bool.or_eq_true _ _).mpr (.inr h)
  all_goals first | (simp [storesOff] at h; done) | rfl | (cases v <;> rfl)
theorem stores_par {x y : Str} {px py pt pt2 : Pos} {a b : Expr} {kt k2 : Nat} {env : Env} (hk : env.scope.kind = .function) (pl : [a, b].all plainE = true) (hx : env.scope.names.lookup x = some .local) (hy : env.scope.names.lookup y = some .local) (hl : (py.line == px.line) = true)
    (hd : (([x, y] : List Str).eraseDups.length == 2) = true) (h1 : [a, b].all (foldedForSure 8) = false) (h2 : [a, b].all (constantsAlone 8) = false) :
    swappedStores [.Tuple [.Name x px, .Name y py] kt pt] (.Tuple [a, b] k2 pt2) env = pure (some [x, y]) := by
  have hb : env.blockKind = .function := by unfold Env.blockKind; rw [hk]; rfl
  have kx : env.kindOf x = some .local := hx
  have ky : env.kindOf y = some .local := hy
  have hl : py.line = px.line := eq_of_beq hl
  unfold swappedStores
  dsimp only
  rw [if_neg (by rw [hb]; simp), if_neg (by
    rw [Bool.not_eq_true, List.any_eq_false]
    intro e he
    have := List.all_eq_true.mp pl e he
    cases e <;> first | (cases this; done) | simp)]
  have e1 : ([Expr.Name x px, Expr.Name y py].filterMap fun
    | .Name id pos => if env.kindOf id == some .local && pos.line == (([Expr.Name x px, Expr.Name y py].head?).map (·.pos.line)).getD 0 then some id else none
    | _ => none) = [x, y] := by
    simp [List.filterMap, kx, ky, hl, Expr.pos]
  have hd := eq_of_beq hd
  rw [if_neg (by erw [e1]; simp [hd]), h1, h2]
  simp only [Bool.false_eq_true, if_false]
  erw [e1]
theorem stores_par3 {x y w : Str} {px py pw pt pt2 : Pos} {a b c : Expr} {kt k2 : Nat} {env : Env} (hk : env.scope.kind = .function) (pl : [a, b, c].all plainE = true) (hx : env.scope.names.lookup x = some .local) (hy : env.scope.names.lookup y = some .local) (hw : env.scope.names.lookup w = some .local) (hl : (py.line == px.line) = true) (hl2 : (pw.line == px.line) = true)
    (hd : (([x, y, w] : List Str).eraseDups.length == 3) = true) (h1 : [a, b, c].all (foldedForSure 8) = false) (h2 : [a, b, c].all (constantsAlone 8) = false) :
    swappedStores [.Tuple [.Name x px, .Name y py, .Name w pw] kt pt] (.Tuple [a, b, c] k2 pt2) env = pure (some [x, y, w]) := by
  have hb : env.blockKind = .function := by unfold Env.blockKind; rw [hk]; rfl
  have kx : env.kindOf x = some .local := hx
  have ky : env.kindOf y = some .local := hy
  have kw : env.kindOf w = some .local := hw
  have hl : py.line = px.line := eq_of_beq hl
  have hl2 : pw.line = px.line := eq_of_beq hl2
  unfold swappedStores
  dsimp only
  rw [if_neg (by rw [hb]; simp), if_neg (by
    rw [Bool.not_eq_true, List.any_eq_false]
    intro e he
    have := List.all_eq_true.mp pl e he
    cases e <;> first | (cases this; done) | simp)]
  have e1 : ([Expr.Name x px, Expr.Name y py, Expr.Name w pw].filterMap fun
    | .Name id pos => if env.kindOf id == some .local && pos.line == (([Expr.Name x px, Expr.Name y py, Expr.Name w pw].head?).map (·.pos.line)).getD 0 then some id else none
    | _ => none) = [x, y, w] := by
    simp [List.filterMap, kx, ky, kw, hl, hl2, Expr.pos]
  have hd := eq_of_beq hd
  rw [if_neg (by erw [e1]; simp [hd]), h1, h2]
  simp only [Bool.false_eq_true, if_false]
  erw [e1]
theorem EnvR.wipeE {K : PySem.W.Frag} {z : Z} {en : En} {σ : L2.St} (h : EnvR K z en σ) : ∀ vs : List Nat, EnvR K z (wipe en vs) σ
  | [] => h
  | v :: vs => by
    have ih := EnvR.wipeE h vs
    unfold wipe
    refine ⟨by rw [List.length_set]; exact ih.1, fun j d e => ?_⟩
    by_cases hj : v = j
    · subst hj
      by_cases hl : v < (wipe en vs).length
      · rw [List.getElem?_set_self hl] at e; cases e
      · rw [List.getElem?_eq_none (by rw [List.length_set]; omega)] at e; cases e
    · rw [List.getElem?_set_ne hj] at e
      exact ih.2 j d e
theorem asg_imp {K : PySem.W.Frag} {t : T} {e : C} {D : Ends} {σ : L2.St} {H : Hp} (h : tS K cf (.asg t e) D σ H) : tE K false cf e σ H (fun x H1 => gT K cf t x σ H1 D.nx) := by
  obtain ⟨z, en, f, en', st', ok, er, ev, q⟩ := h
  simp only [evS] at ev
  obtain ⟨x, s1, e1, ev⟩ := bind_ok ev
  obtain ⟨en1, s2, e2, ev⟩ := bind_ok ev
  cases ev
  refine ⟨z, en, x, s1, ok, er, e1, fun H1 z1 v hs1 ok1 t1 dv _ => ?_⟩
  subst hs1
  exact ⟨z1, en, x, en', st', ok1, ok.env t1 er, dv, e2, fun H2 z2 σ2 hs2 ok2 t2 er2 _ => q H2 z2 σ2 hs2 ok2 (t1.trans t2) er2⟩
theorem gT_name {K : PySem.W.Frag} {i : Nat} {v : V} {σ : L2.St} {H : Hp} {Q : L2.St → Hp → Prop} (h : gT K cf (.name i) v σ H Q) : gName i v σ H Q := by
  obtain ⟨z, en, d, en', st', ok, er, dv, ev, q⟩ := h
  simp only [asT] at ev
  cases ev
  exact q H z _ rfl ok .refl (er.set dv i) fun vs hv => wipe_set (hv i (by simp [slotsT]))
theorem par_imp {K : PySem.W.Frag} {i j : Nat} {es : Cs} {D : Ends} {σ : L2.St} {H : Hp} (h : tS K cf (.asg (.tup (.cons (.name i) (.cons (.name j) .nil))) (.tup es)) D σ H) : tPar i j (tEs K cf es) D σ H := by
  obtain ⟨z, en, f, en', st', ok, er, ev, q⟩ := h
  simp only [evS, evE] at ev
  obtain ⟨x, s1, e1, ev⟩ := bind_ok ev
  obtain ⟨xs, s0, e0, e1⟩ := bind_ok e1
  obtain ⟨g, e1⟩ := guard_ok e1
  cases e1
  obtain ⟨en1, s2, e2, ev⟩ := bind_ok ev
  cases ev
  simp only [asT] at e2
  have e2 : asTs cf (.cons (.name i) (.cons (.name j) .nil)) xs en s1 = .ok en' st' := e2
  refine ⟨z, en, xs, s1, ok, er, e0, fun H1 z1 vs hs1 ok1 t1 dv => ?_⟩
  subst hs1
  cases dv with
  | nil => simp only [asTs] at e2; cases e2
  | cons d1 dv =>
    cases dv with
    | nil => simp only [asTs, asT] at e2; cases e2
    | cons d2 dv =>
      cases dv with
      | cons _ _ => simp only [asTs, asT] at e2; cases e2
      | nil =>
        simp only [asTs, asT] at e2
        cases e2
        exact ⟨_, _, rfl, q H1 z1 _ rfl ok1 t1 (((ok.env t1 er).set d1 i).set d2 j)⟩
theorem par3_imp {K : PySem.W.Frag} {i j l : Nat} {es : Cs} {D : Ends} {σ : L2.St} {H : Hp} (h : tS K cf (.asg (.tup (.cons (.name i) (.cons (.name j) (.cons (.name l) .nil)))) (.tup es)) D σ H) : tPar3 i j l (tEs K cf es) D σ H := by
  obtain ⟨z, en, f, en', st', ok, er, ev, q⟩ := h
  simp only [evS, evE] at ev
  obtain ⟨x, s1, e1, ev⟩ := bind_ok ev
  obtain ⟨xs, s0, e0, e1⟩ := bind_ok e1
  obtain ⟨g, e1⟩ := guard_ok e1
  cases e1
  obtain ⟨en1, s2, e2, ev⟩ := bind_ok ev
  cases ev
  simp only [asT] at e2
  have e2 : asTs cf (.cons (.name i) (.cons (.name j) (.cons (.name l) .nil))) xs en s1 = .ok en' st' := e2
  refine ⟨z, en, xs, s1, ok, er, e0, fun H1 z1 vs hs1 ok1 t1 dv => ?_⟩
  subst hs1
  cases dv with
  | nil => simp only [asTs] at e2; cases e2
  | cons d1 dv =>
    cases dv with
    | nil => simp only [asTs, asT] at e2; cases e2
    | cons d2 dv =>
      cases dv with
      | nil => simp only [asTs, asT] at e2; cases e2
      | cons d3 dv =>
        cases dv with
        | cons _ _ => simp only [asTs, asT] at e2; cases e2
        | nil =>
          simp only [asTs, asT] at e2
          cases e2
          exact ⟨_, _, _, rfl, q H1 z1 _ rfl ok1 t1 ((((ok.env t1 er).set d1 i).set d2 j).set d3 l)⟩
def SndS (cf : CallF) (s : S) : Prop := ∀ Γ X st, XOk Γ cf X → X.env.scope.kind = .function → PassesOwn (model X.prog X.w) X.A X.env X.xe → chkS Γ s st = true → PS X st (tS X.K cf s)
def SndSs (cf : CallF) (s : Ss) : Prop := ∀ Γ X st, XOk Γ cf X → X.env.scope.kind = .function → PassesOwn (model X.prog X.w) X.A X.env X.xe → chkSs Γ s st = true → PSs X st (tSs X.K cf s)
theorem chk_tup_plain {es : C} {vs : List Expr} {k : Nat} {p : Pos} (h : chkE Γ es (.Tuple vs k p) = true) : vs.all plainE = true := by
  have : ∀ c : C, chkE Γ c (.Tuple vs k p) = true → vs.all plainE = true := by
    intro c
    cases c <;> intro h <;> first | (simp only [chkE] at h; exact chkEs_plain h) | (simp [chkE] at h; done) | skip
    all_goals (simp only [chkE, Bool.and_eq_true] at h)
    rename_i c
    obtain ⟨h0, h⟩ := h
    cases c <;> first | (simp [chkE] at h; done) | (simp [freC] at h0; done)
  exact this es h
theorem snd_asg {t : T} {e : C} : SndS cf (.asg t e) := fun Γ X st XO hk hp h => by
  simp only [chkS] at h
  split at h
  · rename_i tg v pos
    simp only [Bool.and_eq_true] at h
    obtain ⟨⟨h1, h2⟩, h3⟩ := h
    obtain ⟨pg, ptg⟩ := sndT cf t Γ X tg XO h1
    have pe := (sndC cf e Γ X v XO h2).pe0
    rw [Bool.or_eq_true] at h3
    rcases h3 with h3 | h3
    · rw [Bool.and_eq_true] at h3
      obtain ⟨h4, h5⟩ := h3
      rw [Bool.or_eq_true] at h5
      rcases h5 with h5 | h5
      · exact (ps_asg pe pg (swap_off (by rw [XO.sc]; exact h4)) (stores_off hk ptg (fun vs k p e => by subst e; exact chk_tup_plain h2) (by rw [XO.sc]; exact h5)) (by rw [plain_assign ptg]; rfl)).imp fun D σ H q => asg_imp q
      · rw [Bool.or_eq_true] at h5
        rcases h5 with h5 | h5
        · unfold parB at h5
          split at h5
          · rename_i i j es x px y py kt pt a b k2 pt2
            simp only [Bool.and_eq_true, Bool.not_eq_true'] at h5
            obtain ⟨a1, a2, a3, a4, a5, a6, a7⟩ := h5
            simp only [chkT, chkTs, Bool.and_eq_true] at h1
            simp only [chkE] at h2
            have hx : X.env.scope.names.lookup x = some .local := by rw [XO.sc]; exact eq_of_beq a2
            have hy : X.env.scope.names.lookup y = some .local := by rw [XO.sc]; exact eq_of_beq a3
            exact (ps_par XO.calm XO.nd (by rw [XO.N]; exact of_decide_eq_true h1.1.1) (by rw [XO.N]; exact of_decide_eq_true h1.2.1.1) (of_decide_eq_true a1) hx hy (pa_of XO (sndCs cf es) h2) (stores_par hk (chkEs_plain h2) hx hy a4 a5 a6 a7) (swap_off (by rw [XO.sc]; exact h4))).imp fun D σ H q => par_imp q
          · cases h5
        · unfold parB3 at h5
          split at h5
          · rename_i i j l es x px y py w pw kt pt a b c k2 pt2
            simp only [Bool.and_eq_true, Bool.not_eq_true'] at h5
            obtain ⟨⟨⟨a1, b1⟩, b2⟩, a2, a3, b3, a4, b4, a5, a6, a7⟩ := h5
            simp only [chkT, chkTs, Bool.and_eq_true] at h1
            simp only [chkE] at h2
            have hx : X.env.scope.names.lookup x = some .local := by rw [XO.sc]; exact eq_of_beq a2
            have hy : X.env.scope.names.lookup y = some .local := by rw [XO.sc]; exact eq_of_beq a3
            have hw : X.env.scope.names.lookup w = some .local := by rw [XO.sc]; exact eq_of_beq b3
            exact (ps_par3 XO.calm XO.nd (by rw [XO.N]; exact of_decide_eq_true h1.1.1) (by rw [XO.N]; exact of_decide_eq_true h1.2.1.1) (by rw [XO.N]; exact of_decide_eq_true h1.2.2.1.1) (of_decide_eq_true a1) (of_decide_eq_true b1) (of_decide_eq_true b2) hx hy hw (pa_of XO (sndCs cf es) h2) (stores_par3 hk (chkEs_plain h2) hx hy hw a4 b4 a5 a6 a7) (swap_off (by rw [XO.sc]; exact h4))).imp fun D σ H q => par3_imp q
          · cases h5
    · unfold lcB at h3
      split at h3
      · rename_i i own t2 it cond elt y py el gs scope p hu
        simp only [Bool.and_eq_true, Bool.not_eq_true'] at h3
        obtain ⟨a1, a2, a3⟩ := h3
        have hy : X.env.scope.names.lookup y = some .local := by rw [XO.sc]; exact eq_of_beq a1
        simp only [chkT, Bool.and_eq_true] at h1
        have fin : chkE Γ (.lc own t2 it cond elt) (.ListComp el gs scope p) = true ∧ ∀ D σ H, tS X.K cf (.asg (.name i) e) D σ H → tE X.K true cf (.lc own t2 it cond elt) σ H (fun x H1 => gName i x σ H1 D.nx) := by
          have go : ∀ {c : C} {D : Ends} {σ : L2.St} {H : Hp} {fr : Bool}, tE X.K fr cf c σ H (fun x H1 => gT X.K cf (.name i) x σ H1 D.nx) → tE X.K fr cf c σ H (fun x H1 => gName i x σ H1 D.nx) := fun {c D σ H fr} ⟨z, en, d, st', ok, er, ev, q⟩ => ⟨z, en, d, st', ok, er, ev, fun H' z' v hs ok' t' dv f => gT_name (q H' z' v hs ok' t' dv f)⟩
          cases e with
          | lc o t3 i3 c3 e3 =>
            cases hu
            exact ⟨h2, fun D σ H q => go (tE_weak (asg_imp q))⟩
          | «mut» c =>
            have hu : c = .lc own t2 it cond elt := hu
            subst hu
            have h2 : (freC (.lc own t2 it cond elt) && chkE Γ (.lc own t2 it cond elt) (.ListComp el gs scope p)) = true := by
              rw [chkE] at h2; exact h2
            rw [Bool.and_eq_true] at h2
            exact ⟨h2.2, fun D σ H q => go (mut_imp (asg_imp q))⟩
          | _ => cases hu
        obtain ⟨h2, fin⟩ := fin
        simp only [chkE] at h2
        split at h2
        · rename_i el' tg2 iter ifs ia scope' pos' heq
          cases heq
          simp only [Bool.and_eq_true] at h2
          obtain ⟨⟨⟨⟨⟨⟨⟨g0, g1⟩, g2⟩, g3⟩, g4⟩, g5⟩, g6⟩, g7⟩ := h2
          have g0 := of_decide_eq_true g0
          subst g0
          have lp := lc_parts XO (sndT cf t2) (sndI cf it) (sndCo cf cond) (sndC cf elt) g1 g2 g3 g4 g5 g6 g7
          have := ps_setLc (spos := pos) (py := py) (pos := p) XO.calm XO.nd (by rw [XO.N]; exact of_decide_eq_true h1.1) hy (sw_true hk hy a2 a3) lp.pi lp.blk lp.pg lp.pt lp.pe lp.fold
          rw [lp.eo] at this
          exact this.imp fun D σ H q => lc_imp lp.sub (fin D σ H q)
        · cases h2
      · cases h3
  · cases h
end
end PyE

namespace PyE
open PySem PySem.Spec PyProof.Rows L2
section
variable {X : Cx} {cf : CallF} {Γ : Ct}
theorem aug_ok (op : BOp) : PIp X (bopOf op) (rD2 X.K false (augD op)) := by
  intro pins s σ H x y v u Q I rx ry h
  obtain ⟨z, dx, dy, d, st', ok, vx, vy, he, q⟩ := h
  unfold augD at he
  split at he
  · rename_i i j
    cases vx
    cases vy
    split at he
    · cases he
    · rename_i hop
      have v0 : ∀ k : Int, view z.st (.int k) = .int k := fun _ => rfl
      cases op <;> first | exact absurd rfl hop | skip
      · cases he; exact iop_add pins s σ H _ _ v u Q I rx ry ⟨i, j, rfl, rfl, q.same ok (.int _)⟩
      · cases he; exact iop_sub pins s σ H _ _ v u Q I rx ry ⟨i, j, rfl, rfl, q.same ok (.int _)⟩
      · have he : guardB (mulOk i j) (.ok (.int (i * j)) z.st) = .ok d st' := he
        obtain ⟨g, he⟩ := guard_ok he
        cases he; exact iop_mul pins s σ H _ _ v u Q I rx ry ⟨i, j, rfl, rfl, mulOk_C g, q.same ok (.int _)⟩
      · have he : guardB (decide (0 < j) && decide (j < 1073741824)) (.ok (.int (i / j)) z.st) = .ok d st' := he
        obtain ⟨g, he⟩ := guard_ok he
        simp only [Bool.and_eq_true, decide_eq_true_eq] at g
        cases he; exact iop_fdiv pins s σ H _ _ v u Q I rx ry ⟨i, j, rfl, rfl, g, q.same ok (.int _)⟩
      · have he : guardB (decide (0 < j)) (.ok (.int (i % j)) z.st) = .ok d st' := he
        obtain ⟨g, he⟩ := guard_ok he
        cases he; exact iop_mod pins s σ H _ _ v u Q I rx ry ⟨i, j, rfl, rfl, of_decide_eq_true g, q.same ok (.int _)⟩
      · cases he; exact iop_xor pins s σ H _ _ v u Q I rx ry ⟨i, j, rfl, rfl, q.same ok (.int _)⟩
  · rename_i i j
    cases vx
    cases vy
    cases op <;> first | (cases he; done) | skip
    have he : guardB (decide (i.length + j.length ≤ line)) (.ok (.str (i ++ j)) z.st) = .ok d st' := he
    obtain ⟨g, he⟩ := guard_ok he
    cases he
    exact iop_add_str pins s σ H _ _ v u Q I rx ry ⟨i, j, rfl, rfl, by rw [← line_eq]; exact of_decide_eq_true g, q.same ok (.str _)⟩
  · cases he
theorem snd_aug {i : Nat} {op : BOp} {e : C} : SndS cf (.aug i op e) := fun Γ X st XO hk hp h => by
  simp only [chkS] at h
  split at h
  · rename_i x px o v pos
    simp only [Bool.and_eq_true] at h
    obtain ⟨⟨⟨h1, h2⟩, h3⟩, h4⟩ := h
    have h3 := of_decide_eq_true h3
    subst h3
    obtain ⟨l1, l2⟩ := XO.loc _ h2
    refine (ps_aug XO.nd (by rw [XO.N]; exact of_decide_eq_true h1) l1 (sndC cf e Γ X v XO h4).pe0 (aug_ok op) l2).imp fun D σ H ⟨z, en, f, en', st', ok, er, ev, q⟩ => ?_
    simp only [evS] at ev
    split at ev
    · rename_i d hd
      obtain ⟨y, s1, e1, ev⟩ := bind_ok ev
      obtain ⟨w, s2, e2, ev⟩ := bind_ok ev
      cases ev
      obtain ⟨vx, g1, g2⟩ := er.2 i _ hd
      refine ⟨vx, g1, z, en, y, s1, ok, er, e1, fun H1 z1 v1 hs1 ok1 t1 dv1 _ => ?_⟩
      subst hs1
      refine ⟨z1, d, y, w, st', ok1, ok.dv t1 g2, dv1, e2, fun H2 z2 v2 hs2 ok2 t2 dv2 _ => ?_⟩
      exact q H2 z2 _ hs2 ok2 (t1.trans t2) ((ok.env (t1.trans t2) er).set dv2 i)
    · cases ev
  · cases h
theorem snd_expr {e : C} : SndS cf (.expr e) := fun Γ X st XO hk hp h => by
  simp only [chkS] at h
  split at h
  · rename_i v pos
    simp only [Bool.and_eq_true, Bool.not_eq_true'] at h
    refine (ps_expr (sndC cf e Γ X v XO h.1).pe0 (swap_none h.2)).imp fun D σ H ⟨z, en, f, en', st', ok, er, ev, q⟩ => ?_
    simp only [evS] at ev
    obtain ⟨x, s1, e1, ev⟩ := bind_ok ev
    cases ev
    exact ⟨z, en, x, st', ok, er, e1, fun H' z' v hs ok' t _ _ => q H' z' σ hs ok' t (ok.env t er)⟩
  · cases h
theorem snd_ret {e : C} : SndS cf (.ret e) := fun Γ X st XO hk hp h => by
  simp only [chkS] at h
  split at h
  · rename_i v pos
    refine (ps_ret (sndC cf e Γ X v XO h).pe0).imp fun D σ H ⟨z, en, f, en', st', ok, er, ev, q⟩ => ?_
    simp only [evS] at ev
    obtain ⟨x, s1, e1, ev⟩ := bind_ok ev
    cases ev
    exact ⟨z, en, x, st', ok, er, e1, fun H' z' v hs ok' t dv _ => q H' z' v hs ok' t dv⟩
  · cases h
theorem snd_retN : SndS cf .retN := fun Γ X st XO hk hp h => by
  simp only [chkS] at h
  split at h
  · refine ps_retN.imp fun D σ H ⟨z, en, f, en', st', ok, er, ev, q⟩ => ?_
    simp only [evS] at ev
    cases ev
    exact q H z .non rfl ok .refl .non
  · cases h
theorem snd_pass : SndS cf .pass := fun Γ X st XO hk hp h => by
  have fin : ∀ D σ H, tS X.K cf .pass D σ H → tNext D σ H := fun D σ H ⟨z, en, f, en', st', ok, er, ev, q⟩ => by
    simp only [evS] at ev
    cases ev
    exact q H z σ rfl ok .refl er
  simp only [chkS] at h
  split at h
  · exact ps_pass.imp fin
  · exact ps_doc.imp fin
  · cases h
theorem snd_brk : SndS cf .brk := fun Γ X st XO hk hp h => by
  simp only [chkS] at h
  split at h
  · refine ps_break.imp fun D σ H ⟨z, en, f, en', st', ok, er, ev, q⟩ => ?_
    simp only [evS] at ev
    cases ev
    exact q H z σ rfl ok .refl er
  · cases h
theorem snd_cont : SndS cf .cont := fun Γ X st XO hk hp h => by
  simp only [chkS] at h
  split at h
  · refine ps_continue.imp fun D σ H ⟨z, en, f, en', st', ok, er, ev, q⟩ => ?_
    simp only [evS] at ev
    cases ev
    exact q H z σ rfl ok .refl er
  · cases h
theorem snd_if {c : C} {a b : Ss} (ha : SndSs cf a) (hb : SndSs cf b) : SndS cf (.ife c a b) := fun Γ X st XO hk hp h => by
  simp only [chkS] at h
  split at h
  · simp only [Bool.and_eq_true] at h
    obtain ⟨⟨h1, h2⟩, h3⟩ := h
    refine (ps_if (sndC cf c Γ X _ XO h1).pt (ha Γ X _ XO hk hp h2) (hb Γ X _ XO hk hp h3)).imp fun D σ H ⟨z, en, f, en', st', ok, er, ev, q⟩ => ?_
    simp only [evS] at ev
    obtain ⟨x, s1, e1, ev⟩ := bind_ok ev
    split at ev
    · rename_i ht
      refine ⟨z, en, x, s1, true, ok, er, e1, ht, fun H1 z1 hs1 ok1 t1 => ?_⟩
      subst hs1
      rw [if_pos rfl]
      exact ⟨z1, en, f, en', st', ok1, ok.env t1 er, ev, q.trans t1⟩
    · rename_i ht
      refine ⟨z, en, x, s1, false, ok, er, e1, ht, fun H1 z1 hs1 ok1 t1 => ?_⟩
      subst hs1
      rw [if_neg (by decide)]
      exact ⟨z1, en, f, en', st', ok1, ok.env t1 er, ev, q.trans t1⟩
    · cases ev
  · cases h
mutual
theorem DV.trim {H : Hp} {K : PySem.W.Frag} {μ : Nat → Addr} {n m : Nat} (hm : n ≤ m) : ∀ {d : D} {v : V}, DV H K μ m d v → d.bel n = true → DV H K μ n d v
  | _, _, .non, _ => .non
  | _, _, .bl b, _ => .bl b
  | _, _, .int b, _ => .int b
  | _, _, .str b, _ => .str b
  | _, _, .tup h1 h2, h => .tup h1 (DVs.trim hm h2 (by simpa only [D.bel] using h))
  | _, _, .lst h1 h2 h3, h => .lst h1 (fun i hi => h2 i (Nat.lt_of_lt_of_le hi hm)) (DVs.trim hm h3 (by simpa only [D.bel] using h))
  | _, _, .dct h1 h2 h3, h => .dct h1 (fun i hi => h2 i (Nat.lt_of_lt_of_le hi hm)) (DKs.trim hm h3 (by simpa only [D.bel] using h))
  | _, _, .ref (k := k) _, h => .ref (by simpa only [D.bel, decide_eq_true_eq] using h)
theorem DVs.trim {H : Hp} {K : PySem.W.Frag} {μ : Nat → Addr} {n m : Nat} (hm : n ≤ m) : ∀ {d : List D} {v : List V}, DVs H K μ m d v → D.belL n d = true → DVs H K μ n d v
  | _, _, .nil, _ => .nil
  | _, _, .cons h t, g => by
    simp only [D.belL, Bool.and_eq_true] at g
    exact .cons (DV.trim hm h g.1) (DVs.trim hm t g.2)
theorem DKs.trim {H : Hp} {K : PySem.W.Frag} {μ : Nat → Addr} {n m : Nat} (hm : n ≤ m) : ∀ {d : List D} {v : List (Key × V)}, DKs H K μ m d v → D.belL n d = true → DKs H K μ n d v
  | _, _, .nil, _ => .nil
  | _, _, .cons h t, g => by
    simp only [D.belL, D.bel, Bool.and_eq_true] at g
    exact .cons (DV.trim hm h g.1.2.1) (DKs.trim hm t g.2)
end
theorem CellOk.trim {H : Hp} {K : PySem.W.Frag} {μ : Nat → Addr} {n m : Nat} (hm : n ≤ m) {c : D} {a : Addr} (h : CellOk H K μ m c a) (g : c.bel n = true) : CellOk H K μ n c a := by
  cases c with
  | lst xs => obtain ⟨vs, h1, h2⟩ := h; exact ⟨vs, h1, h2.trim hm (by simpa only [D.bel] using g)⟩
  | dct xs => obtain ⟨vs, h1, h2⟩ := h; exact ⟨vs, h1, h2.trim hm (by simpa only [D.bel] using g)⟩
  | _ => exact h.elim
/-- cells that nobody names are forgotten -/
theorem trim_ok {K : PySem.W.Frag} {H H' : Hp} {z z' : Z} {en : En} {σ : L2.St} (ok : Ok K H' z') (t : To H z H' z') (er : EnvR K z' en σ) : ∃ z2 : Z, z2.st = trim z.n en z'.st ∧ Ok K H' z2 ∧ To H z H' z2 ∧ EnvR K z2 en σ := by
  unfold trim
  split
  · rename_i hg
    simp only [Bool.and_eq_true] at hg
    obtain ⟨g1, g2⟩ := hg
    have hle : z.n ≤ z'.n := t.ext.le
    have hl : (z'.st.take z.n).length = z.n := by rw [List.length_take]; exact Nat.min_eq_left hle
    refine ⟨⟨z'.he, z'.mu, z'.st.take z.n⟩, rfl, ⟨ok.sub, ⟨fun i j hi hj => ?_, fun i c e => ?_⟩⟩, ⟨?_, t.hid, t.there⟩, er.1, fun i d e => ?_⟩
    · rw [hl] at hi hj
      exact ok.sim.inj i j (Nat.lt_of_lt_of_le hi hle) (Nat.lt_of_lt_of_le hj hle)
    · have e : (z'.st.take z.n)[i]? = some c := e
      have hi := (List.getElem?_eq_some_iff.mp e).1
      have gc := List.all_eq_true.mp g2 c (List.mem_of_getElem? e)
      rw [hl] at hi
      rw [List.getElem?_take_of_lt hi] at e
      show CellOk z'.he K z'.mu (z'.st.take z.n).length c (z'.mu i)
      rw [hl]
      exact (ok.sim.cell i c e).trim hle gc
    · show Ext z.he z.mu z.n z'.he z'.mu (z'.st.take z.n).length
      rw [hl]
      exact ⟨Nat.le_refl _, t.ext.mu, fun i h1 h2 => absurd h2 (Nat.not_lt.mpr h1), t.ext.keep, t.ext.there⟩
    · obtain ⟨v, h1, h2⟩ := er.2 i d e
      have gd := List.all_eq_true.mp g1 (some d) (List.mem_of_getElem? e)
      refine ⟨v, h1, ?_⟩
      show DV z'.he K z'.mu (z'.st.take z.n).length d v
      rw [hl]
      exact h2.trim hle gd
  · exact ⟨z', rfl, ok, t, er⟩
theorem held_trim {g : Guard} {st0 st : Store} {en : En} (h0 : held g st0 = true) (h : held g st = true) : held g (trim st0.length en st) = true := by
  unfold trim
  split
  · unfold held at h0 h ⊢
    rw [List.all_eq_true] at h0 h ⊢
    intro q hq
    have a := h0 q hq
    have b := h q hq
    split at a
    · rename_i c hc
      have hlt := (List.getElem?_eq_some_iff.mp hc).1
      rw [List.getElem?_take_of_lt hlt]
      exact b
    · cases a
  · exact h
theorem for_imp {K : PySem.W.Frag} {t : T} {it : I} {ws : List Nat} {body : Ss} {D : Ends} {σ : L2.St} {H : Hp} (h : tS K cf (.for_ t it ws body) D σ H) : tFor (iT K cf it) (gT K cf t) (tSs K cf body) D σ H := by
  obtain ⟨z, en, f, en', st', ok, er, ev, q⟩ := h
  simp only [evS] at ev
  obtain ⟨p, s1, e1, ev⟩ := bind_ok ev
  have hg0 := evI_held e1
  refine ⟨z, en, p, s1, ok, er, e1, fun H1 z1 J hs1 ok1 t1 walk => ?_⟩
  subst hs1
  let P : Nat → L2.St → Hp → Prop := fun i σn Hn => ∃ zn enn, Ok K Hn zn ∧ To H1 z1 Hn zn ∧ EnvR K zn enn σn ∧ held p.2 zn.st = true ∧ forR (asT cf t) (evSs cf body) ws z1.n p.2 (p.1.drop i) enn zn.st = .ok (f, en') st'
  refine ⟨fun i m σn Hn => m = p.1.length - i ∧ i ≤ p.1.length ∧ P i σn Hn, ⟨_, rfl, Nat.zero_le _, z1, en, ok1, .refl, ok.env t1 er, hg0, ev⟩, ?_⟩
  rintro i m σn Hn ⟨rfl, hi, zn, enn, okn, tn, ern, hgn, fl⟩
  by_cases hlt : i < p.1.length
  · refine .inr ⟨walk.go i Hn zn hlt okn tn hgn, P (i + 1), fun σ' H' p' => ⟨p.1.length - (i + 1), by omega, rfl, hlt, p'⟩, fun x H' y => ?_⟩
    obtain ⟨z2, d, hz2, ok2, t2, hd, dv⟩ := walk.yld i Hn zn x H' hlt okn tn hgn y
    have hcons : p.1.drop i = d :: p.1.drop (i + 1) := by
      obtain ⟨hl, he⟩ := List.getElem?_eq_some_iff.mp hd
      rw [List.drop_eq_getElem_cons hl, he]
    rw [hcons] at fl
    unfold forR at fl
    obtain ⟨en1, s2, e2, fl⟩ := bind_ok fl
    obtain ⟨pr, s3, e3, fl⟩ := bind_ok fl
    rw [← hz2] at e2
    refine ⟨z2, enn, d, en1, s2, ok2, okn.env t2 ern, dv, e2, fun H3 z3 σ3 hs3 ok3 t3 er3 _ => ?_⟩
    obtain ⟨f', en2⟩ := pr
    refine ⟨z3, en1, f', en2, s3, ok3, er3, by rw [hs3]; exact e3, ?_⟩
    have next : (∀ H4 z4 σ4, z4.st = s3 → Ok K H4 z4 → To H3 z3 H4 z4 → EnvR K z4 en2 σ4 → guardB (held p.2 s3) (forR (asT cf t) (evSs cf body) ws z1.n p.2 (p.1.drop (i + 1)) (wipe en2 ws) (trim z1.n (wipe en2 ws) s3)) = .ok (f, en') st' → P (i + 1) σ4 H4) := fun H4 z4 σ4 hs4 ok4 t4 er4 hg => by
      obtain ⟨g, fl⟩ := guard_ok hg
      subst hs4
      obtain ⟨z5, h1, h2, h3, h4⟩ := trim_ok ok4 (tn.trans (t2.trans (t3.trans t4))) (er4.wipeE ws)
      exact ⟨z5, wipe en2 ws, h2, h3, h4, by rw [h1]; exact held_trim hg0 g, by rw [h1]; exact fl⟩
    cases f' with
    | nx => exact fun H4 z4 σ4 hs4 ok4 t4 er4 => next H4 z4 σ4 hs4 ok4 t4 er4 fl
    | ct => exact fun H4 z4 σ4 hs4 ok4 t4 er4 => next H4 z4 σ4 hs4 ok4 t4 er4 fl
    | brk =>
      cases fl
      exact fun H4 z4 σ4 hs4 ok4 t4 er4 => q H4 z4 σ4 hs4 ok4 (t1.trans (tn.trans (t2.trans (t3.trans t4)))) (er4.wipeE ws)
    | rt w =>
      cases fl
      exact fun H4 z4 v hs4 ok4 t4 dv4 => q H4 z4 v hs4 ok4 (t1.trans (tn.trans (t2.trans (t3.trans t4)))) dv4
  · have ei : i = p.1.length := by omega
    subst ei
    refine .inl ⟨walk.stop Hn zn okn tn hgn, ?_⟩
    rw [List.drop_length] at fl
    unfold forR at fl
    cases fl
    exact q Hn zn σn rfl okn (t1.trans tn) ern
theorem snd_for {t : T} {it : I} {ws : List Nat} {body : Ss} (hb : SndSs cf body) : SndS cf (.for_ t it ws body) := fun Γ X st XO hk hp h => by
  simp only [chkS] at h
  split at h
  · rename_i tg iter b pos
    simp only [Bool.and_eq_true] at h
    obtain ⟨⟨h1, h2⟩, h3⟩ := h
    obtain ⟨pi, pl⟩ := sndI cf it Γ X tg iter XO h1
    exact (ps_for hp XO.calm pi (sndT cf t Γ X tg XO h2).1 (hb Γ X b XO hk hp h3) (plain_fold pl)).imp fun D σ H q => for_imp q
  · cases h
theorem snd_nil : SndSs cf .nil := fun Γ X sts XO hk hp h => by
  cases sts with
  | cons _ _ => simp [chkSs] at h
  | nil =>
    refine pss_nil.imp fun D σ H ⟨z, en, f, en', st', ok, er, ev, q⟩ => ?_
    simp only [evSs] at ev
    cases ev
    exact q H z σ rfl ok .refl er
theorem snd_cons {s : S} {r : Ss} (hs : SndS cf s) (hr : SndSs cf r) : SndSs cf (.cons s r) := fun Γ X sts XO hk hp h => by
  cases sts with
  | nil => simp [chkSs] at h
  | cons st sts =>
    simp only [chkSs, Bool.and_eq_true] at h
    refine (pss_cons (hs Γ X st XO hk hp h.1) (hr Γ X sts XO hk hp h.2)).imp fun D σ H ⟨z, en, f, en', st', ok, er, ev, q⟩ => ?_
    simp only [evSs] at ev
    obtain ⟨⟨f1, en1⟩, s1, e1, ev⟩ := bind_ok ev
    refine ⟨z, en, f1, en1, s1, ok, er, e1, ?_⟩
    cases f1 with
    | nx => exact fun H1 z1 σ1 hs1 ok1 t1 er1 => ⟨z1, en1, f, en', st', ok1, er1, by rw [hs1]; exact ev, q.trans t1⟩
    | brk => cases ev; exact q
    | ct => cases ev; exact q
    | rt d => cases ev; exact q
end
mutual
theorem sndS (cf : CallF) : ∀ s : S, SndS cf s
  | .asg t e => snd_asg
  | .aug i op e => snd_aug
  | .expr e => snd_expr
  | .ret e => snd_ret
  | .retN => snd_retN
  | .ife c a b => snd_if (sndSs cf a) (sndSs cf b)
  | .for_ t it ws body => snd_for (sndSs cf body)
  | .pass => snd_pass
  | .brk => snd_brk
  | .cont => snd_cont
theorem sndSs (cf : CallF) : ∀ s : Ss, SndSs cf s
  | .nil => snd_nil
  | .cons s r => snd_cons (sndS cf s) (sndSs cf r)
end
end PyE

namespace PyE
open PySem PySem.Spec PyProof.Rows L2
def PatOk (K : PySem.W.Frag) (fd : FuncData) (ps : List Str) (p : Nat × List Str × List D) : Prop :=
  ∀ dv, mapO litV p.2.2 = some dv → ∃ ds : List Value, Vals dv ds ∧ ∀ (s : Shared) (us ws : List Value), K.In s.heap → us.length = p.1 → ws.length = p.2.1.length → BindsTo s fd ⟨us, p.2.1.zip ws⟩ (ps.zip (us ++ ws ++ ds))
/-- what is seen of a def's text -/
def fnB (N ps : List Str) (sc : Scope) : Bool := (match sc.kind with | .function => true | _ => false) && (!sc.isCoroutine && (!sc.isGenerator && (decide N.Nodup && (decide (N.take ps.length = ps) && (ps.all (locB sc) && sc.names.all fun y => match y.2 with | .free => false | _ => true)))))
theorem fnB_ok {N ps : List Str} {sc : Scope} (h : fnB N ps sc = true) : FnScope N ps sc := by
  unfold fnB at h
  simp only [Bool.and_eq_true, Bool.not_eq_true', decide_eq_true_eq] at h
  obtain ⟨h1, h2, h3, h4, h5, h6, h7⟩ := h
  refine ⟨?_, h2, h3, h4, h5, fun x hx => loc_of (List.all_eq_true.mp h6 x hx), fun y hy e => ?_⟩
  · split at h1
    · assumption
    · cases h1
  · have := List.all_eq_true.mp h7 y hy
    rw [e] at this
    cases this
structure DefOk (K : PySem.W.Frag) (mg : Str → Option Value) (prog : Nat → Option Fd) (glb : List (Str × D)) (fns : List FT) (f : Nat) (ft : FT) (a : Addr) (fd : FuncData) : Prop where
  mg : mg ft.name = some (.ref a)
  ex : ∃ (c : Fd) (N : List Str) (qual : Str) (params : Arguments) (body : List Stmt) (scope : Scope) (dvs : List V) (kws : List (Str × V)) (x : Str), prog f = some c ∧ FunD K x qual params body scope dvs kws a fd ∧ fnB N ft.ps scope = true ∧ c.np = ft.ps.length ∧ c.nn = N.length ∧ chkSs ⟨scope, scope, N, glb, fns⟩ c.body body = true
  pats : ∀ p ∈ ft.pats, PatOk K fd ft.ps p
section
variable {P : Program} {w : World} {K : PySem.W.Frag} {mg : Str → Option Value} {base : Heap} {prog : Nat → Option Fd} {glb : List (Str × D)} {fns : List FT}
theorem runFd_ok {cf : CallF} {c : Fd} {ds : List D} {st st' : Store} {d : D} (h : runFd cf c ds st = .ok d st') : ds.length = c.np ∧ ∃ f en', evSs cf c.body (ds.map some ++ List.replicate (c.nn - c.np) none) st = .ok (f, en') st' ∧ (f = .rt d ∨ (f = .nx ∧ d = .non)) := by
  unfold runFd at h
  split at h
  · rename_i hl
    obtain ⟨⟨f, en'⟩, s1, e1, h⟩ := bind_ok h
    refine ⟨hl, ?_⟩
    cases f with
    | rt v => cases h; exact ⟨_, en', e1, .inl rfl⟩
    | nx => cases h; exact ⟨_, en', e1, .inr ⟨rfl, rfl⟩⟩
    | brk => cases h
    | ct => cases h
  · cases h
theorem env_start {z : Z} {ds : List D} {vs : List V} {N : List Str} {n : Nat} (dv : DVsz K z ds vs) (hn : n = N.length) (hl : ds.length ≤ n) : EnvR K z (ds.map some ++ List.replicate (n - ds.length) none) (L2.start N vs) := by
  unfold L2.start
  have e := dv.length
  refine ⟨by simp [e, hn], fun i d h => ?_⟩
  by_cases hi : i < ds.length
  · rw [List.getElem?_append_left (by simpa using hi), List.getElem?_map] at h
    cases q : ds[i]? with
    | none => rw [q] at h; cases h
    | some d' =>
      rw [q] at h
      cases h
      obtain ⟨v, h1, h2⟩ := dv.get q
      exact ⟨v, by rw [List.getElem?_append_left (by simpa [← e] using hi), List.getElem?_map, h1]; rfl, h2⟩
  · rw [List.getElem?_append_right (by simpa using hi), List.getElem?_replicate] at h
    split at h <;> cases h
/-- EVERY DEF -/
theorem fn_all (glbok : ∀ p ∈ glb, ∃ u v, mg p.1 = some u ∧ RelV v u ∧ ∀ (H : Hp) (z : Z), Ok K H z → DVz K z p.2 v) (bi : ∀ x ∈ bltNames, mg x = none) (ok : ∀ f ft, fns[f]? = some ft → ∃ a fd, DefOk K mg prog glb fns f ft a fd) :
    ∀ (k f : Nat) (ft : FT) (a : Addr) (fd : FuncData), DefOk K mg prog glb fns f ft a fd → FnOk P w K mg base CX0 k a fd ft.ps (spF K (callF prog k) f) := by
  intro k
  induction k with
  | zero =>
    intro f ft a fd d
    exact ⟨fun vs H Q E ⟨z, ds, r, st', _, _, e, _⟩ => (by cases e), fun A outer s H args us vs Q E _ _ _ _ ⟨z, ds, r, st', _, _, e, _⟩ => (by cases e)⟩
  | succ k ih =>
    intro f ft a fd d
    obtain ⟨c, N, qual, params, body, scope, dvs, kws, x, hc, F, hs, hnp, hnn, chk⟩ := d.ex
    have S := fnB_ok hs
    have ev : ∀ {ds : List D} {r : D} {st st' : Store}, callF prog (k + 1) f ds st = .ok r st' → runFd (callF prog k) c ds st = .ok r st' := fun {ds r st st'} e => by
      unfold callF at e
      rw [hc] at e
      exact e
    refine F.ok S (fun vs H Q E ⟨z, ds, r, st', _, dv, e, _⟩ => ?_) fun cdv A outer s H vs Q E hr hsp => ?_
    · obtain ⟨h1, _⟩ := runFd_ok (ev e)
      rw [← dv.length, h1, hnp]
    · refine ⟨tSs K (callF prog k) c.body, PSs.nox ?_, ?_⟩
      · refine sndSs (callF prog k) c.body ⟨scope, scope, N, glb, fns⟩ _ body ?_ S.kind PassesOwn.never chk
        exact {
          calm := rfl
          nd := S.nd
          N := rfl
          sc := rfl
          un := hr.units
          loc := fun x h => ⟨loc_of h, .inl rfl⟩
          glb := glbok
          bi := bi
          fns := fun g gt hg => by
            obtain ⟨a', fd', d'⟩ := ok g gt hg
            obtain ⟨_, _, _, _, _, _, _, _, _, _, F', _⟩ := d'.ex
            exact ⟨k, a', fd', d'.mg, F'.kp, ih g gt a' fd' d', hr, d'.pats⟩ }
      · obtain ⟨z, ds, r, st', ok', dv, e, q⟩ := hsp
        obtain ⟨h1, f', en', e1, h2⟩ := runFd_ok (ev e)
        have hN : ft.ps.length ≤ N.length := by
          have := congrArg List.length S.pre
          rw [List.length_take] at this
          omega
        refine ⟨z, _, f', en', st', ok', ?_, e1, ?_⟩
        · have := env_start (n := c.nn) dv hnn (by omega)
          rw [h1] at this
          exact this
        · rcases h2 with rfl | ⟨rfl, rfl⟩
          · exact fun H' z' v hs ok2 t dv2 => q H' z' v hs ok2 t dv2 .no
          · exact fun H' z' σ' hs ok2 t _ => q H' z' .non hs ok2 t .non .no
end
def isLst (o : Obj) : Bool := match o.cls with
  | .type c => c == "list"
  | _ => false
def noLst (g : Addr → Option Obj) (as : List Addr) : List Addr := as.filter fun a => match g a with
  | some o => !isLst o
  | none => true
def NoL (K : PySem.W.Frag) : Prop := ∀ a o, K.lookup a = some o → o.cls ≠ .type "list"
theorem frG_mem {g : Addr → Option Obj} {a : Addr} {o : Obj} : ∀ as : List Addr, (He.frG g as).lookup a = some o → a ∈ as
  | [], e => nomatch (show (none : Option Obj) = some o from e)
  | b :: r, e => by
    unfold He.frG at e
    cases hb : g b with
    | none =>
      have e2 : (He.frG g r).lookup a = some o := by
        unfold He.frG
        rw [List.filterMap_cons, hb] at e
        exact e
      exact List.mem_cons_of_mem _ (frG_mem r e2)
    | some ob =>
      rw [List.filterMap_cons, hb] at e
      have e2 : (match a == b with | true => some ob | false => (He.frG g r).lookup a) = some o := e
      cases q : (a == b) with
      | true => rw [beq_iff_eq.mp q]; exact List.mem_cons_self
      | false =>
        rw [q] at e2
        exact List.mem_cons_of_mem _ (frG_mem r e2)
theorem noL_of {g : Addr → Option Obj} {as : List Addr} : NoL (He.frG g (noLst g as)) := fun a o e c => by
  have h1 := He.frG_at _ e
  have h2 := frG_mem _ e
  unfold noLst at h2
  rw [List.mem_filter, h1] at h2
  have h3 := h2.2
  simp only [isLst, c] at h3
  cases h3
def obsL (n : Nat) (fa : List He.Fa) (fn : List He.DefD) (g : Addr → Option Obj) : He.AlD := He.obsD fa fn (He.frG g (noLst g (He.asD g n)))
def hookL (n : Nat) (fa : List He.Fa) (fn : List He.DefD) : PySem.W.Hook where
  α := He.AlD
  obs := fun s => obsL n fa fn s.heap.get?
  val := fun _ => He.valD fn
  says := fun _ h => ∃ K : PySem.W.Frag, K.In h ∧ He.SaysD fa fn K ∧ NoL K
  of := fun _ _ e => ⟨_, He.frG_in, e, noL_of⟩
  keeps := fun _ _ _ ⟨K, hK, c⟩ k => ⟨K, PySem.W.Frag.In.keeps hK k, c⟩
theorem obsL_eq {n : Nat} {fa : List He.Fa} {fn : List He.DefD} {g : Addr → Option Obj} {s : Shared} (h : ∀ a, g a = s.heap.get? a) : obsL n fa fn g = (hookL n fa fn).obs s := by
  have e : g = s.heap.get? := funext h
  rw [e] <;> rfl
theorem spF_law {K : PySem.W.Frag} {cf : CallF} {f : Nat} (nl : NoL K) {H : Hp} {a : Addr} {ns : List Int} (hS : SqL K H a (ns.map V.int)) (h : ∃ st', cf f [.lst (ns.map .int)] [] = .ok (.bl true) st') : spF K cf f [.ref a] H (fun v _ => v = .bl true) fun _ _ _ => False := by
  have hR : Rd H a (.lst (ns.map V.int)) := by
    rcases hS with h | ⟨o, its, n, hk, hc, _⟩
    · exact h
    · exact absurd hc (nl a o hk)
  obtain ⟨st', h⟩ := h
  refine ⟨⟨H, fun _ => 0, []⟩, [.lst (ns.map .int)], .bl true, st', ⟨fun _ _ e => e, fun i j hi => absurd hi (Nat.not_lt_zero _), fun i c e => by simp at e⟩, .cons (.lst hR (fun i hi => absurd hi (Nat.not_lt_zero _)) (of_ints ns)) .nil, h, fun H' z' v _ _ _ dv _ => ?_⟩
  cases dv
  rfl
/-- no defaults are wanted -/
theorem pat_kw {K : PySem.W.Frag} {x qual : Str} {params : Arguments} {body : List Stmt} {scope : Scope} {kws : List (Str × V)} {f : Addr} {fd : FuncData} {ps : List Str} (F : FunD K x qual params body scope [] kws f fd) (n : Nat) (ks : List Str)
    (h : ∀ (kV doc pm : Value) (an : Option Addr) (cdv ct : Value) (us ws : List Value), us.length = n → ws.length = ks.length → bindArgs (PySem.W.fnOf x qual params body scope .none kV doc pm an cdv ct) ⟨us, ks.zip ws⟩ = pure (ps.zip (us ++ ws))) : PatOk K fd ps (n, ks, []) := fun dv hdv => by
  cases hdv
  refine ⟨[], .nil, fun s us ws _ h1 h2 => ?_⟩
  obtain ⟨oc, od, dV, kV, doc, pm, an, cdv, ct, osl, rfl, lk, hcd, hD, hK⟩ := F.ex
  rcases hD with ⟨_, rfl⟩ | ⟨e, _⟩
  · rw [List.append_nil]
    exact .of_eq (h kV doc pm an cdv ct us ws h1 h2)
  · exact absurd rfl e
end PyE

namespace PyE
open PySem PySem.Spec PyProof.Rows L2
mutual
/-- whether a value that stands at the top is this datum -/
def valB (K : PySem.W.Frag) : D → Value → Bool
  | .non, v => decide (v = .none)
  | .bl a, v => decide (v = .bool a)
  | .int a, v => (match v with
    | .int b _ => decide (b = a)
    | _ => false)
  | .str a, v => (match v with
    | .str b _ => decide (b = a)
    | _ => false)
  | .tup xs, v => (match v with
    | .ref a => (match K.lookup a with
      | some ⟨cl, _, .seq its _, _⟩ => decide (cl = .type "tuple") && decide (its.size ≤ sizeLine) && valsB K xs its.toList
      | _ => false)
    | _ => false)
  | _, _ => false
def valsB (K : PySem.W.Frag) : List D → List Value → Bool
  | [], [] => true
  | d :: ds, v :: vs => valB K d v && valsB K ds vs
  | _, _ => false
end
mutual
theorem valB_ok {K : PySem.W.Frag} : ∀ (d : D) (v : Value), valB K d v = true → ∃ x : V, RelV x v ∧ ∀ z : Z, DVz K z d x
  | .non, v, h => by
    simp only [valB, decide_eq_true_eq] at h
    exact ⟨.non, h, fun _ => .non⟩
  | .bl b, v, h => by
    simp only [valB, decide_eq_true_eq] at h
    exact ⟨.bl b, h, fun _ => .bl b⟩
  | .int i, v, h => by
    simp only [valB] at h
    split at h
    · rename_i b t
      have := of_decide_eq_true h
      subst this
      exact ⟨.int b, ⟨t, rfl⟩, fun _ => .int b⟩
    · cases h
  | .str s, v, h => by
    simp only [valB] at h
    split at h
    · rename_i b t
      have := of_decide_eq_true h
      subst this
      exact ⟨.str b, ⟨t, rfl⟩, fun _ => .str b⟩
    · cases h
  | .tup xs, v, h => by
    simp only [valB] at h
    split at h
    · rename_i a
      split at h
      · rename_i cl od its n sl hk
        simp only [Bool.and_eq_true, decide_eq_true_eq] at h
        obtain ⟨⟨h1, h2⟩, h3⟩ := h
        obtain ⟨vs, r, dv⟩ := valsB_ok xs its.toList h3
        exact ⟨.ref a, rfl, fun z => .tup (.inr ⟨_, its, n, hk, h1, rfl, h2, r⟩) (dv z)⟩
      · cases h
    · cases h
  | .lst _, _, h => by cases h
  | .dct _, _, h => by cases h
  | .ref _, _, h => by cases h
  | .fn _, _, h => by cases h
theorem valsB_ok {K : PySem.W.Frag} : ∀ (ds : List D) (vs : List Value), valsB K ds vs = true → ∃ xs : List V, Vals xs vs ∧ ∀ z : Z, DVsz K z ds xs
  | [], [], _ => ⟨[], .nil, fun _ => .nil⟩
  | d :: ds, v :: vs, h => by
    simp only [valsB, Bool.and_eq_true] at h
    obtain ⟨x, r1, d1⟩ := valB_ok d v h.1
    obtain ⟨xs, r2, d2⟩ := valsB_ok ds vs h.2
    exact ⟨x :: xs, .cons r1 r2, fun z => .cons (d1 z) (d2 z)⟩
  | [], _ :: _, h => by cases h
  | _ :: _, [], h => by cases h
end
def globB (K : PySem.W.Frag) (p : Str × D) : Bool := match PySem.W.nsIn K mainGlobals p.1 with
  | some (some v) => valB K p.2 v
  | _ => false
def globsB (K : PySem.W.Frag) (gt : List (Str × D)) : Bool := gt.all (globB K)
theorem globs_ok {K : PySem.W.Frag} {h : Heap} {mg : Str → Option Value} (X : K.In h) (G : h.Ns mainGlobals mg) {gt : List (Str × D)} (b : globsB K gt = true) :
    ∀ p ∈ gt, ∃ u v, mg p.1 = some u ∧ RelV v u ∧ ∀ (H : Hp) (z : Z), PyE.Ok K H z → DVz K z p.2 v := fun p hp => by
  have h1 := List.all_eq_true.mp b p hp
  unfold globB at h1
  split at h1
  · rename_i u hu
    obtain ⟨v, r, d⟩ := valB_ok p.2 u h1
    exact ⟨u, v, PySem.W.mg_of X G hu, r, fun _ z _ => d z⟩
  · cases h1
def obsM (n : Nat) (fa : List He.Fa) (fn : List He.DefD) (gt : List (Str × D)) (g : Addr → Option Obj) : He.AlD × Bool := (He.obsD fa fn (He.frG g (noLst g (He.asD g n))), globsB (He.frG g (noLst g (He.asD g n))) gt)
def hookM (n : Nat) (fa : List He.Fa) (fn : List He.DefD) (gt : List (Str × D)) : PySem.W.Hook where
  α := He.AlD × Bool
  obs := fun s => obsM n fa fn gt s.heap.get?
  val := fun _ => (He.valD fn, true)
  says := fun _ h => ∃ K : PySem.W.Frag, K.In h ∧ He.SaysD fa fn K ∧ NoL K ∧ globsB K gt = true
  of := fun _ _ e => ⟨_, He.frG_in, congrArg (fun x : He.AlD × Bool => x.1) e, noL_of, congrArg (fun x : He.AlD × Bool => x.2) e⟩
  keeps := fun _ _ _ ⟨K, hK, c⟩ k => ⟨K, PySem.W.Frag.In.keeps hK k, c⟩
theorem obsM_eq {n : Nat} {fa : List He.Fa} {fn : List He.DefD} {gt : List (Str × D)} {g : Addr → Option Obj} {s : Shared} (h : ∀ a, g a = s.heap.get? a) : obsM n fa fn gt g = (hookM n fa fn gt).obs s := by
  have e : g = s.heap.get? := funext h
  rw [e] <;> rfl
/-- a def that has defaults: those behind the first j fill up -/
theorem pat_df {K : PySem.W.Frag} {x qual : Str} {params : Arguments} {body : List Stmt} {scope : Scope} {dvs : List V} {kws : List (Str × V)} {f : Addr} {fd : FuncData} {ps : List Str} (F : FunD K x qual params body scope dvs kws f fd) (hd : dvs ≠ []) (n : Nat) (ks : List Str) (df : List D) (j : Nat)
    (hj : mapO litV df = some (dvs.drop j))
    (h : ∀ (T : Addr) (kV doc pm : Value) (an : Option Addr) (cdv ct : Value) (us ws its : List Value), us.length = n → ws.length = ks.length → its.length = dvs.length →
      ∃ k, bindArgs (PySem.W.fnOf x qual params body scope (.ref T) kV doc pm an cdv ct) ⟨us, ks.zip ws⟩ = seqItems? (.ref T) >>= k ∧ k (some its.toArray) = pure (ps.zip (us ++ ws ++ its.drop j))) : PatOk K fd ps (n, ks, df) := fun dv hdv => by
  obtain ⟨oc, od, dV, kV, doc, pm, an, cdv, ct, osl, rfl, lk, hcd, hD, hK⟩ := F.ex
  rcases hD with ⟨e, _⟩ | ⟨_, T, o, its, m, rfl, lT, oT, rT⟩
  · exact absurd e hd
  · have hdv : mapO litV df = some dv := hdv
    rw [hj] at hdv
    cases hdv
    refine ⟨its.drop j, rT.drop j, fun s us ws X h1 h2 => ?_⟩
    obtain ⟨k, e1, e2⟩ := h T kV doc pm an cdv ct us ws its h1 h2 rT.length.symm
    refine BindsTo.of_looks fun M => ?_
    rw [e1]
    exact looks_items X lT oT (.of_pure e2)
end PyE

namespace PyE
open PySem
@[simp] theorem rb_ok {α β : Type} (a : α) (st : Store) (f : α → Store → R β) [Laz f] : (R.ok a st).bind f = f a st := (rfl)
@[simp] theorem opt_some {α : Type} (a : α) (st : Store) : opt (some a) st = .ok a st := rfl
@[simp] theorem guard_true {α : Type} (r : R α) : guardB true r = r := rfl
theorem mkTup_ok {xs : List D} {st : Store} (h : xs.length ≤ line) : mkTup xs st = .ok (.tup xs) st := by
  unfold mkTup guardB
  rw [decide_eq_true h]; rfl
theorem mkLst_ok {xs : List D} {st : Store} (h : xs.length ≤ line) : mkLst xs st = .ok (.lst xs) st := by
  unfold mkLst guardB
  rw [decide_eq_true h]; rfl
@[simp] theorem vw_int (st : Store) (i : Int) : view st (.int i) = .int i := rfl
@[simp] theorem vw_non (st : Store) : view st .non = .non := rfl
@[simp] theorem vw_bl (st : Store) (b : Bool) : view st (.bl b) = .bl b := rfl
@[simp] theorem vw_str (st : Store) (s : Str) : view st (.str s) = .str s := rfl
@[simp] theorem vw_tup (st : Store) (xs : List D) : view st (.tup xs) = .tup xs := rfl
@[simp] theorem vw_lst (st : Store) (xs : List D) : view st (.lst xs) = .lst xs := rfl
@[simp] theorem vw_dct (st : Store) (xs : List D) : view st (.dct xs) = .dct xs := rfl
theorem vw_ref {st : Store} {n : Nat} {c : D} (h : st[n]? = some c) : view st (.ref n) = c := by
  show (st[n]?).getD (.ref n) = c
  rw [h]; rfl
@[simp] theorem tr_bl (st : Store) (b : Bool) : truth st (.bl b) = some b := rfl
@[simp] theorem tr_int (st : Store) (i : Int) : truth st (.int i) = some (i != 0) := rfl
@[simp] theorem tr_tup (st : Store) (xs : List D) : truth st (.tup xs) = some (!xs.isEmpty) := rfl
@[simp] theorem tr_lst (st : Store) (xs : List D) : truth st (.lst xs) = some (!xs.isEmpty) := rfl
@[simp] theorem tr_non (st : Store) : truth st .non = some false := rfl
theorem eqD_int (st : Store) (i j : Int) : eqD st (.int i) (.int j) = some (i == j) := rfl
theorem eqD_str (st : Store) (i j : Str) : eqD st (.str i) (.str j) = some (decide (i = j)) := rfl
@[simp] theorem cmp_eq_int (i j : Int) (st : Store) : cmpD .eq (.int i) (.int j) st = .ok (.bl (decide (i = j))) st := rfl
@[simp] theorem cmp_ne_int (i j : Int) (st : Store) : cmpD .ne (.int i) (.int j) st = .ok (.bl (!decide (i = j))) st := rfl
@[simp] theorem cmp_eq_str (i j : Str) (st : Store) : cmpD .eq (.str i) (.str j) st = .ok (.bl (decide (i = j))) st := rfl
@[simp] theorem cmp_ne_str (i j : Str) (st : Store) : cmpD .ne (.str i) (.str j) st = .ok (.bl (!decide (i = j))) st := rfl
@[simp] theorem cmp_eq_bl (i j : Bool) (st : Store) : cmpD .eq (.bl i) (.bl j) st = .ok (.bl (i == j)) st := rfl
@[simp] theorem cmp_ne_non_int (j : Int) (st : Store) : cmpD .ne .non (.int j) st = .ok (.bl true) st := rfl
@[simp] theorem cmp_is_non (x : D) (st : Store) : cmpD .is x .non st = .ok (.bl (isNon x)) st := rfl
@[simp] theorem cmp_isnot_non (x : D) (st : Store) : cmpD .isnot x .non st = .ok (.bl (!isNon x)) st := rfl
@[simp] theorem cmp_is_bl (x : D) (b : Bool) (st : Store) : cmpD .is x (.bl b) st = .ok (.bl (isBl x b)) st := rfl
@[simp] theorem cmp_lt (i j : Int) (st : Store) : cmpD .lt (.int i) (.int j) st = .ok (.bl (decide (i < j))) st := rfl
@[simp] theorem cmp_le (i j : Int) (st : Store) : cmpD .le (.int i) (.int j) st = .ok (.bl (decide (i ≤ j))) st := rfl
@[simp] theorem cmp_gt (i j : Int) (st : Store) : cmpD .gt (.int i) (.int j) st = .ok (.bl (decide (j < i))) st := rfl
@[simp] theorem cmp_ge (i j : Int) (st : Store) : cmpD .ge (.int i) (.int j) st = .ok (.bl (decide (j ≤ i))) st := rfl
@[simp] theorem isNon_non : isNon .non = true := rfl
@[simp] theorem isNon_int (i : Int) : isNon (.int i) = false := rfl
@[simp] theorem isNon_tup (i : List D) : isNon (.tup i) = false := rfl
@[simp] theorem isNon_str (i : Str) : isNon (.str i) = false := rfl
@[simp] theorem isNon_bl (i : Bool) : isNon (.bl i) = false := rfl
@[simp] theorem isNon_lst (i : List D) : isNon (.lst i) = false := rfl
@[simp] theorem bin_add_int (i j : Int) (st : Store) : binD .add (.int i) (.int j) st = .ok (.int (i + j)) st := rfl
@[simp] theorem bin_sub_int (i j : Int) (st : Store) : binD .sub (.int i) (.int j) st = .ok (.int (i - j)) st := rfl
theorem bin_mul_int {i j : Int} {st : Store} (h : (-18446744073709551616 < i ∧ i < 18446744073709551616) ∨ (-18446744073709551616 < j ∧ j < 18446744073709551616)) : binD .mul (.int i) (.int j) st = .ok (.int (i * j)) st := by
  show guardB (mulOk i j) _ = _
  have : mulOk i j = true := by
    simp only [mulOk, Bool.or_eq_true, Bool.and_eq_true, decide_eq_true_eq]; exact h
  rw [this]; rfl
theorem bin_mod_int {i j : Int} {st : Store} (h : 0 < j) : binD .mod (.int i) (.int j) st = .ok (.int (i % j)) st := by
  show guardB (decide (0 < j)) _ = _
  rw [decide_eq_true h]; rfl
theorem bin_fdiv_int {i j : Int} {st : Store} (h : 0 < j) (h2 : j < 1073741824) : binD .fdiv (.int i) (.int j) st = .ok (.int (i / j)) st := by
  show guardB (decide (0 < j) && decide (j < 1073741824)) _ = _
  rw [decide_eq_true h, decide_eq_true h2]; rfl
theorem bin_add_tup {xs ys : List D} {st : Store} (h : xs.length + ys.length ≤ line) : binD .add (.tup xs) (.tup ys) st = .ok (.tup (xs ++ ys)) st := by
  show guardB (decide (xs.length + ys.length ≤ line)) _ = _
  rw [decide_eq_true h]; rfl
theorem bin_add_lst {xs ys : List D} {st : Store} (h : xs.length + ys.length ≤ line) : binD .add (.lst xs) (.lst ys) st = .ok (.lst (xs ++ ys)) st := by
  show guardB (decide (xs.length + ys.length ≤ line)) _ = _
  rw [decide_eq_true h]; rfl
theorem atI_nn {α : Type} (xs : List α) (n : Nat) : L2.atI xs (n : Int) = xs[n]? := by
  unfold L2.atI L2.ixN
  rw [if_pos (Int.natCast_nonneg n)]
  by_cases h : (n : Int) < (xs.length : Int)
  · rw [if_pos h]; simp
  · rw [if_neg h]
    rw [List.getElem?_eq_none (by omega)]; rfl
@[simp] theorem atI_0 {α : Type} (xs : List α) : L2.atI xs 0 = xs[0]? := atI_nn xs 0
@[simp] theorem atI_1 {α : Type} (xs : List α) : L2.atI xs 1 = xs[1]? := atI_nn xs 1
@[simp] theorem atI_2 {α : Type} (xs : List α) : L2.atI xs 2 = xs[2]? := atI_nn xs 2
@[simp] theorem atI_3 {α : Type} (xs : List α) : L2.atI xs 3 = xs[3]? := atI_nn xs 3
@[simp] theorem atI_4 {α : Type} (xs : List α) : L2.atI xs 4 = xs[4]? := atI_nn xs 4
@[simp] theorem atI_5 {α : Type} (xs : List α) : L2.atI xs 5 = xs[5]? := atI_nn xs 5
@[simp] theorem ix_tup (xs : List D) (i : Int) (st : Store) : ixD (.tup xs) (.int i) st = opt (L2.atI xs i) st := rfl
@[simp] theorem ix_lst (xs : List D) (i : Int) (st : Store) : ixD (.lst xs) (.int i) st = opt (L2.atI xs i) st := rfl
theorem callF_at {P : Nat → Option Fd} {n f : Nat} {d : Fd} {xs : List D} {st : Store} (h : P f = some d) (hn : 1 ≤ n) : callF P n f xs st = runFd (callF P (n - 1)) d xs st := by
  cases n with
  | zero => omega
  | succ n =>
    show (match P f with | some d => runFd (callF P n) d xs st | none => .bad) = _
    rw [h]; rfl
theorem run_at {cf : CallF} {d : Fd} {xs : List D} {st : Store} (h : xs.length = d.np) : runFd cf d xs st = (evSs cf d.body (xs.map some ++ List.replicate (d.nn - d.np) none) st).bind fun p s1 => match p.1 with
    | .rt v => .ok v s1
    | .nx => .ok .non s1
    | _ => .bad := by
  unfold runFd
  exact if_pos h
theorem prep_pure : ∀ (xs : List D) (st : Store) (i j : Nat), xs.all D.pure = true → prep [] st i j xs = some (xs, [], [])
  | [], _, _, _, _ => rfl
  | x :: r, st, i, j, h => by
    simp only [List.all_cons, Bool.and_eq_true] at h
    unfold prep
    rw [if_neg (by simp), if_pos h.1, prep_pure r st (i + 1) j h.2]; rfl
/-- a call without cells -/
theorem call_pure {cf : CallF} {f : Nat} {xs : List D} {st cs' : Store} {d : D} (hx : xs.all D.pure = true) (h : cf f xs [] = .ok d cs') (hd : d.pure = true) : callIn cf f xs [] false st = .ok d st := by
  have hb : back [] cs' d = some d := if_pos hd
  have hc : cellsAt st [] = some [] := rfl
  have hp : putBack [] cs' 0 [] st = some st := rfl
  simp only [callIn, prep_pure xs st 0 0 hx, hc, h, callBack, hp, hb]
  rfl
/-- a call whose first argument is a cell (a list of plain data) that it changes, the others pure -/
theorem call_box {cf : CallF} {f n : Nat} {xs : List D} {st : Store} {c c' d : D} {cs' : Store} (hn : st[n]? = some c) (hc : c.pure = true) (hx : xs.all D.pure = true) (h : cf f (.ref 0 :: xs) [c] = .ok d cs') (h0 : cs'[0]? = some c') (hc' : c'.pure = true) (hd : d.pure = true) :
    callIn cf f (.ref n :: xs) [0] false st = .ok d (st.set n c') := by
  have hp : ∀ (ys : List D) (i j : Nat), 0 < i → ys.all D.pure = true → prep [0] st i j ys = some (ys, [], []) := by
    intro ys
    induction ys with
    | nil => intro i j _ _; rfl
    | cons y r ih =>
      intro i j hi h
      simp only [List.all_cons, Bool.and_eq_true] at h
      unfold prep
      rw [if_neg (by simp; omega), if_pos h.1, ih (i + 1) j (by omega) h.2]; rfl
  have e1 : prep [0] st 0 0 (.ref n :: xs) = some (.ref 0 :: xs, [n], []) := by
    unfold prep
    rw [if_pos (by rfl)]
    show (prep [0] st 1 1 xs).map _ = _
    rw [hp xs 1 1 (by omega) hx]; rfl
  have e2 : cellsAt st [n] = some [c] := by
    simp [cellsAt, hn, hc]
  have hb : back [n] cs' d = some d := if_pos hd
  have hb' : back [n] cs' c' = some c' := if_pos hc'
  have e3 : putBack [n] cs' 0 [n] st = some (st.set n c') := by
    simp [putBack, h0, hb']
  simp only [callIn, e1, e2, h, callBack, e3, hb]
  rfl
theorem pureL_map {α : Type} (f : α → D) (h : ∀ a, (f a).pure = true) : ∀ xs : List α, D.pureL (xs.map f) = true
  | [] => rfl
  | x :: xs => by
    simp only [List.map_cons, D.pureL, Bool.and_eq_true]
    exact ⟨h x, pureL_map f h xs⟩
theorem pure_tup {α : Type} (f : α → D) (h : ∀ a, (f a).pure = true) (xs : List α) : (D.tup (xs.map f)).pure = true := by simp only [D.pure]; exact pureL_map f h xs
theorem pure_lst {α : Type} (f : α → D) (h : ∀ a, (f a).pure = true) (xs : List α) : (D.lst (xs.map f)).pure = true := by simp only [D.pure]; exact pureL_map f h xs
@[simp] theorem trim_same {n : Nat} {en : En} {st : Store} (h : st.length ≤ n) : trim n en st = st := by
  unfold trim
  split
  · exact List.take_of_length_le h
  · rfl
theorem pairs_map {α : Type} (f : α → D) : ∀ (xs : List α) (i : Nat), pairs i (xs.map f) = (xs.zipIdx i).map fun p => .tup [.int (p.2 : Int), f p.1]
  | [], _ => rfl
  | x :: r, i => by
    simp only [List.map_cons, pairs, List.zipIdx_cons]
    rw [pairs_map f r (i + 1)]
/-- a loop that goes through: the typed state s -/
theorem for_fold {α S : Type} {asg : D → En → Store → R En} {body : En → Store → R (Fl × En)} {ws : List Nat} {n : Nat} {g : Guard} (enc : α → D) (E : S → En) (T : S → Store) (step : S → α → S) (I : S → Prop) (mem : α → Prop)
    (h : ∀ x s, mem x → I s → I (step s x) ∧ ∃ en1 st1 fl en2 st2, asg (enc x) (E s) (T s) = .ok en1 st1 ∧ body en1 st1 = .ok (fl, en2) st2 ∧ (fl = .nx ∨ fl = .ct) ∧ held g st2 = true ∧ wipe en2 ws = E (step s x) ∧ trim n (E (step s x)) st2 = T (step s x)) :
    ∀ (xs : List α) (s : S), (∀ x ∈ xs, mem x) → I s → forR asg body ws n g (xs.map enc) (E s) (T s) = .ok (.nx, E (xs.foldl step s)) (T (xs.foldl step s))
  | [], s, _, _ => rfl
  | x :: xs, s, hm, hi => by
    obtain ⟨hi', en1, st1, fl, en2, st2, e1, e2, hf, hg, hw, ht⟩ := h x s (hm x List.mem_cons_self) hi
    show (asg (enc x) (E s) (T s)).bind _ = _
    rw [e1]
    show (body en1 st1).bind _ = _
    rw [e2]
    have fin : guardB (held g st2) (forR asg body ws n g (xs.map enc) (wipe en2 ws) (trim n (wipe en2 ws) st2)) = .ok (.nx, E ((x :: xs).foldl step s)) (T ((x :: xs).foldl step s)) := by
      rw [hg, guard_true, hw, ht]
      exact for_fold enc E T step I mem h xs (step s x) (fun y hy => hm y (List.mem_cons_of_mem _ hy)) hi'
    rcases hf with rfl | rfl
    · exact fin
    · exact fin
/-- what a comprehension adds -/
def addO {β : Type} (out : β → D) (acc : List D) : Option β → List D
  | some y => acc ++ [out y]
  | none => acc
@[simp] theorem addO_some {β : Type} (out : β → D) (acc : List D) (y : β) : addO out acc (some y) = acc ++ [out y] := rfl
@[simp] theorem addO_none {β : Type} (out : β → D) (acc : List D) : addO out acc none = acc := rfl
/-- a comprehension's fold -/
theorem fold_map {α β : Type} {F : D → List D → Store → R (List D)} {st : Store} (enc : α → D) (out : β → D) (f : α → Option β) (mem : α → Prop)
    (h : ∀ x acc, mem x → acc.length < line → F (enc x) acc st = .ok (addO out acc (f x)) st) :
    ∀ (xs : List α) (acc : List D), (∀ x ∈ xs, mem x) → acc.length + xs.length ≤ line → foldR F (xs.map enc) acc st = .ok (acc ++ (xs.filterMap f).map out) st
  | [], acc, _, _ => by simp [foldR]
  | x :: xs, acc, hm, hl => by
    rw [List.length_cons] at hl
    show (F (enc x) acc st).bind _ = _
    rw [h x acc (hm x List.mem_cons_self) (by omega)]
    have hm' : ∀ y ∈ xs, mem y := fun y hy => hm y (List.mem_cons_of_mem _ hy)
    cases e : f x with
    | none =>
      show foldR F (xs.map enc) acc st = _
      rw [fold_map enc out f mem h xs acc hm' (by omega), List.filterMap_cons_none e]
    | some y =>
      show foldR F (xs.map enc) (acc ++ [out y]) st = _
      rw [fold_map enc out f mem h xs (acc ++ [out y]) hm' (by simp; omega), List.filterMap_cons_some e]
      simp
@[simp] theorem e_evE_lit (cf : CallF) {d st u11} : evE cf (.lit d) u11 st = .ok d st := by first | (simp only [evE]; done) | (simp only [evE]; rfl) | rfl
@[simp] theorem e_evE_var (cf : CallF) {en i st} : evE cf (.var i) en st = (match en[i]? with
    | some (some d) => .ok d st
    | _ => .bad) := by first | (simp only [evE]; done) | (simp only [evE]; rfl) | rfl
@[simp] theorem e_evE_tup (cf : CallF) {en es st} : evE cf (.tup es) en st = (evEs cf es en st).bind fun xs s1 => mkTup xs s1 := by first | (simp only [evE]; done) | (simp only [evE]; rfl) | rfl
@[simp] theorem e_evE_list (cf : CallF) {en es st} : evE cf (.list es) en st = (evEs cf es en st).bind fun xs s1 => mkLst xs s1 := by first | (simp only [evE]; done) | (simp only [evE]; rfl) | rfl
@[simp] theorem e_evE_dict (cf : CallF) {en ks st vs} : evE cf (.dict ks vs) en st = (evEs cf vs en st).bind fun xs s1 => opt ((dictD ks xs []).map .dct) s1 := by first | (simp only [evE]; done) | (simp only [evE]; rfl) | rfl
@[simp] theorem e_evE_mut (cf : CallF) {e en st} : evE cf (.mut e) en st = (evE cf e en st).bind fun x s1 => match x with
    | .lst _ => .ok (.ref s1.length) (s1 ++ [x])
    | .dct _ => .ok (.ref s1.length) (s1 ++ [x])
    | _ => .bad := by first | (simp only [evE]; done) | (simp only [evE]; rfl) | rfl
@[simp] theorem e_evE_bin (cf : CallF) {a b en op st} : evE cf (.bin op a b) en st = (evE cf a en st).bind fun x s1 => (evE cf b en s1).bind fun y s2 => binD op x y s2 := by first | (simp only [evE]; done) | (simp only [evE]; rfl) | rfl
@[simp] theorem e_evE_neg (cf : CallF) {a en st} : evE cf (.neg a) en st = (evE cf a en st).bind fun x s1 => (match x with
    | .int i => .ok (.int (-i)) s1
    | _ => .bad) := by first | (simp only [evE]; done) | (simp only [evE]; rfl) | rfl
@[simp] theorem e_evE_cmp (cf : CallF) {a b en op st} : evE cf (.cmp op a b) en st = (evE cf a en st).bind fun x s1 => (evE cf b en s1).bind fun y s2 => cmpD op x y s2 := by first | (simp only [evE]; done) | (simp only [evE]; rfl) | rfl
@[simp] theorem e_evE_and (cf : CallF) {a b en st} : evE cf (.and a b) en st = (evE cf a en st).bind fun x s1 => (match truth s1 x with
    | some true => evE cf b en s1
    | some false => .ok x s1
    | none => .bad) := by first | (simp only [evE]; done) | (simp only [evE]; rfl) | rfl
@[simp] theorem e_evE_or (cf : CallF) {a b en st} : evE cf (.or a b) en st = (evE cf a en st).bind fun x s1 => (match truth s1 x with
    | some true => .ok x s1
    | some false => evE cf b en s1
    | none => .bad) := by first | (simp only [evE]; done) | (simp only [evE]; rfl) | rfl
@[simp] theorem e_evE_not (cf : CallF) {a en st} : evE cf (.not a) en st = (evE cf a en st).bind fun x s1 => opt ((truth s1 x).map fun b => .bl (!b)) s1 := by first | (simp only [evE]; done) | (simp only [evE]; rfl) | rfl
@[simp] theorem e_evE_ife (cf : CallF) {a b c en st} : evE cf (.ife c a b) en st = (evE cf c en st).bind fun x s1 => (match truth s1 x with
    | some true => evE cf a en s1
    | some false => evE cf b en s1
    | none => .bad) := by first | (simp only [evE]; done) | (simp only [evE]; rfl) | rfl
@[simp] theorem e_evE_ix (cf : CallF) {a b en st} : evE cf (.ix a b) en st = (evE cf a en st).bind fun x s1 => (evE cf b en s1).bind fun y s2 => ixD x y s2 := by first | (simp only [evE]; done) | (simp only [evE]; rfl) | rfl
@[simp] theorem e_evE_sl (cf : CallF) {a en hi lo st} : evE cf (.sl a lo hi) en st = (evE cf a en st).bind fun x s1 => (evO cf lo en s1).bind fun l s2 => (evO cf hi en s2).bind fun h s3 => opt (slB x l h s3) s3 := by first | (simp only [evE]; done) | (simp only [evE]; rfl) | rfl
@[simp] theorem e_evE_call (cf : CallF) {en es f fresh io st} : evE cf (.call f es io fresh) en st = (evEs cf es en st).bind fun xs s1 => callIn cf f xs io fresh s1 := by first | (simp only [evE]; done) | (simp only [evE]; rfl) | rfl
@[simp] theorem e_evE_callS (cf : CallF) {en es f st} : evE cf (.callS f es) en st = (evEs cf es en st).bind fun xs s1 => cf f xs s1 := by first | (simp only [evE]; done) | (simp only [evE]; rfl) | rfl
@[simp] theorem e_evE_bi (cf : CallF) {en es f st} : evE cf (.bi f es) en st = (evEs cf es en st).bind fun xs s1 => biD f xs s1 := by first | (simp only [evE]; done) | (simp only [evE]; rfl) | rfl
@[simp] theorem e_evE_mt (cf : CallF) {en es m o st} : evE cf (.mt m o es) en st = (evE cf o en st).bind fun x s1 => guardB (mtTy m (view s1 x)) ((evEs cf es en s1).bind fun xs s2 => mtD m x xs s2) := by first | (simp only [evE]; done) | (simp only [evE]; rfl) | rfl
@[simp] theorem e_evE_isi (cf : CallF) {a en st ts} : evE cf (.isi a ts) en st = (evE cf a en st).bind fun x s1 => guardB (isPl (view s1 x)) (.ok (.bl (ts.any (isTy (view s1 x)))) s1) := by first | (simp only [evE]; done) | (simp only [evE]; rfl) | rfl
@[simp] theorem e_evE_lc (cf : CallF) {cond elt en it own st t} : evE cf (.lc own t it cond elt) en st = (evI cf it en st).bind fun p s1 =>
    (foldR (fun x acc s2 => (asT cf t x (wipe en own) s2).bind fun en2 s3 => (evCo cf cond en2 s3).bind fun b s4 =>
      if b = true then (evE cf elt en2 s4).bind fun y s5 => guardB (decide (acc.length < line) && held p.2 s5) (.ok (acc ++ [y]) s5) else guardB (held p.2 s4) (.ok acc s4)) p.1 [] s1).bind fun acc s6 => .ok (.lst acc) s6 := by first | (simp only [evE]; done) | (simp only [evE]; rfl) | rfl
@[simp] theorem e_evE_dc (cf : CallF) {cond en it k own st t v} : evE cf (.dc own t it cond k v) en st = (evI cf it en st).bind fun p s1 =>
    (foldR (fun x acc s2 => (asT cf t x (wipe en own) s2).bind fun en2 s3 => (evCo cf cond en2 s3).bind fun b s4 =>
      if b = true then (evE cf k en2 s4).bind fun y s5 => (evE cf v en2 s5).bind fun z s6 => guardB (isKey y && decide (acc.length < line) && held p.2 s6) (.ok (dput acc y z) s6) else guardB (held p.2 s4) (.ok acc s4)) p.1 [] s1).bind fun acc s6 => .ok (.dct acc) s6 := by first | (simp only [evE]; done) | (simp only [evE]; rfl) | rfl
@[simp] theorem e_evEs_nil (cf : CallF) {st u11} : evEs cf .nil u11 st = .ok [] st := by first | (simp only [evEs]; done) | (simp only [evEs]; rfl) | rfl
@[simp] theorem e_evEs_cons (cf : CallF) {e en es st} : evEs cf (.cons e es) en st = (evE cf e en st).bind fun x s1 => (evEs cf es en s1).bind fun xs s2 => .ok (x :: xs) s2 := by first | (simp only [evEs]; done) | (simp only [evEs]; rfl) | rfl
@[simp] theorem e_evO_none (cf : CallF) {st u11} : evO cf .none u11 st = .ok none st := by first | (simp only [evO]; done) | (simp only [evO]; rfl) | rfl
@[simp] theorem e_evO_some (cf : CallF) {e en st} : evO cf (.some e) en st = (evE cf e en st).bind fun x s1 => (match x with
    | .int i => .ok (some i) s1
    | _ => .bad) := by first | (simp only [evO]; done) | (simp only [evO]; rfl) | rfl
@[simp] theorem e_evCo_none (cf : CallF) {st u11} : evCo cf .none u11 st = .ok true st := by first | (simp only [evCo]; done) | (simp only [evCo]; rfl) | rfl
@[simp] theorem e_evCo_some (cf : CallF) {e en st} : evCo cf (.some e) en st = (evE cf e en st).bind fun x s1 => opt (truth s1 x) s1 := by first | (simp only [evCo]; done) | (simp only [evCo]; rfl) | rfl
@[simp] theorem e_asT_name (cf : CallF) {d en i st} : asT cf (.name i) d en st = .ok (en.set i (some d)) st := by first | (simp only [asT]; done) | (simp only [asT]; rfl) | rfl
@[simp] theorem e_asT_tup (cf : CallF) {d en st ts} : asT cf (.tup ts) d en st = (match view st d with
    | .tup xs => asTs cf ts xs en st
    | _ => .bad) := by first | (simp only [asT]; done) | (simp only [asT]; rfl) | rfl
@[simp] theorem e_asT_sub (cf : CallF) {d en i o st} : asT cf (.sub o i) d en st = (evE cf o en st).bind fun x s1 => (evE cf i en s1).bind fun y s2 => (match x with
    | .ref n => (match s2[n]? with
      | some (.lst xs) => (match y with
        | .int k => (match L2.ixN xs.length k with
          | some j => .ok en (s2.set n (.lst (xs.set j d)))
          | none => .bad)
        | _ => .bad)
      | some (.dct es) => guardB (isKey y && decide (es.length < line)) (.ok en (s2.set n (.dct (dput es y d))))
      | _ => .bad)
    | _ => .bad) := by first | (simp only [asT]; done) | (simp only [asT]; rfl) | rfl
@[simp] theorem e_asTs_nil (cf : CallF) {en st xs} : asTs cf .nil xs en st = (match xs with
    | [] => .ok en st
    | _ => .bad) := by first | (simp only [asTs]; done) | (simp only [asTs]; rfl) | rfl
@[simp] theorem e_asTs_cons (cf : CallF) {en st t ts xs} : asTs cf (.cons t ts) xs en st = (match xs with
    | x :: r => (asT cf t x en st).bind fun en1 s1 => asTs cf ts r en1 s1
    | [] => .bad) := by first | (simp only [asTs]; done) | (simp only [asTs]; rfl) | rfl
@[simp] theorem e_evI_val (cf : CallF) {e en st} : evI cf (.val e) en st = (evE cf e en st).bind fun x s1 => opt (iterOf s1 x) s1 := by first | (simp only [evI]; done) | (simp only [evI]; rfl) | rfl
@[simp] theorem e_evI_range1 (cf : CallF) {a en st} : evI cf (.range1 a) en st = (evE cf a en st).bind fun x s1 => (match x with
    | .int j => guardB (rgOk j) (.ok (rangeD 0 j.toNat, []) s1)
    | _ => .bad) := by first | (simp only [evI]; done) | (simp only [evI]; rfl) | rfl
@[simp] theorem e_evI_range2 (cf : CallF) {a b en st} : evI cf (.range2 a b) en st = (evE cf a en st).bind fun x s1 => (evE cf b en s1).bind fun y s2 => (match x, y with
    | .int i, .int j => guardB (rgOk i && rgOk j) (.ok (rangeD i (j - i).toNat, []) s2)
    | _, _ => .bad) := by first | (simp only [evI]; done) | (simp only [evI]; rfl) | rfl
@[simp] theorem e_evI_enum (cf : CallF) {e en st} : evI cf (.enum e) en st = (evE cf e en st).bind fun x s1 => (match view s1 x with
    | .lst xs => .ok (pairs 0 xs, guardOf s1 x) s1
    | .tup xs => .ok (pairs 0 xs, []) s1
    | _ => .bad) := by first | (simp only [evI]; done) | (simp only [evI]; rfl) | rfl
@[simp] theorem e_evI_zip (cf : CallF) {a b en st} : evI cf (.zip a b) en st = (evE cf a en st).bind fun x s1 => (evE cf b en s1).bind fun y s2 => (match view s2 x, view s2 y with
    | .lst xs, .lst ys => .ok (zips xs ys, guardOf s2 x ++ guardOf s2 y) s2
    | .tup xs, .tup ys => .ok (zips xs ys, []) s2
    | _, _ => .bad) := by first | (simp only [evI]; done) | (simp only [evI]; rfl) | rfl
@[simp] theorem e_evS_asg (cf : CallF) {e en st t} : evS cf (.asg t e) en st = (evE cf e en st).bind fun x s1 => (asT cf t x en s1).bind fun en1 s2 => .ok (.nx, en1) s2 := by first | (simp only [evS]; done) | (simp only [evS]; rfl) | rfl
@[simp] theorem e_evS_aug (cf : CallF) {e en i op st} : evS cf (.aug i op e) en st = (match en[i]? with
    | some (some d) => (evE cf e en st).bind fun y s1 => (augD op d y s1).bind fun z s2 => .ok (.nx, en.set i (some z)) s2
    | _ => .bad) := by first | (simp only [evS]; done) | (simp only [evS]; rfl) | rfl
@[simp] theorem e_evS_expr (cf : CallF) {e en st} : evS cf (.expr e) en st = (evE cf e en st).bind fun _ s1 => .ok (.nx, en) s1 := by first | (simp only [evS]; done) | (simp only [evS]; rfl) | rfl
@[simp] theorem e_evS_ret (cf : CallF) {e en st} : evS cf (.ret e) en st = (evE cf e en st).bind fun x s1 => .ok (.rt x, en) s1 := by first | (simp only [evS]; done) | (simp only [evS]; rfl) | rfl
@[simp] theorem e_evS_retN (cf : CallF) {en st} : evS cf .retN en st = .ok (.rt .non, en) st := by first | (simp only [evS]; done) | (simp only [evS]; rfl) | rfl
@[simp] theorem e_evS_ife (cf : CallF) {a b c en st} : evS cf (.ife c a b) en st = (evE cf c en st).bind fun x s1 => (match truth s1 x with
    | some true => evSs cf a en s1
    | some false => evSs cf b en s1
    | none => .bad) := by first | (simp only [evS]; done) | (simp only [evS]; rfl) | rfl
@[simp] theorem e_evS_for_ (cf : CallF) {body en it st t ws} : evS cf (.for_ t it ws body) en st = (evI cf it en st).bind fun p s1 => (forR (asT cf t) (evSs cf body) ws s1.length p.2 p.1 en s1) := by first | (simp only [evS]; done) | (simp only [evS]; rfl) | rfl
@[simp] theorem e_evS_pass (cf : CallF) {en st} : evS cf .pass en st = .ok (.nx, en) st := by first | (simp only [evS]; done) | (simp only [evS]; rfl) | rfl
@[simp] theorem e_evS_brk (cf : CallF) {en st} : evS cf .brk en st = .ok (.brk, en) st := by first | (simp only [evS]; done) | (simp only [evS]; rfl) | rfl
@[simp] theorem e_evS_cont (cf : CallF) {en st} : evS cf .cont en st = .ok (.ct, en) st := by first | (simp only [evS]; done) | (simp only [evS]; rfl) | rfl
@[simp] theorem e_evSs_nil (cf : CallF) {en st} : evSs cf .nil en st = .ok (.nx, en) st := by first | (simp only [evSs]; done) | (simp only [evSs]; rfl) | rfl
@[simp] theorem e_evSs_cons (cf : CallF) {en r s st} : evSs cf (.cons s r) en st = (evS cf s en st).bind fun p s1 => match p.1 with
    | .nx => evSs cf r p.2 s1
    | f => .ok (f, p.2) s1 := by first | (simp only [evSs]; done) | (simp only [evSs]; rfl) | rfl
@[simp] theorem held_none (st : Store) : held [] st = true := rfl
@[simp] theorem wipe_nil (en : En) : wipe en [] = en := rfl
@[simp] theorem wipe_cons (en : En) (v : Nat) (vs : List Nat) : wipe en (v :: vs) = (wipe en vs).set v none := rfl
theorem sIx_nn {n d : Nat} {i : Int} (h : 0 ≤ i) : HT.sIx n d (some i) = min i.toNat n := by
  show (if i < 0 then (i + (n : Int)).toNat else min i.toNat n) = _
  rw [if_neg (by omega)]
theorem cut_take {α : Type} (xs : List α) {i : Int} (h : 0 ≤ i) : cut xs none (some i) = xs.take i.toNat := by
  unfold cut
  rw [sIx_nn h]
  show (xs.drop 0).take (min i.toNat xs.length - 0) = _
  rw [List.drop_zero, Nat.sub_zero]
  rcases Nat.le_total i.toNat xs.length with hl | hl
  · rw [Nat.min_eq_left hl]
  · rw [Nat.min_eq_right hl, List.take_length, List.take_of_length_le hl]
theorem cut_drop {α : Type} (xs : List α) {i : Int} (h : 0 ≤ i) : cut xs (some i) none = xs.drop i.toNat := by
  unfold cut
  rw [sIx_nn h]
  show (xs.drop (min i.toNat xs.length)).take (xs.length - min i.toNat xs.length) = _
  rcases Nat.le_total i.toNat xs.length with hl | hl
  · rw [Nat.min_eq_left hl, List.take_of_length_le (by rw [List.length_drop]; exact Nat.le_refl _)]
  · rw [Nat.min_eq_right hl, List.drop_length, List.drop_of_length_le hl]; simp
theorem sl_take (xs : List D) (st : Store) {i : Int} (h : 0 ≤ i) : slB (.tup xs) none (some i) st = some (.tup (xs.take i.toNat)) := by
  show some (D.tup (cut xs none (some i))) = _
  rw [cut_take xs h]
theorem sl_drop (xs : List D) (st : Store) {i : Int} (h : 0 ≤ i) : slB (.tup xs) (some i) none st = some (.tup (xs.drop i.toNat)) := by
  show some (D.tup (cut xs (some i) none)) = _
  rw [cut_drop xs h]
theorem sl_takeL (xs : List D) (st : Store) {i : Int} (h : 0 ≤ i) : slB (.lst xs) none (some i) st = some (.lst (xs.take i.toNat)) := by
  show some (D.lst (cut xs none (some i))) = _
  rw [cut_take xs h]
theorem sl_dropL (xs : List D) (st : Store) {i : Int} (h : 0 ≤ i) : slB (.lst xs) (some i) none st = some (.lst (xs.drop i.toNat)) := by
  show some (D.lst (cut xs (some i) none)) = _
  rw [cut_drop xs h]
theorem in_tup {x : D} {ys : List D} {st : Store} (h : flatD x = true) (h2 : ys.all flatD = true) : cmpD .in_ x (.tup ys) st = .ok (.bl (ys.any fun y => eqF y x)) st := by
  show opt ((inD x ys).map D.bl) st = _
  unfold inD
  rw [if_pos ⟨h, h2⟩]; rfl
theorem in_lst {x : D} {ys : List D} {st : Store} (h : flatD x = true) (h2 : ys.all flatD = true) : cmpD .in_ x (.lst ys) st = .ok (.bl (ys.any fun y => eqF y x)) st := by
  show opt ((inD x ys).map D.bl) st = _
  unfold inD
  rw [if_pos ⟨h, h2⟩]; rfl
theorem notin_lst {x : D} {ys : List D} {st : Store} (h : flatD x = true) (h2 : ys.all flatD = true) : cmpD .notin x (.lst ys) st = .ok (.bl (!ys.any fun y => eqF y x)) st := by
  show opt (((inD x ys).map (!·)).map D.bl) st = _
  unfold inD
  rw [if_pos ⟨h, h2⟩]; rfl
@[simp] theorem fl_int (i : Int) : flatD (.int i) = true := rfl
@[simp] theorem fl_str (i : Str) : flatD (.str i) = true := rfl
@[simp] theorem fl_non : flatD .non = true := rfl
@[simp] theorem fl_bl (i : Bool) : flatD (.bl i) = true := rfl
@[simp] theorem eqF_int (i j : Int) : eqF (.int i) (.int j) = decide (i = j) := rfl
@[simp] theorem eqF_str (i j : Str) : eqF (.str i) (.str j) = decide (i = j) := rfl
@[simp] theorem eqF_non_str (j : Str) : eqF .non (.str j) = false := rfl
@[simp] theorem eqF_non_int (j : Int) : eqF .non (.int j) = false := rfl
@[simp] theorem keq_int (i j : Int) : keq (.int i) (.int j) = decide (i = j) := rfl
@[simp] theorem keq_str (i j : Str) : keq (.str i) (.str j) = decide (i = j) := rfl
theorem dget_cons (k' v : D) (r : List D) (k : D) : dget (.tup [k', v] :: r) k = if keq k' k = true then some v else dget r k := rfl
@[simp] theorem bi_len_tup (xs : List D) (st : Store) : biD .len [.tup xs] st = .ok (.int (xs.length : Nat)) st := rfl
@[simp] theorem bi_len_lst (xs : List D) (st : Store) : biD .len [.lst xs] st = .ok (.int (xs.length : Nat)) st := rfl
@[simp] theorem bi_len_dct (xs : List D) (st : Store) : biD .len [.dct xs] st = .ok (.int (xs.length : Nat)) st := rfl
@[simp] theorem bi_tup_lst (xs : List D) (st : Store) : biD .tuple [.lst xs] st = .ok (.tup xs) st := rfl
@[simp] theorem bi_tup_tup (xs : List D) (st : Store) : biD .tuple [.tup xs] st = .ok (.tup xs) st := rfl
@[simp] theorem bi_list_lst (xs : List D) (st : Store) : biD .list [.lst xs] st = .ok (.lst xs) st := rfl
@[simp] theorem bi_list_tup (xs : List D) (st : Store) : biD .list [.tup xs] st = .ok (.lst xs) st := rfl
@[simp] theorem bi_abs_int (i : Int) (st : Store) : biD .abs [.int i] st = .ok (.int (if i < 0 then -i else i)) st := rfl
@[simp] theorem bi_int_int (i : Int) (st : Store) : biD .int [.int i] st = .ok (.int i) st := rfl
@[simp] theorem bq_max2 (i j : Int) (st : Store) : biD .max2 [.int i, .int j] st = .ok (.int (if j > i then j else i)) st := rfl
@[simp] theorem bq_min2 (i j : Int) (st : Store) : biD .min2 [.int i, .int j] st = .ok (.int (if j < i then j else i)) st := rfl
theorem append_ok {st : Store} {n : Nat} {ys : List D} {y : D} (h : st[n]? = some (.lst ys)) (hl : ys.length < line) : mtD .append (.ref n) [y] st = .ok .non (st.set n (.lst (ys ++ [y]))) := by
  have e : lstAt st (.ref n) = some (n, ys) := by
    show (match st[n]? with | some (.lst ys) => some (n, ys) | _ => none) = _
    rw [h]
  show apB (.ref n) [y] st = _
  unfold apB
  rw [e]
  show guardB (decide (ys.length < line)) _ = _
  rw [decide_eq_true hl]; rfl
theorem mtTy_lst' (m : Mt) (h : m ≠ .get ∧ m ≠ .setdefault ∧ m ≠ .join) (xs : List D) : mtTy m (.lst xs) = true := by
  cases m <;> first | rfl | (simp at h)
theorem for_inv {asg : D → En → Store → R En} {body : En → Store → R (Fl × En)} {ws : List Nat} {n : Nat} {g : Guard} (I : Nat → En → Store → Prop) :
    ∀ (items : List D) (i : Nat) (en : En) (st : Store), I i en st → (∀ j x en st, items[j]? = some x → I (i + j) en st → ∃ en1 st1 fl en2 st2, asg x en st = .ok en1 st1 ∧ body en1 st1 = .ok (fl, en2) st2 ∧ (fl = .nx ∨ fl = .ct) ∧ held g st2 = true ∧ I (i + j + 1) (wipe en2 ws) (trim n (wipe en2 ws) st2)) →
      ∃ en' st', forR asg body ws n g items en st = .ok (.nx, en') st' ∧ I (i + items.length) en' st'
  | [], i, en, st, h0, _ => ⟨en, st, rfl, h0⟩
  | x :: xs, i, en, st, h0, h => by
    obtain ⟨en1, st1, fl, en2, st2, e1, e2, hf, hg, hI⟩ := h 0 x en st rfl h0
    obtain ⟨en', st', e3, h3⟩ := for_inv I xs (i + 1) _ _ hI fun j y en st hj hi => by
      have := h (j + 1) y en st (by simpa using hj) (by rw [show i + (j + 1) = i + 1 + j by omega]; exact hi)
      rw [show i + 1 + j + 1 = i + (j + 1) + 1 by omega]
      exact this
    refine ⟨en', st', ?_, by rw [List.length_cons, show i + (xs.length + 1) = i + 1 + xs.length by omega]; exact h3⟩
    show (asg x en st).bind _ = _
    rw [e1]
    show (body en1 st1).bind _ = _
    rw [e2]
    rcases hf with rfl | rfl
    · show guardB (held g st2) _ = _
      rw [hg]; exact e3
    · show guardB (held g st2) _ = _
      rw [hg]; exact e3
@[simp] theorem mkTup_0 (st : Store) : mkTup [] st = .ok (.tup []) st := mkTup_ok (by simp [line])
@[simp] theorem mkLst_0 (st : Store) : mkLst [] st = .ok (.lst []) st := mkLst_ok (by simp [line])
@[simp] theorem mkTup_1 (a : D) (st : Store) : mkTup [a] st = .ok (.tup [a]) st := mkTup_ok (by simp [line])
@[simp] theorem mkLst_1 (a : D) (st : Store) : mkLst [a] st = .ok (.lst [a]) st := mkLst_ok (by simp [line])
@[simp] theorem mkTup_2 (a b : D) (st : Store) : mkTup [a, b] st = .ok (.tup [a, b]) st := mkTup_ok (by simp [line])
@[simp] theorem mkLst_2 (a b : D) (st : Store) : mkLst [a, b] st = .ok (.lst [a, b]) st := mkLst_ok (by simp [line])
@[simp] theorem mkTup_3 (a b c : D) (st : Store) : mkTup [a, b, c] st = .ok (.tup [a, b, c]) st := mkTup_ok (by simp [line])
@[simp] theorem mkLst_3 (a b c : D) (st : Store) : mkLst [a, b, c] st = .ok (.lst [a, b, c]) st := mkLst_ok (by simp [line])
@[simp] theorem mkTup_4 (a b c d : D) (st : Store) : mkTup [a, b, c, d] st = .ok (.tup [a, b, c, d]) st := mkTup_ok (by simp [line])
@[simp] theorem mkLst_4 (a b c d : D) (st : Store) : mkLst [a, b, c, d] st = .ok (.lst [a, b, c, d]) st := mkLst_ok (by simp [line])
@[simp] theorem mkTup_5 (a b c d e : D) (st : Store) : mkTup [a, b, c, d, e] st = .ok (.tup [a, b, c, d, e]) st := mkTup_ok (by simp [line])
@[simp] theorem mkLst_5 (a b c d e : D) (st : Store) : mkLst [a, b, c, d, e] st = .ok (.lst [a, b, c, d, e]) st := mkLst_ok (by simp [line])
@[simp] theorem mkTup_6 (a b c d e f : D) (st : Store) : mkTup [a, b, c, d, e, f] st = .ok (.tup [a, b, c, d, e, f]) st := mkTup_ok (by simp [line])
@[simp] theorem mkLst_6 (a b c d e f : D) (st : Store) : mkLst [a, b, c, d, e, f] st = .ok (.lst [a, b, c, d, e, f]) st := mkLst_ok (by simp [line])
@[simp] theorem mkTup_7 (a b c d e f g : D) (st : Store) : mkTup [a, b, c, d, e, f, g] st = .ok (.tup [a, b, c, d, e, f, g]) st := mkTup_ok (by simp [line])
@[simp] theorem mkLst_7 (a b c d e f g : D) (st : Store) : mkLst [a, b, c, d, e, f, g] st = .ok (.lst [a, b, c, d, e, f, g]) st := mkLst_ok (by simp [line])
@[simp] theorem mkTup_8 (a b c d e f g h : D) (st : Store) : mkTup [a, b, c, d, e, f, g, h] st = .ok (.tup [a, b, c, d, e, f, g, h]) st := mkTup_ok (by simp [line])
@[simp] theorem mkLst_8 (a b c d e f g h : D) (st : Store) : mkLst [a, b, c, d, e, f, g, h] st = .ok (.lst [a, b, c, d, e, f, g, h]) st := mkLst_ok (by simp [line])

@[simp] theorem vw_ref' (st : Store) (n : Nat) : view st (.ref n) = (st[n]?).getD (.ref n) := rfl
@[simp] theorem mtTy_append (xs : List D) : mtTy .append (.lst xs) = true := rfl
@[simp] theorem mtTy_index (xs : List D) : mtTy .index (.lst xs) = true := rfl
@[simp] theorem mtTy_insert (xs : List D) : mtTy .insert (.lst xs) = true := rfl
@[simp] theorem mtTy_pop (xs : List D) : mtTy .pop (.lst xs) = true := rfl
@[simp] theorem iter_tup (xs : List D) (st : Store) : iterOf st (.tup xs) = some (xs, []) := rfl
@[simp] theorem iter_lst (xs : List D) (st : Store) : iterOf st (.lst xs) = some (xs, []) := rfl
theorem atI_map {α β : Type} (f : α → β) (xs : List α) (i : Int) : L2.atI (xs.map f) i = (L2.atI xs i).map f := by
  unfold L2.atI
  rw [List.length_map]
  cases L2.ixN xs.length i with
  | none => rfl
  | some j => simp
theorem for_foldN {α S : Type} {asg : D → En → Store → R En} {body : En → Store → R (Fl × En)} {ws : List Nat} {n : Nat} {g : Guard} (enc : α → D) (E : S → En) (T : S → Store) (step : S → α → S) (I : Nat → S → Prop) :
    ∀ (xs : List α) (i : Nat) (s : S), (∀ j x s, xs[j]? = some x → I (i + j) s → I (i + j + 1) (step s x) ∧ ∃ en1 st1 fl en2 st2, asg (enc x) (E s) (T s) = .ok en1 st1 ∧ body en1 st1 = .ok (fl, en2) st2 ∧ (fl = .nx ∨ fl = .ct) ∧ held g st2 = true ∧ wipe en2 ws = E (step s x) ∧ trim n (E (step s x)) st2 = T (step s x)) → I i s →
      forR asg body ws n g (xs.map enc) (E s) (T s) = .ok (.nx, E (xs.foldl step s)) (T (xs.foldl step s)) ∧ I (i + xs.length) (xs.foldl step s)
  | [], i, s, _, h0 => ⟨rfl, h0⟩
  | x :: xs, i, s, h, h0 => by
    obtain ⟨hi', en1, st1, fl, en2, st2, e1, e2, hf, hg, hw, ht⟩ := h 0 x s rfl h0
    obtain ⟨r1, r2⟩ := for_foldN enc E T step I xs (i + 1) (step s x) (fun j y s hj hi => by
      have := h (j + 1) y s (by simpa using hj) (by rw [show i + (j + 1) = i + 1 + j by omega]; exact hi)
      rw [show i + 1 + j + 1 = i + (j + 1) + 1 by omega]
      exact this) hi'
    refine ⟨?_, by rw [List.length_cons, show i + (xs.length + 1) = i + 1 + xs.length by omega]; exact r2⟩
    show (asg (enc x) (E s) (T s)).bind _ = _
    rw [e1]
    show (body en1 st1).bind _ = _
    rw [e2]
    have fin : guardB (held g st2) (forR asg body ws n g (xs.map enc) (wipe en2 ws) (trim n (wipe en2 ws) st2)) = .ok (.nx, E ((x :: xs).foldl step s)) (T ((x :: xs).foldl step s)) := by
      rw [hg, guard_true, hw, ht]
      exact r1
    rcases hf with rfl | rfl
    · exact fin
    · exact fin
theorem foldl_snoc {α β : Type} (f : α → β) : ∀ (xs : List α) (acc : List β), xs.foldl (fun s x => s ++ [f x]) acc = acc ++ xs.map f
  | [], acc => by simp
  | x :: xs, acc => by
    rw [List.foldl_cons, foldl_snoc f xs]
    simp
def WfI (es : List D) : Prop := ∀ e ∈ es, ∃ i v, e = .tup [.int i, v]
theorem WfI.nil : WfI [] := fun _ h => by cases h
theorem isK_int (k i : Int) (v : D) : isK (.int k) (.tup [.int i, v]) = decide (i = k) := rfl
theorem WfI.put {es : List D} (h : WfI es) (k : Int) (v : D) : WfI (dput es (.int k) v) := by
  unfold dput
  split
  · intro e he
    obtain ⟨e0, h1, rfl⟩ := List.mem_map.mp he
    split
    · exact ⟨k, v, rfl⟩
    · exact h e0 h1
  · intro e he
    rcases List.mem_append.mp he with h1 | h1
    · exact h e h1
    · rw [List.mem_singleton.mp h1]; exact ⟨k, v, rfl⟩
theorem dget_app {k : Int} : ∀ {es fs : List D}, WfI es → dget (es ++ fs) (.int k) = (dget es (.int k)).orElse fun _ => dget fs (.int k)
  | [], fs, _ => rfl
  | e :: es, fs, h => by
    obtain ⟨i, v, rfl⟩ := h e List.mem_cons_self
    have ih := dget_app (k := k) (es := es) (fs := fs) fun x hx => h x (List.mem_cons_of_mem _ hx)
    rw [List.cons_append, dget_cons, dget_cons]
    split
    · rfl
    · exact ih
theorem dget_none {k : Int} : ∀ {es : List D}, WfI es → es.any (isK (.int k)) = false → dget es (.int k) = none
  | [], _, _ => rfl
  | e :: es, h, ha => by
    obtain ⟨i, v, rfl⟩ := h e List.mem_cons_self
    rw [List.any_cons, Bool.or_eq_false_iff, isK_int] at ha
    rw [dget_cons, keq_int, ha.1]
    exact dget_none (fun x hx => h x (List.mem_cons_of_mem _ hx)) ha.2
theorem dget_map {k k' : Int} {v : D} : ∀ {es : List D}, WfI es → dget (es.map fun e => if isK (.int k) e = true then .tup [.int k, v] else e) (.int k') = if k' = k then (if es.any (isK (.int k)) = true then some v else none) else dget es (.int k')
  | [], _ => by simp [dget]
  | e :: es, h => by
    obtain ⟨i, u, rfl⟩ := h e List.mem_cons_self
    have ih := dget_map (k := k) (k' := k') (v := v) (es := es) fun x hx => h x (List.mem_cons_of_mem _ hx)
    rw [List.map_cons, isK_int, List.any_cons, isK_int]
    by_cases h1 : i = k
    · subst h1
      rw [decide_eq_true rfl, if_pos rfl, dget_cons, keq_int, dget_cons, keq_int, ih]
      by_cases h2 : k' = i
      · subst h2; simp
      · have : ¬ i = k' := fun e => h2 e.symm
        simp [h2, this]
    · rw [decide_eq_false h1, if_neg (by decide), dget_cons, keq_int, dget_cons, keq_int, ih]
      by_cases h2 : k' = k
      · subst h2; simp [h1]
      · simp [h2]
theorem dget_put {es : List D} (h : WfI es) (k k' : Int) (v : D) : dget (dput es (.int k) v) (.int k') = if k' = k then some v else dget es (.int k') := by
  unfold dput
  split
  · rename_i ha
    rw [dget_map h, ha]; simp
  · rename_i ha
    have ha : es.any (isK (.int k)) = false := by simpa using ha
    rw [dget_app h]
    by_cases h2 : k' = k
    · subst h2
      rw [dget_none h ha, if_pos rfl]
      show dget [.tup [.int k', v]] (.int k') = _
      rw [dget_cons, keq_int]; simp
    · rw [if_neg h2]
      have : dget [.tup [.int k, v]] (.int k') = none := by
        rw [dget_cons, keq_int, decide_eq_false (fun e => h2 e.symm)]; rfl
      cases e : dget es (.int k') with
      | none => simpa using this
      | some x => rfl
theorem dput_len (es : List D) (k v : D) : (dput es k v).length ≤ es.length + 1 := by
  unfold dput
  split <;> simp
theorem pureL_app : ∀ (xs ys : List D), D.pureL (xs ++ ys) = (D.pureL xs && D.pureL ys)
  | [], ys => by simp [D.pureL]
  | x :: xs, ys => by simp [D.pureL, pureL_app xs ys, Bool.and_assoc]
theorem pureL_iff : ∀ {xs : List D}, D.pureL xs = true ↔ ∀ x ∈ xs, x.pure = true
  | [] => by simp [D.pureL]
  | x :: xs => by simp [D.pureL, pureL_iff (xs := xs)]
theorem dput_pure {es : List D} {k v : D} (h : D.pureL es = true) (hk : k.pure = true) (hv : v.pure = true) : D.pureL (dput es k v) = true := by
  have hn : (D.tup [k, v]).pure = true := by simp [D.pure, D.pureL, hk, hv]
  rw [pureL_iff] at h ⊢
  unfold dput
  split
  · intro e he
    obtain ⟨e0, h1, rfl⟩ := List.mem_map.mp he
    split
    · exact hn
    · exact h e0 h1
  · intro e he
    rcases List.mem_append.mp he with h1 | h1
    · exact h e h1
    · rw [List.mem_singleton.mp h1]; exact hn
def stepR (asg : D → En → Store → R En) (body : En → Store → R (Fl × En)) (ws : List Nat) (n : Nat) (g : Guard) (x : D) (en : En) (st : Store) : R En :=
  (asg x en st).bind fun en1 s1 => (body en1 s1).bind fun p s2 => match p.1 with
    | .nx => guardB (held g s2) (.ok (wipe p.2 ws) (trim n (wipe p.2 ws) s2))
    | .ct => guardB (held g s2) (.ok (wipe p.2 ws) (trim n (wipe p.2 ws) s2))
    | _ => .bad
section
variable {asg : D → En → Store → R En} {body : En → Store → R (Fl × En)} {ws : List Nat} {n : Nat} {g : Guard}
theorem for_step {x : D} {r : List D} {en en' : En} {st st' : Store} (h : stepR asg body ws n g x en st = .ok en' st') : forR asg body ws n g (x :: r) en st = forR asg body ws n g r en' st' := by
  unfold stepR at h
  cases e1 : asg x en st with
  | ok en1 s1 =>
    rw [e1] at h
    have h : (body en1 s1).bind _ = _ := h
    cases e2 : body en1 s1 with
    | ok p s2 =>
      rw [e2] at h
      obtain ⟨fl, en2⟩ := p
      show (asg x en st).bind _ = _
      rw [e1]
      show (body en1 s1).bind _ = _
      rw [e2]
      cases fl with
      | nx =>
        have h : guardB (held g s2) (.ok (wipe en2 ws) (trim n (wipe en2 ws) s2)) = .ok en' st' := h
        show guardB (held g s2) (forR asg body ws n g r (wipe en2 ws) (trim n (wipe en2 ws) s2)) = _
        unfold guardB at h ⊢
        cases hg : held g s2 with
        | false => rw [hg] at h; cases h
        | true => rw [hg] at h; cases h; rfl
      | ct =>
        have h : guardB (held g s2) (.ok (wipe en2 ws) (trim n (wipe en2 ws) s2)) = .ok en' st' := h
        show guardB (held g s2) (forR asg body ws n g r (wipe en2 ws) (trim n (wipe en2 ws) s2)) = _
        unfold guardB at h ⊢
        cases hg : held g s2 with
        | false => rw [hg] at h; cases h
        | true => rw [hg] at h; cases h; rfl
      | brk => cases h
      | rt d => cases h
    | exc e s => rw [e2] at h; cases h
    | bad => rw [e2] at h; cases h
  | exc e s => rw [e1] at h; cases h
  | bad => rw [e1] at h; cases h
theorem for_eq {α S : Type} (enc : α → D) (E : S → En) (T : S → Store) (step : S → α → S) (I : Nat → S → Prop) (xs : List α) (s : S) (h0 : I 0 s)
    (h : ∀ j x s, xs[j]? = some x → I j s → I (j + 1) (step s x) ∧ stepR asg body ws n g (enc x) (E s) (T s) = .ok (E (step s x)) (T (step s x))) :
    forR asg body ws n g (xs.map enc) (E s) (T s) = .ok (.nx, E (xs.foldl step s)) (T (xs.foldl step s)) := by
  have gen : ∀ (ys : List α) (i : Nat) (s : S), (∀ j x s, ys[j]? = some x → I (i + j) s → I (i + j + 1) (step s x) ∧ stepR asg body ws n g (enc x) (E s) (T s) = .ok (E (step s x)) (T (step s x))) → I i s →
      forR asg body ws n g (ys.map enc) (E s) (T s) = .ok (.nx, E (ys.foldl step s)) (T (ys.foldl step s)) := by
    intro ys
    induction ys with
    | nil => intro i s _ _; rfl
    | cons y ys ih =>
      intro i s h hi
      obtain ⟨h1, h2⟩ := h 0 y s rfl hi
      rw [List.map_cons, for_step h2]
      exact ih (i + 1) (step s y) (fun j x s hj hi => by
        have := h (j + 1) x s (by simpa using hj) (by rw [show i + (j + 1) = i + 1 + j by omega]; exact hi)
        rw [show i + 1 + j + 1 = i + (j + 1) + 1 by omega]
        exact this) h1
  exact gen xs 0 s (fun j x s hj hi => by rw [Nat.zero_add] at hi ⊢; exact h j x s hj hi) h0
theorem for_eqs {α S : Type} {en : En} {st : Store} (enc : α → D) (E : S → En) (T : S → Store) (step : S → α → S) (I : Nat → S → Prop) (xs : List α) (s : S) (he : en = E s) (hs : st = T s) (h0 : I 0 s)
    (h : ∀ j x s, xs[j]? = some x → I j s → I (j + 1) (step s x) ∧ stepR asg body ws n g (enc x) (E s) (T s) = .ok (E (step s x)) (T (step s x))) :
    forR asg body ws n g (xs.map enc) en st = .ok (.nx, E (xs.foldl step s)) (T (xs.foldl step s)) := by
  rw [he, hs]
  exact for_eq enc E T step I xs s h0 h
theorem for_ex (I : Nat → En → Store → Prop) (items : List D) (en : En) (st : Store) (h0 : I 0 en st) (h : ∀ j x en st, items[j]? = some x → I j en st → ∃ en' st', stepR asg body ws n g x en st = .ok en' st' ∧ I (j + 1) en' st') :
    ∃ en' st', forR asg body ws n g items en st = .ok (.nx, en') st' ∧ I items.length en' st' := by
  have gen : ∀ (ys : List D) (i : Nat) (en : En) (st : Store), (∀ j x en st, ys[j]? = some x → I (i + j) en st → ∃ en' st', stepR asg body ws n g x en st = .ok en' st' ∧ I (i + j + 1) en' st') → I i en st → ∃ en' st', forR asg body ws n g ys en st = .ok (.nx, en') st' ∧ I (i + ys.length) en' st' := by
    intro ys
    induction ys with
    | nil => intro i en st _ hi; exact ⟨en, st, rfl, hi⟩
    | cons y ys ih =>
      intro i en st h hi
      obtain ⟨en1, st1, h1, h2⟩ := h 0 y en st rfl hi
      rw [for_step h1, List.length_cons, show i + (ys.length + 1) = i + 1 + ys.length by omega]
      exact ih (i + 1) en1 st1 (fun j x en st hj hi => by
        have := h (j + 1) x en st (by simpa using hj) (by rw [show i + (j + 1) = i + 1 + j by omega]; exact hi)
        rw [show i + 1 + j + 1 = i + (j + 1) + 1 by omega]
        exact this) h2
  have := gen items 0 en st (fun j x en st hj hi => by rw [Nat.zero_add] at hi ⊢; exact h j x en st hj hi) h0
  rwa [Nat.zero_add] at this
end
@[simp] theorem bi_tup_ref (n : Nat) (st : Store) : biD .tuple [.ref n] st = opt (tupB ((st[n]?).getD (.ref n))) st := rfl
@[simp] theorem bi_len_ref (n : Nat) (st : Store) : biD .len [.ref n] st = opt (lenB ((st[n]?).getD (.ref n))) st := rfl
@[simp] theorem tupB_lst (xs : List D) : tupB (.lst xs) = some (.tup xs) := rfl
@[simp] theorem lenB_lst (xs : List D) : lenB (.lst xs) = some (.int xs.length) := rfl
@[simp] theorem lenB_dct (xs : List D) : lenB (.dct xs) = some (.int xs.length) := rfl
theorem filterMap_if {α : Type} (p : α → Bool) : ∀ xs : List α, xs.filterMap (fun r => if p r = true then some r else none) = xs.filter p
  | [] => rfl
  | x :: xs => by
    have ih := filterMap_if p xs
    cases h : p x with
    | true => rw [List.filterMap_cons_some (by rw [h]; rfl), List.filter_cons_of_pos h, ih]
    | false => rw [List.filterMap_cons_none (by rw [h]; rfl), List.filter_cons_of_neg (by rw [h]; decide), ih]
@[simp] theorem in_tup' (x : D) (ys : List D) (st : Store) : cmpD .in_ x (.tup ys) st = opt ((inD x ys).map D.bl) st := rfl
@[simp] theorem in_lst' (x : D) (ys : List D) (st : Store) : cmpD .in_ x (.lst ys) st = opt ((inD x ys).map D.bl) st := rfl
@[simp] theorem notin_lst' (x : D) (ys : List D) (st : Store) : cmpD .notin x (.lst ys) st = opt (((inD x ys).map (!·)).map D.bl) st := rfl
@[simp] theorem in_dct' (x : D) (ys : List D) (st : Store) : cmpD .in_ x (.dct ys) st = opt ((if isKey x = true then some (dget ys x).isSome else none).map D.bl) st := rfl
@[simp] theorem notin_dct' (x : D) (ys : List D) (st : Store) : cmpD .notin x (.dct ys) st = opt (((if isKey x = true then some (dget ys x).isSome else none).map (!·)).map D.bl) st := rfl
theorem inD_def (x : D) (ys : List D) : inD x ys = if flatD x = true ∧ ys.all flatD = true then some (ys.any fun y => eqF y x) else none := rfl
@[simp] theorem key_int (i : Int) : isKey (.int i) = true := rfl
@[simp] theorem key_str (i : Str) : isKey (.str i) = true := rfl
mutual
theorem dbeq_refl : ∀ d : D, D.beq d d = true
  | .non => rfl
  | .bl b => by simp [D.beq]
  | .int b => by simp [D.beq]
  | .str b => by simp [D.beq]
  | .tup xs => by simp only [D.beq]; exact dbeqL_refl xs
  | .lst xs => by simp only [D.beq]; exact dbeqL_refl xs
  | .dct xs => by simp only [D.beq]; exact dbeqL_refl xs
  | .ref b => by simp [D.beq]
  | .fn b => by simp [D.beq]
theorem dbeqL_refl : ∀ d : List D, D.beqL d d = true
  | [] => rfl
  | x :: xs => by simp only [D.beqL, Bool.and_eq_true]; exact ⟨dbeq_refl x, dbeqL_refl xs⟩
end
theorem held_one {n : Nat} {c : D} {st : Store} (h : st[n]? = some c) : held [(n, c)] st = true := by
  simp [held, h, dbeq_refl]
def dp : Nat → D → Bool
  | 0, _ => false
  | n + 1, .tup xs => xs.all (dp n)
  | n + 1, .lst xs => xs.all (dp n)
  | n + 1, .dct xs => xs.all (dp n)
  | _ + 1, .ref _ => false
  | _ + 1, .fn _ => false
  | _ + 1, _ => true
theorem dp_pure : ∀ (n : Nat) (d : D), dp n d = true → d.pure = true
  | 0, _, h => by cases h
  | n + 1, .tup xs, h => by simp only [D.pure]; rw [pureL_iff]; exact fun x hx => dp_pure n x (List.all_eq_true.mp h x hx)
  | n + 1, .lst xs, h => by simp only [D.pure]; rw [pureL_iff]; exact fun x hx => dp_pure n x (List.all_eq_true.mp h x hx)
  | n + 1, .dct xs, h => by simp only [D.pure]; rw [pureL_iff]; exact fun x hx => dp_pure n x (List.all_eq_true.mp h x hx)
  | _ + 1, .non, _ => rfl
  | _ + 1, .bl _, _ => rfl
  | _ + 1, .int _, _ => rfl
  | _ + 1, .str _, _ => rfl
  | _ + 1, .ref _, h => by cases h
  | _ + 1, .fn _, h => by cases h
theorem mapO_id {f : D → Option D} : ∀ {xs : List D}, (∀ x ∈ xs, f x = some x) → mapO f xs = some xs
  | [], _ => rfl
  | x :: xs, h => by
    unfold mapO
    rw [h x List.mem_cons_self, mapO_id fun y hy => h y (List.mem_cons_of_mem _ hy)]; rfl
theorem frz_dp (rs : List Nat) (st : Store) : ∀ (n : Nat) (d : D) (m : Nat), dp n d = true → n ≤ m → frz rs st m d = some d
  | 0, _, _, h, _ => by cases h
  | n + 1, d, 0, _, hm => by omega
  | n + 1, .tup xs, m + 1, h, hm => by
    show (mapO (frz rs st m) xs).map D.tup = _
    rw [mapO_id fun x hx => frz_dp rs st n x m (List.all_eq_true.mp h x hx) (by omega)]; rfl
  | n + 1, .lst xs, m + 1, h, hm => by
    show (mapO (frz rs st m) xs).map D.lst = _
    rw [mapO_id fun x hx => frz_dp rs st n x m (List.all_eq_true.mp h x hx) (by omega)]; rfl
  | n + 1, .dct xs, m + 1, h, hm => by
    show (mapO (frz rs st m) xs).map D.dct = _
    rw [mapO_id fun x hx => frz_dp rs st n x m (List.all_eq_true.mp h x hx) (by omega)]; rfl
  | _ + 1, .non, _ + 1, _, _ => rfl
  | _ + 1, .bl _, _ + 1, _, _ => rfl
  | _ + 1, .int _, _ + 1, _, _ => rfl
  | _ + 1, .str _, _ + 1, _, _ => rfl
  | _ + 1, .ref _, _ + 1, h, _ => by cases h
  | _ + 1, .fn _, _ + 1, h, _ => by cases h
theorem dput_dp {n : Nat} {es : List D} {k v : D} (h : es.all (dp (n + 1)) = true) (hk : dp n k = true) (hv : dp n v = true) : (dput es k v).all (dp (n + 1)) = true := by
  have hn : dp (n + 1) (D.tup [k, v]) = true := by simp [dp, hk, hv]
  rw [List.all_eq_true] at h ⊢
  unfold dput
  split
  · intro e he
    obtain ⟨e0, h1, rfl⟩ := List.mem_map.mp he
    split
    · exact hn
    · exact h e0 h1
  · intro e he
    rcases List.mem_append.mp he with h1 | h1
    · exact h e h1
    · rw [List.mem_singleton.mp h1]; exact hn
/-- a call without cells whose result is made of its own cells -/
theorem call_frz {cf : CallF} {f : Nat} {xs : List D} {st cs' : Store} {d d' : D} (hx : xs.all D.pure = true) (h : cf f xs [] = .ok d cs') (hd : back [] cs' d = some d') : callIn cf f xs [] false st = .ok d' st := by
  have hc : cellsAt st [] = some [] := rfl
  have hp : putBack [] cs' 0 [] st = some st := rfl
  simp only [callIn, prep_pure xs st 0 0 hx, hc, h, callBack, hp, hd]
  rfl
end PyE

namespace K76
open PySem PyE
abbrev f_is_int : Nat := 0
abbrev f_is_number : Nat := 1
abbrev f_is_tuple : Nat := 2
abbrev f_is_numbers : Nat := 3
abbrev f_is_lot : Nat := 4
abbrev f_spot_in : Nat := 5
abbrev f_is_there : Nat := 6
abbrev f_turned : Nat := 7
abbrev f_carried : Nat := 8
abbrev f_rows_after : Nat := 9
abbrev f_taken_back : Nat := 10
abbrev f_plain_notes : Nat := 11
abbrev f_last_of : Nat := 12
abbrev f_is_written : Nat := 13
abbrev f_is_text_event : Nat := 14
abbrev f_is_fact : Nat := 15
abbrev f_can_back : Nat := 16
abbrev f_is_edit : Nat := 17
abbrev f_can_event : Nat := 18
abbrev f__law_box : Nat := 19
abbrev f__law_take : Nat := 20
abbrev f__law_pick : Nat := 21
abbrev f__law_same : Nat := 22
abbrev f__law_life : Nat := 23
abbrev f__law_gone_events : Nat := 24
abbrev f__law_lives : Nat := 25
abbrev f__law_backs : Nat := 26
abbrev f__law_some_fact : Nat := 27
abbrev f__law_some_event : Nat := 28
abbrev f__law_some_sizes : Nat := 29
abbrev f__law_some_text : Nat := 30
abbrev f__law_events : Nat := 31
abbrev f__law_is_number : Nat := 32
abbrev f__law_can_fact : Nat := 33
abbrev f__law_can : Nat := 34
abbrev f_law : Nat := 35
def c_is_int : Fd := ⟨1, 1, (.cons (.ret (.and (.isi (.var 0) [.int]) (.not (.isi (.var 0) [.bool])))) .nil)⟩
def c_is_number : Fd := ⟨3, 3, (.cons (.ret (.and (.call f_is_int (.cons (.var 0) .nil) [] false) (.and (.cmp .ge (.var 0) (.var 1)) (.or (.cmp .is (.var 2) (.lit .non)) (.cmp .le (.var 0) (.var 2)))))) .nil)⟩
def c_is_tuple : Fd := ⟨2, 2, (.cons (.ret (.and (.isi (.var 0) [.tuple]) (.or (.cmp .is (.var 1) (.lit .non)) (.cmp .eq (.bi .len (.cons (.var 0) .nil)) (.var 1))))) .nil)⟩
def c_is_numbers : Fd := ⟨4, 5, (.cons (.ret (.and (.call f_is_tuple (.cons (.var 0) (.cons (.var 1) .nil)) [] false) (.cmp .eq (.bi .len (.cons (.lc [4] (.name 4) (.val (.var 0)) (.some (.not (.call f_is_number (.cons (.var 4) (.cons (.var 2) (.cons (.var 3) .nil))) [] false))) (.var 4)) .nil)) (.lit (.int 0))))) .nil)⟩
def c_is_lot : Fd := ⟨2, 4, (.cons (.ife (.or (.not (.call f_is_tuple (.cons (.var 0) (.cons (.lit .non) .nil)) [] false)) (.not (.call f_is_numbers (.cons (.var 0) (.cons (.bi .len (.cons (.var 0) .nil)) (.cons (.lit (.int 0)) (.cons (.var 1) .nil)))) [] false))) (.cons (.ret (.lit (.bl false))) .nil) .nil) (.cons (.ret (.bi .all (.cons (.lc [2, 3] (.tup (.cons (.name 2) (.cons (.name 3) .nil))) (.zip (.var 0) (.sl (.var 0) (.some (.lit (.int 1))) .none)) .none (.cmp .lt (.var 2) (.var 3))) .nil))) .nil))⟩
def b_spot_in_0 : Ss := (.cons (.ife (.cmp .eq (.ix (.var 3) (.lit (.int 0))) (.var 1)) (.cons (.ret (.var 2)) .nil) .nil) .nil)
def c_spot_in : Fd := ⟨2, 4, (.cons (.ife (.cmp .eq (.var 1) (.lit (.int (-1)))) (.cons (.ret (.lit (.int (-1)))) .nil) .nil) (.cons (.for_ (.tup (.cons (.name 2) (.cons (.name 3) .nil))) (.enum (.var 0)) [3, 2] b_spot_in_0) (.cons (.ret (.lit .non)) .nil)))⟩
def c_is_there : Fd := ⟨2, 3, (.cons (.asg (.name 2) (.call f_spot_in (.cons (.var 0) (.cons (.var 1) .nil)) [] false)) (.cons (.ret (.and (.cmp .isnot (.var 2) (.lit .non)) (.and (.cmp .ne (.var 2) (.lit (.int (-1)))) (.ix (.ix (.var 0) (.var 2)) (.lit (.int 2)))))) .nil))⟩
def c_turned : Fd := ⟨4, 6, (.cons (.ife (.not (.call f_is_there (.cons (.var 0) (.cons (.var 1) .nil)) [] false)) (.cons (.ret (.var 0)) .nil) .nil) (.cons (.asg (.name 4) (.call f_spot_in (.cons (.var 0) (.cons (.var 1) .nil)) [] false)) (.cons (.asg (.name 5) (.tup (.cons (.var 1) (.cons (.ife (.cmp .is (.var 2) (.lit .non)) (.ix (.ix (.var 0) (.var 4)) (.lit (.int 1))) (.var 2)) (.cons (.var 3) .nil))))) (.cons (.ret (.bin .add (.bin .add (.sl (.var 0) .none (.some (.var 4))) (.tup (.cons (.var 5) .nil))) (.sl (.var 0) (.some (.bin .add (.var 4) (.lit (.int 1)))) .none))) .nil))))⟩
def b_carried_0 : Ss := (.cons (.asg (.name 6) (.ife (.cmp .is (.var 4) (.lit .non)) (.lit .non) (.ix (.var 1) (.var 4)))) (.cons (.expr (.mt .append (.var 2) (.cons (.tup (.cons (.var 3) (.cons (.var 6) (.cons (.and (.var 5) (.cmp .isnot (.var 6) (.lit .non))) .nil)))) .nil))) .nil))
def c_carried : Fd := ⟨2, 7, (.cons (.asg (.name 2) (.mut (.list .nil))) (.cons (.for_ (.tup (.cons (.name 3) (.cons (.name 4) (.cons (.name 5) .nil)))) (.val (.var 0)) [5, 3, 4, 6] b_carried_0) (.cons (.ret (.bi .tuple (.cons (.var 2) .nil))) .nil)))⟩
def c_rows_after : Fd := ⟨4, 6, (.cons (.ife (.cmp .eq (.ix (.var 2) (.lit (.int 0))) (.lit (.str (Str.ofString "behind")))) (.cons (.asg (.name 4) (.bin .add (.call f_spot_in (.cons (.var 0) (.cons (.ix (.var 2) (.lit (.int 1))) .nil)) [] false) (.lit (.int 1)))) (.cons (.ret (.bin .add (.bin .add (.sl (.var 0) .none (.some (.var 4))) (.tup (.cons (.tup (.cons (.var 1) (.cons (.ix (.var 2) (.lit (.int 2))) (.cons (.not (.var 3)) .nil)))) .nil))) (.sl (.var 0) (.some (.var 4)) .none))) .nil)) .nil) (.cons (.ife (.cmp .eq (.ix (.var 2) (.lit (.int 0))) (.lit (.str (Str.ofString "text")))) (.cons (.ret (.call f_carried (.cons (.var 0) (.cons (.ix (.var 2) (.lit (.int 4))) .nil)) [] false)) .nil) .nil) (.cons (.ife (.cmp .eq (.ix (.var 2) (.lit (.int 0))) (.lit (.str (Str.ofString "settle")))) (.cons (.ret (.bi .tuple (.cons (.lc [5] (.name 5) (.val (.var 0)) (.some (.ix (.var 5) (.lit (.int 2)))) (.var 5)) .nil))) .nil) .nil) (.cons (.ife (.or (.var 3) (.cmp .in_ (.ix (.var 2) (.lit (.int 0))) (.tup (.cons (.lit (.str (Str.ofString "back"))) (.cons (.lit (.str (Str.ofString "fact"))) .nil))))) (.cons (.ret (.var 0)) .nil) .nil) (.cons (.ife (.cmp .eq (.ix (.var 2) (.lit (.int 0))) (.lit (.str (Str.ofString "away")))) (.cons (.ret (.call f_turned (.cons (.var 0) (.cons (.ix (.var 2) (.lit (.int 1))) (.cons (.lit .non) (.cons (.lit (.bl false)) .nil)))) [] false)) .nil) .nil) (.cons (.ret (.call f_turned (.cons (.var 0) (.cons (.ix (.var 2) (.lit (.int 1))) (.cons (.ix (.var 2) (.lit (.int 2))) (.cons (.lit (.bl true)) .nil)))) [] false)) .nil))))))⟩
def c_taken_back : Fd := ⟨1, 2, (.cons (.ret (.dc [1] (.name 1) (.val (.var 0)) (.some (.cmp .eq (.ix (.var 1) (.lit (.int 0))) (.lit (.str (Str.ofString "back"))))) (.ix (.var 1) (.lit (.int 1))) (.lit (.bl true)))) .nil)⟩
def b_plain_notes_0 : Ss := (.cons (.asg (.name 2) (.call f_rows_after (.cons (.var 2) (.cons (.var 3) (.cons (.var 4) (.cons (.cmp .in_ (.var 3) (.var 1)) .nil)))) [] false)) .nil)
def c_plain_notes : Fd := ⟨1, 5, (.cons (.asg (.tup (.cons (.name 1) (.cons (.name 2) .nil))) (.tup (.cons (.call f_taken_back (.cons (.var 0) .nil) [] false) (.cons (.tup .nil) .nil)))) (.cons (.for_ (.tup (.cons (.name 3) (.cons (.name 4) .nil))) (.enum (.var 0)) [4, 3] b_plain_notes_0) (.cons (.ret (.var 2)) .nil)))⟩
def c_last_of : Fd := ⟨2, 4, (.cons (.ret (.bi .max1 (.cons (.bin .add (.list (.cons (.lit (.int 0)) .nil)) (.lc [2, 3] (.tup (.cons (.name 2) (.cons (.name 3) .nil))) (.enum (.var 0)) (.some (.cmp .eq (.ix (.var 3) (.lit (.int 0))) (.var 1))) (.bin .add (.var 2) (.lit (.int 1))))) .nil))) .nil)⟩
def c_is_written : Fd := ⟨1, 2, (.cons (.ret (.and (.isi (.var 0) [.str]) (.bi .all (.cons (.lc [1] (.name 1) (.val (.var 0)) .none (.cmp .in_ (.var 1) (.lit (.str (Str.ofString " !\"#$&'()*+,-./0123456789:;<=>?@ABCDEFGHIJKLMNOPQRSTUVWXYZ[\\]^_`abcdefghijklmnopqrstuvwxyz{|}~"))))) .nil)))) .nil)⟩
def c_is_text_event : Fd := ⟨2, 3, (.cons (.ife (.or (.not (.call f_is_tuple (.cons (.var 1) (.cons (.lit (.int 5)) .nil)) [] false)) (.or (.not (.call f_is_written (.cons (.ix (.var 1) (.lit (.int 1))) .nil) [] false)) (.not (.call f_is_written (.cons (.ix (.var 1) (.lit (.int 2))) .nil) [] false)))) (.cons (.ret (.lit (.bl false))) .nil) .nil) (.cons (.ife (.or (.not (.call f_is_tuple (.cons (.ix (.var 1) (.lit (.int 3))) (.cons (.lit .non) .nil)) [] false)) (.or (.not (.call f_is_numbers (.cons (.ix (.var 1) (.lit (.int 3))) (.cons (.bi .len (.cons (.ix (.var 1) (.lit (.int 3))) .nil)) (.cons (.lit (.int 0)) (.cons (.lit .non) .nil)))) [] false)) (.not (.call f_is_tuple (.cons (.ix (.var 1) (.lit (.int 4))) (.cons (.var 0) .nil)) [] false)))) (.cons (.ret (.lit (.bl false))) .nil) .nil) (.cons (.ret (.bi .all (.cons (.lc [2] (.name 2) (.val (.ix (.var 1) (.lit (.int 4)))) .none (.or (.cmp .is (.var 2) (.lit .non)) (.call f_is_number (.cons (.var 2) (.cons (.lit (.int 0)) (.cons (.lit .non) .nil))) [] false))) .nil))) .nil)))⟩
def c_is_fact : Fd := ⟨3, 5, (.cons (.ife (.or (.not (.call f_is_tuple (.cons (.var 2) (.cons (.lit (.int 3)) .nil)) [] false)) (.or (.not (.call f_is_tuple (.cons (.ix (.var 2) (.lit (.int 1))) (.cons (.lit .non) .nil)) [] false)) (.or (.cmp .eq (.bi .len (.cons (.ix (.var 2) (.lit (.int 1))) .nil)) (.lit (.int 0))) (.not (.isi (.ix (.ix (.var 2) (.lit (.int 1))) (.lit (.int 0))) [.str]))))) (.cons (.ret (.lit (.bl false))) .nil) .nil) (.cons (.asg (.tup (.cons (.name 3) (.cons (.name 4) .nil))) (.sl (.var 2) (.some (.lit (.int 1))) .none)) (.cons (.ife (.not (.call f_is_number (.cons (.var 4) (.cons (.lit (.int 0)) (.cons (.lit (.int 1)) .nil))) [] false)) (.cons (.ret (.lit (.bl false))) .nil) .nil) (.cons (.ife (.cmp .eq (.ix (.var 3) (.lit (.int 0))) (.lit (.str (Str.ofString "hand")))) (.cons (.ret (.and (.cmp .eq (.bi .len (.cons (.var 3) .nil)) (.lit (.int 2))) (.call f_is_number (.cons (.ix (.var 3) (.lit (.int 1))) (.cons (.lit (.int 0)) (.cons (.bin .sub (.ix (.var 1) (.lit (.int 2))) (.lit (.int 1))) .nil))) [] false))) .nil) .nil) (.cons (.ife (.or (.cmp .ne (.ix (.var 3) (.lit (.int 0))) (.lit (.str (Str.ofString "board")))) (.or (.cmp .ne (.bi .len (.cons (.var 3) .nil)) (.lit (.int 3))) (.not (.call f_is_lot (.cons (.ix (.var 3) (.lit (.int 2))) (.cons (.bin .sub (.ix (.var 1) (.lit (.int 1))) (.lit (.int 1))) .nil)) [] false)))) (.cons (.ret (.lit (.bl false))) .nil) .nil) (.cons (.ret (.or (.cmp .is (.ix (.var 3) (.lit (.int 1))) (.lit .non)) (.and (.call f_is_number (.cons (.ix (.var 3) (.lit (.int 1))) (.cons (.lit (.int 0)) (.cons (.lit .non) .nil))) [] false) (.call f_is_there (.cons (.var 0) (.cons (.ix (.var 3) (.lit (.int 1))) .nil)) [] false)))) .nil))))))⟩
def c_can_back : Fd := ⟨2, 2, (.cons (.ife (.or (.not (.call f_is_number (.cons (.var 1) (.cons (.call f_last_of (.cons (.var 0) (.cons (.lit (.str (Str.ofString "settle"))) .nil)) [] false) (.cons (.bin .sub (.bi .len (.cons (.var 0) .nil)) (.lit (.int 1))) .nil))) [] false)) (.cmp .in_ (.var 1) (.call f_taken_back (.cons (.var 0) .nil) [] false))) (.cons (.ret (.lit (.bl false))) .nil) .nil) (.cons (.ret (.cmp .in_ (.ix (.ix (.var 0) (.var 1)) (.lit (.int 0))) (.lit (.tup [(.str (Str.ofString "behind")), (.str (Str.ofString "away")), (.str (Str.ofString "instead")), (.str (Str.ofString "fact"))])))) .nil))⟩
def c_is_edit : Fd := ⟨3, 3, (.cons (.ife (.cmp .eq (.ix (.var 2) (.lit (.int 0))) (.lit (.str (Str.ofString "behind")))) (.cons (.ife (.or (.cmp .ne (.bi .len (.cons (.var 2) .nil)) (.lit (.int 3))) (.or (.not (.call f_is_number (.cons (.ix (.var 2) (.lit (.int 1))) (.cons (.lit (.int (-1))) (.cons (.lit .non) .nil))) [] false)) (.cmp .is (.call f_spot_in (.cons (.var 0) (.cons (.ix (.var 2) (.lit (.int 1))) .nil)) [] false) (.lit .non)))) (.cons (.ret (.lit (.bl false))) .nil) .nil) (.cons (.ret (.call f_is_number (.cons (.ix (.var 2) (.lit (.int 2))) (.cons (.lit (.int 0)) (.cons (.bin .sub (.var 1) (.lit (.int 1))) .nil))) [] false)) .nil)) .nil) (.cons (.ife (.or (.cmp .lt (.bi .len (.cons (.var 2) .nil)) (.lit (.int 2))) (.or (.not (.call f_is_number (.cons (.ix (.var 2) (.lit (.int 1))) (.cons (.lit (.int 0)) (.cons (.lit .non) .nil))) [] false)) (.not (.call f_is_there (.cons (.var 0) (.cons (.ix (.var 2) (.lit (.int 1))) .nil)) [] false)))) (.cons (.ret (.lit (.bl false))) .nil) .nil) (.cons (.ife (.cmp .eq (.ix (.var 2) (.lit (.int 0))) (.lit (.str (Str.ofString "away")))) (.cons (.ret (.cmp .eq (.bi .len (.cons (.var 2) .nil)) (.lit (.int 2)))) .nil) .nil) (.cons (.ret (.and (.cmp .eq (.bi .len (.cons (.var 2) .nil)) (.lit (.int 3))) (.call f_is_number (.cons (.ix (.var 2) (.lit (.int 2))) (.cons (.lit (.int 0)) (.cons (.bin .sub (.var 1) (.lit (.int 1))) .nil))) [] false))) .nil))))⟩
def c_can_event : Fd := ⟨3, 3, (.cons (.ife (.or (.not (.call f_is_tuple (.cons (.var 2) (.cons (.lit .non) .nil)) [] false)) (.or (.cmp .eq (.bi .len (.cons (.var 2) .nil)) (.lit (.int 0))) (.not (.isi (.ix (.var 2) (.lit (.int 0))) [.str])))) (.cons (.ret (.lit (.bl false))) .nil) .nil) (.cons (.ife (.cmp .in_ (.ix (.var 2) (.lit (.int 0))) (.lit (.tup [(.str (Str.ofString "behind")), (.str (Str.ofString "away")), (.str (Str.ofString "instead"))]))) (.cons (.ret (.call f_is_edit (.cons (.call f_plain_notes (.cons (.var 0) .nil) [] false) (.cons (.ix (.var 1) (.lit (.int 0))) (.cons (.var 2) .nil))) [] false)) .nil) .nil) (.cons (.ife (.cmp .eq (.ix (.var 2) (.lit (.int 0))) (.lit (.str (Str.ofString "fact")))) (.cons (.ret (.call f_is_fact (.cons (.call f_plain_notes (.cons (.var 0) .nil) [] false) (.cons (.var 1) (.cons (.var 2) .nil))) [] false)) .nil) .nil) (.cons (.ife (.cmp .eq (.ix (.var 2) (.lit (.int 0))) (.lit (.str (Str.ofString "back")))) (.cons (.ret (.and (.cmp .eq (.bi .len (.cons (.var 2) .nil)) (.lit (.int 2))) (.call f_can_back (.cons (.var 0) (.cons (.ix (.var 2) (.lit (.int 1))) .nil)) [] false))) .nil) .nil) (.cons (.ret (.or (.cmp .eq (.var 2) (.tup (.cons (.lit (.str (Str.ofString "settle"))) .nil))) (.and (.cmp .eq (.ix (.var 2) (.lit (.int 0))) (.lit (.str (Str.ofString "text")))) (.call f_is_text_event (.cons (.ix (.var 1) (.lit (.int 0))) (.cons (.var 2) .nil)) [] false)))) .nil)))))⟩
def c__law_box : Fd := ⟨2, 4, (.cons (.asg (.name 2) (.bin .add (.bin .mul (.lit (.int 27011)) (.var 1)) (.lit (.int 8101)))) (.cons (.ife (.cmp .lt (.var 1) (.bi .len (.cons (.var 0) .nil))) (.cons (.asg (.name 2) (.bi .abs (.cons (.bi .int (.cons (.ix (.var 0) (.var 1)) .nil)) .nil))) .nil) (.cons (.ife (.cmp .gt (.bi .len (.cons (.var 0) .nil)) (.lit (.int 0))) (.cons (.asg (.name 2) (.bin .add (.var 2) (.bin .mul (.bin .mod (.bi .int (.cons (.bi .abs (.cons (.bi .int (.cons (.ix (.var 0) (.bin .mod (.bi .int (.cons (.var 1) .nil)) (.bi .len (.cons (.var 0) .nil)))) .nil)) .nil)) .nil)) (.lit (.int 2147483563))) (.lit (.int 96137))))) .nil) .nil) .nil)) (.cons (.asg (.name 3) (.ife (.cmp .ge (.var 2) (.bin .pow (.lit (.int 10)) (.lit (.int 18)))) (.var 2) (.lit (.int 0)))) (.cons (.ret (.mut (.list (.cons (.var 3) (.cons (.bin .add (.bin .mod (.bi .int (.cons (.bin .add (.bin .mul (.bin .mod (.bi .int (.cons (.var 2) .nil)) (.lit (.int 2147483563))) (.lit (.int 54250027))) (.bin .mul (.lit (.int 8101)) (.var 1))) .nil)) (.lit (.int 2147483563))) (.lit (.int 1))) .nil))))) .nil))))⟩
def c__law_take : Fd := ⟨2, 4, (.cons (.ife (.cmp .gt (.ix (.var 0) (.lit (.int 0))) (.lit (.int 0))) (.cons (.asg (.name 3) (.bin .mod (.bi .int (.cons (.ix (.var 0) (.lit (.int 0))) .nil)) (.var 1))) (.cons (.asg (.sub (.var 0) (.lit (.int 0))) (.bin .fdiv (.ix (.var 0) (.lit (.int 0))) (.var 1))) (.cons (.ret (.var 3)) .nil))) .nil) (.cons (.asg (.name 2) (.bin .mod (.bi .int (.cons (.bin .add (.bin .mul (.ix (.var 0) (.lit (.int 1))) (.lit (.int 39373))) (.lit (.int 229))) .nil)) (.lit (.int 2147483647)))) (.cons (.asg (.sub (.var 0) (.lit (.int 1))) (.bin .add (.bin .mod (.bi .int (.cons (.bin .add (.bin .mul (.var 2) (.lit (.int 40692))) (.lit (.int 103))) .nil)) (.lit (.int 2147483563))) (.lit (.int 1)))) (.cons (.ret (.bin .mod (.bi .int (.cons (.bin .fdiv (.bin .add (.bin .mul (.var 2) (.lit (.int 2147483629))) (.ix (.var 0) (.lit (.int 1)))) (.lit (.int 8273))) .nil)) (.var 1))) .nil))))⟩
def c__law_pick : Fd := ⟨2, 2, (.cons (.ret (.ix (.var 1) (.call f__law_take (.cons (.var 0) (.cons (.bi .len (.cons (.var 1) .nil)) .nil)) [0] false))) .nil)⟩
def b__law_same_0 : Ss := (.cons (.ife (.not (.call f__law_same (.cons (.var 2) (.cons (.var 3) .nil)) [] false)) (.cons (.ret (.lit (.bl false))) .nil) .nil) .nil)
def c__law_same : Fd := ⟨2, 4, (.cons (.ife (.isi (.var 1) [.tuple]) (.cons (.ife (.or (.not (.isi (.var 0) [.tuple])) (.cmp .ne (.bi .len (.cons (.var 0) .nil)) (.bi .len (.cons (.var 1) .nil)))) (.cons (.ret (.lit (.bl false))) .nil) .nil) (.cons (.for_ (.tup (.cons (.name 2) (.cons (.name 3) .nil))) (.zip (.var 0) (.var 1)) [2, 3] b__law_same_0) (.cons (.ret (.lit (.bl true))) .nil))) .nil) (.cons (.ife (.cmp .is (.var 1) (.lit .non)) (.cons (.ret (.cmp .is (.var 0) (.lit .non))) .nil) .nil) (.cons (.ife (.or (.cmp .is (.var 1) (.lit (.bl true))) (.cmp .is (.var 1) (.lit (.bl false)))) (.cons (.ret (.and (.isi (.var 0) [.bool]) (.cmp .eq (.var 0) (.var 1)))) .nil) .nil) (.cons (.ife (.isi (.var 1) [.int]) (.cons (.ret (.and (.isi (.var 0) [.int]) (.and (.not (.isi (.var 0) [.bool])) (.cmp .eq (.var 0) (.var 1))))) .nil) .nil) (.cons (.ret (.and (.isi (.var 0) [.str]) (.and (.isi (.var 1) [.str]) (.cmp .eq (.var 0) (.var 1))))) .nil)))))⟩
def c__law_life : Fd := ⟨0, 0, (.cons (.ret (.mut (.dict [(.str (Str.ofString "order")), (.str (Str.ofString "note")), (.str (Str.ofString "there")), (.str (Str.ofString "events"))] (.cons (.mut (.list .nil)) (.cons (.mut (.dict [] .nil)) (.cons (.mut (.dict [] .nil)) (.cons (.mut (.list .nil)) .nil))))))) .nil)⟩
def c__law_gone_events : Fd := ⟨1, 2, (.cons (.ret (.lc [1] (.name 1) (.val (.var 0)) (.some (.cmp .eq (.ix (.var 1) (.lit (.int 0))) (.lit (.str (Str.ofString "back"))))) (.ix (.var 1) (.lit (.int 1))))) .nil)⟩
def b__law_lives_0 : Ss := (.cons (.asg (.name 7) (.ix (.ix (.var 1) (.lit (.str (Str.ofString "note")))) (.var 6))) (.cons (.asg (.sub (.ix (.var 1) (.lit (.str (Str.ofString "note")))) (.var 6)) (.ife (.cmp .is (.var 7) (.lit .non)) (.lit .non) (.ix (.ix (.var 4) (.lit (.int 4))) (.var 7)))) (.cons (.asg (.sub (.ix (.var 1) (.lit (.str (Str.ofString "there")))) (.var 6)) (.and (.ix (.ix (.var 1) (.lit (.str (Str.ofString "there")))) (.var 6)) (.cmp .isnot (.ix (.ix (.var 1) (.lit (.str (Str.ofString "note")))) (.var 6)) (.lit .non)))) .nil)))
def b__law_lives_1 : Ss := (.cons (.expr (.mt .append (.ix (.var 1) (.lit (.str (Str.ofString "events")))) (.cons (.var 4) .nil))) (.cons (.ife (.cmp .eq (.ix (.var 4) (.lit (.int 0))) (.lit (.str (Str.ofString "behind")))) (.cons (.asg (.name 5) (.ife (.cmp .lt (.ix (.var 4) (.lit (.int 1))) (.lit (.int 0))) (.lit (.int 0)) (.bin .add (.mt .index (.ix (.var 1) (.lit (.str (Str.ofString "order")))) (.cons (.ix (.var 4) (.lit (.int 1))) .nil)) (.lit (.int 1))))) (.cons (.expr (.mt .insert (.ix (.var 1) (.lit (.str (Str.ofString "order")))) (.cons (.var 5) (.cons (.var 3) .nil)))) (.cons (.asg (.tup (.cons (.sub (.ix (.var 1) (.lit (.str (Str.ofString "note")))) (.var 3)) (.cons (.sub (.ix (.var 1) (.lit (.str (Str.ofString "there")))) (.var 3)) .nil))) (.tup (.cons (.ix (.var 4) (.lit (.int 2))) (.cons (.cmp .notin (.var 3) (.var 2)) .nil)))) .nil))) (.cons (.ife (.cmp .eq (.ix (.var 4) (.lit (.int 0))) (.lit (.str (Str.ofString "text")))) (.cons (.for_ (.name 6) (.val (.ix (.var 1) (.lit (.str (Str.ofString "order"))))) [6, 7] b__law_lives_0) .nil) (.cons (.ife (.cmp .eq (.ix (.var 4) (.lit (.int 0))) (.lit (.str (Str.ofString "settle")))) (.cons (.asg (.sub (.var 1) (.lit (.str (Str.ofString "order")))) (.mut (.lc [6] (.name 6) (.val (.ix (.var 1) (.lit (.str (Str.ofString "order"))))) (.some (.ix (.ix (.var 1) (.lit (.str (Str.ofString "there")))) (.var 6))) (.var 6)))) .nil) (.cons (.ife (.and (.cmp .in_ (.ix (.var 4) (.lit (.int 0))) (.tup (.cons (.lit (.str (Str.ofString "away"))) (.cons (.lit (.str (Str.ofString "instead"))) .nil)))) (.and (.cmp .notin (.var 3) (.var 2)) (.ix (.ix (.var 1) (.lit (.str (Str.ofString "there")))) (.ix (.var 4) (.lit (.int 1)))))) (.cons (.asg (.sub (.ix (.var 1) (.lit (.str (Str.ofString "there")))) (.ix (.var 4) (.lit (.int 1)))) (.cmp .eq (.ix (.var 4) (.lit (.int 0))) (.lit (.str (Str.ofString "instead"))))) (.cons (.asg (.sub (.ix (.var 1) (.lit (.str (Str.ofString "note")))) (.ix (.var 4) (.lit (.int 1)))) (.ife (.cmp .eq (.ix (.var 4) (.lit (.int 0))) (.lit (.str (Str.ofString "instead")))) (.ix (.var 4) (.lit (.int 2))) (.ix (.ix (.var 1) (.lit (.str (Str.ofString "note")))) (.ix (.var 4) (.lit (.int 1)))))) .nil)) .nil) .nil)) .nil)) .nil)) .nil))
def c__law_lives : Fd := ⟨1, 8, (.cons (.asg (.tup (.cons (.name 1) (.cons (.name 2) .nil))) (.tup (.cons (.callS f__law_life .nil) (.cons (.call f__law_gone_events (.cons (.var 0) .nil) [] false) .nil)))) (.cons (.for_ (.tup (.cons (.name 3) (.cons (.name 4) .nil))) (.enum (.var 0)) [4, 6, 7, 3, 5] b__law_lives_1) (.cons (.ret (.var 1)) .nil)))⟩
def c__law_backs : Fd := ⟨1, 5, (.cons (.asg (.name 1) (.bi .max1 (.cons (.bin .add (.list (.cons (.bin .sub (.lit (.int 0)) (.lit (.int 1))) .nil)) (.lc [3, 4] (.tup (.cons (.name 3) (.cons (.name 4) .nil))) (.enum (.var 0)) (.some (.cmp .eq (.ix (.var 4) (.lit (.int 0))) (.lit (.str (Str.ofString "settle"))))) (.var 3))) .nil))) (.cons (.asg (.name 2) (.call f__law_gone_events (.cons (.var 0) .nil) [] false)) (.cons (.ret (.lc [3, 4] (.tup (.cons (.name 3) (.cons (.name 4) .nil))) (.enum (.var 0)) (.some (.and (.cmp .gt (.var 3) (.var 1)) (.and (.cmp .notin (.var 3) (.var 2)) (.cmp .in_ (.ix (.var 4) (.lit (.int 0))) (.tup (.cons (.lit (.str (Str.ofString "behind"))) (.cons (.lit (.str (Str.ofString "away"))) (.cons (.lit (.str (Str.ofString "instead"))) (.cons (.lit (.str (Str.ofString "fact"))) .nil))))))))) (.var 3))) .nil)))⟩
def c__law_some_fact : Fd := ⟨3, 5, (.cons (.ife (.cmp .eq (.call f__law_take (.cons (.var 0) (.cons (.lit (.int 3)) .nil)) [0] false) (.lit (.int 0))) (.cons (.ret (.tup (.cons (.lit (.str (Str.ofString "fact"))) (.cons (.tup (.cons (.lit (.str (Str.ofString "hand"))) (.cons (.call f__law_take (.cons (.var 0) (.cons (.ix (.var 2) (.lit (.int 2))) .nil)) [0] false) .nil))) (.cons (.call f__law_take (.cons (.var 0) (.cons (.lit (.int 2)) .nil)) [0] false) .nil))))) .nil) .nil) (.cons (.asg (.name 3) (.bi .tuple (.cons (.lc [4] (.name 4) (.range1 (.ix (.var 2) (.lit (.int 1)))) (.some (.cmp .eq (.call f__law_take (.cons (.var 0) (.cons (.lit (.int 2)) .nil)) [0] false) (.lit (.int 0)))) (.var 4)) .nil))) (.cons (.ret (.tup (.cons (.lit (.str (Str.ofString "fact"))) (.cons (.tup (.cons (.lit (.str (Str.ofString "board"))) (.cons (.call f__law_pick (.cons (.var 0) (.cons (.bin .add (.var 1) (.list (.cons (.lit .non) .nil))) .nil)) [0] false) (.cons (.var 3) .nil)))) (.cons (.call f__law_take (.cons (.var 0) (.cons (.lit (.int 2)) .nil)) [0] false) .nil))))) .nil)))⟩
def c__law_some_event : Fd := ⟨3, 8, (.cons (.asg (.tup (.cons (.name 3) (.cons (.name 4) .nil))) (.tup (.cons (.call f__law_lives (.cons (.var 1) .nil) [] false) (.cons (.call f__law_take (.cons (.var 0) (.cons (.lit (.int 14)) .nil)) [0] false) .nil)))) (.cons (.asg (.tup (.cons (.name 5) (.cons (.name 6) .nil))) (.tup (.cons (.lc [7] (.name 7) (.val (.ix (.var 3) (.lit (.str (Str.ofString "order"))))) (.some (.ix (.ix (.var 3) (.lit (.str (Str.ofString "there")))) (.var 7))) (.var 7)) (.cons (.call f__law_backs (.cons (.var 1) .nil) [] false) .nil)))) (.cons (.ife (.and (.cmp .lt (.var 4) (.lit (.int 2))) (.cmp .ne (.var 5) (.list .nil))) (.cons (.ret (.tup (.cons (.lit (.str (Str.ofString "away"))) (.cons (.call f__law_pick (.cons (.var 0) (.cons (.var 5) .nil)) [0] false) .nil)))) .nil) .nil) (.cons (.ife (.and (.cmp .lt (.var 4) (.lit (.int 4))) (.cmp .ne (.var 5) (.list .nil))) (.cons (.ret (.tup (.cons (.lit (.str (Str.ofString "instead"))) (.cons (.call f__law_pick (.cons (.var 0) (.cons (.var 5) .nil)) [0] false) (.cons (.call f__law_take (.cons (.var 0) (.cons (.ix (.var 2) (.lit (.int 0))) .nil)) [0] false) .nil))))) .nil) .nil) (.cons (.ife (.and (.cmp .lt (.var 4) (.lit (.int 7))) (.cmp .ne (.var 6) (.list .nil))) (.cons (.ret (.tup (.cons (.lit (.str (Str.ofString "back"))) (.cons (.call f__law_pick (.cons (.var 0) (.cons (.var 6) .nil)) [0] false) .nil)))) .nil) .nil) (.cons (.ife (.and (.cmp .eq (.var 4) (.lit (.int 7))) (.cmp .eq (.call f__law_take (.cons (.var 0) (.cons (.lit (.int 3)) .nil)) [0] false) (.lit (.int 0)))) (.cons (.ret (.tup (.cons (.lit (.str (Str.ofString "settle"))) .nil))) .nil) .nil) (.cons (.ife (.cmp .in_ (.var 4) (.tup (.cons (.lit (.int 8)) (.cons (.lit (.int 9)) .nil)))) (.cons (.ret (.call f__law_some_fact (.cons (.var 0) (.cons (.var 5) (.cons (.var 2) .nil))) [0] false)) .nil) .nil) (.cons (.ret (.tup (.cons (.lit (.str (Str.ofString "behind"))) (.cons (.call f__law_pick (.cons (.var 0) (.cons (.bin .add (.bin .add (.list (.cons (.bin .sub (.lit (.int 0)) (.lit (.int 1))) .nil)) (.ix (.var 3) (.lit (.str (Str.ofString "order"))))) (.sl (.ix (.var 3) (.lit (.str (Str.ofString "order")))) (.some (.bin .sub (.bi .len (.cons (.ix (.var 3) (.lit (.str (Str.ofString "order")))) .nil)) (.lit (.int 1)))) .none)) .nil)) [0] false) (.cons (.call f__law_take (.cons (.var 0) (.cons (.ix (.var 2) (.lit (.int 0))) .nil)) [0] false) .nil))))) .nil))))))))⟩
def c__law_some_sizes : Fd := ⟨1, 1, (.cons (.ret (.tup (.cons (.bin .add (.lit (.int 2)) (.call f__law_take (.cons (.var 0) (.cons (.lit (.int 3)) .nil)) [0] false)) (.cons (.bin .add (.lit (.int 1)) (.call f__law_take (.cons (.var 0) (.cons (.lit (.int 4)) .nil)) [0] false)) (.cons (.bin .add (.lit (.int 1)) (.call f__law_take (.cons (.var 0) (.cons (.lit (.int 2)) .nil)) [0] false)) .nil))))) .nil)⟩
def c__law_some_text : Fd := ⟨3, 6, (.cons (.asg (.name 3) (.bi .tuple (.cons (.lc [4] (.name 4) (.range1 (.var 1)) .none (.ife (.cmp .eq (.call f__law_take (.cons (.var 0) (.cons (.lit (.int 6)) .nil)) [0] false) (.lit (.int 0))) (.lit .non) (.call f__law_take (.cons (.var 0) (.cons (.var 2) .nil)) [0] false))) .nil))) (.cons (.ret (.tup (.cons (.lit (.str (Str.ofString "text"))) (.cons (.lit (.str (Str.ofString "shelf"))) (.cons (.lit (.str (Str.ofString "store"))) (.cons (.bi .tuple (.cons (.lc [5] (.name 5) (.range1 (.call f__law_take (.cons (.var 0) (.cons (.lit (.int 3)) .nil)) [0] false)) .none (.call f__law_take (.cons (.var 0) (.cons (.lit (.int 9)) .nil)) [0] false)) .nil)) (.cons (.var 3) .nil))))))) .nil))⟩
def b__law_events_0 : Ss := (.cons (.ife (.and (.var 2) (.cmp .eq (.call f__law_take (.cons (.var 0) (.cons (.lit (.int 8)) .nil)) [0] false) (.lit (.int 0)))) (.cons (.asg (.name 6) (.call f__law_some_sizes (.cons (.var 0) .nil) [0] false)) (.cons (.expr (.mt .append (.var 4) (.cons (.call f__law_some_text (.cons (.var 0) (.cons (.ix (.var 5) (.lit (.int 0))) (.cons (.ix (.var 6) (.lit (.int 0))) .nil))) [0] false) .nil))) (.cons (.asg (.name 5) (.var 6)) .nil))) (.cons (.expr (.mt .append (.var 4) (.cons (.call f__law_some_event (.cons (.var 0) (.cons (.var 4) (.cons (.var 5) .nil))) [0] false) .nil))) .nil)) .nil)
def c__law_events : Fd := ⟨3, 7, (.cons (.asg (.tup (.cons (.name 4) (.cons (.name 5) .nil))) (.tup (.cons (.mut (.list .nil)) (.cons (.call f__law_some_sizes (.cons (.var 0) .nil) [0] false) .nil)))) (.cons (.for_ (.name 3) (.range1 (.call f__law_take (.cons (.var 0) (.cons (.bin .add (.var 1) (.lit (.int 1))) .nil)) [0] false)) [6, 3] b__law_events_0) (.cons (.ret (.tup (.cons (.bi .tuple (.cons (.var 4) .nil)) (.cons (.var 5) .nil)))) .nil)))⟩
def c__law_is_number : Fd := ⟨3, 3, (.cons (.ret (.and (.isi (.var 0) [.int]) (.and (.not (.isi (.var 0) [.bool])) (.and (.cmp .le (.var 1) (.var 0)) (.cmp .le (.var 0) (.var 2)))))) .nil)⟩
def c__law_can_fact : Fd := ⟨3, 7, (.cons (.ife (.or (.cmp .ne (.bi .len (.cons (.var 2) .nil)) (.lit (.int 3))) (.or (.not (.isi (.ix (.var 2) (.lit (.int 1))) [.tuple])) (.or (.cmp .eq (.ix (.var 2) (.lit (.int 1))) (.tup .nil)) (.not (.isi (.ix (.ix (.var 2) (.lit (.int 1))) (.lit (.int 0))) [.str]))))) (.cons (.ret (.lit (.bl false))) .nil) .nil) (.cons (.asg (.name 3) (.ix (.var 2) (.lit (.int 1)))) (.cons (.ife (.not (.call f__law_is_number (.cons (.ix (.var 2) (.lit (.int 2))) (.cons (.lit (.int 0)) (.cons (.lit (.int 1)) .nil))) [] false)) (.cons (.ret (.lit (.bl false))) .nil) .nil) (.cons (.ife (.cmp .eq (.ix (.var 3) (.lit (.int 0))) (.lit (.str (Str.ofString "hand")))) (.cons (.ret (.and (.cmp .eq (.bi .len (.cons (.var 3) .nil)) (.lit (.int 2))) (.call f__law_is_number (.cons (.ix (.var 3) (.lit (.int 1))) (.cons (.lit (.int 0)) (.cons (.bin .sub (.ix (.var 1) (.lit (.int 2))) (.lit (.int 1))) .nil))) [] false))) .nil) .nil) (.cons (.ife (.or (.cmp .ne (.ix (.var 3) (.lit (.int 0))) (.lit (.str (Str.ofString "board")))) (.or (.cmp .ne (.bi .len (.cons (.var 3) .nil)) (.lit (.int 3))) (.not (.isi (.ix (.var 3) (.lit (.int 2))) [.tuple])))) (.cons (.ret (.lit (.bl false))) .nil) .nil) (.cons (.ife (.or (.cmp .ne (.lc [4] (.name 4) (.val (.ix (.var 3) (.lit (.int 2)))) (.some (.not (.call f__law_is_number (.cons (.var 4) (.cons (.lit (.int 0)) (.cons (.bin .sub (.ix (.var 1) (.lit (.int 1))) (.lit (.int 1))) .nil))) [] false))) (.lit (.int 1))) (.list .nil)) (.cmp .ne (.lc [5, 6] (.tup (.cons (.name 5) (.cons (.name 6) .nil))) (.zip (.ix (.var 3) (.lit (.int 2))) (.sl (.ix (.var 3) (.lit (.int 2))) (.some (.lit (.int 1))) .none)) (.some (.cmp .ge (.var 5) (.var 6))) (.lit (.int 1))) (.list .nil))) (.cons (.ret (.lit (.bl false))) .nil) .nil) (.cons (.ret (.or (.cmp .is (.ix (.var 3) (.lit (.int 1))) (.lit .non)) (.and (.call f__law_is_number (.cons (.ix (.var 3) (.lit (.int 1))) (.cons (.lit (.int 0)) (.cons (.bin .pow (.lit (.int 10)) (.lit (.int 9))) .nil))) [] false) (.and (.cmp .in_ (.ix (.var 3) (.lit (.int 1))) (.ix (.var 0) (.lit (.str (Str.ofString "order"))))) (.ix (.ix (.var 0) (.lit (.str (Str.ofString "there")))) (.ix (.var 3) (.lit (.int 1)))))))) .nil)))))))⟩
def c__law_can : Fd := ⟨4, 10, (.cons (.ife (.or (.not (.isi (.var 3) [.tuple])) (.or (.cmp .eq (.var 3) (.tup .nil)) (.not (.isi (.ix (.var 3) (.lit (.int 0))) [.str])))) (.cons (.ret (.lit (.bl false))) .nil) .nil) (.cons (.asg (.tup (.cons (.name 4) (.cons (.name 5) .nil))) (.tup (.cons (.ix (.var 3) (.lit (.int 0))) (.cons (.bi .len (.cons (.var 3) .nil)) .nil)))) (.cons (.ife (.cmp .eq (.var 4) (.lit (.str (Str.ofString "settle")))) (.cons (.ret (.cmp .eq (.var 5) (.lit (.int 1)))) .nil) .nil) (.cons (.ife (.cmp .eq (.var 4) (.lit (.str (Str.ofString "fact")))) (.cons (.ret (.call f__law_can_fact (.cons (.var 1) (.cons (.var 2) (.cons (.var 3) .nil))) [] false)) .nil) .nil) (.cons (.ife (.cmp .eq (.var 4) (.lit (.str (Str.ofString "text")))) (.cons (.ife (.or (.cmp .ne (.var 5) (.lit (.int 5))) (.or (.not (.isi (.ix (.var 3) (.lit (.int 1))) [.str])) (.or (.not (.isi (.ix (.var 3) (.lit (.int 2))) [.str])) (.or (.not (.isi (.ix (.var 3) (.lit (.int 3))) [.tuple])) (.not (.isi (.ix (.var 3) (.lit (.int 4))) [.tuple])))))) (.cons (.ret (.lit (.bl false))) .nil) .nil) (.cons (.asg (.name 6) (.lit (.str (Str.ofString " !\"#$&'()*+,-./0123456789:;<=>?@ABCDEFGHIJKLMNOPQRSTUVWXYZ[\\]^_`abcdefghijklmnopqrstuvwxyz{|}~")))) (.cons (.asg (.name 7) (.and (.cmp .eq (.lc [8] (.name 8) (.val (.bin .add (.ix (.var 3) (.lit (.int 1))) (.ix (.var 3) (.lit (.int 2))))) (.some (.cmp .notin (.var 8) (.var 6))) (.lit (.int 1))) (.list .nil)) (.cmp .eq (.lc [9] (.name 9) (.val (.ix (.var 3) (.lit (.int 3)))) (.some (.not (.call f__law_is_number (.cons (.var 9) (.cons (.lit (.int 0)) (.cons (.bin .pow (.lit (.int 10)) (.lit (.int 9))) .nil))) [] false))) (.lit (.int 1))) (.list .nil)))) (.cons (.ret (.and (.var 7) (.and (.cmp .eq (.bi .len (.cons (.ix (.var 3) (.lit (.int 4))) .nil)) (.ix (.var 2) (.lit (.int 0)))) (.cmp .eq (.lc [9] (.name 9) (.val (.ix (.var 3) (.lit (.int 4)))) (.some (.and (.cmp .isnot (.var 9) (.lit .non)) (.not (.call f__law_is_number (.cons (.var 9) (.cons (.lit (.int 0)) (.cons (.bin .pow (.lit (.int 10)) (.lit (.int 9))) .nil))) [] false)))) (.lit (.int 1))) (.list .nil))))) .nil)))) .nil) (.cons (.ife (.cmp .eq (.var 4) (.lit (.str (Str.ofString "back")))) (.cons (.ret (.and (.cmp .eq (.var 5) (.lit (.int 2))) (.and (.call f__law_is_number (.cons (.ix (.var 3) (.lit (.int 1))) (.cons (.lit (.int 0)) (.cons (.bi .len (.cons (.var 0) .nil)) .nil))) [] false) (.cmp .in_ (.ix (.var 3) (.lit (.int 1))) (.call f__law_backs (.cons (.var 0) .nil) [] false))))) .nil) .nil) (.cons (.ife (.or (.cmp .lt (.var 5) (.lit (.int 2))) (.not (.call f__law_is_number (.cons (.ix (.var 3) (.lit (.int 1))) (.cons (.bin .sub (.lit (.int 0)) (.lit (.int 1))) (.cons (.bin .pow (.lit (.int 10)) (.lit (.int 9))) .nil))) [] false))) (.cons (.ret (.lit (.bl false))) .nil) .nil) (.cons (.ife (.cmp .eq (.var 4) (.lit (.str (Str.ofString "behind")))) (.cons (.ret (.and (.cmp .eq (.var 5) (.lit (.int 3))) (.and (.or (.cmp .eq (.ix (.var 3) (.lit (.int 1))) (.bin .sub (.lit (.int 0)) (.lit (.int 1)))) (.cmp .in_ (.ix (.var 3) (.lit (.int 1))) (.ix (.var 1) (.lit (.str (Str.ofString "order")))))) (.call f__law_is_number (.cons (.ix (.var 3) (.lit (.int 2))) (.cons (.lit (.int 0)) (.cons (.bin .sub (.ix (.var 2) (.lit (.int 0))) (.lit (.int 1))) .nil))) [] false)))) .nil) .nil) (.cons (.ife (.or (.cmp .notin (.ix (.var 3) (.lit (.int 1))) (.ix (.var 1) (.lit (.str (Str.ofString "order"))))) (.not (.ix (.ix (.var 1) (.lit (.str (Str.ofString "there")))) (.ix (.var 3) (.lit (.int 1)))))) (.cons (.ret (.lit (.bl false))) .nil) .nil) (.cons (.ret (.or (.and (.cmp .eq (.var 4) (.lit (.str (Str.ofString "away")))) (.cmp .eq (.var 5) (.lit (.int 2)))) (.and (.cmp .eq (.var 4) (.lit (.str (Str.ofString "instead")))) (.and (.cmp .eq (.var 5) (.lit (.int 3))) (.call f__law_is_number (.cons (.ix (.var 3) (.lit (.int 2))) (.cons (.lit (.int 0)) (.cons (.bin .sub (.ix (.var 2) (.lit (.int 0))) (.lit (.int 1))) .nil))) [] false))))) .nil))))))))))⟩
def b_law_0 : Ss := (.cons (.ife (.not (.call f__law_same (.cons (.call f_can_event (.cons (.var 7) (.cons (.var 8) (.cons (.var 14) .nil))) [] false) (.cons (.call f__law_can (.cons (.var 7) (.cons (.var 9) (.cons (.var 8) (.cons (.var 14) .nil)))) [] false) .nil)) [] false)) (.cons (.ret (.lit (.bl false))) .nil) .nil) .nil)
def b_law_1 : Ss := (.cons (.asg (.name 11) (.call f__law_pick (.cons (.var 2) (.cons (.var 5) .nil)) [0] false)) (.cons (.asg (.name 12) (.call f__law_take (.cons (.var 2) (.cons (.bi .len (.cons (.var 11) .nil)) .nil)) [0] false)) (.cons (.asg (.name 13) (.call f__law_pick (.cons (.var 2) (.cons (.list (.cons (.lit .non) (.cons (.lit (.bl true)) (.cons (.bin .sub (.lit (.int 0)) (.lit (.int 1))) (.cons (.var 10) (.cons (.lit (.str (Str.ofString "away"))) (.cons (.lit (.str (Str.ofString "a\tb"))) (.cons (.tup .nil) (.cons (.list (.cons (.lit (.int 0)) .nil)) (.cons (.bin .mul (.tup (.cons (.lit .non) .nil)) (.var 10)) (.cons (.bin .mul (.tup (.cons (.lit (.int 0)) .nil)) (.var 10)) (.cons (.bin .mul (.tup (.cons (.lit (.bl true)) .nil)) (.var 10)) (.cons (.bin .mul (.tup (.cons (.lit (.int 0)) .nil)) (.bin .add (.var 10) (.lit (.int 1)))) (.cons (.lit (.str (Str.ofString "settle"))) (.cons (.tup (.cons (.lit (.str (Str.ofString "hand"))) (.cons (.ix (.var 8) (.lit (.int 2))) .nil))) (.cons (.tup (.cons (.lit (.str (Str.ofString "board"))) (.cons (.lit .non) (.cons (.tup (.cons (.ix (.var 8) (.lit (.int 1))) .nil)) .nil)))) (.cons (.tup (.cons (.lit (.str (Str.ofString "board"))) (.cons (.lit .non) (.cons (.tup (.cons (.lit (.int 0)) (.cons (.lit (.int 0)) .nil))) .nil)))) (.cons (.tup (.cons (.lit (.str (Str.ofString "board"))) (.cons (.lit .non) (.cons (.list (.cons (.lit (.int 0)) .nil)) .nil)))) (.cons (.tup (.cons (.lit (.str (Str.ofString "hand"))) (.cons (.lit (.bl true)) .nil))) (.cons (.lit (.int 2)) .nil)))))))))))))))))))) .nil)) [0] false)) (.cons (.for_ (.name 14) (.val (.list (.cons (.var 11) (.cons (.bin .add (.bin .add (.sl (.var 11) .none (.some (.var 12))) (.tup (.cons (.var 13) .nil))) (.sl (.var 11) (.some (.bin .add (.var 12) (.lit (.int 1)))) .none)) (.cons (.bin .add (.var 11) (.tup (.cons (.var 13) .nil))) (.cons (.sl (.var 11) .none (.some (.var 12))) (.cons (.bi .list (.cons (.var 11) .nil)) (.cons (.var 13) .nil)))))))) [14] b_law_0) .nil))))
def b_law_2 : Ss := (.cons (.ife (.not (.call f__law_same (.cons (.call f_can_event (.cons (.var 7) (.cons (.var 8) (.cons (.var 11) .nil))) [] false) (.cons (.call f__law_can (.cons (.var 7) (.cons (.var 9) (.cons (.var 8) (.cons (.var 11) .nil)))) [] false) .nil)) [] false)) (.cons (.ret (.lit (.bl false))) .nil) .nil) .nil)
def b_law_3 : Ss := (.cons (.for_ (.name 11) (.val (.list (.cons (.tup (.cons (.lit (.str (Str.ofString "away"))) (.cons (.var 3) .nil))) (.cons (.tup (.cons (.lit (.str (Str.ofString "instead"))) (.cons (.var 3) (.cons (.lit (.int 0)) .nil)))) (.cons (.tup (.cons (.lit (.str (Str.ofString "behind"))) (.cons (.var 3) (.cons (.bin .sub (.var 10) (.lit (.int 1))) .nil)))) (.cons (.tup (.cons (.lit (.str (Str.ofString "back"))) (.cons (.var 3) .nil))) (.cons (.tup (.cons (.lit (.str (Str.ofString "fact"))) (.cons (.tup (.cons (.lit (.str (Str.ofString "board"))) (.cons (.var 3) (.cons (.tup (.cons (.lit (.int 0)) .nil)) .nil)))) (.cons (.lit (.int 1)) .nil)))) .nil))))))) [11] b_law_2) .nil)
def b_law_4 : Ss := (.cons (.asg (.name 2) (.call f__law_box (.cons (.var 0) (.cons (.var 1) .nil)) [] true)) (.cons (.asg (.tup (.cons (.name 7) (.cons (.name 8) .nil))) (.call f__law_events (.cons (.var 2) (.cons (.lit (.int 20)) (.cons (.lit (.bl true)) .nil))) [0] false)) (.cons (.asg (.tup (.cons (.name 9) (.cons (.name 10) .nil))) (.tup (.cons (.call f__law_lives (.cons (.var 7) .nil) [] false) (.cons (.ix (.var 8) (.lit (.int 0))) .nil)))) (.cons (.for_ (.name 3) (.range2 (.bin .sub (.lit (.int 0)) (.lit (.int 1))) (.bin .add (.bi .len (.cons (.var 7) .nil)) (.lit (.int 2)))) [3, 11] b_law_3) (.cons (.asg (.name 4) (.lc [15] (.name 15) (.val (.ix (.var 9) (.lit (.str (Str.ofString "order"))))) (.some (.ix (.ix (.var 9) (.lit (.str (Str.ofString "there")))) (.var 15))) (.var 15))) (.cons (.asg (.name 5) (.bin .add (.lc [6] (.name 6) (.range1 (.lit (.int 3))) .none (.call f__law_some_event (.cons (.var 2) (.cons (.bi .list (.cons (.var 7) .nil)) (.cons (.var 8) .nil))) [0] false)) (.list (.cons (.call f__law_some_text (.cons (.var 2) (.cons (.var 10) (.cons (.lit (.int 3)) .nil))) [0] false) (.cons (.call f__law_some_fact (.cons (.var 2) (.cons (.var 4) (.cons (.var 8) .nil))) [0] false) (.cons (.call f__law_some_fact (.cons (.var 2) (.cons (.var 4) (.cons (.var 8) .nil))) [0] false) .nil)))))) (.cons (.for_ (.name 6) (.range1 (.lit (.int 14))) [13, 14, 12, 6, 11] b_law_1) .nil)))))))
def c_law : Fd := ⟨1, 16, (.cons (.for_ (.name 1) (.range1 (.bi .max2 (.cons (.lit (.int 3)) (.cons (.bi .min2 (.cons (.bi .len (.cons (.var 0) .nil)) (.cons (.lit (.int 6)) .nil))) .nil)))) [5, 2, 7, 1, 9, 10, 3, 13, 14, 8, 12, 4, 6, 11] b_law_4) (.cons (.ret (.lit (.bl true))) .nil))⟩
def prog : Nat → Option Fd
  | 0 => some c_is_int
  | 1 => some c_is_number
  | 2 => some c_is_tuple
  | 3 => some c_is_numbers
  | 4 => some c_is_lot
  | 5 => some c_spot_in
  | 6 => some c_is_there
  | 7 => some c_turned
  | 8 => some c_carried
  | 9 => some c_rows_after
  | 10 => some c_taken_back
  | 11 => some c_plain_notes
  | 12 => some c_last_of
  | 13 => some c_is_written
  | 14 => some c_is_text_event
  | 15 => some c_is_fact
  | 16 => some c_can_back
  | 17 => some c_is_edit
  | 18 => some c_can_event
  | 19 => some c__law_box
  | 20 => some c__law_take
  | 21 => some c__law_pick
  | 22 => some c__law_same
  | 23 => some c__law_life
  | 24 => some c__law_gone_events
  | 25 => some c__law_lives
  | 26 => some c__law_backs
  | 27 => some c__law_some_fact
  | 28 => some c__law_some_event
  | 29 => some c__law_some_sizes
  | 30 => some c__law_some_text
  | 31 => some c__law_events
  | 32 => some c__law_is_number
  | 33 => some c__law_can_fact
  | 34 => some c__law_can
  | 35 => some c_law
  | _ => none
theorem p_is_int : prog f_is_int = some c_is_int := rfl
theorem p_is_number : prog f_is_number = some c_is_number := rfl
theorem p_is_tuple : prog f_is_tuple = some c_is_tuple := rfl
theorem p_is_numbers : prog f_is_numbers = some c_is_numbers := rfl
theorem p_is_lot : prog f_is_lot = some c_is_lot := rfl
theorem p_spot_in : prog f_spot_in = some c_spot_in := rfl
theorem p_is_there : prog f_is_there = some c_is_there := rfl
theorem p_turned : prog f_turned = some c_turned := rfl
theorem p_carried : prog f_carried = some c_carried := rfl
theorem p_rows_after : prog f_rows_after = some c_rows_after := rfl
theorem p_taken_back : prog f_taken_back = some c_taken_back := rfl
theorem p_plain_notes : prog f_plain_notes = some c_plain_notes := rfl
theorem p_last_of : prog f_last_of = some c_last_of := rfl
theorem p_is_written : prog f_is_written = some c_is_written := rfl
theorem p_is_text_event : prog f_is_text_event = some c_is_text_event := rfl
theorem p_is_fact : prog f_is_fact = some c_is_fact := rfl
theorem p_can_back : prog f_can_back = some c_can_back := rfl
theorem p_is_edit : prog f_is_edit = some c_is_edit := rfl
theorem p_can_event : prog f_can_event = some c_can_event := rfl
theorem p__law_box : prog f__law_box = some c__law_box := rfl
theorem p__law_take : prog f__law_take = some c__law_take := rfl
theorem p__law_pick : prog f__law_pick = some c__law_pick := rfl
theorem p__law_same : prog f__law_same = some c__law_same := rfl
theorem p__law_life : prog f__law_life = some c__law_life := rfl
theorem p__law_gone_events : prog f__law_gone_events = some c__law_gone_events := rfl
theorem p__law_lives : prog f__law_lives = some c__law_lives := rfl
theorem p__law_backs : prog f__law_backs = some c__law_backs := rfl
theorem p__law_some_fact : prog f__law_some_fact = some c__law_some_fact := rfl
theorem p__law_some_event : prog f__law_some_event = some c__law_some_event := rfl
theorem p__law_some_sizes : prog f__law_some_sizes = some c__law_some_sizes := rfl
theorem p__law_some_text : prog f__law_some_text = some c__law_some_text := rfl
theorem p__law_events : prog f__law_events = some c__law_events := rfl
theorem p__law_is_number : prog f__law_is_number = some c__law_is_number := rfl
theorem p__law_can_fact : prog f__law_can_fact = some c__law_can_fact := rfl
theorem p__law_can : prog f__law_can = some c__law_can := rfl
theorem p_law : prog f_law = some c_law := rfl
end K76
namespace K76
open PySem PyE
@[simp] theorem s_0_1 : (Str.ofString "behind" = Str.ofString "away") = False := eq_false (by decide +kernel)
@[simp] theorem s_0_2 : (Str.ofString "behind" = Str.ofString "instead") = False := eq_false (by decide +kernel)
@[simp] theorem s_0_3 : (Str.ofString "behind" = Str.ofString "fact") = False := eq_false (by decide +kernel)
@[simp] theorem s_0_4 : (Str.ofString "behind" = Str.ofString "text") = False := eq_false (by decide +kernel)
@[simp] theorem s_0_5 : (Str.ofString "behind" = Str.ofString "settle") = False := eq_false (by decide +kernel)
@[simp] theorem s_0_6 : (Str.ofString "behind" = Str.ofString "hand") = False := eq_false (by decide +kernel)
@[simp] theorem s_0_7 : (Str.ofString "behind" = Str.ofString "back") = False := eq_false (by decide +kernel)
@[simp] theorem s_0_8 : (Str.ofString "behind" = Str.ofString "order") = False := eq_false (by decide +kernel)
@[simp] theorem s_0_9 : (Str.ofString "behind" = Str.ofString "note") = False := eq_false (by decide +kernel)
@[simp] theorem s_0_10 : (Str.ofString "behind" = Str.ofString "there") = False := eq_false (by decide +kernel)
@[simp] theorem s_0_11 : (Str.ofString "behind" = Str.ofString "events") = False := eq_false (by decide +kernel)
@[simp] theorem s_0_12 : (Str.ofString "behind" = Str.ofString "shelf") = False := eq_false (by decide +kernel)
@[simp] theorem s_0_13 : (Str.ofString "behind" = Str.ofString "store") = False := eq_false (by decide +kernel)
@[simp] theorem s_0_14 : (Str.ofString "behind" = Str.ofString "board") = False := eq_false (by decide +kernel)
@[simp] theorem s_0_15 : (Str.ofString "behind" = Str.ofString "a\tb") = False := eq_false (by decide +kernel)
@[simp] theorem s_1_0 : (Str.ofString "away" = Str.ofString "behind") = False := eq_false (by decide +kernel)
@[simp] theorem s_1_2 : (Str.ofString "away" = Str.ofString "instead") = False := eq_false (by decide +kernel)
@[simp] theorem s_1_3 : (Str.ofString "away" = Str.ofString "fact") = False := eq_false (by decide +kernel)
@[simp] theorem s_1_4 : (Str.ofString "away" = Str.ofString "text") = False := eq_false (by decide +kernel)
@[simp] theorem s_1_5 : (Str.ofString "away" = Str.ofString "settle") = False := eq_false (by decide +kernel)
@[simp] theorem s_1_6 : (Str.ofString "away" = Str.ofString "hand") = False := eq_false (by decide +kernel)
@[simp] theorem s_1_7 : (Str.ofString "away" = Str.ofString "back") = False := eq_false (by decide +kernel)
@[simp] theorem s_1_8 : (Str.ofString "away" = Str.ofString "order") = False := eq_false (by decide +kernel)
@[simp] theorem s_1_9 : (Str.ofString "away" = Str.ofString "note") = False := eq_false (by decide +kernel)
@[simp] theorem s_1_10 : (Str.ofString "away" = Str.ofString "there") = False := eq_false (by decide +kernel)
@[simp] theorem s_1_11 : (Str.ofString "away" = Str.ofString "events") = False := eq_false (by decide +kernel)
@[simp] theorem s_1_12 : (Str.ofString "away" = Str.ofString "shelf") = False := eq_false (by decide +kernel)
@[simp] theorem s_1_13 : (Str.ofString "away" = Str.ofString "store") = False := eq_false (by decide +kernel)
@[simp] theorem s_1_14 : (Str.ofString "away" = Str.ofString "board") = False := eq_false (by decide +kernel)
@[simp] theorem s_1_15 : (Str.ofString "away" = Str.ofString "a\tb") = False := eq_false (by decide +kernel)
@[simp] theorem s_2_0 : (Str.ofString "instead" = Str.ofString "behind") = False := eq_false (by decide +kernel)
@[simp] theorem s_2_1 : (Str.ofString "instead" = Str.ofString "away") = False := eq_false (by decide +kernel)
@[simp] theorem s_2_3 : (Str.ofString "instead" = Str.ofString "fact") = False := eq_false (by decide +kernel)
@[simp] theorem s_2_4 : (Str.ofString "instead" = Str.ofString "text") = False := eq_false (by decide +kernel)
@[simp] theorem s_2_5 : (Str.ofString "instead" = Str.ofString "settle") = False := eq_false (by decide +kernel)
@[simp] theorem s_2_6 : (Str.ofString "instead" = Str.ofString "hand") = False := eq_false (by decide +kernel)
@[simp] theorem s_2_7 : (Str.ofString "instead" = Str.ofString "back") = False := eq_false (by decide +kernel)
@[simp] theorem s_2_8 : (Str.ofString "instead" = Str.ofString "order") = False := eq_false (by decide +kernel)
@[simp] theorem s_2_9 : (Str.ofString "instead" = Str.ofString "note") = False := eq_false (by decide +kernel)
@[simp] theorem s_2_10 : (Str.ofString "instead" = Str.ofString "there") = False := eq_false (by decide +kernel)
@[simp] theorem s_2_11 : (Str.ofString "instead" = Str.ofString "events") = False := eq_false (by decide +kernel)
@[simp] theorem s_2_12 : (Str.ofString "instead" = Str.ofString "shelf") = False := eq_false (by decide +kernel)
@[simp] theorem s_2_13 : (Str.ofString "instead" = Str.ofString "store") = False := eq_false (by decide +kernel)
@[simp] theorem s_2_14 : (Str.ofString "instead" = Str.ofString "board") = False := eq_false (by decide +kernel)
@[simp] theorem s_2_15 : (Str.ofString "instead" = Str.ofString "a\tb") = False := eq_false (by decide +kernel)
@[simp] theorem s_3_0 : (Str.ofString "fact" = Str.ofString "behind") = False := eq_false (by decide +kernel)
@[simp] theorem s_3_1 : (Str.ofString "fact" = Str.ofString "away") = False := eq_false (by decide +kernel)
@[simp] theorem s_3_2 : (Str.ofString "fact" = Str.ofString "instead") = False := eq_false (by decide +kernel)
@[simp] theorem s_3_4 : (Str.ofString "fact" = Str.ofString "text") = False := eq_false (by decide +kernel)
@[simp] theorem s_3_5 : (Str.ofString "fact" = Str.ofString "settle") = False := eq_false (by decide +kernel)
@[simp] theorem s_3_6 : (Str.ofString "fact" = Str.ofString "hand") = False := eq_false (by decide +kernel)
@[simp] theorem s_3_7 : (Str.ofString "fact" = Str.ofString "back") = False := eq_false (by decide +kernel)
@[simp] theorem s_3_8 : (Str.ofString "fact" = Str.ofString "order") = False := eq_false (by decide +kernel)
@[simp] theorem s_3_9 : (Str.ofString "fact" = Str.ofString "note") = False := eq_false (by decide +kernel)
@[simp] theorem s_3_10 : (Str.ofString "fact" = Str.ofString "there") = False := eq_false (by decide +kernel)
@[simp] theorem s_3_11 : (Str.ofString "fact" = Str.ofString "events") = False := eq_false (by decide +kernel)
@[simp] theorem s_3_12 : (Str.ofString "fact" = Str.ofString "shelf") = False := eq_false (by decide +kernel)
@[simp] theorem s_3_13 : (Str.ofString "fact" = Str.ofString "store") = False := eq_false (by decide +kernel)
@[simp] theorem s_3_14 : (Str.ofString "fact" = Str.ofString "board") = False := eq_false (by decide +kernel)
@[simp] theorem s_3_15 : (Str.ofString "fact" = Str.ofString "a\tb") = False := eq_false (by decide +kernel)
@[simp] theorem s_4_0 : (Str.ofString "text" = Str.ofString "behind") = False := eq_false (by decide +kernel)
@[simp] theorem s_4_1 : (Str.ofString "text" = Str.ofString "away") = False := eq_false (by decide +kernel)
@[simp] theorem s_4_2 : (Str.ofString "text" = Str.ofString "instead") = False := eq_false (by decide +kernel)
@[simp] theorem s_4_3 : (Str.ofString "text" = Str.ofString "fact") = False := eq_false (by decide +kernel)
@[simp] theorem s_4_5 : (Str.ofString "text" = Str.ofString "settle") = False := eq_false (by decide +kernel)
@[simp] theorem s_4_6 : (Str.ofString "text" = Str.ofString "hand") = False := eq_false (by decide +kernel)
@[simp] theorem s_4_7 : (Str.ofString "text" = Str.ofString "back") = False := eq_false (by decide +kernel)
@[simp] theorem s_4_8 : (Str.ofString "text" = Str.ofString "order") = False := eq_false (by decide +kernel)
@[simp] theorem s_4_9 : (Str.ofString "text" = Str.ofString "note") = False := eq_false (by decide +kernel)
@[simp] theorem s_4_10 : (Str.ofString "text" = Str.ofString "there") = False := eq_false (by decide +kernel)
@[simp] theorem s_4_11 : (Str.ofString "text" = Str.ofString "events") = False := eq_false (by decide +kernel)
@[simp] theorem s_4_12 : (Str.ofString "text" = Str.ofString "shelf") = False := eq_false (by decide +kernel)
@[simp] theorem s_4_13 : (Str.ofString "text" = Str.ofString "store") = False := eq_false (by decide +kernel)
@[simp] theorem s_4_14 : (Str.ofString "text" = Str.ofString "board") = False := eq_false (by decide +kernel)
@[simp] theorem s_4_15 : (Str.ofString "text" = Str.ofString "a\tb") = False := eq_false (by decide +kernel)
@[simp] theorem s_5_0 : (Str.ofString "settle" = Str.ofString "behind") = False := eq_false (by decide +kernel)
@[simp] theorem s_5_1 : (Str.ofString "settle" = Str.ofString "away") = False := eq_false (by decide +kernel)
@[simp] theorem s_5_2 : (Str.ofString "settle" = Str.ofString "instead") = False := eq_false (by decide +kernel)
@[simp] theorem s_5_3 : (Str.ofString "settle" = Str.ofString "fact") = False := eq_false (by decide +kernel)
@[simp] theorem s_5_4 : (Str.ofString "settle" = Str.ofString "text") = False := eq_false (by decide +kernel)
@[simp] theorem s_5_6 : (Str.ofString "settle" = Str.ofString "hand") = False := eq_false (by decide +kernel)
@[simp] theorem s_5_7 : (Str.ofString "settle" = Str.ofString "back") = False := eq_false (by decide +kernel)
@[simp] theorem s_5_8 : (Str.ofString "settle" = Str.ofString "order") = False := eq_false (by decide +kernel)
@[simp] theorem s_5_9 : (Str.ofString "settle" = Str.ofString "note") = False := eq_false (by decide +kernel)
@[simp] theorem s_5_10 : (Str.ofString "settle" = Str.ofString "there") = False := eq_false (by decide +kernel)
@[simp] theorem s_5_11 : (Str.ofString "settle" = Str.ofString "events") = False := eq_false (by decide +kernel)
@[simp] theorem s_5_12 : (Str.ofString "settle" = Str.ofString "shelf") = False := eq_false (by decide +kernel)
@[simp] theorem s_5_13 : (Str.ofString "settle" = Str.ofString "store") = False := eq_false (by decide +kernel)
@[simp] theorem s_5_14 : (Str.ofString "settle" = Str.ofString "board") = False := eq_false (by decide +kernel)
@[simp] theorem s_5_15 : (Str.ofString "settle" = Str.ofString "a\tb") = False := eq_false (by decide +kernel)
@[simp] theorem s_6_0 : (Str.ofString "hand" = Str.ofString "behind") = False := eq_false (by decide +kernel)
@[simp] theorem s_6_1 : (Str.ofString "hand" = Str.ofString "away") = False := eq_false (by decide +kernel)
@[simp] theorem s_6_2 : (Str.ofString "hand" = Str.ofString "instead") = False := eq_false (by decide +kernel)
@[simp] theorem s_6_3 : (Str.ofString "hand" = Str.ofString "fact") = False := eq_false (by decide +kernel)
@[simp] theorem s_6_4 : (Str.ofString "hand" = Str.ofString "text") = False := eq_false (by decide +kernel)
@[simp] theorem s_6_5 : (Str.ofString "hand" = Str.ofString "settle") = False := eq_false (by decide +kernel)
@[simp] theorem s_6_7 : (Str.ofString "hand" = Str.ofString "back") = False := eq_false (by decide +kernel)
@[simp] theorem s_6_8 : (Str.ofString "hand" = Str.ofString "order") = False := eq_false (by decide +kernel)
@[simp] theorem s_6_9 : (Str.ofString "hand" = Str.ofString "note") = False := eq_false (by decide +kernel)
@[simp] theorem s_6_10 : (Str.ofString "hand" = Str.ofString "there") = False := eq_false (by decide +kernel)
@[simp] theorem s_6_11 : (Str.ofString "hand" = Str.ofString "events") = False := eq_false (by decide +kernel)
@[simp] theorem s_6_12 : (Str.ofString "hand" = Str.ofString "shelf") = False := eq_false (by decide +kernel)
@[simp] theorem s_6_13 : (Str.ofString "hand" = Str.ofString "store") = False := eq_false (by decide +kernel)
@[simp] theorem s_6_14 : (Str.ofString "hand" = Str.ofString "board") = False := eq_false (by decide +kernel)
@[simp] theorem s_6_15 : (Str.ofString "hand" = Str.ofString "a\tb") = False := eq_false (by decide +kernel)
@[simp] theorem s_7_0 : (Str.ofString "back" = Str.ofString "behind") = False := eq_false (by decide +kernel)
@[simp] theorem s_7_1 : (Str.ofString "back" = Str.ofString "away") = False := eq_false (by decide +kernel)
@[simp] theorem s_7_2 : (Str.ofString "back" = Str.ofString "instead") = False := eq_false (by decide +kernel)
@[simp] theorem s_7_3 : (Str.ofString "back" = Str.ofString "fact") = False := eq_false (by decide +kernel)
@[simp] theorem s_7_4 : (Str.ofString "back" = Str.ofString "text") = False := eq_false (by decide +kernel)
@[simp] theorem s_7_5 : (Str.ofString "back" = Str.ofString "settle") = False := eq_false (by decide +kernel)
@[simp] theorem s_7_6 : (Str.ofString "back" = Str.ofString "hand") = False := eq_false (by decide +kernel)
@[simp] theorem s_7_8 : (Str.ofString "back" = Str.ofString "order") = False := eq_false (by decide +kernel)
@[simp] theorem s_7_9 : (Str.ofString "back" = Str.ofString "note") = False := eq_false (by decide +kernel)
@[simp] theorem s_7_10 : (Str.ofString "back" = Str.ofString "there") = False := eq_false (by decide +kernel)
@[simp] theorem s_7_11 : (Str.ofString "back" = Str.ofString "events") = False := eq_false (by decide +kernel)
@[simp] theorem s_7_12 : (Str.ofString "back" = Str.ofString "shelf") = False := eq_false (by decide +kernel)
@[simp] theorem s_7_13 : (Str.ofString "back" = Str.ofString "store") = False := eq_false (by decide +kernel)
@[simp] theorem s_7_14 : (Str.ofString "back" = Str.ofString "board") = False := eq_false (by decide +kernel)
@[simp] theorem s_7_15 : (Str.ofString "back" = Str.ofString "a\tb") = False := eq_false (by decide +kernel)
@[simp] theorem s_8_0 : (Str.ofString "order" = Str.ofString "behind") = False := eq_false (by decide +kernel)
@[simp] theorem s_8_1 : (Str.ofString "order" = Str.ofString "away") = False := eq_false (by decide +kernel)
@[simp] theorem s_8_2 : (Str.ofString "order" = Str.ofString "instead") = False := eq_false (by decide +kernel)
@[simp] theorem s_8_3 : (Str.ofString "order" = Str.ofString "fact") = False := eq_false (by decide +kernel)
@[simp] theorem s_8_4 : (Str.ofString "order" = Str.ofString "text") = False := eq_false (by decide +kernel)
@[simp] theorem s_8_5 : (Str.ofString "order" = Str.ofString "settle") = False := eq_false (by decide +kernel)
@[simp] theorem s_8_6 : (Str.ofString "order" = Str.ofString "hand") = False := eq_false (by decide +kernel)
@[simp] theorem s_8_7 : (Str.ofString "order" = Str.ofString "back") = False := eq_false (by decide +kernel)
@[simp] theorem s_8_9 : (Str.ofString "order" = Str.ofString "note") = False := eq_false (by decide +kernel)
@[simp] theorem s_8_10 : (Str.ofString "order" = Str.ofString "there") = False := eq_false (by decide +kernel)
@[simp] theorem s_8_11 : (Str.ofString "order" = Str.ofString "events") = False := eq_false (by decide +kernel)
@[simp] theorem s_8_12 : (Str.ofString "order" = Str.ofString "shelf") = False := eq_false (by decide +kernel)
@[simp] theorem s_8_13 : (Str.ofString "order" = Str.ofString "store") = False := eq_false (by decide +kernel)
@[simp] theorem s_8_14 : (Str.ofString "order" = Str.ofString "board") = False := eq_false (by decide +kernel)
@[simp] theorem s_8_15 : (Str.ofString "order" = Str.ofString "a\tb") = False := eq_false (by decide +kernel)
@[simp] theorem s_9_0 : (Str.ofString "note" = Str.ofString "behind") = False := eq_false (by decide +kernel)
@[simp] theorem s_9_1 : (Str.ofString "note" = Str.ofString "away") = False := eq_false (by decide +kernel)
@[simp] theorem s_9_2 : (Str.ofString "note" = Str.ofString "instead") = False := eq_false (by decide +kernel)
@[simp] theorem s_9_3 : (Str.ofString "note" = Str.ofString "fact") = False := eq_false (by decide +kernel)
@[simp] theorem s_9_4 : (Str.ofString "note" = Str.ofString "text") = False := eq_false (by decide +kernel)
@[simp] theorem s_9_5 : (Str.ofString "note" = Str.ofString "settle") = False := eq_false (by decide +kernel)
@[simp] theorem s_9_6 : (Str.ofString "note" = Str.ofString "hand") = False := eq_false (by decide +kernel)
@[simp] theorem s_9_7 : (Str.ofString "note" = Str.ofString "back") = False := eq_false (by decide +kernel)
@[simp] theorem s_9_8 : (Str.ofString "note" = Str.ofString "order") = False := eq_false (by decide +kernel)
@[simp] theorem s_9_10 : (Str.ofString "note" = Str.ofString "there") = False := eq_false (by decide +kernel)
@[simp] theorem s_9_11 : (Str.ofString "note" = Str.ofString "events") = False := eq_false (by decide +kernel)
@[simp] theorem s_9_12 : (Str.ofString "note" = Str.ofString "shelf") = False := eq_false (by decide +kernel)
@[simp] theorem s_9_13 : (Str.ofString "note" = Str.ofString "store") = False := eq_false (by decide +kernel)
@[simp] theorem s_9_14 : (Str.ofString "note" = Str.ofString "board") = False := eq_false (by decide +kernel)
@[simp] theorem s_9_15 : (Str.ofString "note" = Str.ofString "a\tb") = False := eq_false (by decide +kernel)
@[simp] theorem s_10_0 : (Str.ofString "there" = Str.ofString "behind") = False := eq_false (by decide +kernel)
@[simp] theorem s_10_1 : (Str.ofString "there" = Str.ofString "away") = False := eq_false (by decide +kernel)
@[simp] theorem s_10_2 : (Str.ofString "there" = Str.ofString "instead") = False := eq_false (by decide +kernel)
@[simp] theorem s_10_3 : (Str.ofString "there" = Str.ofString "fact") = False := eq_false (by decide +kernel)
@[simp] theorem s_10_4 : (Str.ofString "there" = Str.ofString "text") = False := eq_false (by decide +kernel)
@[simp] theorem s_10_5 : (Str.ofString "there" = Str.ofString "settle") = False := eq_false (by decide +kernel)
@[simp] theorem s_10_6 : (Str.ofString "there" = Str.ofString "hand") = False := eq_false (by decide +kernel)
@[simp] theorem s_10_7 : (Str.ofString "there" = Str.ofString "back") = False := eq_false (by decide +kernel)
@[simp] theorem s_10_8 : (Str.ofString "there" = Str.ofString "order") = False := eq_false (by decide +kernel)
@[simp] theorem s_10_9 : (Str.ofString "there" = Str.ofString "note") = False := eq_false (by decide +kernel)
@[simp] theorem s_10_11 : (Str.ofString "there" = Str.ofString "events") = False := eq_false (by decide +kernel)
@[simp] theorem s_10_12 : (Str.ofString "there" = Str.ofString "shelf") = False := eq_false (by decide +kernel)
@[simp] theorem s_10_13 : (Str.ofString "there" = Str.ofString "store") = False := eq_false (by decide +kernel)
@[simp] theorem s_10_14 : (Str.ofString "there" = Str.ofString "board") = False := eq_false (by decide +kernel)
@[simp] theorem s_10_15 : (Str.ofString "there" = Str.ofString "a\tb") = False := eq_false (by decide +kernel)
@[simp] theorem s_11_0 : (Str.ofString "events" = Str.ofString "behind") = False := eq_false (by decide +kernel)
@[simp] theorem s_11_1 : (Str.ofString "events" = Str.ofString "away") = False := eq_false (by decide +kernel)
@[simp] theorem s_11_2 : (Str.ofString "events" = Str.ofString "instead") = False := eq_false (by decide +kernel)
@[simp] theorem s_11_3 : (Str.ofString "events" = Str.ofString "fact") = False := eq_false (by decide +kernel)
@[simp] theorem s_11_4 : (Str.ofString "events" = Str.ofString "text") = False := eq_false (by decide +kernel)
@[simp] theorem s_11_5 : (Str.ofString "events" = Str.ofString "settle") = False := eq_false (by decide +kernel)
@[simp] theorem s_11_6 : (Str.ofString "events" = Str.ofString "hand") = False := eq_false (by decide +kernel)
@[simp] theorem s_11_7 : (Str.ofString "events" = Str.ofString "back") = False := eq_false (by decide +kernel)
@[simp] theorem s_11_8 : (Str.ofString "events" = Str.ofString "order") = False := eq_false (by decide +kernel)
@[simp] theorem s_11_9 : (Str.ofString "events" = Str.ofString "note") = False := eq_false (by decide +kernel)
@[simp] theorem s_11_10 : (Str.ofString "events" = Str.ofString "there") = False := eq_false (by decide +kernel)
@[simp] theorem s_11_12 : (Str.ofString "events" = Str.ofString "shelf") = False := eq_false (by decide +kernel)
@[simp] theorem s_11_13 : (Str.ofString "events" = Str.ofString "store") = False := eq_false (by decide +kernel)
@[simp] theorem s_11_14 : (Str.ofString "events" = Str.ofString "board") = False := eq_false (by decide +kernel)
@[simp] theorem s_11_15 : (Str.ofString "events" = Str.ofString "a\tb") = False := eq_false (by decide +kernel)
@[simp] theorem s_12_0 : (Str.ofString "shelf" = Str.ofString "behind") = False := eq_false (by decide +kernel)
@[simp] theorem s_12_1 : (Str.ofString "shelf" = Str.ofString "away") = False := eq_false (by decide +kernel)
@[simp] theorem s_12_2 : (Str.ofString "shelf" = Str.ofString "instead") = False := eq_false (by decide +kernel)
@[simp] theorem s_12_3 : (Str.ofString "shelf" = Str.ofString "fact") = False := eq_false (by decide +kernel)
@[simp] theorem s_12_4 : (Str.ofString "shelf" = Str.ofString "text") = False := eq_false (by decide +kernel)
@[simp] theorem s_12_5 : (Str.ofString "shelf" = Str.ofString "settle") = False := eq_false (by decide +kernel)
@[simp] theorem s_12_6 : (Str.ofString "shelf" = Str.ofString "hand") = False := eq_false (by decide +kernel)
@[simp] theorem s_12_7 : (Str.ofString "shelf" = Str.ofString "back") = False := eq_false (by decide +kernel)
@[simp] theorem s_12_8 : (Str.ofString "shelf" = Str.ofString "order") = False := eq_false (by decide +kernel)
@[simp] theorem s_12_9 : (Str.ofString "shelf" = Str.ofString "note") = False := eq_false (by decide +kernel)
@[simp] theorem s_12_10 : (Str.ofString "shelf" = Str.ofString "there") = False := eq_false (by decide +kernel)
@[simp] theorem s_12_11 : (Str.ofString "shelf" = Str.ofString "events") = False := eq_false (by decide +kernel)
@[simp] theorem s_12_13 : (Str.ofString "shelf" = Str.ofString "store") = False := eq_false (by decide +kernel)
@[simp] theorem s_12_14 : (Str.ofString "shelf" = Str.ofString "board") = False := eq_false (by decide +kernel)
@[simp] theorem s_12_15 : (Str.ofString "shelf" = Str.ofString "a\tb") = False := eq_false (by decide +kernel)
@[simp] theorem s_13_0 : (Str.ofString "store" = Str.ofString "behind") = False := eq_false (by decide +kernel)
@[simp] theorem s_13_1 : (Str.ofString "store" = Str.ofString "away") = False := eq_false (by decide +kernel)
@[simp] theorem s_13_2 : (Str.ofString "store" = Str.ofString "instead") = False := eq_false (by decide +kernel)
@[simp] theorem s_13_3 : (Str.ofString "store" = Str.ofString "fact") = False := eq_false (by decide +kernel)
@[simp] theorem s_13_4 : (Str.ofString "store" = Str.ofString "text") = False := eq_false (by decide +kernel)
@[simp] theorem s_13_5 : (Str.ofString "store" = Str.ofString "settle") = False := eq_false (by decide +kernel)
@[simp] theorem s_13_6 : (Str.ofString "store" = Str.ofString "hand") = False := eq_false (by decide +kernel)
@[simp] theorem s_13_7 : (Str.ofString "store" = Str.ofString "back") = False := eq_false (by decide +kernel)
@[simp] theorem s_13_8 : (Str.ofString "store" = Str.ofString "order") = False := eq_false (by decide +kernel)
@[simp] theorem s_13_9 : (Str.ofString "store" = Str.ofString "note") = False := eq_false (by decide +kernel)
@[simp] theorem s_13_10 : (Str.ofString "store" = Str.ofString "there") = False := eq_false (by decide +kernel)
@[simp] theorem s_13_11 : (Str.ofString "store" = Str.ofString "events") = False := eq_false (by decide +kernel)
@[simp] theorem s_13_12 : (Str.ofString "store" = Str.ofString "shelf") = False := eq_false (by decide +kernel)
@[simp] theorem s_13_14 : (Str.ofString "store" = Str.ofString "board") = False := eq_false (by decide +kernel)
@[simp] theorem s_13_15 : (Str.ofString "store" = Str.ofString "a\tb") = False := eq_false (by decide +kernel)
@[simp] theorem s_14_0 : (Str.ofString "board" = Str.ofString "behind") = False := eq_false (by decide +kernel)
@[simp] theorem s_14_1 : (Str.ofString "board" = Str.ofString "away") = False := eq_false (by decide +kernel)
@[simp] theorem s_14_2 : (Str.ofString "board" = Str.ofString "instead") = False := eq_false (by decide +kernel)
@[simp] theorem s_14_3 : (Str.ofString "board" = Str.ofString "fact") = False := eq_false (by decide +kernel)
@[simp] theorem s_14_4 : (Str.ofString "board" = Str.ofString "text") = False := eq_false (by decide +kernel)
@[simp] theorem s_14_5 : (Str.ofString "board" = Str.ofString "settle") = False := eq_false (by decide +kernel)
@[simp] theorem s_14_6 : (Str.ofString "board" = Str.ofString "hand") = False := eq_false (by decide +kernel)
@[simp] theorem s_14_7 : (Str.ofString "board" = Str.ofString "back") = False := eq_false (by decide +kernel)
@[simp] theorem s_14_8 : (Str.ofString "board" = Str.ofString "order") = False := eq_false (by decide +kernel)
@[simp] theorem s_14_9 : (Str.ofString "board" = Str.ofString "note") = False := eq_false (by decide +kernel)
@[simp] theorem s_14_10 : (Str.ofString "board" = Str.ofString "there") = False := eq_false (by decide +kernel)
@[simp] theorem s_14_11 : (Str.ofString "board" = Str.ofString "events") = False := eq_false (by decide +kernel)
@[simp] theorem s_14_12 : (Str.ofString "board" = Str.ofString "shelf") = False := eq_false (by decide +kernel)
@[simp] theorem s_14_13 : (Str.ofString "board" = Str.ofString "store") = False := eq_false (by decide +kernel)
@[simp] theorem s_14_15 : (Str.ofString "board" = Str.ofString "a\tb") = False := eq_false (by decide +kernel)
@[simp] theorem s_15_0 : (Str.ofString "a\tb" = Str.ofString "behind") = False := eq_false (by decide +kernel)
@[simp] theorem s_15_1 : (Str.ofString "a\tb" = Str.ofString "away") = False := eq_false (by decide +kernel)
@[simp] theorem s_15_2 : (Str.ofString "a\tb" = Str.ofString "instead") = False := eq_false (by decide +kernel)
@[simp] theorem s_15_3 : (Str.ofString "a\tb" = Str.ofString "fact") = False := eq_false (by decide +kernel)
@[simp] theorem s_15_4 : (Str.ofString "a\tb" = Str.ofString "text") = False := eq_false (by decide +kernel)
@[simp] theorem s_15_5 : (Str.ofString "a\tb" = Str.ofString "settle") = False := eq_false (by decide +kernel)
@[simp] theorem s_15_6 : (Str.ofString "a\tb" = Str.ofString "hand") = False := eq_false (by decide +kernel)
@[simp] theorem s_15_7 : (Str.ofString "a\tb" = Str.ofString "back") = False := eq_false (by decide +kernel)
@[simp] theorem s_15_8 : (Str.ofString "a\tb" = Str.ofString "order") = False := eq_false (by decide +kernel)
@[simp] theorem s_15_9 : (Str.ofString "a\tb" = Str.ofString "note") = False := eq_false (by decide +kernel)
@[simp] theorem s_15_10 : (Str.ofString "a\tb" = Str.ofString "there") = False := eq_false (by decide +kernel)
@[simp] theorem s_15_11 : (Str.ofString "a\tb" = Str.ofString "events") = False := eq_false (by decide +kernel)
@[simp] theorem s_15_12 : (Str.ofString "a\tb" = Str.ofString "shelf") = False := eq_false (by decide +kernel)
@[simp] theorem s_15_13 : (Str.ofString "a\tb" = Str.ofString "store") = False := eq_false (by decide +kernel)
@[simp] theorem s_15_14 : (Str.ofString "a\tb" = Str.ofString "board") = False := eq_false (by decide +kernel)
end K76

namespace K76
open PySem PyE
def t_is_int : FT := ⟨"is_int", ["value"], [(1, [], [])]⟩
def n_is_int : List Str := ["value"]
def t_is_number : FT := ⟨"is_number", ["value", "least", "most"], [(3, [], []), (1, [], [(.int 0), .non]), (2, [], [.non])]⟩
def n_is_number : List Str := ["value", "least", "most"]
def t_is_tuple : FT := ⟨"is_tuple", ["value", "many"], [(2, [], []), (1, [], [.non])]⟩
def n_is_tuple : List Str := ["value", "many"]
def t_is_numbers : FT := ⟨"is_numbers", ["value", "many", "least", "most"], [(4, [], []), (2, [], [(.int 0), .non])]⟩
def n_is_numbers : List Str := ["value", "many", "least", "most", "one"]
def t_is_lot : FT := ⟨"is_lot", ["value", "most"], [(2, [], [])]⟩
def n_is_lot : List Str := ["value", "most", "one", "two"]
def t_spot_in : FT := ⟨"spot_in", ["rows", "name"], [(2, [], [])]⟩
def n_spot_in : List Str := ["rows", "name", "spot", "row"]
def t_is_there : FT := ⟨"is_there", ["rows", "name"], [(2, [], [])]⟩
def n_is_there : List Str := ["rows", "name", "spot"]
def t_turned : FT := ⟨"turned", ["rows", "name", "note", "is_left"], [(4, [], [])]⟩
def n_turned : List Str := ["rows", "name", "note", "is_left", "spot", "row"]
def t_carried : FT := ⟨"carried", ["rows", "carry"], [(2, [], [])]⟩
def n_carried : List Str := ["rows", "carry", "found", "name", "note", "is_left", "told"]
def t_rows_after : FT := ⟨"rows_after", ["rows", "number", "event", "is_gone"], [(4, [], [])]⟩
def n_rows_after : List Str := ["rows", "number", "event", "is_gone", "spot", "row"]
def t_taken_back : FT := ⟨"taken_back", ["events"], [(1, [], [])]⟩
def n_taken_back : List Str := ["events", "event"]
def t_plain_notes : FT := ⟨"plain_notes", ["events"], [(1, [], [])]⟩
def n_plain_notes : List Str := ["events", "gone", "rows", "number", "event"]
def t_last_of : FT := ⟨"last_of", ["events", "word"], [(2, [], [])]⟩
def n_last_of : List Str := ["events", "word", "number", "event"]
def t_is_written : FT := ⟨"is_written", ["value"], [(1, [], [])]⟩
def n_is_written : List Str := ["value", "sign"]
def t_is_text_event : FT := ⟨"is_text_event", ["many", "value"], [(2, [], [])]⟩
def n_is_text_event : List Str := ["many", "value", "one"]
def t_is_fact : FT := ⟨"is_fact", ["rows", "sizes", "value"], [(3, [], [])]⟩
def n_is_fact : List Str := ["rows", "sizes", "value", "look", "answer"]
def t_can_back : FT := ⟨"can_back", ["events", "number"], [(2, [], [])]⟩
def n_can_back : List Str := ["events", "number"]
def t_is_edit : FT := ⟨"is_edit", ["rows", "many", "value"], [(3, [], [])]⟩
def n_is_edit : List Str := ["rows", "many", "value"]
def t_can_event : FT := ⟨"can_event", ["events", "sizes", "value"], [(2, ["value"], []), (3, [], [])]⟩
def n_can_event : List Str := ["events", "sizes", "value"]
def t__law_box : FT := ⟨"_law_box", ["script", "k"], [(2, [], [])]⟩
def n__law_box : List Str := ["script", "k", "cell", "great"]
def t__law_take : FT := ⟨"_law_take", ["box", "many"], [(2, [], [])]⟩
def n__law_take : List Str := ["box", "many", "raw", "digit"]
def t__law_pick : FT := ⟨"_law_pick", ["box", "some"], [(2, [], [])]⟩
def n__law_pick : List Str := ["box", "some"]
def t__law_same : FT := ⟨"_law_same", ["told", "due"], [(2, [], [])]⟩
def n__law_same : List Str := ["told", "due", "one", "other"]
def t__law_life : FT := ⟨"_law_life", [], [(0, [], [])]⟩
def n__law_life : List Str := []
def t__law_gone_events : FT := ⟨"_law_gone_events", ["events"], [(1, [], [])]⟩
def n__law_gone_events : List Str := ["events", "event"]
def t__law_lives : FT := ⟨"_law_lives", ["events"], [(1, [], [])]⟩
def n__law_lives : List Str := ["events", "life", "gone", "number", "event", "spot", "name", "note"]
def t__law_backs : FT := ⟨"_law_backs", ["events"], [(1, [], [])]⟩
def n__law_backs : List Str := ["events", "last", "gone", "number", "event"]
def t__law_some_fact : FT := ⟨"_law_some_fact", ["box", "there", "sizes"], [(3, [], [])]⟩
def n__law_some_fact : List Str := ["box", "there", "sizes", "lot", "board"]
def t__law_some_event : FT := ⟨"_law_some_event", ["box", "events", "sizes"], [(3, [], [])]⟩
def n__law_some_event : List Str := ["box", "events", "sizes", "life", "way", "there", "backs_now", "name"]
def t__law_some_sizes : FT := ⟨"_law_some_sizes", ["box"], [(1, [], [])]⟩
def n__law_some_sizes : List Str := ["box"]
def t__law_some_text : FT := ⟨"_law_some_text", ["box", "many", "later"], [(3, [], [])]⟩
def n__law_some_text : List Str := ["box", "many", "later", "carry", "note", "turn"]
def t__law_events : FT := ⟨"_law_events", ["box", "most", "texts"], [(3, [], [])]⟩
def n__law_events : List Str := ["box", "most", "texts", "turn", "events", "sizes", "later"]
def t__law_is_number : FT := ⟨"_law_is_number", ["value", "least", "most"], [(3, [], [])]⟩
def n__law_is_number : List Str := ["value", "least", "most"]
def t__law_can_fact : FT := ⟨"_law_can_fact", ["life", "sizes", "value"], [(3, [], [])]⟩
def n__law_can_fact : List Str := ["life", "sizes", "value", "look", "board", "one", "two"]
def t__law_can : FT := ⟨"_law_can", ["events", "life", "sizes", "value"], [(4, [], [])]⟩
def n__law_can : List Str := ["events", "life", "sizes", "value", "word", "long", "signs", "good", "sign", "one"]
def t_law : FT := ⟨"law", ["script"], [(1, [], [])]⟩
def n_law : List Str := ["script", "k", "box", "number", "there", "base", "turn", "events", "sizes", "life", "many", "value", "spot", "odd", "one", "name"]
def fns : List FT := [t_is_int, t_is_number, t_is_tuple, t_is_numbers, t_is_lot, t_spot_in, t_is_there, t_turned, t_carried, t_rows_after, t_taken_back, t_plain_notes, t_last_of, t_is_written, t_is_text_event, t_is_fact, t_can_back, t_is_edit, t_can_event, t__law_box, t__law_take, t__law_pick, t__law_same, t__law_life, t__law_gone_events, t__law_lives, t__law_backs, t__law_some_fact, t__law_some_event, t__law_some_sizes, t__law_some_text, t__law_events, t__law_is_number, t__law_can_fact, t__law_can, t_law]
def glb : List (Str × D) := [("SIGNS", (.str (Str.ofString " !\"#$&'()*+,-./0123456789:;<=>?@ABCDEFGHIJKLMNOPQRSTUVWXYZ[\\]^_`abcdefghijklmnopqrstuvwxyz{|}~"))), ("BEGIN", (.int (-1))), ("EDITS", (.tup [(.str (Str.ofString "behind")), (.str (Str.ofString "away")), (.str (Str.ofString "instead"))])), ("TAKEN", (.tup [(.str (Str.ofString "behind")), (.str (Str.ofString "away")), (.str (Str.ofString "instead")), (.str (Str.ofString "fact"))]))]
def top (i : Nat) : Stmt := PySem.Challenge.pw_meantlog_k76_any_event_that_can_be.main.body.getD i (.Pass ⟨0, 0, 0, 0⟩)
end K76

namespace K76
open PySem PyE
def oD : Option Int → D
  | none => .non
  | some i => .int i
@[simp] theorem oD_none : oD none = .non := rfl
@[simp] theorem oD_some (i : Int) : oD (some i) = .int i := rfl
structure Row where
  n : Int
  w : Option Int
  t : Bool
def Row.d (r : Row) : D := .tup [.int r.n, oD r.w, .bl r.t]
abbrev rowsD (rs : List Row) : D := .tup (rs.map Row.d)
theorem oD_pure (o : Option Int) : (oD o).pure = true := by cases o <;> rfl
theorem row_pure (r : Row) : r.d.pure = true := by simp [Row.d, D.pure, D.pureL, oD_pure]
theorem rows_pure (rs : List Row) : (rowsD rs).pure = true := pure_tup _ row_pure rs
def idxOf (name : Int) : List Row → Nat → Option Int
  | [], _ => none
  | r :: rs, i => if r.n = name then some (i : Int) else idxOf name rs (i + 1)
def spotIn (rs : List Row) (name : Int) : Option Int := if name = -1 then some (-1) else idxOf name rs 0
theorem spot_loop (cf : CallF) (name : Int) (X : D) (st : Store) : ∀ (rs : List Row) (i : Nat), ∃ en, forR (asT cf (.tup (.cons (.name 2) (.cons (.name 3) .nil)))) (evSs cf (.cons (.ife (.cmp .eq (.ix (.var 3) (.lit (.int 0))) (.var 1)) (.cons (.ret (.var 2)) .nil) .nil) .nil)) [3, 2] st.length [] (pairs i (rs.map Row.d)) [some X, some (.int name), none, none] st
    = match idxOf name rs i with | none => .ok (.nx, [some X, some (.int name), none, none]) st | some j => .ok (.rt (.int j), en) st
  | [], i => ⟨[], rfl⟩
  | r :: rs, i => by
    obtain ⟨en, ih⟩ := spot_loop cf name X st rs (i + 1)
    by_cases h : r.n = name
    · refine ⟨[some X, some (.int name), some (.int (i : Nat)), some r.d], ?_⟩
      simp only [List.map_cons, pairs, forR, idxOf, if_pos h]
      simp [Row.d, h]
    · refine ⟨en, ?_⟩
      simp only [List.map_cons, pairs, forR, idxOf, if_neg h]
      rw [← ih]
      simp [Row.d, h]
theorem ev_spot_in (k : Nat) (hk : 1 ≤ k) (rs : List Row) (name : Int) (st : Store) : callF prog k f_spot_in [rowsD rs, .int name] st = .ok (oD (spotIn rs name)) st := by
  rw [callF_at p_spot_in hk, run_at rfl]
  obtain ⟨en, h⟩ := spot_loop (callF prog (k - 1)) name (rowsD rs) st rs 0
  unfold spotIn
  by_cases h1 : name = -1
  · simp [c_spot_in, b_spot_in_0, h1]
  · have hv : view st (rowsD rs) = .tup (rs.map Row.d) := rfl
    simp [c_spot_in, b_spot_in_0, h1, hv]
    rw [h]
    cases idxOf name rs 0 <;> simp
end K76

namespace K76
open PySem PyE
theorem cl_spot_in {k : Nat} (hk : 1 ≤ k) (rs : List Row) (name : Int) (st : Store) : callIn (callF prog k) f_spot_in [rowsD rs, .int name] [] false st = .ok (oD (spotIn rs name)) st :=
  call_pure (by simp [rows_pure]; rfl) (ev_spot_in k hk rs name []) (oD_pure _)
/-- where the row stands -/
def idx (name : Int) : List Row → Option Nat
  | [] => none
  | r :: rs => if r.n = name then some 0 else (idx name rs).map (· + 1)
theorem idxOf_idx (name : Int) : ∀ (rs : List Row) (i : Nat), idxOf name rs i = (idx name rs).map fun (j : Nat) => ((i + j : Nat) : Int)
  | [], _ => rfl
  | r :: rs, i => by
    unfold idxOf idx
    split
    · simp
    · rw [idxOf_idx name rs (i + 1)]
      cases idx name rs with
      | none => rfl
      | some j => simp; omega
theorem spotIn_idx {rs : List Row} {name : Int} (h : name ≠ -1) : spotIn rs name = (idx name rs).map fun (j : Nat) => (j : Int) := by
  unfold spotIn
  rw [if_neg h, idxOf_idx]
  simp
theorem idx_get {name : Int} : ∀ {rs : List Row} {j : Nat}, idx name rs = some j → ∃ r, rs[j]? = some r ∧ r.n = name
  | [], _, h => by cases h
  | r :: rs, j, h => by
    unfold idx at h
    split at h
    · rename_i e
      cases h
      exact ⟨r, rfl, e⟩
    · cases e : idx name rs with
      | none => rw [e] at h; cases h
      | some i =>
        rw [e] at h
        cases h
        obtain ⟨r', h1, h2⟩ := idx_get e
        exact ⟨r', by simpa using h1, h2⟩
/-- the row of a name -/
def rowAt (rs : List Row) (name : Int) : Option Row := (idx name rs).bind fun j => rs[j]?
def isThere (rs : List Row) (name : Int) : Bool := if name = -1 then false else match rowAt rs name with
  | some r => r.t
  | none => false
theorem ix_rows {rs : List Row} {j : Nat} {r : Row} {st : Store} (h : rs[j]? = some r) : ixD (rowsD rs) (.int (j : Nat)) st = .ok r.d st := by
  show opt (L2.atI (rs.map Row.d) (j : Int)) st = _
  rw [atI_nn, List.getElem?_map, h]; rfl
theorem ev_is_there (k : Nat) (hk : 2 ≤ k) (rs : List Row) (name : Int) (st : Store) : callF prog k f_is_there [rowsD rs, .int name] st = .ok (.bl (isThere rs name)) st := by
  rw [callF_at p_is_there (by omega), run_at rfl]
  simp only [c_is_there]
  simp [cl_spot_in (show 1 ≤ k - 1 by omega)]
  unfold isThere
  by_cases h : name = -1
  · subst h
    simp [spotIn]
  · rw [spotIn_idx h, if_neg h]
    unfold rowAt
    cases e : idx name rs with
    | none => simp
    | some j =>
      obtain ⟨r, h1, h2⟩ := idx_get e
      simp [h1, ix_rows h1, Row.d]
theorem cl_is_there {k : Nat} (hk : 2 ≤ k) (rs : List Row) (name : Int) (st : Store) : callIn (callF prog k) f_is_there [rowsD rs, .int name] [] false st = .ok (.bl (isThere rs name)) st :=
  call_pure (by simp [rows_pure]; rfl) (ev_is_there k hk rs name []) rfl
def turnedM (rs : List Row) (name : Int) (w : Option Int) (t : Bool) : List Row := if isThere rs name = true then match idx name rs with
    | some j => (match rs[j]? with
      | some r => rs.take j ++ [⟨name, w.or r.w, t⟩] ++ rs.drop (j + 1)
      | none => rs)
    | none => rs
  else rs
theorem isThere_row {rs : List Row} {name : Int} (h : isThere rs name = true) : name ≠ -1 ∧ ∃ j r, idx name rs = some j ∧ rs[j]? = some r ∧ r.n = name ∧ r.t = true := by
  have hn : name ≠ -1 := fun e => by simp [isThere, e] at h
  refine ⟨hn, ?_⟩
  unfold isThere rowAt at h
  rw [if_neg hn] at h
  cases e : idx name rs with
  | none => simp [e] at h
  | some j =>
    obtain ⟨r, h1, h2⟩ := idx_get e
    simp [e, h1] at h
    exact ⟨j, r, rfl, h1, h2, h⟩
theorem ev_turned (k : Nat) (hk : 3 ≤ k) (rs : List Row) (hl : rs.length ≤ 1000) (name : Int) (w : Option Int) (t : Bool) (st : Store) : callF prog k f_turned [rowsD rs, .int name, oD w, .bl t] st = .ok (rowsD (turnedM rs name w t)) st := by
  rw [callF_at p_turned (by omega), run_at rfl]
  unfold turnedM
  cases ht : isThere rs name with
  | false => simp [c_turned, cl_is_there (show 2 ≤ k - 1 by omega), ht]
  | true =>
    obtain ⟨hn, j, r, e, h1, h2, h3⟩ := isThere_row ht
    have hj : j < rs.length := (List.getElem?_eq_some_iff.mp h1).1
    have e1 : ((j : Int) + 1).toNat = j + 1 := by omega
    have e2 : (0 : Int) ≤ (j : Int) + 1 := by omega
    have sp : spotIn rs name = some (j : Int) := by rw [spotIn_idx hn, e]; rfl
    have b1 : ∀ x st, binD .add (.tup (List.take j (rs.map Row.d))) (.tup [x]) st = .ok (.tup (List.take j (rs.map Row.d) ++ [x])) st := fun x st => bin_add_tup (by simp [line]; omega)
    have b2 : ∀ x st, binD .add (.tup (List.take j (rs.map Row.d) ++ [x])) (.tup (List.drop (j + 1) (rs.map Row.d))) st = .ok (.tup (List.take j (rs.map Row.d) ++ [x] ++ List.drop (j + 1) (rs.map Row.d))) st := fun x st => bin_add_tup (by simp [line]; omega)
    have s1 : ∀ st, slB (.tup (rs.map Row.d)) none (some (j : Int)) st = some (.tup ((rs.map Row.d).take j)) := fun st => by rw [sl_take _ _ (by omega)]; simp
    have s2 : ∀ st, slB (.tup (rs.map Row.d)) (some ((j : Int) + 1)) none st = some (.tup ((rs.map Row.d).drop (j + 1))) := fun st => by rw [sl_drop _ _ e2, e1]
    have ix : ∀ st, ixD (.tup (rs.map Row.d)) (.int (j : Nat)) st = .ok r.d st := fun st => ix_rows h1
    cases w <;> simp [c_turned, cl_is_there (show 2 ≤ k - 1 by omega), cl_spot_in (show 1 ≤ k - 1 by omega), ht, sp, ix, h1, e, Row.d, mkTup_ok, line, s1, s2, b1, b2]
end K76

namespace K76
open PySem PyE
inductive Look where
  | hand (h : Int)
  | board (s : Option Int) (lot : List Int)
def Look.d : Look → D
  | .hand h => .tup [.str (Str.ofString "hand"), .int h]
  | .board s lot => .tup [.str (Str.ofString "board"), oD s, .tup (lot.map .int)]
inductive Ev where
  | behind (n w : Int)
  | away (n : Int)
  | instead (n w : Int)
  | back (n : Int)
  | fact (l : Look) (a : Int)
  | text (xs : List Int) (carry : List (Option Int))
  | settle
def Ev.d : Ev → D
  | .behind n w => .tup [.str (Str.ofString "behind"), .int n, .int w]
  | .away n => .tup [.str (Str.ofString "away"), .int n]
  | .instead n w => .tup [.str (Str.ofString "instead"), .int n, .int w]
  | .back n => .tup [.str (Str.ofString "back"), .int n]
  | .fact l a => .tup [.str (Str.ofString "fact"), l.d, .int a]
  | .text xs carry => .tup [.str (Str.ofString "text"), .str (Str.ofString "shelf"), .str (Str.ofString "store"), .tup (xs.map .int), .tup (carry.map oD)]
  | .settle => .tup [.str (Str.ofString "settle")]
theorem look_pure (l : Look) : l.d.pure = true := by
  cases l <;> simp [Look.d, D.pure, D.pureL, oD_pure]
  exact pureL_map _ (fun _ => rfl) _
theorem ev_pure (e : Ev) : e.d.pure = true := by
  cases e <;> simp [Ev.d, D.pure, D.pureL, look_pure]
  exact ⟨pureL_map _ (fun _ => rfl) _, pureL_map _ oD_pure _⟩
/-- events as the code has them: a tuple, a list -/
def evsD (b : Bool) (es : List Ev) : D := if b = true then .tup (es.map Ev.d) else .lst (es.map Ev.d)
theorem evs_pure (b : Bool) (es : List Ev) : (evsD b es).pure = true := by
  cases b
  · exact pure_lst _ ev_pure es
  · exact pure_tup _ ev_pure es
def toldOf (carry : List (Option Int)) (w : Option Int) : Option Int := w.bind fun i => (L2.atI carry i).join
def carried1 (carry : List (Option Int)) (r : Row) : Row := ⟨r.n, toldOf carry r.w, r.t && (toldOf carry r.w).isSome⟩
def CarryOk (carry : List (Option Int)) (w : Option Int) : Prop := ∀ i, w = some i → (L2.atI carry i).isSome = true
theorem ev_carried (k : Nat) (hk : 1 ≤ k) (rs : List Row) (hl : rs.length ≤ 1000) (carry : List (Option Int)) (hc : ∀ r ∈ rs, CarryOk carry r.w) : ∃ cs, callF prog k f_carried [rowsD rs, .tup (carry.map oD)] [] = .ok (rowsD (rs.map (carried1 carry))) cs := by
  rw [callF_at p_carried (by omega), run_at rfl]
  have ap : ∀ (acc : List Row) (y : D), acc.length < 1000 → mtD .append (.ref 0) [y] [.lst (acc.map Row.d)] = .ok .non [.lst (acc.map Row.d ++ [y])] := fun acc y h => append_ok rfl (by simp [line]; omega)
  simp [c_carried, b_carried_0]
  rw [for_eqs Row.d (fun _ => [some (rowsD rs), some (.tup (carry.map oD)), some (.ref 0), none, none, none, none]) (fun (s : List Row) => [D.lst (s.map Row.d)]) (fun s r => s ++ [carried1 carry r]) (fun i s => s.length = i) rs [] ?he ?hs rfl ?hh]
  case he => rfl
  case hs => rfl
  · rw [foldl_snoc]; simp
  · intro j r s hj hs
    have hr := hc r (List.mem_of_getElem? hj)
    have hlt : j < rs.length := (List.getElem?_eq_some_iff.mp hj).1
    have ap' := fun y => ap s y (by omega)
    refine ⟨by simp; omega, ?_⟩
    cases hw : r.w with
    | none =>
      have e1 : toldOf carry none = none := rfl
      cases ht : r.t <;> simp [stepR, Row.d, hw, ht, ap', carried1, e1]
    | some i =>
      obtain ⟨o, ho⟩ := Option.isSome_iff_exists.mp (hr i hw)
      have e1 : toldOf carry (some i) = o := by simp [toldOf, ho]
      cases ht : r.t <;> cases o <;> simp [stepR, Row.d, hw, ht, ap', carried1, e1, atI_map, ho]
end K76

namespace K76
open PySem PyE
def carryB (carry : List (Option Int)) (w : Option Int) : Bool := match w with
  | none => true
  | some i => (L2.atI carry i).isSome
theorem carryB_ok {carry : List (Option Int)} {w : Option Int} (h : carryB carry w = true) : CarryOk carry w := fun i e => by subst e; exact h
def rowsAfter (rs : List Row) (number : Int) (e : Ev) (gone : Bool) : Option (List Row) := match e with
  | .behind n w => (spotIn rs n).map fun s => rs.take (s + 1).toNat ++ [⟨number, some w, !gone⟩] ++ rs.drop (s + 1).toNat
  | .text _ carry => if rs.all (fun r => carryB carry r.w) = true then some (rs.map (carried1 carry)) else none
  | .settle => some (rs.filter (·.t))
  | .back _ => some rs
  | .fact _ _ => some rs
  | .away n => some (if gone = true then rs else turnedM rs n none false)
  | .instead n w => some (if gone = true then rs else turnedM rs n (some w) true)
theorem spotIn_nn {rs : List Row} {n s : Int} (h : spotIn rs n = some s) : -1 ≤ s := by
  unfold spotIn at h
  split at h
  · cases h; omega
  · rw [idxOf_idx] at h
    cases e : idx n rs with
    | none => rw [e] at h; cases h
    | some j =>
      rw [e] at h
      cases h
      simp
theorem cl_carried {k : Nat} (hk : 1 ≤ k) (rs : List Row) (hl : rs.length ≤ 1000) (carry : List (Option Int)) (hc : ∀ r ∈ rs, CarryOk carry r.w) (st : Store) : callIn (callF prog k) f_carried [rowsD rs, .tup (carry.map oD)] [] false st = .ok (rowsD (rs.map (carried1 carry))) st := by
  obtain ⟨cs, h⟩ := ev_carried k hk rs hl carry hc
  exact call_pure (by simp [rows_pure]; exact pure_tup _ oD_pure _) h (rows_pure _)
theorem cl_turned {k : Nat} (hk : 3 ≤ k) (rs : List Row) (hl : rs.length ≤ 1000) (name : Int) (w : Option Int) (t : Bool) (st : Store) : callIn (callF prog k) f_turned [rowsD rs, .int name, oD w, .bl t] [] false st = .ok (rowsD (turnedM rs name w t)) st :=
  call_pure (by simp [rows_pure, oD_pure]; exact ⟨rfl, rfl⟩) (ev_turned k hk rs hl name w t []) (rows_pure _)
theorem ev_rows_after (k : Nat) (hk : 4 ≤ k) (rs rs' : List Row) (hl : rs.length ≤ 900) (number : Int) (e : Ev) (gone : Bool) (h : rowsAfter rs number e gone = some rs') : callF prog k f_rows_after [rowsD rs, .int number, e.d, .bl gone] [] = .ok (rowsD rs') [] := by
  rw [callF_at p_rows_after (by omega), run_at rfl]
  cases e with
  | behind n w =>
    simp only [rowsAfter, Option.map_eq_some_iff] at h
    obtain ⟨s, h1, rfl⟩ := h
    have hs := spotIn_nn h1
    have b1 : ∀ x st, binD .add (.tup (List.take (s + 1).toNat (rs.map Row.d))) (.tup [x]) st = .ok (.tup (List.take (s + 1).toNat (rs.map Row.d) ++ [x])) st := fun x st => bin_add_tup (by simp [line]; omega)
    have b2 : ∀ x st, binD .add (.tup (List.take (s + 1).toNat (rs.map Row.d) ++ [x])) (.tup (List.drop (s + 1).toNat (rs.map Row.d))) st = .ok (.tup (List.take (s + 1).toNat (rs.map Row.d) ++ [x] ++ List.drop (s + 1).toNat (rs.map Row.d))) st := fun x st => bin_add_tup (by simp [line]; omega)
    have s1 : ∀ st, slB (.tup (rs.map Row.d)) none (some (s + 1)) st = some (.tup ((rs.map Row.d).take (s + 1).toNat)) := fun st => sl_take _ _ (by omega)
    have s2 : ∀ st, slB (.tup (rs.map Row.d)) (some (s + 1)) none st = some (.tup ((rs.map Row.d).drop (s + 1).toNat)) := fun st => sl_drop _ _ (by omega)
    simp [c_rows_after, Ev.d, cl_spot_in (show 1 ≤ k - 1 by omega), h1, s1, s2, b1, b2, Row.d]
  | text xs carry =>
    simp only [rowsAfter] at h
    split at h
    · rename_i hc
      cases h
      have hc' : ∀ r ∈ rs, CarryOk carry r.w := fun r hr => carryB_ok (List.all_eq_true.mp hc r hr)
      simp [c_rows_after, Ev.d, cl_carried (show 1 ≤ k - 1 by omega) rs (by omega) carry hc']
    · cases h
  | settle =>
    cases h
    simp [c_rows_after, Ev.d]
    rw [fold_map Row.d Row.d (fun r => if r.t = true then some r else none) (fun _ => True) ?h rs [] (fun _ _ => trivial) (by simp [line]; omega)]
    · simp [filterMap_if]
    · intro r acc _ hl
      have hl' : acc.length < 16777216 := hl
      cases ht : r.t <;> simp [Row.d, ht, line, hl']
  | back n =>
    cases h
    cases gone <;> simp [c_rows_after, Ev.d, inD_def]
  | fact l a =>
    cases h
    cases gone <;> simp [c_rows_after, Ev.d, inD_def]
  | away n =>
    cases h
    have := cl_turned (show 3 ≤ k - 1 by omega) rs (by omega) n none false
    simp only [oD_none] at this
    cases gone <;> simp [c_rows_after, Ev.d, inD_def, this]
  | instead n w =>
    cases h
    have := cl_turned (show 3 ≤ k - 1 by omega) rs (by omega) n (some w) true
    simp only [oD_some] at this
    cases gone <;> simp [c_rows_after, Ev.d, inD_def, this]
theorem cl_rows_after {k : Nat} (hk : 4 ≤ k) (rs rs' : List Row) (hl : rs.length ≤ 900) (number : Int) (e : Ev) (gone : Bool) (h : rowsAfter rs number e gone = some rs') (st : Store) : callIn (callF prog k) f_rows_after [rowsD rs, .int number, e.d, .bl gone] [] false st = .ok (rowsD rs') st :=
  call_pure (by simp [rows_pure, ev_pure]; exact ⟨rfl, rfl⟩) (ev_rows_after k hk rs rs' hl number e gone h) (rows_pure _)
def backOf : Ev → Option Int
  | .back n => some n
  | _ => none
def backs (es : List Ev) : List Int := es.filterMap backOf
def backD (acc : List D) (n : Int) : List D := dput acc (.int n) (.bl true)
def goneD (es : List Ev) : List D := (backs es).foldl backD []
theorem gone_wf : ∀ (ns : List Int) (acc : List D), WfI acc → WfI (ns.foldl backD acc)
  | [], _, h => h
  | n :: ns, acc, h => gone_wf ns _ (h.put n _)
theorem gone_get (k : Int) : ∀ (ns : List Int) (acc : List D), WfI acc → (dget (ns.foldl backD acc) (.int k)).isSome = (decide (k ∈ ns) || (dget acc (.int k)).isSome)
  | [], _, _ => by simp
  | n :: ns, acc, h => by
    rw [List.foldl_cons, gone_get k ns (backD acc n) (h.put n _)]
    unfold backD
    rw [dget_put h]
    by_cases e : k = n
    · subst e; simp
    · simp [e]
theorem gone_pure : ∀ (ns : List Int) (acc : List D), D.pureL acc = true → D.pureL (ns.foldl backD acc) = true
  | [], _, h => h
  | n :: ns, acc, h => gone_pure ns _ (dput_pure h rfl rfl)
theorem gone_has (es : List Ev) (k : Int) : (dget (goneD es) (.int k)).isSome = decide (k ∈ backs es) := by
  unfold goneD
  rw [gone_get k _ _ .nil]
  simp [dget]
theorem gone_len : ∀ (ns : List Int) (acc : List D), (ns.foldl backD acc).length ≤ acc.length + ns.length
  | [], _ => by simp
  | n :: ns, acc => by
    have h1 := gone_len ns (backD acc n)
    have h2 : (backD acc n).length ≤ acc.length + 1 := dput_len _ _ _
    rw [List.foldl_cons, List.length_cons]
    omega
theorem tag_ix (e : Ev) : ∃ t r, e.d = .tup (.str t :: r) ∧ (t = Str.ofString "back" ↔ ∃ n, e = .back n) := by
  cases e <;> (refine ⟨_, _, rfl, ?_⟩; simp)
/-- the dict of the backs -/
theorem fold_back {F : D → List D → Store → R (List D)} {st : Store} (h : ∀ e acc, acc.length < line → F (Ev.d e) acc st = .ok (match backOf e with | some n => backD acc n | none => acc) st) :
    ∀ (es : List Ev) (acc : List D), acc.length + es.length ≤ line → foldR F (es.map Ev.d) acc st = .ok ((backs es).foldl backD acc) st
  | [], acc, _ => rfl
  | e :: es, acc, hl => by
    rw [List.length_cons] at hl
    show (F (Ev.d e) acc st).bind _ = _
    rw [h e acc (by omega)]
    unfold backs
    cases hb : backOf e with
    | none =>
      show foldR F (es.map Ev.d) acc st = _
      rw [fold_back h es acc (by omega), List.filterMap_cons_none hb]; rfl
    | some n =>
      have h2 : (backD acc n).length ≤ acc.length + 1 := dput_len _ _ _
      show foldR F (es.map Ev.d) (backD acc n) st = _
      rw [fold_back h es _ (by omega), List.filterMap_cons_some hb]; rfl
@[simp] theorem vw_evs (b : Bool) (es : List Ev) (st : Store) : iterOf st (evsD b es) = some (es.map Ev.d, []) := by cases b <;> rfl
@[simp] theorem vw_evs_t (es : List Ev) (st : Store) : view st (evsD true es) = .tup (es.map Ev.d) := rfl
@[simp] theorem vw_evs_f (es : List Ev) (st : Store) : view st (evsD false es) = .lst (es.map Ev.d) := rfl
@[simp] theorem gd_evs (b : Bool) (es : List Ev) (st : Store) : guardOf st (evsD b es) = [] := by cases b <;> rfl
theorem ev_taken_back (k : Nat) (hk : 1 ≤ k) (b : Bool) (es : List Ev) (hl : es.length ≤ 1000) : callF prog k f_taken_back [evsD b es] [] = .ok (.dct (goneD es)) [] := by
  rw [callF_at p_taken_back (by omega), run_at rfl]
  simp [c_taken_back]
  rw [fold_back ?h es [] (by simp [line]; omega)]
  · rfl
  · intro e acc hl
    have hl' : acc.length < 16777216 := hl
    cases e <;> simp [Ev.d, backOf, line, hl', backD]
theorem cl_taken_back {k : Nat} (hk : 1 ≤ k) (b : Bool) (es : List Ev) (hl : es.length ≤ 1000) (st : Store) : callIn (callF prog k) f_taken_back [evsD b es] [] false st = .ok (.dct (goneD es)) st :=
  call_pure (by simp [evs_pure]) (ev_taken_back k hk b es hl) (by simp only [D.pure]; exact gone_pure _ _ rfl)
/-- event by event; G: which numbers are gone -/
def replay (G : Int → Bool) : List Ev → Nat → List Row → Option (List Row)
  | [], _, rs => some rs
  | e :: es, i, rs => (rowsAfter rs (i : Int) e (G (i : Int))).bind fun rs' => replay G es (i + 1) rs'
def goneB (es : List Ev) (k : Int) : Bool := decide (k ∈ backs es)
def plainNotes (es : List Ev) : Option (List Row) := replay (goneB es) es 0 []
theorem rowsAfter_len {rs rs' : List Row} {number : Int} {e : Ev} {gone : Bool} (h : rowsAfter rs number e gone = some rs') : rs'.length ≤ rs.length + 1 := by
  cases e with
  | behind n w =>
    simp only [rowsAfter, Option.map_eq_some_iff] at h
    obtain ⟨s, h1, rfl⟩ := h
    simp; omega
  | text xs carry =>
    simp only [rowsAfter] at h
    split at h
    · cases h; simp
    · cases h
  | settle =>
    cases h
    have := List.length_filter_le (fun r : Row => r.t) rs
    omega
  | back n => cases h; omega
  | fact l a => cases h; omega
  | away n =>
    cases h
    split
    · omega
    · unfold turnedM
      split
      · rename_i ht
        obtain ⟨_, j, r, e1, e2, _⟩ := isThere_row ht
        have hj : j < rs.length := (List.getElem?_eq_some_iff.mp e2).1
        simp [e1, e2]; omega
      · omega
  | instead n w =>
    cases h
    split
    · omega
    · unfold turnedM
      split
      · rename_i ht
        obtain ⟨_, j, r, e1, e2, _⟩ := isThere_row ht
        have hj : j < rs.length := (List.getElem?_eq_some_iff.mp e2).1
        simp [e1, e2]; omega
      · omega
theorem replay_len {G : Int → Bool} : ∀ {es : List Ev} {i : Nat} {rs rs' : List Row}, replay G es i rs = some rs' → rs'.length ≤ rs.length + es.length
  | [], _, _, _, h => by cases h; simp
  | e :: es, i, rs, rs', h => by
    unfold replay at h
    rw [Option.bind_eq_some_iff] at h
    obtain ⟨r1, h1, h2⟩ := h
    have a := rowsAfter_len h1
    have b := replay_len h2
    rw [List.length_cons]; omega
theorem plain_loop (k : Nat) (hk : 4 ≤ k) (X : D) (es0 : List Ev) : ∀ (es : List Ev) (i : Nat) (rs rs' : List Row), rs.length + es.length ≤ 900 → replay (goneB es0) es i rs = some rs' →
    forR (asT (callF prog k) (.tup (.cons (.name 3) (.cons (.name 4) .nil)))) (evSs (callF prog k) (.cons (.asg (.name 2) (.call f_rows_after (.cons (.var 2) (.cons (.var 3) (.cons (.var 4) (.cons (.cmp .in_ (.var 3) (.var 1)) .nil)))) [] false)) .nil)) [4, 3] 0 [] (pairs i (es.map Ev.d)) [some X, some (.dct (goneD es0)), some (rowsD rs), none, none] []
      = .ok (.nx, [some X, some (.dct (goneD es0)), some (rowsD rs'), none, none]) []
  | [], i, rs, rs', _, h => by cases h; rfl
  | e :: es, i, rs, rs', hl, h => by
    unfold replay at h
    rw [Option.bind_eq_some_iff] at h
    obtain ⟨r1, h1, h2⟩ := h
    rw [List.length_cons] at hl
    have a := rowsAfter_len h1
    have step : stepR (asT (callF prog k) (.tup (.cons (.name 3) (.cons (.name 4) .nil)))) (evSs (callF prog k) (.cons (.asg (.name 2) (.call f_rows_after (.cons (.var 2) (.cons (.var 3) (.cons (.var 4) (.cons (.cmp .in_ (.var 3) (.var 1)) .nil)))) [] false)) .nil)) [4, 3] 0 [] (.tup [.int (i : Nat), e.d]) [some X, some (.dct (goneD es0)), some (rowsD rs), none, none] [] = .ok [some X, some (.dct (goneD es0)), some (rowsD r1), none, none] [] := by
      have := cl_rows_after hk rs r1 (by omega) (i : Nat) e (goneB es0 i) h1
      simp only [goneB] at this
      simp [stepR, gone_has, this]
    rw [List.map_cons, pairs, for_step step]
    exact plain_loop k hk X es0 es (i + 1) r1 rs' (by omega) h2
theorem ev_plain_notes (k : Nat) (hk : 5 ≤ k) (b : Bool) (es : List Ev) (rs : List Row) (hl : es.length ≤ 900) (h : plainNotes es = some rs) : callF prog k f_plain_notes [evsD b es] [] = .ok (rowsD rs) [] := by
  rw [callF_at p_plain_notes (by omega), run_at rfl]
  have key := plain_loop (k - 1) (by omega) (evsD b es) es es 0 [] rs (by simp; omega) h
  cases b
  · simp [c_plain_notes, b_plain_notes_0, cl_taken_back (show 1 ≤ k - 1 by omega) false es (by omega)]
    rw [show rowsD [] = D.tup [] from rfl] at key
    rw [key]
    simp
  · simp [c_plain_notes, b_plain_notes_0, cl_taken_back (show 1 ≤ k - 1 by omega) true es (by omega)]
    rw [show rowsD [] = D.tup [] from rfl] at key
    rw [key]
    simp
end K76

namespace K76
open PySem PyE
def Row.d2 (r : Row) : D := .tup [.int r.n, oD r.w]
def d2s (rs : List Row) : D := .tup (rs.map Row.d2)
theorem d2s_pure (rs : List Row) : (d2s rs).pure = true := pure_tup _ (fun r => by simp [Row.d2, D.pure, D.pureL, oD_pure]) rs
def alive (rs : List Row) : List Row := rs.filter (·.t)
theorem cl_plain_notes {k : Nat} (hk : 5 ≤ k) (b : Bool) (es : List Ev) (rs : List Row) (hl : es.length ≤ 900) (h : plainNotes es = some rs) (st : Store) : callIn (callF prog k) f_plain_notes [evsD b es] [] false st = .ok (rowsD rs) st :=
  call_pure (by simp [evs_pure]) (ev_plain_notes k hk b es rs hl h) (rows_pure _)
def notesD (rs : List Row) : D := .tup ((alive rs).map fun r => oD r.w)
def placeIn (rs : List Row) (s : Int) : Int := ((alive (rs.take (if 0 > s then 0 else s).toNat)).length : Nat)
theorem plain_len {es : List Ev} {rs : List Row} (h : plainNotes es = some rs) : rs.length ≤ es.length := by
  have := replay_len (show replay (goneB es) es 0 [] = some rs from h)
  simpa using this
def isText : Ev → Bool
  | .text _ _ => true
  | _ => false
def posText (es : List Ev) : List Int := (es.zipIdx).filterMap fun p => if isText p.1 = true then some ((p.2 : Int) + 1) else none
def lastText (es : List Ev) : Int := maxL 0 (posText es)
theorem intsOf_map : ∀ ns : List Int, intsOf (ns.map D.int) = some ns
  | [] => rfl
  | n :: ns => by simp [intsOf, intsOf_map ns]
theorem bi_max_ints (n : Int) (ns : List Int) (st : Store) : biD .max1 [.lst (.int n :: ns.map D.int)] st = .ok (.int (maxL n ns)) st := by
  show opt (intsB maxB (.lst (.int n :: ns.map D.int))) st = _
  have : intsOf (D.int n :: ns.map D.int) = some (n :: ns) := by simp [intsOf, intsOf_map]
  simp [intsB, this, maxB]
theorem ev_last_of (k : Nat) (hk : 1 ≤ k) (b : Bool) (es : List Ev) (hl : es.length ≤ 1000) : callF prog k f_last_of [evsD b es, .str (Str.ofString "text")] [] = .ok (.int (lastText es)) [] := by
  rw [callF_at p_last_of (by omega), run_at rfl]
  have fm : ∀ {F : D → List D → Store → R (List D)} (h : ∀ (p : Ev × Nat) (acc : List D), acc.length < line → F (.tup [.int (p.2 : Int), p.1.d]) acc [] = .ok (addO D.int acc (if isText p.1 = true then some ((p.2 : Int) + 1) else none)) []), foldR F (pairs 0 (es.map Ev.d)) [] [] = .ok ((posText es).map D.int) [] := fun {F} h => by
    rw [pairs_map, fold_map (fun p : Ev × Nat => .tup [.int (p.2 : Int), p.1.d]) D.int (fun p => if isText p.1 = true then some ((p.2 : Int) + 1) else none) (fun _ => True) (fun x acc _ hl => h x acc hl) _ [] (fun _ _ => trivial) (by simp [line]; omega)]
    rfl
  have hp : (posText es).length ≤ 1000 := Nat.le_trans (List.length_filterMap_le _ _) (by simpa using hl)
  have ad : ∀ st, binD .add (.lst [.int 0]) (.lst ((posText es).map D.int)) st = .ok (.lst (.int 0 :: (posText es).map D.int)) st := fun st => bin_add_lst (by simp [line]; omega)
  cases b
  · simp [c_last_of]
    rw [fm ?h1]
    · simp [ad, bi_max_ints, lastText]
    · intro p acc hl
      have hl' : acc.length < 16777216 := hl
      obtain ⟨e, i⟩ := p
      cases e <;> simp [Ev.d, isText, line, hl']
  · simp [c_last_of]
    rw [fm ?h2]
    · simp [ad, bi_max_ints, lastText]
    · intro p acc hl
      have hl' : acc.length < 16777216 := hl
      obtain ⟨e, i⟩ := p
      cases e <;> simp [Ev.d, isText, line, hl']
theorem cl_last_of {k : Nat} (hk : 1 ≤ k) (b : Bool) (es : List Ev) (hl : es.length ≤ 1000) (st : Store) : callIn (callF prog k) f_last_of [evsD b es, .str (Str.ofString "text")] [] false st = .ok (.int (lastText es)) st :=
  call_pure (by simp [evs_pure]; rfl) (ev_last_of k hk b es hl) rfl
def lookAt (rs : List Row) : Look → Option Look
  | .hand h => some (.hand h)
  | .board none lot => some (.board (some ((alive rs).length : Nat)) lot)
  | .board (some n) lot => if isThere rs n = true then (spotIn rs n).map fun s => .board (some (placeIn rs s)) lot else none
def olD : Option Look → D
  | none => .non
  | some l => l.d
theorem olD_pure (l : Option Look) : (olD l).pure = true := by cases l with
  | none => rfl
  | some l => exact look_pure l
end K76

namespace K76
open PySem PyE
structure Fact where
  n : Int
  l : Look
  a : Int
def Fact.d (f : Fact) : D := .tup [.int f.n, f.l.d, .int f.a]
def factsD (fs : List Fact) : D := .tup (fs.map Fact.d)
theorem fact_pure (f : Fact) : f.d.pure = true := by simp [Fact.d, D.pure, D.pureL, look_pure]
/-- what the event with this number tells -/
def factAt (G : Int → Bool) (rs : List Row) (n : Int) : Ev → Option Fact
  | .fact l a => if G n = true then none else (lookAt rs l).map fun l' => ⟨n, l', a⟩
  | _ => none
def factsNow (es : List Ev) (rs : List Row) : List Fact := (List.range ((es.length : Int) - lastText es).toNat).filterMap fun i => (es[(lastText es).toNat + i]?).bind (factAt (goneB es) rs (lastText es + i))
theorem lastText_le (es : List Ev) : 0 ≤ lastText es ∧ lastText es ≤ es.length := by
  unfold lastText posText
  refine ⟨(maxL_nn _ 0), ?_⟩
  have gen : ∀ (ns : List Int) (m b : Int), m ≤ b → (∀ n ∈ ns, n ≤ b) → maxL m ns ≤ b := by
    intro ns
    induction ns with
    | nil => intro m b h _; exact h
    | cons n ns ih =>
      intro m b h h2
      unfold maxL
      refine ih _ b ?_ fun x hx => h2 x (List.mem_cons_of_mem _ hx)
      have := h2 n List.mem_cons_self
      split <;> omega
  refine gen _ 0 _ (by omega) fun n hn => ?_
  obtain ⟨p, hp, e⟩ := List.mem_filterMap.mp hn
  split at e
  · cases e
    have := List.mem_zipIdx hp
    omega
  · cases e
where
  maxL_nn : ∀ (ns : List Int) (m : Int), m ≤ maxL m ns
  | [], m => Int.le_refl _
  | n :: ns, m => by
    unfold maxL
    have := maxL_nn ns (if n > m then n else m)
    split at this <;> split <;> omega
def stepF (es : List Ev) (rs : List Row) (s : List Fact) (i : Nat) : List Fact := s ++ ((es[(lastText es).toNat + i]?).bind (factAt (goneB es) rs (lastText es + i))).toList
theorem foldl_stepF (es : List Ev) (rs : List Row) : ∀ (l : List Nat) (s : List Fact), l.foldl (stepF es rs) s = s ++ l.filterMap fun i => (es[(lastText es).toNat + i]?).bind (factAt (goneB es) rs (lastText es + i))
  | [], s => by simp
  | i :: l, s => by
    rw [List.foldl_cons, foldl_stepF es rs l]
    unfold stepF
    rw [List.filterMap_cons]
    cases (es[(lastText es).toNat + i]?).bind (factAt (goneB es) rs (lastText es + i)) <;> simp
theorem rangeD_map (lo : Int) (n : Nat) : rangeD lo n = (List.range n).map fun (i : Nat) => D.int (lo + i) := rfl
theorem ix_evs (b : Bool) (es : List Ev) (i : Nat) (e : Ev) (h : es[i]? = some e) (st : Store) : ixD (evsD b es) (.int (i : Nat)) st = .ok e.d st := by
  cases b
  · show opt (L2.atI (es.map Ev.d) (i : Int)) st = _
    rw [atI_nn, List.getElem?_map, h]; rfl
  · show opt (L2.atI (es.map Ev.d) (i : Int)) st = _
    rw [atI_nn, List.getElem?_map, h]; rfl
theorem len_evs (b : Bool) (es : List Ev) (st : Store) : biD .len [evsD b es] st = .ok (.int (es.length : Nat)) st := by
  cases b
  · show R.ok (D.int ((es.map Ev.d).length : Nat)) st = _
    rw [List.length_map]
  · show R.ok (D.int ((es.map Ev.d).length : Nat)) st = _
    rw [List.length_map]
end K76

namespace K76
open PySem PyE
def boxD (g r : Int) : D := .lst [.int g, .int r]
theorem box_pure (g r : Int) : (boxD g r).pure = true := rfl
theorem ev_take (k : Nat) (hk : 1 ≤ k) (g r many : Int) (h0 : 0 < many) (h1 : many < 1073741824) : ∃ d g' r', callF prog k f__law_take [.ref 0, .int many] [boxD g r] = .ok (.int d) [boxD g' r'] ∧ 0 ≤ d ∧ d < many := by
  have m1 : ∀ st, binD .mul (.int r) (.int 39373) st = .ok (.int (r * 39373)) st := fun st => bin_mul_int (.inr (by decide))
  have m2 : ∀ (a : Int) st, binD .mul (.int a) (.int 40692) st = .ok (.int (a * 40692)) st := fun a st => bin_mul_int (.inr (by decide))
  have m3 : ∀ (a : Int) st, binD .mul (.int a) (.int 2147483629) st = .ok (.int (a * 2147483629)) st := fun a st => bin_mul_int (.inr (by decide))
  have d1 : ∀ (a : Int) st, binD .mod (.int a) (.int 2147483647) st = .ok (.int (a % 2147483647)) st := fun a st => bin_mod_int (by decide)
  have d2 : ∀ (a : Int) st, binD .mod (.int a) (.int 2147483563) st = .ok (.int (a % 2147483563)) st := fun a st => bin_mod_int (by decide)
  have d3 : ∀ (a : Int) st, binD .mod (.int a) (.int many) st = .ok (.int (a % many)) st := fun a st => bin_mod_int h0
  have d4 : ∀ (a : Int) st, binD .fdiv (.int a) (.int 8273) st = .ok (.int (a / 8273)) st := fun a st => bin_fdiv_int (by decide) (by decide)
  have d5 : ∀ (a : Int) st, binD .fdiv (.int a) (.int many) st = .ok (.int (a / many)) st := fun a st => bin_fdiv_int h0 h1
  rw [callF_at p__law_take (by omega), run_at rfl]
  have i0 : ∀ a b : Int, ixD (.ref 0) (.int 0) [boxD a b] = .ok (.int a) [boxD a b] := fun _ _ => rfl
  have i1 : ∀ a b : Int, ixD (.ref 0) (.int 1) [boxD a b] = .ok (.int b) [boxD a b] := fun _ _ => rfl
  have n0 : L2.ixN 2 0 = some 0 := rfl
  have n1 : L2.ixN 2 1 = some 1 := rfl
  by_cases hg : 0 < g
  · refine ⟨g % many, g / many, r, ?_, Int.emod_nonneg _ (by omega), Int.emod_lt_of_pos _ h0⟩
    simp [c__law_take, i0, hg, d3, d5]
    simp [boxD, n0]
  · refine ⟨((r * 39373 + 229) % 2147483647 * 2147483629 + (((r * 39373 + 229) % 2147483647 * 40692 + 103) % 2147483563 + 1)) / 8273 % many, g, ((r * 39373 + 229) % 2147483647 * 40692 + 103) % 2147483563 + 1, ?_, Int.emod_nonneg _ (by omega), Int.emod_lt_of_pos _ h0⟩
    generalize hraw : (r * 39373 + 229) % 2147483647 = raw
    generalize hr' : (raw * 40692 + 103) % 2147483563 + 1 = r'
    simp [c__law_take, i0, i1, hg, m1, m2, m3, d1, d2, d3, d4, hraw]
    simp [boxD, n1, hr']
    have i1' : ∀ a b : Int, ixD (.ref 0) (.int 1) [.lst [.int a, .int b]] = .ok (.int b) [.lst [.int a, .int b]] := fun _ _ => rfl
    simp [i1', m3, d4, d3]
/-- a box among the cells -/
def IsBox (c : D) : Prop := ∃ g r, c = boxD g r
theorem take_ok {k : Nat} (hk : 1 ≤ k) {st : Store} {n : Nat} {c : D} (hc : st[n]? = some c) (hb : IsBox c) (many : Int) (h0 : 0 < many) (h1 : many < 1073741824) : ∃ d c', callIn (callF prog k) f__law_take [.ref n, .int many] [0] false st = .ok (.int d) (st.set n c') ∧ IsBox c' ∧ 0 ≤ d ∧ d < many := by
  obtain ⟨g, r, rfl⟩ := hb
  obtain ⟨d, g', r', e, h2, h3⟩ := ev_take k hk g r many h0 h1
  exact ⟨d, boxD g' r', call_box hc rfl rfl e rfl rfl rfl, ⟨g', r', rfl⟩, h2, h3⟩
def pl : Nat → D → Bool
  | 0, _ => false
  | n + 1, .tup xs => xs.all (pl n)
  | _ + 1, .non => true
  | _ + 1, .bl _ => true
  | _ + 1, .int _ => true
  | _ + 1, .str _ => true
  | _ + 1, _ => false
theorem pl_pure : ∀ (n : Nat) (d : D), pl n d = true → d.pure = true
  | 0, _, h => by cases h
  | n + 1, .tup xs, h => by
    simp only [D.pure]
    rw [pureL_iff]
    exact fun x hx => pl_pure n x (List.all_eq_true.mp h x hx)
  | _ + 1, .non, _ => rfl
  | _ + 1, .bl _, _ => rfl
  | _ + 1, .int _, _ => rfl
  | _ + 1, .str _, _ => rfl
  | _ + 1, .lst _, h => by cases h
  | _ + 1, .dct _, h => by cases h
  | _ + 1, .ref _, h => by cases h
  | _ + 1, .fn _, h => by cases h
theorem same_loop (cf : CallF) (X : D) : ∀ (xs : List D), (∀ x ∈ xs, callIn cf f__law_same [x, x] [] false [] = .ok (.bl true) []) →
    forR (asT cf (.tup (.cons (.name 2) (.cons (.name 3) .nil)))) (evSs cf b__law_same_0) [2, 3] 0 [] (zips xs xs) [some X, some X, none, none] [] = .ok (.nx, [some X, some X, none, none]) []
  | [], _ => rfl
  | x :: xs, h => by
    have hx := h x List.mem_cons_self
    unfold zips
    rw [for_step (en' := [some X, some X, none, none]) (st' := []) (by simp [stepR, b__law_same_0, hx])]
    exact same_loop cf X xs fun y hy => h y (List.mem_cons_of_mem _ hy)
theorem ev_same : ∀ (n : Nat) (d : D), pl n d = true → ∀ k, n ≤ k → callF prog k f__law_same [d, d] [] = .ok (.bl true) []
  | 0, _, h, _, _ => by cases h
  | n + 1, d, h, k, hk => by
    rw [callF_at p__law_same (by omega), run_at rfl]
    cases d with
    | non => simp [c__law_same, isPl, isTy]
    | bl b => cases b <;> simp [c__law_same, isPl, isTy, isBl]
    | int i => simp [c__law_same, isPl, isTy, isBl]
    | str s => simp [c__law_same, isPl, isTy, isBl]
    | tup xs =>
      have hl := same_loop (callF prog (k - 1)) (.tup xs) xs fun x hx => by
        have hp := List.all_eq_true.mp h x hx
        exact call_pure (by simp [pl_pure n x hp]) (ev_same n x hp (k - 1) (by omega)) rfl
      simp [c__law_same, isPl, isTy, hl]
    | _ => cases h
theorem cl_same {k n : Nat} (hk : n ≤ k) (d : D) (h : pl n d = true) (st : Store) : callIn (callF prog k) f__law_same [d, d] [] false st = .ok (.bl true) st :=
  call_pure (by simp [pl_pure n d h]) (ev_same n d h k hk) rfl
theorem ev_gone (k : Nat) (hk : 1 ≤ k) (b : Bool) (es : List Ev) (hl : es.length ≤ 1000) : callF prog k f__law_gone_events [evsD b es] [] = .ok (.lst ((backs es).map D.int)) [] := by
  rw [callF_at p__law_gone_events (by omega), run_at rfl]
  simp [c__law_gone_events]
  rw [fold_map Ev.d D.int backOf (fun _ => True) ?h es [] (fun _ _ => trivial) (by simp [line]; omega)]
  · simp [backs]
  · intro e acc _ hl
    have hl' : acc.length < 16777216 := hl
    cases e <;> simp [Ev.d, backOf, line, hl']
theorem cl_gone {k : Nat} (hk : 1 ≤ k) (b : Bool) (es : List Ev) (hl : es.length ≤ 1000) (st : Store) : callIn (callF prog k) f__law_gone_events [evsD b es] [] false st = .ok (.lst ((backs es).map D.int)) st :=
  call_pure (by simp [evs_pure]) (ev_gone k hk b es hl) (pure_lst _ (fun _ => rfl) _)
end K76

namespace K76
open PySem PyE
abbrev sOrder : Str := Str.ofString "order"
def lifeC (o : Nat) : D := .dct [.tup [.str (Str.ofString "order"), .ref o], .tup [.str (Str.ofString "note"), .ref 1], .tup [.str (Str.ofString "there"), .ref 2], .tup [.str (Str.ofString "events"), .ref 3]]
abbrev Xt := Option (D × List D)
def oi : Xt → Nat
  | none => 0
  | some p => 5 + p.2.length
def nmD (nm : List Int) : D := .lst (nm.map D.int)
def stO (nm : List Int) (N T : List D) (ev : List Ev) : Xt → Store
  | none => [nmD nm, .dct N, .dct T, .lst (ev.map Ev.d), lifeC 0]
  | some p => p.1 :: .dct N :: .dct T :: .lst (ev.map Ev.d) :: lifeC (5 + p.2.length) :: (p.2 ++ [nmD nm])
section
variable (nm nm' : List Int) (N T N' T' : List D) (ev ev' : List Ev) (x : Xt)
@[simp] theorem so_1 : (stO nm N T ev x)[1]? = some (.dct N) := by cases x <;> rfl
@[simp] theorem so_2 : (stO nm N T ev x)[2]? = some (.dct T) := by cases x <;> rfl
@[simp] theorem so_3 : (stO nm N T ev x)[3]? = some (.lst (ev.map Ev.d)) := by cases x <;> rfl
@[simp] theorem so_4 : (stO nm N T ev x)[4]? = some (lifeC (oi x)) := by cases x <;> rfl
@[simp] theorem so_o : (stO nm N T ev x)[oi x]? = some (nmD nm) := by
  cases x with
  | none => rfl
  | some p =>
    have e : oi (some p) = p.2.length + 5 := Nat.add_comm _ _
    rw [e]
    show (p.2 ++ [nmD nm])[p.2.length]? = _
    simp
@[simp] theorem so_s1 : (stO nm N T ev x).set 1 (.dct N') = stO nm N' T ev x := by cases x <;> rfl
@[simp] theorem so_s2 : (stO nm N T ev x).set 2 (.dct T') = stO nm N T' ev x := by cases x <;> rfl
theorem so_s3 : (stO nm N T ev x).set 3 (.lst (ev'.map Ev.d)) = stO nm N T ev' x := by cases x <;> rfl
theorem so_so : (stO nm N T ev x).set (oi x) (nmD nm') = stO nm' N T ev x := by
  cases x with
  | none => rfl
  | some p =>
    have e : oi (some p) = p.2.length + 5 := Nat.add_comm _ _
    rw [e]
    show p.1 :: .dct N :: .dct T :: .lst (ev.map Ev.d) :: lifeC (5 + p.2.length) :: (p.2 ++ [nmD nm]).set p.2.length (nmD nm') = _
    rw [List.set_append_right _ _ (Nat.le_refl _)]
    simp [stO]
def nextX : Xt := match x with
  | none => some (nmD nm, [])
  | some p => some (p.1, p.2 ++ [nmD nm])
theorem so_new : (stO nm N T ev x ++ [nmD nm']).set 4 (lifeC (stO nm N T ev x).length) = stO nm' N T ev (nextX nm x) := by
  cases x with
  | none => rfl
  | some p =>
    show p.1 :: .dct N :: .dct T :: .lst (ev.map Ev.d) :: lifeC _ :: (p.2 ++ [nmD nm] ++ [nmD nm']) = _
    simp [stO, nextX]
    congr 1
    omega
theorem so_trim (en : En) : trim 5 en (stO nm N T ev x) = stO nm N T ev x := by
  cases x with
  | none => exact trim_same (Nat.le_refl 5)
  | some p =>
    unfold trim
    rw [if_neg]
    simp [stO, D.bel, D.belL, lifeC]
@[simp] theorem ixl_ev : ixD (.ref 4) (.str (Str.ofString "events")) (stO nm N T ev x) = .ok (.ref 3) (stO nm N T ev x) := by
  cases x <;> simp [ixD, ixB, stO, lifeC, dget_cons]
@[simp] theorem ixl_order : ixD (.ref 4) (.str (Str.ofString "order")) (stO nm N T ev x) = .ok (.ref (oi x)) (stO nm N T ev x) := by
  cases x <;> simp [ixD, ixB, stO, lifeC, dget_cons, oi]
@[simp] theorem ixl_note : ixD (.ref 4) (.str (Str.ofString "note")) (stO nm N T ev x) = .ok (.ref 1) (stO nm N T ev x) := by
  cases x <;> simp [ixD, ixB, stO, lifeC, dget_cons]
@[simp] theorem ixl_there : ixD (.ref 4) (.str (Str.ofString "there")) (stO nm N T ev x) = .ok (.ref 2) (stO nm N T ev x) := by
  cases x <;> simp [ixD, ixB, stO, lifeC, dget_cons]
@[simp] theorem ix_N (i : Int) : ixD (.ref 1) (.int i) (stO nm N T ev x) = opt (dget N (.int i)) (stO nm N T ev x) := by
  cases x <;> rfl
@[simp] theorem ix_T (i : Int) : ixD (.ref 2) (.int i) (stO nm N T ev x) = opt (dget T (.int i)) (stO nm N T ev x) := by
  cases x <;> rfl
@[simp] theorem it_o : iterOf (stO nm N T ev x) (.ref (oi x)) = some (nm.map D.int, [(oi x, nmD nm)]) := by
  unfold iterOf
  simp [nmD, guardOf]
end
theorem oD_dp (o : Option Int) : dp 2 (oD o) = true := by cases o <;> rfl
structure LR (rows : List Row) (N T : List D) : Prop where
  nd : (rows.map Row.n).Nodup
  nn : ∀ r ∈ rows, 0 ≤ r.n
  wN : WfI N
  wT : WfI T
  pN : N.all (dp 3) = true
  pT : T.all (dp 3) = true
  inN : ∀ r ∈ rows, dget N (.int r.n) = some (oD r.w)
  inT : ∀ r ∈ rows, dget T (.int r.n) = some (.bl r.t)
  out : ∀ n, n ∉ rows.map Row.n → ∀ d, dget T (.int n) = some d → d = .bl false
theorem LR.put {rows : List Row} {N T : List D} (h : LR rows N T) {i : Nat} {r r' : Row} (hr : rows[i]? = some r) (hn : r'.n = r.n) : LR (rows.set i r') (dput N (.int r.n) (oD r'.w)) (dput T (.int r.n) (.bl r'.t)) := by
  have hm : (rows.set i r').map Row.n = rows.map Row.n := by
    rw [List.map_set, hn]
    apply List.ext_getElem?
    intro j
    rw [List.getElem?_set]
    split
    · rename_i e
      subst e
      have hl := (List.getElem?_eq_some_iff.mp hr).1
      simp [hl, hr]
      exact ((List.getElem?_eq_some_iff.mp hr).2).symm ▸ rfl
    · rfl
  have key : ∀ q ∈ rows.set i r', q = r' ∨ (q ∈ rows ∧ q.n ≠ r.n) := fun q hq => by
    obtain ⟨j, hj⟩ := List.mem_iff_getElem?.mp hq
    rw [List.getElem?_set] at hj
    split at hj
    · split at hj
      · cases hj; exact .inl rfl
      · cases hj
    · rename_i hij
      refine .inr ⟨List.mem_of_getElem? hj, fun e => hij ?_⟩
      have h1 : (rows.map Row.n)[i]? = some r.n := by rw [List.getElem?_map, hr]; rfl
      have h2 : (rows.map Row.n)[j]? = some r.n := by rw [List.getElem?_map, hj]; exact congrArg some e
      obtain ⟨a1, b1⟩ := List.getElem?_eq_some_iff.mp h1
      obtain ⟨a2, b2⟩ := List.getElem?_eq_some_iff.mp h2
      exact (List.getElem_inj h.nd).mp (b1.trans b2.symm)
  have hrm := List.mem_of_getElem? hr
  refine ⟨by rw [hm]; exact h.nd, fun q hq => ?_, h.wN.put _ _, h.wT.put _ _, dput_dp h.pN rfl (oD_dp _), dput_dp h.pT rfl rfl, fun q hq => ?_, fun q hq => ?_, fun n hn' d e => ?_⟩
  · rcases key q hq with rfl | ⟨h1, _⟩
    · rw [hn]; exact h.nn r hrm
    · exact h.nn q h1
  · rw [dget_put h.wN]
    rcases key q hq with rfl | ⟨h1, h2⟩
    · rw [if_pos hn]
    · rw [if_neg h2]; exact h.inN q h1
  · rw [dget_put h.wT]
    rcases key q hq with rfl | ⟨h1, h2⟩
    · rw [if_pos hn]
    · rw [if_neg h2]; exact h.inT q h1
  · rw [hm] at hn'
    rw [dget_put h.wT, if_neg (fun (z : n = r.n) => hn' (by rw [z]; exact List.mem_map_of_mem hrm))] at e
    exact h.out n hn' d e

theorem LR.new {rows : List Row} {N T : List D} (h : LR rows N T) (s : Nat) {r : Row} (hr : ∀ q ∈ rows, q.n < r.n) (h0 : 0 ≤ r.n) : LR (rows.take s ++ [r] ++ rows.drop s) (dput N (.int r.n) (oD r.w)) (dput T (.int r.n) (.bl r.t)) := by
  have mem : ∀ q, q ∈ rows.take s ++ [r] ++ rows.drop s ↔ q = r ∨ q ∈ rows := fun q => by
    have e : q ∈ rows ↔ q ∈ rows.take s ∨ q ∈ rows.drop s := by rw [← List.mem_append, List.take_append_drop]
    rw [e]
    simp only [List.mem_append, List.mem_singleton]
    constructor
    · rintro ((h | h) | h)
      · exact .inr (.inl h)
      · exact .inl h
      · exact .inr (.inr h)
    · rintro (h | h | h)
      · exact .inl (.inr h)
      · exact .inl (.inl h)
      · exact .inr h
  have perm : (rows.take s ++ [r] ++ rows.drop s).Perm (r :: rows) := by
    have := List.take_append_drop s rows
    have p : (rows.take s ++ [r] ++ rows.drop s).Perm (r :: (rows.take s ++ rows.drop s)) := by
      rw [List.append_assoc]
      exact List.perm_middle
    rw [this] at p
    exact p
  have nin : r.n ∉ rows.map Row.n := fun hm => by
    obtain ⟨q, hq, e⟩ := List.mem_map.mp hm
    have := hr q hq
    omega
  refine ⟨(perm.map Row.n).nodup_iff.mpr (List.nodup_cons.mpr ⟨nin, h.nd⟩), fun q hq => ?_, h.wN.put _ _, h.wT.put _ _, dput_dp h.pN rfl (oD_dp _), dput_dp h.pT rfl rfl, fun q hq => ?_, fun q hq => ?_, fun n hn d e => ?_⟩
  · rcases (mem q).mp hq with rfl | h1
    · exact h0
    · exact h.nn q h1
  · rw [dget_put h.wN]
    rcases (mem q).mp hq with rfl | h1
    · rw [if_pos rfl]
    · rw [if_neg (by have := hr q h1; omega)]; exact h.inN q h1
  · rw [dget_put h.wT]
    rcases (mem q).mp hq with rfl | h1
    · rw [if_pos rfl]
    · rw [if_neg (by have := hr q h1; omega)]; exact h.inT q h1
  · have hn1 : n ≠ r.n := fun z => hn (by rw [z]; exact List.mem_map_of_mem ((mem r).mpr (.inl rfl)))
    have hn2 : n ∉ rows.map Row.n := fun z => by
      obtain ⟨q, hq, e⟩ := List.mem_map.mp z
      exact hn (by rw [← e]; exact List.mem_map_of_mem ((mem q).mpr (.inr hq)))
    rw [dget_put h.wT, if_neg hn1] at e
    exact h.out n hn2 d e
theorem LR.filter {rows : List Row} {N T : List D} (h : LR rows N T) : LR (rows.filter (·.t)) N T := by
  refine ⟨h.nd.sublist (List.filter_sublist.map _), fun q hq => h.nn q (List.mem_filter.mp hq).1, h.wN, h.wT, h.pN, h.pT, fun q hq => h.inN q (List.mem_filter.mp hq).1, fun q hq => h.inT q (List.mem_filter.mp hq).1, fun n hn d e => ?_⟩
  by_cases hm : n ∈ rows.map Row.n
  · obtain ⟨q, hq, rfl⟩ := List.mem_map.mp hm
    have e2 := h.inT q hq
    rw [e] at e2
    cases ht : q.t with
    | true => exact absurd (List.mem_map_of_mem (List.mem_filter.mpr ⟨hq, ht⟩)) hn
    | false => rw [ht] at e2; cases e2; rfl
  · exact h.out n hm d e
theorem posOf_idx (n : Int) : ∀ (rows : List Row) (i : Nat), posOf (.int n) ((rows.map Row.n).map D.int) i = (idx n rows).map (i + ·)
  | [], _ => rfl
  | r :: rows, i => by
    unfold posOf idx
    simp only [List.map_cons, eqF_int]
    by_cases h : r.n = n
    · simp [h]
    · simp only [h, decide_false, if_false, Bool.false_eq_true]
      rw [posOf_idx n rows (i + 1)]
      cases idx n rows with
      | none => rfl
      | some j => simp; omega
theorem idx_ok {nm : List Int} {N T : List D} {ev : List Ev} {x : Xt} {rows : List Row} (hn : nm = rows.map Row.n) {n : Int} {j : Nat} (h : idx n rows = some j) : mtD .index (.ref (oi x)) [.int n] (stO nm N T ev x) = .ok (.int (j : Nat)) (stO nm N T ev x) := by
  show idxB (.ref (oi x)) [.int n] (stO nm N T ev x) = _
  have hv : view (stO nm N T ev x) (.ref (oi x)) = nmD nm := by simp
  unfold idxB
  rw [hv]
  show guardB (flatD (.int n) && (nm.map D.int).all flatD) (opt ((posOf (.int n) (nm.map D.int) 0).map fun (k : Nat) => D.int (k : Int)) _) = _
  have hf : (nm.map D.int).all flatD = true := by
    rw [List.all_eq_true]
    intro y hy
    obtain ⟨i, _, rfl⟩ := List.mem_map.mp hy
    rfl
  rw [hf, hn, posOf_idx, h]
  simp [guardB, opt]
theorem ins_ok {nm : List Int} {N T : List D} {ev : List Ev} {x : Xt} (hl : nm.length < 1000) {s v : Int} (h0 : 0 ≤ s) (h1 : s < 1000) : mtD .insert (.ref (oi x)) [.int s, .int v] (stO nm N T ev x) = .ok .non (stO (nm.take s.toNat ++ [v] ++ nm.drop s.toNat) N T ev x) := by
  show insB (.ref (oi x)) [.int s, .int v] (stO nm N T ev x) = _
  have e : lstAt (stO nm N T ev x) (.ref (oi x)) = some (oi x, nm.map D.int) := by
    show (match (stO nm N T ev x)[oi x]? with | some (.lst ys) => some (oi x, ys) | _ => none) = _
    rw [so_o]; rfl
  unfold insB
  rw [e]
  have g : (decide ((nm.map D.int).length < line) && decide (0 ≤ s) && decide (s < 9223372036854775808)) = true := by
    simp [line]; omega
  show guardB (decide ((nm.map D.int).length < line) && decide (0 ≤ s) && decide (s < 9223372036854775808)) (R.ok D.non ((stO nm N T ev x).set (oi x) (.lst ((nm.map D.int).take s.toNat ++ [.int v] ++ (nm.map D.int).drop s.toNat)))) = _
  rw [g, guard_true]
  have : D.lst ((nm.map D.int).take s.toNat ++ [.int v] ++ (nm.map D.int).drop s.toNat) = nmD (nm.take s.toNat ++ [v] ++ nm.drop s.toNat) := by
    simp [nmD, List.map_take, List.map_drop]
  rw [this, so_so]
theorem app_ev {nm : List Int} {N T : List D} {ev : List Ev} {x : Xt} (hl : ev.length < 1000) (e : Ev) : mtD .append (.ref 3) [e.d] (stO nm N T ev x) = .ok .non (stO nm N T (ev ++ [e]) x) := by
  rw [append_ok (so_3 nm N T ev x) (by simp [line]; omega)]
  have : D.lst (ev.map Ev.d ++ [e.d]) = .lst ((ev ++ [e]).map Ev.d) := by simp
  rw [this, so_s3]
@[simp] theorem mtTy_nmI (nm : List Int) : mtTy .index (nmD nm) = true := rfl
@[simp] theorem mtTy_nmIn (nm : List Int) : mtTy .insert (nmD nm) = true := rfl
theorem inD_ints (n : Int) (gs : List Int) : inD (.int n) (gs.map D.int) = some (decide (n ∈ gs)) := by
  unfold inD
  rw [if_pos ⟨rfl, by
    rw [List.all_eq_true]
    intro y hy
    obtain ⟨i, _, rfl⟩ := List.mem_map.mp hy
    rfl⟩]
  congr 1
  rw [Bool.eq_iff_iff]
  simp
/-- what the law asks of an event: the name that is turned is known -/
def Known (T : List D) (gone : Bool) : Ev → Prop
  | .away n => gone = true ∨ (dget T (.int n)).isSome = true
  | .instead n _ => gone = true ∨ (dget T (.int n)).isSome = true
  | _ => True
def envL (E : D) (gs : List Int) : En := [some E, some (.ref 4), some (.lst (gs.map D.int)), none, none, none, none, none]
theorem lives_behind (cf : CallF) (E : D) (gs : List Int) {rows rows' : List Row} {N T : List D} (ev : List Ev) (x : Xt) (i : Nat) (n w : Int) (h : LR rows N T) (hlt : ∀ r ∈ rows, r.n < i) (hl : rows.length ≤ 900) (hle : ev.length ≤ 900) (hN : N.length ≤ 900) (hT : T.length ≤ 900)
    (hr : rowsAfter rows i (.behind n w) (decide ((i : Int) ∈ gs)) = some rows') :
    stepR (asT cf (.tup (.cons (.name 3) (.cons (.name 4) .nil)))) (evSs cf b__law_lives_1) [4, 6, 7, 3, 5] 5 [] (.tup [.int (i : Nat), (Ev.behind n w).d]) (envL E gs) (stO (rows.map Row.n) N T ev x) =
      .ok (envL E gs) (stO (rows'.map Row.n) (dput N (.int (i : Nat)) (.int w)) (dput T (.int (i : Nat)) (.bl (!decide ((i : Int) ∈ gs)))) (ev ++ [.behind n w]) x) ∧
    LR rows' (dput N (.int (i : Nat)) (.int w)) (dput T (.int (i : Nat)) (.bl (!decide ((i : Int) ∈ gs)))) := by
  simp only [rowsAfter, Option.map_eq_some_iff] at hr
  obtain ⟨s, h1, rfl⟩ := hr
  refine ⟨?_, h.new (s + 1).toNat (r := ⟨i, some w, !decide ((i : Int) ∈ gs)⟩) (fun q hq => hlt q hq) (Int.natCast_nonneg i)⟩
  have lN' : N.length < 16777216 := by omega
  have lT' : T.length < 16777216 := by omega
  have hsp := spotIn_nn h1
  by_cases hn : n = -1
  · subst hn
    have hs : s = -1 := by
      have : spotIn rows (-1) = some (-1) := by simp [spotIn]
      rw [this] at h1; cases h1; rfl
    subst hs
    have ins : ∀ N T ev, mtD .insert (.ref (oi x)) [.int 0, .int (i : Nat)] (stO (rows.map Row.n) N T ev x) = .ok .non (stO ((i : Int) :: rows.map Row.n) N T ev x) := fun N T ev => by
      rw [ins_ok (by simp; omega) (by omega) (by omega)]; simp
    have ap : ∀ nm N T x, mtD .append (.ref 3) [.tup [.str (Str.ofString "behind"), .int (-1), .int w]] (stO nm N T ev x) = .ok .non (stO nm N T (ev ++ [.behind (-1) w]) x) := fun nm N T x => app_ev (by omega) (Ev.behind (-1) w)
    simp [stepR, envL, b__law_lives_1, Ev.d, ap, ins, inD_ints, line, lN', lT', so_trim]
  · obtain ⟨j, hj, rfl⟩ : ∃ j : Nat, idx n rows = some j ∧ s = (j : Int) := by
      rw [spotIn_idx hn] at h1
      cases e : idx n rows with
      | none => rw [e] at h1; cases h1
      | some j => rw [e] at h1; cases h1; exact ⟨j, rfl, rfl⟩
    obtain ⟨r, hr, rfl⟩ := idx_get hj
    have hj2 : j < rows.length := (List.getElem?_eq_some_iff.mp hr).1
    have hnn : ¬ r.n < 0 := by have := h.nn r (List.mem_of_getElem? hr); omega
    have ins : ∀ N T ev, mtD .insert (.ref (oi x)) [.int ((j : Int) + 1), .int (i : Nat)] (stO (rows.map Row.n) N T ev x) = .ok .non (stO ((rows.take (j + 1)).map Row.n ++ [(i : Int)] ++ (rows.drop (j + 1)).map Row.n) N T ev x) := fun N T ev => by
      rw [ins_ok (by simp; omega) (by omega) (by omega), show ((j : Int) + 1).toNat = j + 1 by omega]; simp [List.map_take, List.map_drop]
    have ap : ∀ nm N T x, mtD .append (.ref 3) [.tup [.str (Str.ofString "behind"), .int r.n, .int w]] (stO nm N T ev x) = .ok .non (stO nm N T (ev ++ [.behind r.n w]) x) := fun nm N T x => app_ev (by omega) (Ev.behind r.n w)
    have ix : ∀ N T ev, mtD .index (.ref (oi x)) [.int r.n] (stO (rows.map Row.n) N T ev x) = .ok (.int (j : Nat)) (stO (rows.map Row.n) N T ev x) := fun N T ev => idx_ok rfl hj
    have e2 : ((j : Int) + 1).toNat = j + 1 := by omega
    simp [stepR, envL, b__law_lives_1, Ev.d, ap, ins, ix, hnn, inD_ints, line, lN', lT', so_trim, e2]
end K76

namespace K76
open PySem PyE
theorem dput_same {es : List D} (h : WfI es) {k : Int} {d : D} (he : dget es (.int k) = some d) (v : D) : (dput es (.int k) v).length = es.length := by
  unfold dput
  cases ha : es.any (isK (.int k)) with
  | true => simp
  | false => rw [dget_none h ha] at he; cases he
def slen : Xt → Nat
  | none => 5
  | some p => p.2.length + 6
theorem so_len (nm : List Int) (N T : List D) (ev : List Ev) (x : Xt) : (stO nm N T ev x).length = slen x := by
  cases x with
  | none => rfl
  | some p => simp [stO, slen]
theorem so_trim2 (nm : List Int) (N T : List D) (ev : List Ev) (x : Xt) (en : En) : trim (slen x) en (stO nm N T ev x) = stO nm N T ev x := trim_same (by rw [so_len]; exact Nat.le_refl _)
theorem text_loop (cf : CallF) (E : D) (gs : List Int) (i : Nat) (tx carry) (ev : List Ev) (x : Xt) : ∀ (m j : Nat) (R : List Row) (N T : List D), R.length = j + m → R.length ≤ 900 → N.length ≤ 900 → T.length ≤ 900 → LR R N T → (∀ r ∈ R.drop j, CarryOk carry r.w) →
    ∃ N' T', forR (asT cf (.name 6)) (evSs cf b__law_lives_0) [6, 7] (slen x) [(oi x, nmD (R.map Row.n))] (((R.drop j).map Row.n).map D.int) [some E, some (.ref 4), some (.lst (gs.map D.int)), some (.int (i : Nat)), some (Ev.text tx carry).d, none, none, none] (stO (R.map Row.n) N T ev x)
        = .ok (.nx, [some E, some (.ref 4), some (.lst (gs.map D.int)), some (.int (i : Nat)), some (Ev.text tx carry).d, none, none, none]) (stO (R.map Row.n) N' T' ev x) ∧
      LR (R.take j ++ (R.drop j).map (carried1 carry)) N' T' ∧ N'.length = N.length ∧ T'.length = T.length ∧ ∀ k, (dget T (.int k)).isSome = true → (dget T' (.int k)).isSome = true
  | 0, j, R, N, T, hl, _, _, _, h, _ => by
    have e : R.drop j = [] := List.drop_of_length_le (by omega)
    refine ⟨N, T, by rw [e]; rfl, ?_, rfl, rfl, fun _ h => h⟩
    rw [e, List.take_of_length_le (by omega)]
    simpa using h
  | m + 1, j, R, N, T, hl, hR, hN, hT, h, hc => by
    have hj : j < R.length := by omega
    obtain ⟨r, hr⟩ : ∃ r, R[j]? = some r := ⟨_, List.getElem?_eq_getElem hj⟩
    have hd : R.drop j = r :: R.drop (j + 1) := by
      obtain ⟨a, b⟩ := List.getElem?_eq_some_iff.mp hr
      rw [List.drop_eq_getElem_cons a, b]
    have hrm := List.mem_of_getElem? hr
    have hco := hc r (by rw [hd]; exact List.mem_cons_self)
    have gN := h.inN r hrm
    have gT := h.inT r hrm
    have h' := h.put hr (r' := carried1 carry r) rfl
    have hm : (R.set j (carried1 carry r)).map Row.n = R.map Row.n := by
      rw [List.map_set]
      apply List.ext_getElem?
      intro q
      rw [List.getElem?_set]
      split
      · rename_i e
        subst e
        simp [hj, carried1]
        obtain ⟨a, b⟩ := List.getElem?_eq_some_iff.mp hr
        exact congrArg Row.n b.symm
      · rfl
    have hdrop : (R.set j (carried1 carry r)).drop (j + 1) = R.drop (j + 1) := List.drop_set_of_lt (by omega)
    have lN := dput_same h.wN gN (oD (carried1 carry r).w)
    have lT := dput_same h.wT gT (.bl (carried1 carry r).t)
    obtain ⟨N', T', e1, e2, e3, e4, e5⟩ := text_loop cf E gs i tx carry ev x m (j + 1) (R.set j (carried1 carry r)) _ _ (by simp; omega) (by simpa using hR) (by rw [lN]; exact hN) (by rw [lT]; exact hT) h' (fun q hq => hc q (by rw [hdrop] at hq; rw [hd]; exact List.mem_cons_of_mem _ hq))
    rw [hm, hdrop] at e1
    refine ⟨N', T', ?_, ?_, by rw [e3, lN], by rw [e4, lT], fun k hk => e5 k (by rw [dget_put h.wT]; split <;> simp_all)⟩
    · rw [hd]
      simp only [List.map_cons]
      rw [for_step ?_, e1]
      have hN' : N.length < 16777216 := by omega
      have hT' : T.length < 16777216 := by omega
      have gN2 : ∀ v, dget (dput N (.int r.n) v) (.int r.n) = some v := fun v => by rw [dget_put h.wN, if_pos rfl]
      have hh : ∀ N T ev, held [(oi x, nmD (R.map Row.n))] (stO (R.map Row.n) N T ev x) = true := fun N T ev => held_one (so_o _ _ _ _ _)
      cases hw : r.w with
      | none =>
        have e1 : toldOf carry none = none := rfl
        cases ht : r.t <;> simp [stepR, b__law_lives_0, gN, gT, hw, ht, carried1, e1, line, hN', hT', gN2, hh, so_trim2]
      | some q =>
        obtain ⟨o, ho⟩ := Option.isSome_iff_exists.mp (hco q hw)
        have e1 : toldOf carry (some q) = o := by simp [toldOf, ho]
        cases ht : r.t <;> cases o <;> simp [stepR, b__law_lives_0, gN, gT, hw, ht, carried1, e1, line, hN', hT', gN2, hh, so_trim2, Ev.d, atI_map, ho]
    · have et : (R.set j (carried1 carry r)).take (j + 1) = R.take j ++ [carried1 carry r] := by
        rw [List.take_set, List.take_add_one, hr]
        have : (List.take j R).length = j := by rw [List.length_take]; omega
        simp [List.set_append, this]
      rw [et, hdrop] at e2
      rw [hd, List.map_cons]
      simpa using e2
end K76

namespace K76
open PySem PyE
/-- one event of the law's life -/
def Step1 (cf : CallF) (E : D) (gs : List Int) (ev : List Ev) (i : Nat) (e : Ev) (rows rows' : List Row) (N T : List D) (x : Xt) : Prop :=
  ∃ N' T' x', stepR (asT cf (.tup (.cons (.name 3) (.cons (.name 4) .nil)))) (evSs cf b__law_lives_1) [4, 6, 7, 3, 5] 5 [] (.tup [.int (i : Nat), e.d]) (envL E gs) (stO (rows.map Row.n) N T ev x) =
      .ok (envL E gs) (stO (rows'.map Row.n) N' T' (ev ++ [e]) x') ∧ LR rows' N' T' ∧ N'.length ≤ N.length + 1 ∧ T'.length ≤ T.length + 1 ∧ (∀ k, (dget T (.int k)).isSome = true → (dget T' (.int k)).isSome = true) ∧
      (∀ n w, e = .behind n w → (dget T' (.int (i : Nat))).isSome = true)
section
variable {cf : CallF} {E : D} {gs : List Int} {rows rows' : List Row} {N T : List D} {ev : List Ev} {x : Xt} {i : Nat}
theorem step_behind (n w : Int) (h : LR rows N T) (hlt : ∀ r ∈ rows, r.n < i) (hl : rows.length ≤ 900) (hle : ev.length ≤ 900) (hN : N.length ≤ 900) (hT : T.length ≤ 900)
    (hr : rowsAfter rows i (.behind n w) (decide ((i : Int) ∈ gs)) = some rows') : Step1 cf E gs ev i (.behind n w) rows rows' N T x := by
  obtain ⟨h1, h2⟩ := lives_behind cf E gs ev x i n w h hlt hl hle hN hT hr
  refine ⟨_, _, x, h1, h2, dput_len _ _ _, dput_len _ _ _, fun k hk => ?_, fun _ _ _ => ?_⟩
  · rw [dget_put h.wT]; split
    · rfl
    · exact hk
  · rw [dget_put h.wT, if_pos rfl]; rfl
theorem step_text (tx : List Int) (carry : List (Option Int)) (h : LR rows N T) (hl : rows.length ≤ 900) (hle : ev.length ≤ 900) (hN : N.length ≤ 900) (hT : T.length ≤ 900)
    (hr : rowsAfter rows i (.text tx carry) (decide ((i : Int) ∈ gs)) = some rows') : Step1 cf E gs ev i (.text tx carry) rows rows' N T x := by
  simp only [rowsAfter] at hr
  split at hr
  · rename_i hc
    cases hr
    obtain ⟨N', T', e1, e2, e3, e4, e5⟩ := text_loop cf E gs i tx carry (ev ++ [.text tx carry]) x rows.length 0 rows N T (by omega) hl hN hT h (fun r hr => carryB_ok (List.all_eq_true.mp hc r hr))
    have hm : (rows.map (carried1 carry)).map Row.n = rows.map Row.n := by rw [List.map_map]; rfl
    refine ⟨N', T', x, ?_, by simpa using e2, by omega, by omega, e5, fun _ _ z => by cases z⟩
    rw [hm]
    have ap := app_ev (nm := rows.map Row.n) (N := N) (T := T) (x := x) (show ev.length < 1000 by omega) (Ev.text tx carry)
    rw [List.drop_zero] at e1
    have hb : ∀ st, ixD (Ev.text tx carry).d (.int 0) st = .ok (.str (Str.ofString "text")) st := fun _ => rfl
    simp [stepR, envL, b__law_lives_1, ap, hb, so_len]
    simp at e1
    rw [e1]
    simp [so_trim]
  · cases hr
theorem step_settle (h : LR rows N T) (hl : rows.length ≤ 900) (hle : ev.length ≤ 900)
    (hr : rowsAfter rows i .settle (decide ((i : Int) ∈ gs)) = some rows') : Step1 cf E gs ev i .settle rows rows' N T x := by
  cases hr
  refine ⟨N, T, nextX (rows.map Row.n) x, ?_, h.filter, by omega, by omega, fun _ h => h, fun _ _ z => by cases z⟩
  have ap := app_ev (nm := rows.map Row.n) (N := N) (T := T) (x := x) (show ev.length < 1000 by omega) Ev.settle
  have hb : ∀ st, ixD Ev.settle.d (.int 0) st = .ok (.str (Str.ofString "settle")) st := fun _ => rfl
  have hh : ∀ N T ev, held [(oi x, nmD (rows.map Row.n))] (stO (rows.map Row.n) N T ev x) = true := fun N T ev => held_one (so_o _ _ _ _ _)
  simp [stepR, envL, b__law_lives_1, ap, hb]
  have key : ∀ (l : List Row), (∀ r ∈ l, r ∈ rows) → l.length ≤ 900 → l.filterMap (fun r : Row => if r.t = true then some r.n else none) = (l.filter (·.t)).map Row.n := fun l _ _ => by
    induction l with
    | nil => rfl
    | cons r l ih =>
      cases ht : r.t with
      | true => rw [List.filterMap_cons_some (by rw [ht]; rfl), List.filter_cons_of_pos ht, ih (by simp_all) (by simp_all; omega)]; rfl
      | false => rw [List.filterMap_cons_none (by rw [ht]; rfl), List.filter_cons_of_neg (by rw [ht]; decide), ih (by simp_all) (by simp_all; omega)]
  rw [fold_map (D.int ∘ Row.n) D.int (fun r : Row => if r.t = true then some r.n else none) (fun r => r ∈ rows) ?h rows [] (fun _ h => h) (by simp [line]; omega)]
  · rw [key rows (fun _ h => h) hl]
    have nw := so_new (rows.map Row.n) ((rows.filter (·.t)).map Row.n) N T (ev ++ [.settle]) x
    have f4 : (stO (rows.map Row.n) N T (ev ++ [.settle]) x ++ [nmD ((rows.filter (·.t)).map Row.n)])[4]? = some (lifeC (oi x)) := by
      rw [List.getElem?_append_left (by rw [so_len]; cases x <;> simp [slen])]
      exact so_4 _ _ _ _ _
    have dp : ∀ o q, dput [.tup [.str (Str.ofString "order"), .ref o], .tup [.str (Str.ofString "note"), .ref 1], .tup [.str (Str.ofString "there"), .ref 2], .tup [.str (Str.ofString "events"), .ref 3]] (.str (Str.ofString "order")) (.ref q) = [.tup [.str (Str.ofString "order"), .ref q], .tup [.str (Str.ofString "note"), .ref 1], .tup [.str (Str.ofString "there"), .ref 2], .tup [.str (Str.ofString "events"), .ref 3]] := fun o q => by
      simp [dput, isK]
    simp [nmD] at f4 nw
    simp [f4, lifeC, dp, line]
    simp [lifeC] at nw
    rw [nw]
    simp [so_trim]
  · intro r acc hm hl
    have hl' : acc.length < 16777216 := hl
    have gT := h.inT r hm
    cases ht : r.t <;> simp [gT, ht, line, hl', hh]
end
end K76

namespace K76
open PySem PyE
section
variable {cf : CallF} {E : D} {gs : List Int} {rows rows' : List Row} {N T : List D} {ev : List Ev} {x : Xt} {i : Nat}
theorem inD_2 (x a b : Str) : inD (.str x) [.str a, .str b] = some (decide (a = x) || decide (b = x)) := by simp [inD_def]
theorem idx_of_mem {rows : List Row} (hn : (rows.map Row.n).Nodup) {r : Row} (h : r ∈ rows) : ∃ j, idx r.n rows = some j ∧ rows[j]? = some r := by
  induction rows with
  | nil => cases h
  | cons q rows ih =>
    have hn' := List.nodup_cons.mp (show (q.n :: rows.map Row.n).Nodup from hn)
    rcases List.mem_cons.mp h with rfl | h
    · exact ⟨0, by simp [idx], rfl⟩
    · obtain ⟨j, h1, h2⟩ := ih hn'.2 h
      have hne : q.n ≠ r.n := fun e => hn'.1 (e ▸ List.mem_map_of_mem h)
      exact ⟨j + 1, by simp [idx, hne, h1], by simpa using h2⟩
theorem there_dict (h : LR rows N T) {n : Int} (hk : (dget T (.int n)).isSome = true) : dget T (.int n) = some (.bl (isThere rows n)) := by
  obtain ⟨d, hd⟩ := Option.isSome_iff_exists.mp hk
  by_cases hm : n ∈ rows.map Row.n
  · obtain ⟨r, hr, rfl⟩ := List.mem_map.mp hm
    obtain ⟨j, h1, h2⟩ := idx_of_mem h.nd hr
    have h0 : r.n ≠ -1 := by have := h.nn r hr; omega
    rw [h.inT r hr]
    simp [isThere, h0, rowAt, h1, h2]
  · have e := h.out n hm d hd
    have hi : isThere rows n = false := by
      cases ht : isThere rows n with
      | false => rfl
      | true =>
        obtain ⟨_, j, r, _, h1, h2, _⟩ := isThere_row ht
        exact absurd (h2 ▸ List.mem_map_of_mem (List.mem_of_getElem? h1)) hm
    rw [hd, e, hi]
theorem turned_set {n : Int} {w : Option Int} {t : Bool} (ht : isThere rows n = true) : ∃ j r, rows[j]? = some r ∧ r.n = n ∧ turnedM rows n w t = rows.set j ⟨n, w.or r.w, t⟩ := by
  obtain ⟨hn, j, r, e, h1, h2, h3⟩ := isThere_row ht
  refine ⟨j, r, h1, h2, ?_⟩
  have hj := (List.getElem?_eq_some_iff.mp h1).1
  unfold turnedM
  rw [if_pos ht, e]
  simp only [h1]
  rw [List.set_eq_take_append_cons_drop, if_pos hj]
  simp
theorem step_away (n : Int) (h : LR rows N T) (hl : rows.length ≤ 900) (hle : ev.length ≤ 900) (hN : N.length ≤ 900) (hT : T.length ≤ 900) (hk : Known T (decide ((i : Int) ∈ gs)) (.away n))
    (hr : rowsAfter rows i (.away n) (decide ((i : Int) ∈ gs)) = some rows') : Step1 cf E gs ev i (.away n) rows rows' N T x := by
  have ap := app_ev (nm := rows.map Row.n) (N := N) (T := T) (x := x) (show ev.length < 1000 by omega) (Ev.away n)
  have hb : ∀ st, ixD (Ev.away n).d (.int 0) st = .ok (.str (Str.ofString "away")) st := fun _ => rfl
  have hb1 : ∀ st, ixD (Ev.away n).d (.int 1) st = .ok (.int n) st := fun _ => rfl
  have hN' : N.length < 16777216 := by omega
  have hT' : T.length < 16777216 := by omega
  cases hr
  by_cases hg : (i : Int) ∈ gs
  · rw [decide_eq_true hg, if_pos rfl]
    refine ⟨N, T, x, ?_, h, by omega, by omega, fun _ h => h, fun _ _ z => by cases z⟩
    simp [stepR, envL, b__law_lives_1, ap, hb, inD_2, inD_ints, hg, so_trim]
  · rw [decide_eq_false hg]
    simp only [Known, decide_eq_false hg] at hk
    have hk := hk.resolve_left (by decide)
    have gT := there_dict h hk
    cases ht : isThere rows n with
    | false =>
      rw [ht] at gT
      have e : turnedM rows n none false = rows := by unfold turnedM; rw [ht]; rfl
      rw [if_neg (by decide), e]
      refine ⟨N, T, x, ?_, h, by omega, by omega, fun _ h => h, fun _ _ z => by cases z⟩
      simp [stepR, envL, b__law_lives_1, ap, hb, hb1, inD_2, inD_ints, hg, so_trim, gT]
    | true =>
      rw [ht] at gT
      obtain ⟨j, r, h1, rfl, e⟩ := turned_set (w := none) (t := false) ht
      rw [if_neg (by decide), e]
      have hrm := List.mem_of_getElem? h1
      have hp := h.put h1 (r' := ⟨r.n, r.w, false⟩) rfl
      have gN := h.inN r hrm
      have hm : (rows.set j ⟨r.n, Option.or none r.w, false⟩).map Row.n = rows.map Row.n := by
        rw [List.map_set]
        apply List.ext_getElem?
        intro q
        rw [List.getElem?_set]
        split
        · rename_i e; subst e
          obtain ⟨a, b⟩ := List.getElem?_eq_some_iff.mp h1
          simp [a]
          exact congrArg Row.n b.symm
        · rfl
      refine ⟨_, _, x, ?_, hp, dput_len _ _ _, dput_len _ _ _, fun k hk => ?_, fun _ _ z => by cases z⟩
      · rw [hm]
        simp [stepR, envL, b__law_lives_1, ap, hb, hb1, inD_2, inD_ints, hg, so_trim, gT, gN, line, hN', hT']
      · rw [dget_put h.wT]; split
        · rfl
        · exact hk
theorem step_instead (n w : Int) (h : LR rows N T) (hl : rows.length ≤ 900) (hle : ev.length ≤ 900) (hN : N.length ≤ 900) (hT : T.length ≤ 900) (hk : Known T (decide ((i : Int) ∈ gs)) (.instead n w))
    (hr : rowsAfter rows i (.instead n w) (decide ((i : Int) ∈ gs)) = some rows') : Step1 cf E gs ev i (.instead n w) rows rows' N T x := by
  have ap := app_ev (nm := rows.map Row.n) (N := N) (T := T) (x := x) (show ev.length < 1000 by omega) (Ev.instead n w)
  have hb : ∀ st, ixD (Ev.instead n w).d (.int 0) st = .ok (.str (Str.ofString "instead")) st := fun _ => rfl
  have hb1 : ∀ st, ixD (Ev.instead n w).d (.int 1) st = .ok (.int n) st := fun _ => rfl
  have hb2 : ∀ st, ixD (Ev.instead n w).d (.int 2) st = .ok (.int w) st := fun _ => rfl
  have hN' : N.length < 16777216 := by omega
  have hT' : T.length < 16777216 := by omega
  cases hr
  by_cases hg : (i : Int) ∈ gs
  · rw [decide_eq_true hg, if_pos rfl]
    refine ⟨N, T, x, ?_, h, by omega, by omega, fun _ h => h, fun _ _ z => by cases z⟩
    simp [stepR, envL, b__law_lives_1, ap, hb, inD_2, inD_ints, hg, so_trim]
  · rw [decide_eq_false hg]
    simp only [Known, decide_eq_false hg] at hk
    have hk := hk.resolve_left (by decide)
    have gT := there_dict h hk
    cases ht : isThere rows n with
    | false =>
      rw [ht] at gT
      have e : turnedM rows n (some w) true = rows := by unfold turnedM; rw [ht]; rfl
      rw [if_neg (by decide), e]
      refine ⟨N, T, x, ?_, h, by omega, by omega, fun _ h => h, fun _ _ z => by cases z⟩
      simp [stepR, envL, b__law_lives_1, ap, hb, hb1, inD_2, inD_ints, hg, so_trim, gT]
    | true =>
      rw [ht] at gT
      obtain ⟨j, r, h1, rfl, e⟩ := turned_set (w := some w) (t := true) ht
      rw [if_neg (by decide), e]
      have hrm := List.mem_of_getElem? h1
      have hp := h.put h1 (r' := ⟨r.n, some w, true⟩) rfl
      have gN := h.inN r hrm
      have hm : (rows.set j ⟨r.n, Option.or (some w) r.w, true⟩).map Row.n = rows.map Row.n := by
        rw [List.map_set]
        apply List.ext_getElem?
        intro q
        rw [List.getElem?_set]
        split
        · rename_i e; subst e
          obtain ⟨a, b⟩ := List.getElem?_eq_some_iff.mp h1
          simp [a]
          exact congrArg Row.n b.symm
        · rfl
      refine ⟨_, _, x, ?_, hp, dput_len _ _ _, dput_len _ _ _, fun k hk => ?_, fun _ _ z => by cases z⟩
      · rw [hm]
        simp [stepR, envL, b__law_lives_1, ap, hb, hb1, hb2, inD_2, inD_ints, hg, so_trim, gT, gN, line, hN', hT']
      · rw [dget_put h.wT]; split
        · rfl
        · exact hk
theorem step_back (n : Int) (h : LR rows N T) (hle : ev.length ≤ 900) (hr : rowsAfter rows i (.back n) (decide ((i : Int) ∈ gs)) = some rows') : Step1 cf E gs ev i (.back n) rows rows' N T x := by
  have ap := app_ev (nm := rows.map Row.n) (N := N) (T := T) (x := x) (show ev.length < 1000 by omega) (Ev.back n)
  have hb : ∀ st, ixD (Ev.back n).d (.int 0) st = .ok (.str (Str.ofString "back")) st := fun _ => rfl
  cases hr
  refine ⟨N, T, x, ?_, h, by omega, by omega, fun _ h => h, fun _ _ z => by cases z⟩
  simp [stepR, envL, b__law_lives_1, ap, hb, inD_2, so_trim]
theorem step_fact (l : Look) (a : Int) (h : LR rows N T) (hle : ev.length ≤ 900) (hr : rowsAfter rows i (.fact l a) (decide ((i : Int) ∈ gs)) = some rows') : Step1 cf E gs ev i (.fact l a) rows rows' N T x := by
  have ap := app_ev (nm := rows.map Row.n) (N := N) (T := T) (x := x) (show ev.length < 1000 by omega) (Ev.fact l a)
  have hb : ∀ st, ixD (Ev.fact l a).d (.int 0) st = .ok (.str (Str.ofString "fact")) st := fun _ => rfl
  cases hr
  refine ⟨N, T, x, ?_, h, by omega, by omega, fun _ h => h, fun _ _ z => by cases z⟩
  simp [stepR, envL, b__law_lives_1, ap, hb, inD_2, so_trim]
theorem step_any (e : Ev) (h : LR rows N T) (hlt : ∀ r ∈ rows, r.n < i) (hl : rows.length ≤ 900) (hle : ev.length ≤ 900) (hN : N.length ≤ 900) (hT : T.length ≤ 900) (hk : Known T (decide ((i : Int) ∈ gs)) e)
    (hr : rowsAfter rows i e (decide ((i : Int) ∈ gs)) = some rows') : Step1 cf E gs ev i e rows rows' N T x := by
  cases e with
  | behind n w => exact step_behind n w h hlt hl hle hN hT hr
  | away n => exact step_away n h hl hle hN hT hk hr
  | instead n w => exact step_instead n w h hl hle hN hT hk hr
  | back n => exact step_back n h hle hr
  | fact l a => exact step_fact l a h hle hr
  | text tx carry => exact step_text tx carry h hl hle hN hT hr
  | settle => exact step_settle h hl hle hr
end
end K76

namespace K76
open PySem PyE
def turnsName : Ev → Option Int
  | .away n => some n
  | .instead n _ => some n
  | _ => none
def isBehind : Ev → Bool
  | .behind _ _ => true
  | _ => false
/-- a name that is turned is an earlier note's -/
def AwayOk (es : List Ev) : Prop := ∀ (i : Nat) (e : Ev) (n : Int), es[i]? = some e → turnsName e = some n → ∃ (j : Nat) (q : Ev), j < i ∧ n = (j : Int) ∧ es[j]? = some q ∧ isBehind q = true
theorem turned_names {rows : List Row} {n : Int} {w : Option Int} {t : Bool} : (turnedM rows n w t).map Row.n = rows.map Row.n := by
  cases ht : isThere rows n with
  | false => unfold turnedM; rw [ht]; rfl
  | true =>
    obtain ⟨j, r, h1, rfl, e⟩ := turned_set (w := w) (t := t) ht
    rw [e, List.map_set]
    apply List.ext_getElem?
    intro q
    rw [List.getElem?_set]
    split
    · rename_i e; subst e
      obtain ⟨a, b⟩ := List.getElem?_eq_some_iff.mp h1
      simp [a]
      exact congrArg Row.n b.symm
    · rfl
theorem rowsAfter_lt {rows rows' : List Row} {i : Nat} {e : Ev} {g : Bool} (h : rowsAfter rows i e g = some rows') (hlt : ∀ n ∈ rows.map Row.n, n < i) : ∀ n ∈ rows'.map Row.n, n < ((i + 1 : Nat) : Int) := by
  have up : ∀ n ∈ rows.map Row.n, n < ((i + 1 : Nat) : Int) := fun n hn => by have := hlt n hn; omega
  cases e with
  | behind n w =>
    simp only [rowsAfter, Option.map_eq_some_iff] at h
    obtain ⟨s, h1, rfl⟩ := h
    intro m hm
    simp only [List.map_append, List.map_cons, List.map_nil, List.mem_append, List.mem_singleton] at hm
    rcases hm with (hm | hm) | hm
    · exact up m (by obtain ⟨q, hq, e⟩ := List.mem_map.mp hm; exact e ▸ List.mem_map_of_mem (List.mem_of_mem_take hq))
    · rw [hm]; omega
    · exact up m (by obtain ⟨q, hq, e⟩ := List.mem_map.mp hm; exact e ▸ List.mem_map_of_mem (List.mem_of_mem_drop hq))
  | text xs carry =>
    simp only [rowsAfter] at h
    split at h
    · cases h
      intro m hm
      rw [List.map_map] at hm
      exact up m hm
    · cases h
  | settle =>
    cases h
    intro m hm
    obtain ⟨q, hq, e⟩ := List.mem_map.mp hm
    exact up m (e ▸ List.mem_map_of_mem (List.mem_filter.mp hq).1)
  | back n => cases h; exact up
  | fact l a => cases h; exact up
  | away n =>
    cases h
    split
    · exact up
    · rw [turned_names]; exact up
  | instead n w =>
    cases h
    split
    · exact up
    · rw [turned_names]; exact up
theorem lives_loop (cf : CallF) (E : D) (gs : List Int) : ∀ (es ev : List Ev) (rows rows' : List Row) (N T : List D) (x : Xt), AwayOk (ev ++ es) → LR rows N T → (∀ n ∈ rows.map Row.n, n < (ev.length : Int)) → (∀ j q, ev[j]? = some q → isBehind q = true → (dget T (.int (j : Nat))).isSome = true) →
    (ev ++ es).length ≤ 900 → rows.length ≤ ev.length → N.length ≤ ev.length → T.length ≤ ev.length → replay (fun k => decide (k ∈ gs)) es ev.length rows = some rows' →
    ∃ N' T' x', forR (asT cf (.tup (.cons (.name 3) (.cons (.name 4) .nil)))) (evSs cf b__law_lives_1) [4, 6, 7, 3, 5] 5 [] (pairs ev.length (es.map Ev.d)) (envL E gs) (stO (rows.map Row.n) N T ev x) = .ok (.nx, envL E gs) (stO (rows'.map Row.n) N' T' (ev ++ es) x') ∧ LR rows' N' T' ∧
      (∀ n ∈ rows'.map Row.n, n < ((ev ++ es).length : Int))
  | [], ev, rows, rows', N, T, x, _, h, hlt, _, _, _, _, _, hr => by
    cases hr
    rw [List.append_nil]
    exact ⟨N, T, x, rfl, h, hlt⟩
  | e :: es, ev, rows, rows', N, T, x, ha, h, hlt, hb, hl, h1, h2, h3, hr => by
    unfold replay at hr
    rw [Option.bind_eq_some_iff] at hr
    obtain ⟨r1, hr1, hr2⟩ := hr
    have hl' : ev.length + (es.length + 1) ≤ 900 := by simpa using hl
    have eApp : ev ++ e :: es = (ev ++ [e]) ++ es := by simp
    have lApp : (ev ++ [e]).length = ev.length + 1 := by simp
    have hk : Known T (decide ((ev.length : Int) ∈ gs)) e := by
      have key : ∀ n, turnsName e = some n → (dget T (.int n)).isSome = true := fun n hn => by
        obtain ⟨j, q, hj, rfl, hq, hbq⟩ := ha ev.length e n (by simp) hn
        exact hb j q (by rw [List.getElem?_append_left hj] at hq; exact hq) hbq
      cases e <;> first | exact .inr (key _ rfl) | trivial
    obtain ⟨N1, T1, x1, e1, g1, g2, g3, g4, g5⟩ := step_any (cf := cf) (E := E) (x := x) (ev := ev) e h (fun r hr => hlt _ (List.mem_map_of_mem hr)) (by omega) (by omega) (by omega) (by omega) hk hr1
    have hlen := rowsAfter_len hr1
    obtain ⟨N', T', x', e2, q1, q2⟩ := lives_loop cf E gs es (ev ++ [e]) r1 rows' N1 T1 x1 (by rw [← eApp]; exact ha) g1 (by rw [lApp]; exact rowsAfter_lt hr1 hlt) (fun j q hj hq => by
      by_cases hjl : j < ev.length
      · exact g4 _ (hb j q (by rw [List.getElem?_append_left hjl] at hj; exact hj) hq)
      · have hj2 := (List.getElem?_eq_some_iff.mp hj).1
        rw [lApp] at hj2
        have : j = ev.length := by omega
        subst this
        have : q = e := by
          rw [List.getElem?_append_right (Nat.le_refl _)] at hj
          simpa using hj.symm
        subst this
        cases q <;> first | exact g5 _ _ rfl | cases hq) (by rw [← eApp]; exact hl) (by omega) (by omega) (by omega) (by rw [lApp]; exact hr2)
    refine ⟨N', T', x', ?_, q1, by rw [eApp]; exact q2⟩
    rw [List.map_cons, pairs, for_step e1, eApp]
    rw [lApp] at e2
    exact e2
theorem ev_dp (e : Ev) : dp 5 e.d = true := by
  have hi : ∀ n (xs : List Int), (xs.map D.int).all (dp (n + 1)) = true := fun n xs => by rw [List.all_eq_true]; intro y hy; obtain ⟨i, _, rfl⟩ := List.mem_map.mp hy; rfl
  have ho : ∀ n (xs : List (Option Int)), (xs.map oD).all (dp (n + 1)) = true := fun n xs => by rw [List.all_eq_true]; intro y hy; obtain ⟨i, _, rfl⟩ := List.mem_map.mp hy; cases i <;> rfl
  have h1 : ∀ n (o : Option Int), dp (n + 1) (oD o) = true := fun n o => by cases o <;> rfl
  cases e with
  | fact l a =>
    cases l with
    | hand => rfl
    | board s lot =>
      show (([D.str (Str.ofString "fact"), (Look.board s lot).d, .int a] : List D).all (dp 4)) = true
      simp only [List.all_cons, List.all_nil, Bool.and_true, Bool.and_eq_true]
      refine ⟨rfl, ?_, rfl⟩
      show (([D.str (Str.ofString "board"), oD s, .tup (lot.map .int)] : List D).all (dp 3)) = true
      simp only [List.all_cons, List.all_nil, Bool.and_true, Bool.and_eq_true]
      exact ⟨rfl, h1 2 s, hi 1 lot⟩
  | text xs carry =>
    show (([D.str (Str.ofString "text"), .str (Str.ofString "shelf"), .str (Str.ofString "store"), .tup (xs.map .int), .tup (carry.map oD)] : List D).all (dp 4)) = true
    simp only [List.all_cons, List.all_nil, Bool.and_true, Bool.and_eq_true]
    exact ⟨rfl, rfl, rfl, hi 2 xs, ho 2 carry⟩
  | _ => rfl
/-- the law's life, frozen -/
def lifeF (nm : List Int) (N T : List D) (ev : List Ev) : D := .dct [.tup [.str (Str.ofString "order"), nmD nm], .tup [.str (Str.ofString "note"), .dct N], .tup [.str (Str.ofString "there"), .dct T], .tup [.str (Str.ofString "events"), .lst (ev.map Ev.d)]]
theorem life_frz (nm : List Int) (N T : List D) (ev : List Ev) (x : Xt) (hN : N.all (dp 3) = true) (hT : T.all (dp 3) = true) : back [] (stO nm N T ev x) (.ref 4) = some (lifeF nm N T ev) := by
  have d1 : dp 2 (nmD nm) = true := by
    show (nm.map D.int).all (dp 1) = true
    rw [List.all_eq_true]; intro y hy; obtain ⟨i, _, rfl⟩ := List.mem_map.mp hy; rfl
  have d4 : dp 6 (.lst (ev.map Ev.d)) = true := by
    show (ev.map Ev.d).all (dp 5) = true
    rw [List.all_eq_true]; intro y hy; obtain ⟨i, _, rfl⟩ := List.mem_map.mp hy; exact ev_dp i
  have f : ∀ (n : Nat) (k : Nat) (c : D), (stO nm N T ev x)[k]? = some c → frz [] (stO nm N T ev x) (n + 1) (.ref k) = frz [] (stO nm N T ev x) n c := fun n k c hc => by
    show (if k < ([] : List Nat).length then _ else ((stO nm N T ev x)[k]?).bind (frz [] (stO nm N T ev x) n)) = _
    rw [if_neg (by simp), hc]; rfl
  have e1 : frz [] (stO nm N T ev x) 47 (.ref (oi x)) = some (nmD nm) := by rw [f 46 _ _ (so_o ..)]; exact frz_dp _ _ 2 _ 46 d1 (by decide)
  have e2 : frz [] (stO nm N T ev x) 47 (.ref 1) = some (.dct N) := by rw [f 46 _ _ (so_1 ..)]; exact frz_dp _ _ 4 _ 46 hN (by decide)
  have e3 : frz [] (stO nm N T ev x) 47 (.ref 2) = some (.dct T) := by rw [f 46 _ _ (so_2 ..)]; exact frz_dp _ _ 4 _ 46 hT (by decide)
  have e4 : frz [] (stO nm N T ev x) 47 (.ref 3) = some (.lst (ev.map Ev.d)) := by rw [f 46 _ _ (so_3 ..)]; exact frz_dp _ _ 6 _ 46 d4 (by decide)
  have en : ∀ (s : Str) (k : Nat) (c : D), frz [] (stO nm N T ev x) 47 (.ref k) = some c → frz [] (stO nm N T ev x) 48 (.tup [.str s, .ref k]) = some (.tup [.str s, c]) := fun s k c hc => by
    show (mapO (frz [] (stO nm N T ev x) 47) [.str s, .ref k]).map D.tup = _
    simp only [mapO, hc]; rfl
  show (if D.pure (.ref 4) = true then some _ else frz [] (stO nm N T ev x) 50 (.ref 4)) = _
  rw [if_neg (by simp [D.pure]), f 49 _ _ (so_4 ..)]
  show (mapO (frz [] (stO nm N T ev x) 48) [.tup [.str (Str.ofString "order"), .ref (oi x)], .tup [.str (Str.ofString "note"), .ref 1], .tup [.str (Str.ofString "there"), .ref 2], .tup [.str (Str.ofString "events"), .ref 3]]).map D.dct = _
  simp only [mapO, en _ _ _ e1, en _ _ _ e2, en _ _ _ e3, en _ _ _ e4]
  rfl
theorem cl_lives {k : Nat} (hk : 3 ≤ k) (b : Bool) (es : List Ev) (rows : List Row) (hl : es.length ≤ 900) (ha : AwayOk es) (h : plainNotes es = some rows) (st : Store) :
    ∃ N T, callIn (callF prog k) f__law_lives [evsD b es] [] false st = .ok (lifeF (rows.map Row.n) N T es) st ∧ LR rows N T ∧ (∀ n ∈ rows.map Row.n, n < (es.length : Int)) := by
  have l0 : LR [] [] [] := ⟨List.nodup_nil, fun _ h => (nomatch h), .nil, .nil, rfl, rfl, fun _ h => (nomatch h), fun _ h => (nomatch h), fun _ _ _ h => (nomatch h)⟩
  obtain ⟨N, T, x, e1, e2, e3⟩ := lives_loop (callF prog (k - 1)) (evsD b es) (backs es) es [] [] rows [] [] none ha l0 (fun _ h => (nomatch h)) (fun _ _ h => (nomatch h)) hl (Nat.le_refl _) (Nat.le_refl _) (Nat.le_refl _) h
  refine ⟨N, T, call_frz (by simp [evs_pure]) ?_ (life_frz _ N T es x e2.pN e2.pT), e2, by simpa using e3⟩
  rw [callF_at p__law_lives (by omega), run_at rfl]
  have lf : ∀ st : Store, callF prog (k - 1) f__law_life [] [] = .ok (.ref 4) (stO [] [] [] [] none) := fun _ => by
    rw [callF_at p__law_life (by omega), run_at rfl]
    simp [c__law_life, dictD, dput, isK]
    rfl
  simp only [List.map_nil, List.length_nil, envL] at e1
  cases b <;> simp [c__law_lives, lf [], cl_gone (show 1 ≤ k - 1 by omega) _ es (by omega)] <;> simp [so_len, slen] <;> rw [e1] <;> simp
end K76

namespace K76
open PySem PyE
section
variable (nm : List Int) (N T : List D) (es : List Ev) (st : Store)
@[simp] theorem lf_order : ixD (lifeF nm N T es) (.str (Str.ofString "order")) st = .ok (nmD nm) st := by simp [ixD, ixB, lifeF, dget_cons]
@[simp] theorem lf_note : ixD (lifeF nm N T es) (.str (Str.ofString "note")) st = .ok (.dct N) st := by simp [ixD, ixB, lifeF, dget_cons]
@[simp] theorem lf_there : ixD (lifeF nm N T es) (.str (Str.ofString "there")) st = .ok (.dct T) st := by simp [ixD, ixB, lifeF, dget_cons]
@[simp] theorem lf_events : ixD (lifeF nm N T es) (.str (Str.ofString "events")) st = .ok (evsD false es) st := by simp [ixD, ixB, lifeF, dget_cons]; rfl
@[simp] theorem ix_dctI (k : Int) : ixD (.dct N) (.int k) st = opt (dget N (.int k)) st := rfl
@[simp] theorem it_nm : iterOf st (nmD nm) = some (nm.map D.int, []) := rfl
@[simp] theorem vw_nm : view st (nmD nm) = nmD nm := rfl
end
theorem nm_pure (nm : List Int) : (nmD nm).pure = true := pure_lst _ (fun _ => rfl) nm
theorem life_pure (nm : List Int) (N T : List D) (es : List Ev) (hN : N.all (dp 3) = true) (hT : T.all (dp 3) = true) : (lifeF nm N T es).pure = true := by
  have h1 : (D.dct N).pure = true := dp_pure 4 _ hN
  have h2 : (D.dct T).pure = true := dp_pure 4 _ hT
  have h3 : (D.lst (es.map Ev.d)).pure = true := evs_pure false es
  simp [lifeF, D.pure, D.pureL, nm_pure]
  simp [D.pure] at h1 h2 h3
  exact ⟨h1, h2, h3⟩
theorem nm_rows (rows : List Row) : (rows.map Row.n).map D.int = rows.map (D.int ∘ Row.n) := by rw [List.map_map]
def factsG (G : Int → Bool) (es : List Ev) (rs : List Row) : List Fact := (List.range ((es.length : Int) - lastText es).toNat).filterMap fun i => (es[(lastText es).toNat + i]?).bind (factAt G rs (lastText es + i))
theorem maxL_snoc (ns : List Int) : ∀ (m z : Int), m ≤ z → (∀ n ∈ ns, n ≤ z) → maxL m (ns ++ [z]) = z := by
  induction ns with
  | nil =>
    intro m z h _
    show (if z > m then z else m) = z
    split <;> omega
  | cons n ns ih =>
    intro m z h h2
    show maxL (if n > m then n else m) (ns ++ [z]) = z
    refine ih _ z ?_ fun x hx => h2 x (List.mem_cons_of_mem _ hx)
    have := h2 n List.mem_cons_self
    split <;> omega
theorem posText_snoc (ev : List Ev) (e : Ev) : posText (ev ++ [e]) = posText ev ++ (if isText e = true then [(ev.length : Int) + 1] else []) := by
  unfold posText
  rw [List.zipIdx_append, List.filterMap_append]
  congr 1
  cases h : isText e <;> simp [h]
theorem posText_lt (ev : List Ev) : ∀ n ∈ posText ev, n ≤ ev.length := by
  intro n hn
  obtain ⟨p, hp, e⟩ := List.mem_filterMap.mp hn
  split at e
  · cases e
    have := List.mem_zipIdx hp
    omega
  · cases e
theorem lastText_snoc (ev : List Ev) (e : Ev) : lastText (ev ++ [e]) = if isText e = true then (ev.length : Int) + 1 else lastText ev := by
  unfold lastText
  rw [posText_snoc]
  split
  · exact maxL_snoc _ _ _ (by omega) fun n hn => by have := posText_lt ev n hn; omega
  · rw [List.append_nil]
theorem fm_congr {α β : Type} {f g : α → Option β} : ∀ {l : List α}, (∀ x ∈ l, f x = g x) → l.filterMap f = l.filterMap g
  | [], _ => rfl
  | x :: l, h => by
    rw [List.filterMap_cons, List.filterMap_cons, h x List.mem_cons_self, fm_congr fun y hy => h y (List.mem_cons_of_mem _ hy)]
theorem factsG_snoc (G : Int → Bool) (ev : List Ev) (e : Ev) (rs : List Row) : factsG G (ev ++ [e]) rs = if isText e = true then [] else factsG G ev rs ++ (factAt G rs (ev.length : Nat) e).toList := by
  obtain ⟨h0, h1⟩ := lastText_le ev
  unfold factsG
  rw [lastText_snoc]
  split
  · rw [show (((ev ++ [e]).length : Int) - ((ev.length : Int) + 1)).toNat = 0 by simp]; rfl
  · have e1 : (((ev ++ [e]).length : Int) - lastText ev).toNat = ((ev.length : Int) - lastText ev).toNat + 1 := by simp; omega
    rw [e1, List.range_succ, List.filterMap_append]
    congr 1
    · refine fm_congr fun i hi => ?_
      rw [List.getElem?_append_left (by simp at hi; omega)]
    · have e2 : (lastText ev).toNat + ((ev.length : Int) - lastText ev).toNat = ev.length := by omega
      have e3 : lastText ev + (((ev.length : Int) - lastText ev).toNat : Nat) = (ev.length : Nat) := by omega
      simp only [List.filterMap_cons, List.filterMap_nil, e2, e3]
      simp
      cases factAt G rs (ev.length : Nat) e <;> simp
/-- a name's place among those that are there -/
theorem idx_alive {n : Int} : ∀ {rows : List Row} {j : Nat} {r : Row}, (rows.map Row.n).Nodup → idx n rows = some j → rows[j]? = some r → r.t = true → idx n (alive rows) = some (alive (rows.take j)).length
  | [], _, _, _, h, _, _ => by cases h
  | q :: rows, j, r, nd, h, hr, ht => by
    have nd' := List.nodup_cons.mp (show (q.n :: rows.map Row.n).Nodup from nd)
    unfold idx at h
    by_cases hq : q.n = n
    · rw [if_pos hq] at h
      cases h
      have : q = r := by simpa using hr
      subst this
      simp [alive, ht, idx, hq]
    · rw [if_neg hq] at h
      cases e : idx n rows with
      | none => rw [e] at h; cases h
      | some i =>
        rw [e] at h
        cases h
        have ih := idx_alive (rows := rows) nd'.2 e (by simpa using hr) ht
        cases hqt : q.t with
        | true =>
          have a1 : alive (q :: rows) = q :: alive rows := List.filter_cons_of_pos hqt
          have a2 : alive ((q :: rows).take (i + 1)) = q :: alive (rows.take i) := List.filter_cons_of_pos hqt
          rw [a1, a2]
          simp [idx, hq, ih]
        | false =>
          have a1 : alive (q :: rows) = alive rows := List.filter_cons_of_neg (by rw [hqt]; decide)
          have a2 : alive ((q :: rows).take (i + 1)) = alive (rows.take i) := List.filter_cons_of_neg (by rw [hqt]; decide)
          rw [a1, a2, ih]
theorem mem_alive {rows : List Row} (h : ∀ r ∈ rows, 0 ≤ r.n) (nd : (rows.map Row.n).Nodup) (n : Int) : isThere rows n = decide (n ∈ (alive rows).map Row.n) := by
  rw [Bool.eq_iff_iff, decide_eq_true_eq]
  constructor
  · intro ht
    obtain ⟨_, j, r, _, h1, rfl, h3⟩ := isThere_row ht
    exact List.mem_map_of_mem (List.mem_filter.mpr ⟨List.mem_of_getElem? h1, h3⟩)
  · intro hm
    obtain ⟨r, hr, rfl⟩ := List.mem_map.mp hm
    obtain ⟨h1, h2⟩ := List.mem_filter.mp hr
    obtain ⟨j, e1, e2⟩ := idx_of_mem nd h1
    have h0 : r.n ≠ -1 := by have := h r h1; omega
    simp [isThere, h0, rowAt, e1, e2, h2]
end K76

namespace K76
open PySem PyE
def stF (pre : List D) (cur : List Fact) : Store := pre ++ [.lst (cur.map Fact.d)]
def envF (L : D) (rows : List Row) (gs : List Int) (c : Nat) : En := [some L, some (nmD ((alive rows).map Row.n)), some (.lst (gs.map D.int)), some (.ref c), none, none, none, none]
theorem sf_get (pre : List D) (cur : List Fact) : (stF pre cur)[pre.length]? = some (.lst (cur.map Fact.d)) := by simp [stF]
theorem sf_app (pre : List D) (cur : List Fact) (f : Fact) (hl : cur.length < 1000) : mtD .append (.ref pre.length) [f.d] (stF pre cur) = .ok .non (stF pre (cur ++ [f])) := by
  rw [append_ok (sf_get pre cur) (by simp [line]; omega)]
  simp [stF]
theorem sf_trim (pre : List D) (cur : List Fact) (L : D) (rows : List Row) (gs : List Int) : trim 1 (envF L rows gs pre.length) (stF pre cur) = stF pre cur := by
  cases pre with
  | nil => exact trim_same (Nat.le_refl 1)
  | cons p pre =>
    unfold trim
    rw [if_neg]
    simp [envF, D.bel]
theorem sf_len (pre : List D) (cur : List Fact) : (stF pre cur).length = pre.length + 1 := by simp [stF]
theorem idx_frz {rows : List Row} {n : Int} {j : Nat} (h : idx n rows = some j) (st : Store) : mtD .index (nmD (rows.map Row.n)) [.int n] st = .ok (.int (j : Nat)) st := by
  show idxB (nmD (rows.map Row.n)) [.int n] st = _
  show guardB (flatD (.int n) && ((rows.map Row.n).map D.int).all flatD) (opt ((posOf (.int n) ((rows.map Row.n).map D.int) 0).map fun (k : Nat) => D.int (k : Int)) st) = _
  have hf : ((rows.map Row.n).map D.int).all flatD = true := by
    rw [List.all_eq_true]
    intro y hy
    obtain ⟨i, _, rfl⟩ := List.mem_map.mp hy
    rfl
  rw [hf, posOf_idx, h]
  simp [guardB, opt]
theorem inD_nm (n : Int) (gs : List Int) (st : Store) : cmpD .in_ (.int n) (nmD gs) st = .ok (.bl (decide (n ∈ gs))) st := by
  show opt ((inD (.int n) (gs.map D.int)).map D.bl) st = _
  rw [inD_ints]; rfl
theorem len_nm (gs : List Int) (st : Store) : biD .len [nmD gs] st = .ok (.int (gs.length : Nat)) st := by
  show R.ok (D.int ((gs.map D.int).length : Nat)) st = _
  rw [List.length_map]
@[simp] theorem mtTy_nmf (nm : List Int) (st : Store) : mtTy .index (view st (nmD nm)) = true := rfl
end K76

namespace K76
open PySem PyE
theorem factsG_len (G : Int → Bool) (ev : List Ev) (rs : List Row) : (factsG G ev rs).length ≤ ev.length := by
  unfold factsG
  refine Nat.le_trans (List.length_filterMap_le _ _) ?_
  have := lastText_le ev
  simp; omega
def posSettle (es : List Ev) : List Int := (es.zipIdx).filterMap fun p => match p.1 with | .settle => some (p.2 : Int) | _ => none
def lastSettle (es : List Ev) : Int := maxL (-1) (posSettle es)
def backable (es : List Ev) (p : Ev × Nat) : Option Int := if lastSettle es < (p.2 : Int) then (if (p.2 : Int) ∈ backs es then none else match p.1 with
  | .behind _ _ => some (p.2 : Int)
  | .away _ => some (p.2 : Int)
  | .instead _ _ => some (p.2 : Int)
  | .fact _ _ => some (p.2 : Int)
  | _ => none) else none
def lawBacks (es : List Ev) : List Int := es.zipIdx.filterMap (backable es)
theorem inD_4 (x a b c d : Str) : inD (.str x) [.str a, .str b, .str c, .str d] = some (decide (a = x) || (decide (b = x) || (decide (c = x) || decide (d = x)))) := by simp [inD_def]
theorem ev_backs (k : Nat) (hk : 2 ≤ k) (es : List Ev) (he : es.length ≤ 900) : callF prog k f__law_backs [evsD false es] [] = .ok (.lst ((lawBacks es).map D.int)) [] := by
  rw [callF_at p__law_backs (by omega), run_at rfl]
  have fm : ∀ {F : D → List D → Store → R (List D)} (f : Ev × Nat → Option Int) (h : ∀ (p : Ev × Nat) (acc : List D), acc.length < line → F (.tup [.int (p.2 : Int), p.1.d]) acc [] = .ok (addO D.int acc (f p)) []), foldR F (pairs 0 (es.map Ev.d)) [] [] = .ok ((es.zipIdx.filterMap f).map D.int) [] := fun {F} f h => by
    rw [pairs_map, fold_map (fun p : Ev × Nat => .tup [.int (p.2 : Int), p.1.d]) D.int f (fun _ => True) (fun x acc _ hl => h x acc hl) _ [] (fun _ _ => trivial) (by simp [line]; omega)]
    rfl
  have hp : (posSettle es).length ≤ 900 := Nat.le_trans (List.length_filterMap_le _ _) (by simpa using he)
  have ad : ∀ st, binD .add (.lst [.int (-1)]) (.lst ((posSettle es).map D.int)) st = .ok (.lst (.int (-1) :: (posSettle es).map D.int)) st := fun st => bin_add_lst (by simp [line]; omega)
  simp [c__law_backs, cl_gone (show 1 ≤ k - 1 by omega) false es (by omega)]
  rw [fm (fun p => match p.1 with | .settle => some (p.2 : Int) | _ => none) ?h1]
  · rw [show (es.zipIdx.filterMap fun p => match p.1 with | Ev.settle => some (p.2 : Int) | _ => none) = posSettle es from rfl]
    simp [ad, bi_max_ints, cl_gone (show 1 ≤ k - 1 by omega) false es (by omega)]
    rw [show maxL (-1) (posSettle es) = lastSettle es from rfl, fm (backable es) ?h2]
    · simp [lawBacks]
    · intro p acc hl
      have hl' : acc.length < 16777216 := hl
      obtain ⟨e, i⟩ := p
      by_cases h1 : lastSettle es < (i : Int)
      · by_cases h2 : (i : Int) ∈ backs es
        · simp [backable, h1, h2, line, hl', inD_ints]
        · cases e <;> simp [backable, h1, h2, line, hl', inD_ints, Ev.d, inD_4]
      · simp [backable, h1, line, hl']
  · intro p acc hl
    have hl' : acc.length < 16777216 := hl
    obtain ⟨e, i⟩ := p
    cases e <;> simp [Ev.d, line, hl']
theorem ev_backs_t (k : Nat) (hk : 2 ≤ k) (es : List Ev) (he : es.length ≤ 900) : callF prog k f__law_backs [evsD true es] [] = .ok (.lst ((lawBacks es).map D.int)) [] := by
  rw [callF_at p__law_backs (by omega), run_at rfl]
  have fm : ∀ {F : D → List D → Store → R (List D)} (f : Ev × Nat → Option Int) (h : ∀ (p : Ev × Nat) (acc : List D), acc.length < line → F (.tup [.int (p.2 : Int), p.1.d]) acc [] = .ok (addO D.int acc (f p)) []), foldR F (pairs 0 (es.map Ev.d)) [] [] = .ok ((es.zipIdx.filterMap f).map D.int) [] := fun {F} f h => by
    rw [pairs_map, fold_map (fun p : Ev × Nat => .tup [.int (p.2 : Int), p.1.d]) D.int f (fun _ => True) (fun x acc _ hl => h x acc hl) _ [] (fun _ _ => trivial) (by simp [line]; omega)]
    rfl
  have hp : (posSettle es).length ≤ 900 := Nat.le_trans (List.length_filterMap_le _ _) (by simpa using he)
  have ad : ∀ st, binD .add (.lst [.int (-1)]) (.lst ((posSettle es).map D.int)) st = .ok (.lst (.int (-1) :: (posSettle es).map D.int)) st := fun st => bin_add_lst (by simp [line]; omega)
  simp [c__law_backs, cl_gone (show 1 ≤ k - 1 by omega) true es (by omega)]
  rw [fm (fun p => match p.1 with | .settle => some (p.2 : Int) | _ => none) ?h3]
  · rw [show (es.zipIdx.filterMap fun p => match p.1 with | Ev.settle => some (p.2 : Int) | _ => none) = posSettle es from rfl]
    simp [ad, bi_max_ints, cl_gone (show 1 ≤ k - 1 by omega) true es (by omega)]
    rw [show maxL (-1) (posSettle es) = lastSettle es from rfl, fm (backable es) ?h4]
    · simp [lawBacks]
    · intro p acc hl
      have hl' : acc.length < 16777216 := hl
      obtain ⟨e, i⟩ := p
      by_cases h1 : lastSettle es < (i : Int)
      · by_cases h2 : (i : Int) ∈ backs es
        · simp [backable, h1, h2, line, hl', inD_ints]
        · cases e <;> simp [backable, h1, h2, line, hl', inD_ints, Ev.d, inD_4]
      · simp [backable, h1, line, hl']
  · intro p acc hl
    have hl' : acc.length < 16777216 := hl
    obtain ⟨e, i⟩ := p
    cases e <;> simp [Ev.d, line, hl']
theorem lawBacks_ok {es : List Ev} {b : Int} (h : b ∈ lawBacks es) : 0 ≤ b ∧ b < es.length ∧ lastSettle es < b := by
  obtain ⟨p, hp, e⟩ := List.mem_filterMap.mp h
  have hm := List.mem_zipIdx hp
  unfold backable at e
  split at e
  · rename_i h1
    split at e
    · cases e
    · have : b = (p.2 : Int) := by
        split at e <;> first | (cases e; rfl) | cases e
      subst this
      exact ⟨by omega, by omega, h1⟩
  · cases e
end K76

namespace K76
open PySem PyE
def Compat (G : Int → Bool) (es : List Ev) : Prop := ∀ k : Int, (∃ j : Nat, k ≤ (j : Int) ∧ es[j]? = some .settle) → G k = goneB es k
theorem replay_snoc (G : Int → Bool) (e : Ev) : ∀ (es : List Ev) (i : Nat) (rs : List Row), replay G (es ++ [e]) i rs = (replay G es i rs).bind fun rs' => rowsAfter rs' ((i + es.length : Nat) : Int) e (G ((i + es.length : Nat) : Int))
  | [], i, rs => by
    show (rowsAfter rs (i : Int) e (G (i : Int))).bind (fun rs' => some rs') = rowsAfter rs ((i + 0 : Nat) : Int) e (G ((i + 0 : Nat) : Int))
    cases rowsAfter rs (i : Int) e (G (i : Int)) <;> rfl
  | q :: es, i, rs => by
    show (rowsAfter rs (i : Int) q (G (i : Int))).bind _ = ((rowsAfter rs (i : Int) q (G (i : Int))).bind _).bind _
    cases rowsAfter rs (i : Int) q (G (i : Int)) with
    | none => rfl
    | some r1 =>
      show replay G (es ++ [e]) (i + 1) r1 = (replay G es (i + 1) r1).bind _
      rw [replay_snoc G e es (i + 1) r1]
      have : i + 1 + es.length = i + (q :: es).length := by simp; omega
      rw [this]
theorem replay_congr {G G' : Int → Bool} : ∀ (es : List Ev) (i : Nat) (rs : List Row), (∀ k : Nat, k < i + es.length → G (k : Int) = G' (k : Int)) → replay G es i rs = replay G' es i rs
  | [], _, _, _ => rfl
  | e :: es, i, rs, h => by
    unfold replay
    rw [h i (by simp)]
    congr 1
    funext r1
    exact replay_congr es (i + 1) r1 fun k hk => h k (by simp; omega)
theorem backs_snoc (es : List Ev) (e : Ev) : backs (es ++ [e]) = backs es ++ (backOf e).toList := by
  unfold backs
  rw [List.filterMap_append]
  cases h : backOf e <;> simp [h]
structure GI (es : List Ev) (size : Int) (N0 : List Int) : Prop where
  sz : 0 < size ∧ size ≤ 10
  away : AwayOk es
  rep : ∀ G, Compat G es → ∃ rows, replay G es 0 [] = some rows ∧ rows.map Row.n = N0 ∧ ∀ r ∈ rows, ∀ i, r.w = some i → 0 ≤ i ∧ i < size
  nms : ∀ n ∈ N0, ∃ (j : Nat) (q : Ev), n = (j : Int) ∧ es[j]? = some q ∧ isBehind q = true
  pre : ∀ c, c ≤ es.length → (plainNotes (es.take c)).isSome = true
theorem GI.snoc {es : List Ev} {size size' : Int} {N0 N1 : List Int} {e : Ev} (h : GI es size N0) (sz : 0 < size' ∧ size' ≤ 10) (away : ∀ n, turnsName e = some n → n ∈ N0)
    (rep : ∀ G, Compat G (es ++ [e]) → ∃ rows, replay G (es ++ [e]) 0 [] = some rows ∧ rows.map Row.n = N1 ∧ ∀ r ∈ rows, ∀ i, r.w = some i → 0 ≤ i ∧ i < size')
    (nms : ∀ n ∈ N1, n ∈ N0 ∨ (n = (es.length : Nat) ∧ isBehind e = true)) : GI (es ++ [e]) size' N1 := by
  refine ⟨sz, ?_, rep, fun n hn => ?_, fun c hc => ?_⟩
  · intro i q n hq hn
    by_cases hi : i < es.length
    · rw [List.getElem?_append_left hi] at hq
      obtain ⟨j, q', h1, h2, h3, h4⟩ := h.away i q n hq hn
      exact ⟨j, q', h1, h2, by rw [List.getElem?_append_left (by omega)]; exact h3, h4⟩
    · have hi2 := (List.getElem?_eq_some_iff.mp hq).1
      simp at hi2
      have : i = es.length := by omega
      subst this
      rw [List.getElem?_append_right (Nat.le_refl _)] at hq
      have : e = q := by simpa using hq
      subst this
      obtain ⟨j, q', h1, h2, h3⟩ := h.nms n (away n hn)
      have hj := (List.getElem?_eq_some_iff.mp h2).1
      exact ⟨j, q', hj, h1, by rw [List.getElem?_append_left hj]; exact h2, h3⟩
  · rcases nms n hn with h1 | ⟨h1, h2⟩
    · obtain ⟨j, q, e1, e2, e3⟩ := h.nms n h1
      have hj := (List.getElem?_eq_some_iff.mp e2).1
      exact ⟨j, q, e1, by rw [List.getElem?_append_left hj]; exact e2, e3⟩
    · exact ⟨es.length, e, h1, by simp, h2⟩
  · by_cases hc2 : c ≤ es.length
    · rw [List.take_append_of_le_length hc2]
      exact h.pre c hc2
    · have : c = (es ++ [e]).length := by simp at hc ⊢; omega
      rw [this, List.take_length]
      obtain ⟨rows, h1, _⟩ := rep (goneB (es ++ [e])) fun _ _ => rfl
      unfold plainNotes
      rw [h1]; rfl
/-- what agrees with the longer life agrees with the shorter one -/
theorem compat_of {G : Int → Bool} {es : List Ev} {e : Ev} (h : Compat G (es ++ [e])) (hb : ∀ b, backOf e = some b → ∀ j : Nat, es[j]? = some .settle → (j : Int) < b) : Compat G es := by
  intro k ⟨j, hk, hj⟩
  have hjl := (List.getElem?_eq_some_iff.mp hj).1
  rw [h k ⟨j, hk, by rw [List.getElem?_append_left hjl]; exact hj⟩]
  unfold goneB
  rw [backs_snoc]
  cases e1 : backOf e with
  | none => simp
  | some b =>
    have hlt := hb b e1 j hj
    have hne : k ≠ b := by omega
    simp [hne]
section
variable {es : List Ev} {size : Int} {N0 : List Int}
theorem GI.same (h : GI es size N0) {e : Ev} (he : ∀ rs i g, rowsAfter rs i e g = some rs) (ht : turnsName e = none) (hb : ∀ b, backOf e = some b → ∀ j : Nat, es[j]? = some .settle → (j : Int) < b) : GI (es ++ [e]) size N0 := by
  refine h.snoc h.sz (fun n hn => by rw [ht] at hn; cases hn) (fun G hG => ?_) fun n hn => .inl hn
  obtain ⟨rows, h1, h2, h3⟩ := h.rep G (compat_of hG hb)
  exact ⟨rows, by rw [replay_snoc, h1]; exact he _ _ _, h2, h3⟩
theorem GI.fact (h : GI es size N0) (l : Look) (a : Int) : GI (es ++ [.fact l a]) size N0 := h.same (fun _ _ _ => rfl) rfl (fun _ z => by cases z)
theorem GI.back (h : GI es size N0) (b : Int) (hb : ∀ j : Nat, es[j]? = some .settle → (j : Int) < b) : GI (es ++ [.back b]) size N0 := h.same (fun _ _ _ => rfl) rfl (fun c z => by cases z; exact hb)
theorem GI.away' (h : GI es size N0) (n : Int) (hn : n ∈ N0) : GI (es ++ [.away n]) size N0 := by
  refine h.snoc h.sz (fun m hm => by cases hm; exact hn) (fun G hG => ?_) fun n hn => .inl hn
  obtain ⟨rows, h1, h2, h3⟩ := h.rep G (compat_of hG (fun _ z => by cases z))
  refine ⟨_, by rw [replay_snoc, h1]; rfl, ?_, ?_⟩
  · split
    · exact h2
    · rw [turned_names]; exact h2
  · split
    · exact h3
    · intro r hr i hi
      cases ht : isThere rows n with
      | false =>
        have e : turnedM rows n none false = rows := by unfold turnedM; rw [ht]; rfl
        rw [e] at hr
        exact h3 r hr i hi
      | true =>
        obtain ⟨j, q, g1, g2, g3⟩ := turned_set (w := none) (t := false) ht
        rw [g3] at hr
        rcases List.mem_or_eq_of_mem_set hr with hr | rfl
        · exact h3 r hr i hi
        · exact h3 q (List.mem_of_getElem? g1) i hi
theorem GI.instead' (h : GI es size N0) (n w : Int) (hn : n ∈ N0) (hw : 0 ≤ w ∧ w < size) : GI (es ++ [.instead n w]) size N0 := by
  refine h.snoc h.sz (fun m hm => by cases hm; exact hn) (fun G hG => ?_) fun n hn => .inl hn
  obtain ⟨rows, h1, h2, h3⟩ := h.rep G (compat_of hG (fun _ z => by cases z))
  refine ⟨_, by rw [replay_snoc, h1]; rfl, ?_, ?_⟩
  · split
    · exact h2
    · rw [turned_names]; exact h2
  · split
    · exact h3
    · intro r hr i hi
      cases ht : isThere rows n with
      | false =>
        have e : turnedM rows n (some w) true = rows := by unfold turnedM; rw [ht]; rfl
        rw [e] at hr
        exact h3 r hr i hi
      | true =>
        obtain ⟨j, q, g1, g2, g3⟩ := turned_set (w := some w) (t := true) ht
        rw [g3] at hr
        rcases List.mem_or_eq_of_mem_set hr with hr | rfl
        · exact h3 r hr i hi
        · cases hi; exact hw
theorem GI.settle (h : GI es size N0) : ∃ N1, GI (es ++ [.settle]) size N1 ∧ ∀ n ∈ N1, n ∈ N0 := by
  obtain ⟨rows, h1, h2, h3⟩ := h.rep (goneB es) fun _ _ => rfl
  have sub : ∀ n ∈ (alive rows).map Row.n, n ∈ N0 := fun n hn => by
    obtain ⟨r, hr, rfl⟩ := List.mem_map.mp hn
    rw [← h2]
    exact List.mem_map_of_mem (List.mem_filter.mp hr).1
  refine ⟨(alive rows).map Row.n, h.snoc h.sz (fun m hm => by cases hm) (fun G hG => ?_) (fun n hn => .inl (sub n hn)), sub⟩
  have e : replay G es 0 [] = replay (goneB es) es 0 [] := replay_congr es 0 [] fun k hk => by
    rw [hG k ⟨es.length, by omega, by simp⟩]
    unfold goneB
    rw [backs_snoc]; simp [backOf]
  exact ⟨alive rows, by rw [replay_snoc, e, h1]; rfl, rfl, fun r hr i hi => h3 r (List.mem_filter.mp hr).1 i hi⟩
theorem GI.text (h : GI es size N0) (xs : List Int) (carry : List (Option Int)) (later : Int) (hl : 0 < later ∧ later ≤ 10) (hc : (carry.length : Int) = size) (hv : ∀ o ∈ carry, ∀ i, o = some i → 0 ≤ i ∧ i < later) : GI (es ++ [.text xs carry]) later N0 := by
  refine h.snoc hl (fun m hm => by cases hm) (fun G hG => ?_) fun n hn => .inl hn
  obtain ⟨rows, h1, h2, h3⟩ := h.rep G (compat_of hG (fun _ z => by cases z))
  have at_ : ∀ i : Int, 0 ≤ i → i < size → ∃ o, L2.atI carry i = some o ∧ o ∈ carry := fun i h0 h4 => by
    have e : i = (i.toNat : Int) := by omega
    rw [e, atI_nn]
    have hlt : i.toNat < carry.length := by omega
    exact ⟨carry[i.toNat], List.getElem?_eq_getElem hlt, List.getElem_mem hlt⟩
  have hall : rows.all (fun r => carryB carry r.w) = true := by
    rw [List.all_eq_true]
    intro r hr
    unfold carryB
    cases hw : r.w with
    | none => rfl
    | some i =>
      obtain ⟨a, b⟩ := h3 r hr i hw
      obtain ⟨o, ho, _⟩ := at_ i a b
      simp [ho]
  refine ⟨rows.map (carried1 carry), by rw [replay_snoc, h1]; simp [rowsAfter]; exact fun r hr => List.all_eq_true.mp hall r hr, by rw [List.map_map]; exact h2, fun r hr i hi => ?_⟩
  obtain ⟨q, hq, rfl⟩ := List.mem_map.mp hr
  simp only [carried1, toldOf] at hi
  cases hw : q.w with
  | none => rw [hw] at hi; cases hi
  | some k =>
    rw [hw] at hi
    obtain ⟨a, b⟩ := h3 q hq k hw
    obtain ⟨o, ho, hm⟩ := at_ k a b
    simp [ho] at hi
    exact hv o hm i hi
end
end K76

namespace K76
open PySem PyE
def idxI (n : Int) : List Int → Option Nat
  | [] => none
  | m :: ms => if m = n then some 0 else (idxI n ms).map (· + 1)
theorem idx_names (n : Int) : ∀ rows : List Row, idx n rows = idxI n (rows.map Row.n)
  | [] => rfl
  | r :: rows => by
    unfold idx
    show _ = (if r.n = n then some 0 else (idxI n (rows.map Row.n)).map (· + 1))
    rw [idx_names n rows]
theorem idxI_mem {n : Int} : ∀ {ns : List Int}, n ∈ ns → ∃ j, idxI n ns = some j
  | m :: ms, h => by
    unfold idxI
    by_cases e : m = n
    · exact ⟨0, if_pos e⟩
    · obtain ⟨j, hj⟩ := idxI_mem (ns := ms) (by rcases List.mem_cons.mp h with h | h; exact absurd h.symm e; exact h)
      exact ⟨j + 1, by rw [if_neg e, hj]; rfl⟩
section
variable {es : List Ev} {size : Int} {N0 : List Int}
theorem GI.behind (h : GI es size N0) (n w : Int) (hn : n = -1 ∨ n ∈ N0) (hw : 0 ≤ w ∧ w < size) : ∃ N1, GI (es ++ [.behind n w]) size N1 ∧ ∀ m ∈ N1, m ∈ N0 ∨ m = (es.length : Int) := by
  obtain ⟨s, hs⟩ : ∃ s : Nat, ∀ rows : List Row, rows.map Row.n = N0 → spotIn rows n = some ((s : Int) - 1) := by
    rcases hn with rfl | hn
    · exact ⟨0, fun rows _ => by simp [spotIn]⟩
    · have h0 : n ≠ -1 := by
        obtain ⟨j, q, e, _⟩ := h.nms n hn
        omega
      obtain ⟨j, hj⟩ := idxI_mem hn
      refine ⟨j + 1, fun rows hr => ?_⟩
      rw [spotIn_idx h0, idx_names, hr, hj]
      simp
  have mem : ∀ m ∈ N0.take s ++ [(es.length : Int)] ++ N0.drop s, m ∈ N0 ∨ m = (es.length : Int) := fun m hm => by
    simp only [List.mem_append, List.mem_singleton] at hm
    rcases hm with (hm | hm) | hm
    · exact .inl (List.mem_of_mem_take hm)
    · exact .inr hm
    · exact .inl (List.mem_of_mem_drop hm)
  refine ⟨N0.take s ++ [(es.length : Int)] ++ N0.drop s, h.snoc h.sz (fun m hm => by cases hm) (fun G hG => ?_) fun m hm => ?_, mem⟩
  · obtain ⟨rows, h1, h2, h3⟩ := h.rep G (compat_of hG (fun _ z => by cases z))
    refine ⟨_, by rw [replay_snoc, h1]; simp only [Option.bind_some, rowsAfter, hs rows h2, Option.map_some]; rfl, ?_, fun r hr i hi => ?_⟩
    · have e : ((s : Int) - 1 + 1).toNat = s := by omega
      rw [e, ← h2]
      simp [List.map_take, List.map_drop]
    · simp only [List.mem_append, List.mem_singleton] at hr
      rcases hr with (hr | rfl) | hr
      · exact h3 r (List.mem_of_mem_take hr) i hi
      · cases hi; exact hw
      · exact h3 r (List.mem_of_mem_drop hr) i hi
  · simp only [List.mem_append, List.mem_singleton] at hm
    rcases hm with (hm | hm) | hm
    · exact .inl (List.mem_of_mem_take hm)
    · exact .inr ⟨hm, rfl⟩
    · exact .inl (List.mem_of_mem_drop hm)
end
theorem take0 {k : Nat} (hk : 1 ≤ k) {c : D} (hb : IsBox c) (many : Int) (h0 : 0 < many) (h1 : many < 1073741824) : ∃ d c', callIn (callF prog k) f__law_take [.ref 0, .int many] [0] false [c] = .ok (.int d) [c'] ∧ IsBox c' ∧ 0 ≤ d ∧ d < many := by
  obtain ⟨d, c', h2, h3⟩ := take_ok hk (st := [c]) (n := 0) (show ([c] : Store)[0]? = some c from rfl) hb many h0 h1
  exact ⟨d, c', h2, h3⟩
theorem box_pl {c : D} (h : IsBox c) : c.pure = true := by obtain ⟨g, r, rfl⟩ := h; rfl
theorem ev_pick (k : Nat) (hk : 2 ≤ k) {c : D} (hb : IsBox c) (xs : List D) (h0 : xs ≠ []) (h1 : xs.length ≤ 10000) : ∃ x c', callF prog k f__law_pick [.ref 0, .lst xs] [c] = .ok x [c'] ∧ IsBox c' ∧ x ∈ xs := by
  have hl : 0 < xs.length := List.length_pos_iff.mpr h0
  obtain ⟨d, c', e, hb', hd0, hd1⟩ := take0 (k := k - 1) (by omega) hb ((xs.length : Nat) : Int) (by omega) (by omega)
  have hlt : d.toNat < xs.length := by omega
  have ed : d = (d.toNat : Int) := by omega
  refine ⟨xs[d.toNat], c', ?_, hb', List.getElem_mem hlt⟩
  rw [callF_at p__law_pick (by omega), run_at rfl]
  simp [c__law_pick, e]
  have ha := atI_nn xs d.toNat
  rw [← ed, List.getElem?_eq_getElem hlt] at ha
  simp [ha]
theorem pick_ok {k : Nat} (hk : 2 ≤ k) {st : Store} {n : Nat} {c : D} (hc : st[n]? = some c) (hb : IsBox c) (xs : List D) (h0 : xs ≠ []) (h1 : xs.length ≤ 10000) (hp : ∀ x ∈ xs, x.pure = true) : ∃ x c', callIn (callF prog k) f__law_pick [.ref n, .lst xs] [0] false st = .ok x (st.set n c') ∧ IsBox c' ∧ x ∈ xs := by
  obtain ⟨x, c', e, hb', hm⟩ := ev_pick k hk hb xs h0 h1
  exact ⟨x, c', call_box hc (box_pl hb) (by simp [D.pure]; exact pureL_iff.mpr hp) e rfl (box_pl hb') (hp x hm), hb', hm⟩
theorem ev_sizes (k : Nat) (hk : 2 ≤ k) {c : D} (hb : IsBox c) : ∃ a b d c', callF prog k f__law_some_sizes [.ref 0] [c] = .ok (.tup [.int a, .int b, .int d]) [c'] ∧ IsBox c' ∧ (2 ≤ a ∧ a ≤ 4) ∧ (1 ≤ b ∧ b ≤ 4) ∧ (1 ≤ d ∧ d ≤ 2) := by
  obtain ⟨x, c1, e1, b1, x0, x1⟩ := take0 (k := k - 1) (by omega) hb 3 (by decide) (by decide)
  obtain ⟨y, c2, e2, b2, y0, y1⟩ := take0 (k := k - 1) (by omega) b1 4 (by decide) (by decide)
  obtain ⟨w, c3, e3, b3, w0, w1⟩ := take0 (k := k - 1) (by omega) b2 2 (by decide) (by decide)
  refine ⟨2 + x, 1 + y, 1 + w, c3, ?_, b3, by omega, by omega, by omega⟩
  rw [callF_at p__law_some_sizes (by omega), run_at rfl]
  simp [c__law_some_sizes, e1, e2, e3]
end K76

namespace PyE
open PySem
theorem fold_ex {F : D → List D → Store → R (List D)} (I : Store → Prop) (P : D → Prop) (mem : D → Prop) (one : Bool)
    (h : ∀ x acc st, mem x → I st → acc.length < line → ∃ ys st', F x acc st = .ok (acc ++ ys) st' ∧ I st' ∧ (∀ y ∈ ys, P y) ∧ ys.length ≤ 1 ∧ (one = true → ys.length = 1)) :
    ∀ (items acc : List D) (st : Store), (∀ x ∈ items, mem x) → I st → acc.length + items.length ≤ line → ∃ zs st', foldR F items acc st = .ok (acc ++ zs) st' ∧ I st' ∧ (∀ z ∈ zs, P z) ∧ zs.length ≤ items.length ∧ (one = true → zs.length = items.length)
  | [], acc, st, _, hI, _ => ⟨[], st, by simp [foldR], hI, fun _ h => (nomatch h), Nat.le_refl _, fun _ => rfl⟩
  | x :: items, acc, st, hm, hI, hl => by
    rw [List.length_cons] at hl
    obtain ⟨ys, s1, e1, h1, h2, h3, h4⟩ := h x acc st (hm x List.mem_cons_self) hI (by omega)
    obtain ⟨zs, s2, e2, g1, g2, g3, g4⟩ := fold_ex I P mem one h items (acc ++ ys) s1 (fun y hy => hm y (List.mem_cons_of_mem _ hy)) h1 (by rw [List.length_append]; omega)
    refine ⟨ys ++ zs, s2, ?_, g1, fun z hz => ?_, by rw [List.length_append, List.length_cons]; omega, fun ho => by rw [List.length_append, List.length_cons, h4 ho, g4 ho]; omega⟩
    · show (F x acc st).bind _ = _
      rw [e1]
      show foldR F items (acc ++ ys) s1 = _
      rw [e2, List.append_assoc]
    · rcases List.mem_append.mp hz with hz | hz
      · exact h2 z hz
      · exact g2 z hz
theorem fold_lst {F : D → List D → Store → R (List D)} {items : List D} {st : Store} (I : Store → Prop) (P : D → Prop) (mem : D → Prop) (one : Bool) (hm : ∀ x ∈ items, mem x) (hI : I st) (hl : items.length ≤ line)
    (h : ∀ x acc st, mem x → I st → acc.length < line → ∃ ys st', F x acc st = .ok (acc ++ ys) st' ∧ I st' ∧ (∀ y ∈ ys, P y) ∧ ys.length ≤ 1 ∧ (one = true → ys.length = 1)) :
    ∃ zs st', ((foldR F items [] st).bind fun acc s6 => R.ok (D.lst acc) s6) = .ok (.lst zs) st' ∧ I st' ∧ (∀ z ∈ zs, P z) ∧ zs.length ≤ items.length ∧ (one = true → zs.length = items.length) := by
  obtain ⟨zs, st', e, r⟩ := fold_ex I P mem one h items [] st hm hI (by simpa using hl)
  rw [List.nil_append] at e
  exact ⟨zs, st', by rw [e]; rfl, r⟩
theorem fold_lst1 {F : D → List D → Store → R (List D)} {items : List D} {st : Store} (I : Store → Prop) (P : D → Prop) (mem : D → Prop) (hm : ∀ x ∈ items, mem x) (hI : I st) (hl : items.length ≤ line)
    (h : ∀ x acc st, mem x → I st → acc.length < line → ∃ y st', F x acc st = .ok (acc ++ [y]) st' ∧ I st' ∧ P y) :
    ∃ zs st', ((foldR F items [] st).bind fun acc s6 => R.ok (D.lst acc) s6) = .ok (.lst zs) st' ∧ I st' ∧ (∀ z ∈ zs, P z) ∧ zs.length = items.length := by
  obtain ⟨zs, st', e, h1, h2, h3, h4⟩ := fold_lst I P mem true hm hI hl fun x acc st a b c => by
    obtain ⟨y, st', e, i, p⟩ := h x acc st a b c
    exact ⟨[y], st', e, i, fun z hz => by rw [List.mem_singleton.mp hz]; exact p, Nat.le_refl 1, fun _ => rfl⟩
  exact ⟨zs, st', e, h1, h2, h4 rfl⟩
theorem map_of {α : Type} (f : α → D) (Q : α → Prop) : ∀ {zs : List D}, (∀ z ∈ zs, ∃ a, z = f a ∧ Q a) → ∃ as : List α, zs = as.map f ∧ ∀ a ∈ as, Q a
  | [], _ => ⟨[], rfl, fun _ h => (nomatch h)⟩
  | z :: zs, h => by
    obtain ⟨a, e1, q1⟩ := h z List.mem_cons_self
    obtain ⟨as, e2, q2⟩ := map_of f Q (zs := zs) fun y hy => h y (List.mem_cons_of_mem _ hy)
    exact ⟨a :: as, by rw [e1, e2]; rfl, fun b hb => by rcases List.mem_cons.mp hb with rfl | hb; exact q1; exact q2 b hb⟩
end PyE
namespace K76
open PySem PyE
def inB (i : Int) : Bool := decide (-1 ≤ i) && decide (i ≤ 1000)
theorem inB_of {i : Int} (h : -1 ≤ i ∧ i ≤ 1000) : inB i = true := by simp [inB, h]
def inO : Option Int → Bool
  | none => true
  | some n => inB n
def okLook : Look → Bool
  | .hand h => inB h
  | .board o lot => inO o && (decide (lot.length ≤ 100) && lot.all inB)
/-- no number is great -/
def okEv : Ev → Bool
  | .behind n w => inB n && inB w
  | .away n => inB n
  | .instead n w => inB n && inB w
  | .back n => inB n
  | .fact l a => okLook l && inB a
  | .text xs carry => (decide (xs.length ≤ 100) && xs.all inB) && (decide (carry.length ≤ 100) && carry.all inO)
  | .settle => true
def BoxSt (st : Store) : Prop := ∃ c, st = [c] ∧ IsBox c
theorem range_mem {n : Nat} {x : D} (h : x ∈ rangeD 0 n) : ∃ i : Nat, x = .int i := by
  obtain ⟨i, _, rfl⟩ := List.mem_map.mp h
  exact ⟨i, by simp⟩
theorem ev_text (k : Nat) (hk : 2 ≤ k) {c : D} (hb : IsBox c) (many later : Int) (h0 : 0 < many ∧ many ≤ 10) (h1 : 0 < later ∧ later ≤ 10) : ∃ xs carry c', callF prog k f__law_some_text [.ref 0, .int many, .int later] [c] = .ok (Ev.text xs carry).d [c'] ∧ IsBox c' ∧ (carry.length : Int) = many ∧ (∀ o ∈ carry, ∀ i, o = some i → 0 ≤ i ∧ i < later) ∧ okEv (.text xs carry) = true := by
  have rg : ∀ i : Int, 0 ≤ i → i ≤ 10 → rgOk i = true := fun i a b => by simp [rgOk]; omega
  have c1 : ∀ c, IsBox c → ∃ zs st', evE (callF prog (k - 1)) (.lc [4] (.name 4) (.range1 (.var 1)) .none (.ife (.cmp .eq (.call f__law_take (.cons (.var 0) (.cons (.lit (.int 6)) .nil)) [0] false) (.lit (.int 0))) (.lit .non) (.call f__law_take (.cons (.var 0) (.cons (.var 2) .nil)) [0] false))) [some (.ref 0), some (.int many), some (.int later), none, none, none] [c] = .ok (.lst zs) st' ∧ BoxSt st' ∧ (∀ z ∈ zs, ∃ o, z = oD o ∧ ∀ i, o = some i → 0 ≤ i ∧ i < later) ∧ zs.length = (rangeD 0 many.toNat).length := fun c hc => by
    simp [rg many (by omega) (by omega)]
    refine fold_lst1 (items := rangeD 0 many.toNat) BoxSt (fun z => ∃ o, z = oD o ∧ ∀ i, o = some i → 0 ≤ i ∧ i < later) (fun x => ∃ i : Nat, x = .int i) (fun x hx => range_mem hx) ⟨c, rfl, hc⟩ (by simp [rangeD, line]; omega) fun x acc st ⟨i, hx⟩ ⟨c, hs, hc⟩ hl => ?_
    subst hx
    subst hs
    have hl' : acc.length < 16777216 := hl
    obtain ⟨d, c1, e1, b1, d0, d1⟩ := take0 (k := k - 1) (by omega) hc 6 (by decide) (by decide)
    by_cases hd : d = 0
    · exact ⟨.non, [c1], by simp [e1, hd, line, hl'], ⟨c1, rfl, b1⟩, none, rfl, fun _ z => by cases z⟩
    · obtain ⟨d', c2, e2, b2, d0', d1'⟩ := take0 (k := k - 1) (by omega) b1 later (by omega) (by omega)
      exact ⟨.int d', [c2], by simp [e1, hd, e2, line, hl'], ⟨c2, rfl, b2⟩, some d', rfl, fun i z => by cases z; exact ⟨d0', d1'⟩⟩
  obtain ⟨zs, st1, e1, ⟨c1, rfl, b1⟩, hz, hlen⟩ := c1 c hb
  obtain ⟨carry, rfl, hcarry⟩ := map_of oD _ hz
  obtain ⟨t, c2, e2, b2, t0, t1⟩ := take0 (k := k - 1) (by omega) b1 3 (by decide) (by decide)
  have cx : ∃ zs st', evE (callF prog (k - 1)) (.lc [5] (.name 5) (.range1 (.call f__law_take (.cons (.var 0) (.cons (.lit (.int 3)) .nil)) [0] false)) .none (.call f__law_take (.cons (.var 0) (.cons (.lit (.int 9)) .nil)) [0] false)) [some (.ref 0), some (.int many), some (.int later), some (.tup (carry.map oD)), none, none] [c1] = .ok (.lst zs) st' ∧ BoxSt st' ∧ (∀ z ∈ zs, ∃ i : Int, z = .int i ∧ inB i = true) ∧ zs.length = (rangeD 0 t.toNat).length := by
    simp [e2, rg t (by omega) (by omega)]
    refine fold_lst1 (items := rangeD 0 t.toNat) BoxSt (fun z => ∃ i : Int, z = .int i ∧ inB i = true) (fun x => ∃ i : Nat, x = .int i) (fun x hx => range_mem hx) ⟨c2, rfl, b2⟩ (by simp [rangeD, line]; omega) fun x acc st ⟨i, hx⟩ ⟨c, hs, hc⟩ hl => ?_
    subst hx
    subst hs
    have hl' : acc.length < 16777216 := hl
    obtain ⟨d, c1, e1, b1, d0, d1⟩ := take0 (k := k - 1) (by omega) hc 9 (by decide) (by decide)
    exact ⟨.int d, [c1], by simp [e1, line, hl'], ⟨c1, rfl, b1⟩, d, rfl, inB_of (by omega)⟩
  obtain ⟨ws, st3, e3, ⟨c3, rfl, b3⟩, hw, hwl⟩ := cx
  obtain ⟨xs, rfl, hxs⟩ := map_of D.int (fun i => inB i = true) (fun z hz => by obtain ⟨i, e, e'⟩ := hw z hz; exact ⟨i, e, e'⟩)
  refine ⟨xs, carry, c3, ?_, b3, ?_, hcarry, ?_⟩
  · rw [callF_at p__law_some_text (by omega), run_at rfl]
    simp [c__law_some_text, -e_evE_lc, e1, e3, Ev.d]
  · have := hlen
    simp [rangeD] at this
    omega
  · have h1 := hlen
    have h2 := hwl
    simp [rangeD] at h1 h2
    have a1 : xs.length ≤ 100 := by omega
    have a2 : carry.length ≤ 100 := by omega
    simp only [okEv, Bool.and_eq_true, decide_eq_true_eq, List.all_eq_true]
    refine ⟨⟨a1, hxs⟩, a2, fun o ho => ?_⟩
    cases o with
    | none => rfl
    | some i => have := hcarry _ ho i rfl; exact inB_of (by omega)
end K76

namespace PyE
open PySem
theorem fold_lst0 {F : D → List D → Store → R (List D)} {items : List D} {st : Store} (I : Store → Prop) (P : D → Prop) (mem : D → Prop) (hm : ∀ x ∈ items, mem x) (hI : I st) (hl : items.length ≤ line)
    (h : ∀ x acc st, mem x → I st → acc.length < line → ∃ ys st', F x acc st = .ok (acc ++ ys) st' ∧ I st' ∧ (∀ y ∈ ys, P y) ∧ ys.length ≤ 1) :
    ∃ zs st', ((foldR F items [] st).bind fun acc s6 => R.ok (D.lst acc) s6) = .ok (.lst zs) st' ∧ I st' ∧ (∀ z ∈ zs, P z) ∧ zs.length ≤ items.length := by
  obtain ⟨zs, st', e, h1, h2, h3, h4⟩ := fold_lst I P mem false hm hI hl fun x acc st a b c => by
    obtain ⟨ys, st', e, i, p, q⟩ := h x acc st a b c
    exact ⟨ys, st', e, i, p, q, fun z => by cases z⟩
  exact ⟨zs, st', e, h1, h2, h3⟩
end PyE
namespace K76
open PySem PyE
theorem pick0 {k : Nat} (hk : 2 ≤ k) {c : D} (hb : IsBox c) (xs : List D) (h0 : xs ≠ []) (h1 : xs.length ≤ 10000) (hp : ∀ x ∈ xs, x.pure = true) : ∃ x c', callIn (callF prog k) f__law_pick [.ref 0, .lst xs] [0] false [c] = .ok x [c'] ∧ IsBox c' ∧ x ∈ xs := by
  obtain ⟨x, c', h, r⟩ := pick_ok hk (st := [c]) (n := 0) (show ([c] : Store)[0]? = some c from rfl) hb xs h0 h1 hp
  exact ⟨x, c', h, r⟩
theorem range_lt {n : Nat} {x : D} (h : x ∈ rangeD 0 n) : ∃ i : Nat, x = .int i ∧ i < n := by
  obtain ⟨i, hi, rfl⟩ := List.mem_map.mp h
  exact ⟨i, by simp, List.mem_range.mp hi⟩
theorem ev_fact (k : Nat) (hk : 3 ≤ k) {c : D} (hb : IsBox c) (there : List Int) (hl : there.length ≤ 1000) (a b d : Int) (h1 : 1 ≤ b ∧ b ≤ 4) (h2 : 1 ≤ d ∧ d ≤ 2) (ht : ∀ n ∈ there, inB n = true) : ∃ l v c', callF prog k f__law_some_fact [.ref 0, .lst (there.map D.int), .tup [.int a, .int b, .int d]] [c] = .ok (Ev.fact l v).d [c'] ∧ IsBox c' ∧ okEv (.fact l v) = true := by
  obtain ⟨t, c1, e1, b1, t0, t1⟩ := take0 (k := k - 1) (by omega) hb 3 (by decide) (by decide)
  rw [callF_at p__law_some_fact (by omega), run_at rfl]
  by_cases ht0 : t = 0
  · subst ht0
    obtain ⟨x, c2, e2, b2, x0, x1⟩ := take0 (k := k - 1) (by omega) b1 d (by omega) (by omega)
    obtain ⟨v, c3, e3, b3, v0, v1⟩ := take0 (k := k - 1) (by omega) b2 2 (by omega) (by omega)
    refine ⟨.hand x, v, c3, ?_, b3, by simp only [okEv, okLook, Bool.and_eq_true]; exact ⟨inB_of (by omega), inB_of (by omega)⟩⟩
    simp [c__law_some_fact, e1, e2, e3, Ev.d, Look.d]
  · have rg : rgOk b = true := by simp [rgOk]; omega
    have cx : ∃ zs st', evE (callF prog (k - 1)) (.lc [4] (.name 4) (.range1 (.ix (.var 2) (.lit (.int 1)))) (.some (.cmp .eq (.call f__law_take (.cons (.var 0) (.cons (.lit (.int 2)) .nil)) [0] false) (.lit (.int 0)))) (.var 4)) [some (.ref 0), some (.lst (there.map D.int)), some (.tup [.int a, .int b, .int d]), none, none] [c1] = .ok (.lst zs) st' ∧ BoxSt st' ∧ (∀ z ∈ zs, ∃ i : Int, z = .int i ∧ inB i = true) ∧ zs.length ≤ (rangeD 0 b.toNat).length := by
      simp [rg]
      refine fold_lst0 (items := rangeD 0 b.toNat) BoxSt (fun z => ∃ i : Int, z = .int i ∧ inB i = true) (fun x => ∃ i : Nat, x = .int i ∧ i < b.toNat) (fun x hx => range_lt hx) ⟨c1, rfl, b1⟩ (by simp [rangeD, line]; omega) fun x acc st ⟨i, hx, hib⟩ ⟨c, hs, hc⟩ hl => ?_
      subst hx
      subst hs
      have hl' : acc.length < 16777216 := hl
      obtain ⟨d, c1, e1, b1, d0, d1⟩ := take0 (k := k - 1) (by omega) hc 2 (by decide) (by decide)
      by_cases hd : d = 0
      · exact ⟨[.int i], [c1], by simp [e1, hd, line, hl'], ⟨c1, rfl, b1⟩, fun y hy => ⟨i, by simpa using hy, inB_of (by omega)⟩, by simp⟩
      · exact ⟨[], [c1], by simp [e1, hd, line, hl'], ⟨c1, rfl, b1⟩, fun y hy => (nomatch hy), by simp⟩
    obtain ⟨zs, st1, e2, ⟨c2, rfl, b2⟩, hz, hzl⟩ := cx
    obtain ⟨lot, rfl, hlot⟩ := map_of D.int (fun i => inB i = true) (fun z hz' => by obtain ⟨i, e, e'⟩ := hz z hz'; exact ⟨i, e, e'⟩)
    obtain ⟨s, c3, e3, b3, hs⟩ := pick0 (k := k - 1) (by omega) b2 (there.map D.int ++ [.non]) (by simp) (by simp; omega) (fun x hx => by
      rcases List.mem_append.mp hx with h | h
      · obtain ⟨i, _, rfl⟩ := List.mem_map.mp h; rfl
      · rw [List.mem_singleton.mp h]; rfl)
    have hso : ∃ o : Option Int, s = oD o ∧ inO o = true := by
      rcases List.mem_append.mp hs with h | h
      · obtain ⟨i, hi, rfl⟩ := List.mem_map.mp h; exact ⟨some i, rfl, ht i hi⟩
      · rw [List.mem_singleton.mp h]; exact ⟨none, rfl, rfl⟩
    obtain ⟨o, rfl, ho⟩ := hso
    obtain ⟨v, c4, e4, b4, v0, v1⟩ := take0 (k := k - 1) (by omega) b3 2 (by omega) (by omega)
    refine ⟨.board o lot, v, c4, ?_, b4, by
      have : lot.length ≤ 100 := by simp [rangeD] at hzl; omega
      simp only [okEv, okLook, Bool.and_eq_true, decide_eq_true_eq, List.all_eq_true]
      exact ⟨⟨ho, this, hlot⟩, inB_of (by omega)⟩⟩
    have ea := fun st => bin_add_lst (xs := there.map D.int) (ys := [.non]) (st := st) (by simp [line]; omega)
    simp [c__law_some_fact, -e_evE_lc, e1, ea, ht0, e2, e3, e4, Ev.d, Look.d]
end K76

namespace PyE
open PySem
theorem pyL_ints : ∀ ns : List Int, D.pyL (ns.map D.int) = some (ns.map PyData.int)
  | [] => rfl
  | n :: ns => by simp [D.pyL, D.py, pyL_ints ns]
theorem layL_ints : ∀ ns : List Int, PyData.canLayAll0 (ns.map PyData.int) = true ∧ PyData.depthAll (ns.map PyData.int) ≤ 1
  | [] => by simp [PyData.canLayAll0, PyData.depthAll]
  | n :: ns => by
    have h := layL_ints ns
    simp [PyData.canLayAll0, PyData.depthAll, PyData.canLay0, PyData.depth, h.1]
    have := h.2
    omega
theorem shaped_ints (ns : List Int) : SeqAt.shaped (.list (ns.map PyData.int)) = true := by
  have h := layL_ints ns
  have h2 := h.2
  simp [SeqAt.shaped, PyData.canLay0, PyData.depth, h.1]
  omega
theorem eqD_ints_nil (ns : List Int) (st : Store) : eqD st (.lst (ns.map D.int)) (.lst []) = some (decide (ns = [])) := by
  have h1 := shaped_ints ns
  have h2 := shaped_ints []
  simp only [List.map_nil] at h2
  cases ns with
  | nil => simp [eqD, view, eqG, D.py, D.pyL, h2, PyData.eqv, PyData.eqvAll]
  | cons n ns =>
    simp only [List.map_cons] at h1
    simp [eqD, view, eqG, D.py, D.pyL, pyL_ints, h1, h2, PyData.eqv, PyData.eqvAll]
theorem ne_ints_nil (ns : List Int) (st : Store) : cmpD .ne (.lst (ns.map D.int)) (.lst []) st = .ok (.bl (!decide (ns = []))) st := by
  simp [cmpD, cmpB, eqD_ints_nil, opt]
end PyE
namespace K76
open PySem PyE
theorem maxL_ge (ns : List Int) : ∀ (m : Int), m ≤ maxL m ns ∧ ∀ n ∈ ns, n ≤ maxL m ns := by
  induction ns with
  | nil => exact fun m => ⟨Int.le_refl m, fun _ h => (nomatch h)⟩
  | cons n ns ih =>
    intro m
    have h := ih (if n > m then n else m)
    show m ≤ maxL (if n > m then n else m) ns ∧ _
    refine ⟨?_, fun x hx => ?_⟩
    · have := h.1
      split at this <;> omega
    · show x ≤ maxL (if n > m then n else m) ns
      rcases List.mem_cons.mp hx with rfl | hx
      · have := h.1
        split at this <;> split <;> omega
      · exact h.2 x hx
theorem settle_lt {es : List Ev} {b : Int} (h : b ∈ lawBacks es) : ∀ j : Nat, es[j]? = some .settle → (j : Int) < b := by
  intro j hj
  have h2 := (lawBacks_ok h).2.2
  have hm : (j : Int) ∈ posSettle es := by
    unfold posSettle
    refine List.mem_filterMap.mpr ⟨(.settle, j), ?_, rfl⟩
    exact List.mem_zipIdx_iff_getElem?.mpr (by simpa using hj)
  have := (maxL_ge (posSettle es) (-1)).2 _ hm
  unfold lastSettle at h2
  omega
theorem lawBacks_len (es : List Ev) : (lawBacks es).length ≤ es.length := by
  unfold lawBacks
  exact Nat.le_trans (List.length_filterMap_le _ _) (by simp)
end K76

namespace K76
open PySem PyE
theorem alive_names (rows : List Row) : (rows.filterMap fun r : Row => if r.t = true then some r.n else none) = (alive rows).map Row.n := by
  unfold alive
  induction rows with
  | nil => rfl
  | cons r l ih =>
    cases ht : r.t with
    | true => rw [List.filterMap_cons_some (by rw [ht]; rfl), List.filter_cons_of_pos ht, ih]; rfl
    | false => rw [List.filterMap_cons_none (by rw [ht]; rfl), List.filter_cons_of_neg (by rw [ht]; decide), ih]
theorem slB_sub (xs : List D) (i : Int) (st : Store) : ∃ ys, slB (.lst xs) (some i) none st = some (.lst ys) ∧ (∀ y ∈ ys, y ∈ xs) ∧ ys.length ≤ xs.length := by
  refine ⟨cut xs (some i) none, rfl, fun y hy => ?_, ?_⟩
  · exact List.mem_of_mem_drop (List.mem_of_mem_take hy)
  · unfold cut
    simp
    omega
theorem pickI {k : Nat} (hk : 2 ≤ k) {c : D} (hb : IsBox c) (ns : List Int) (h0 : ns ≠ []) (h1 : ns.length ≤ 10000) : ∃ n c', callIn (callF prog k) f__law_pick [.ref 0, .lst (ns.map D.int)] [0] false [c] = .ok (.int n) [c'] ∧ IsBox c' ∧ n ∈ ns := by
  obtain ⟨x, c', e, b, hx⟩ := pick0 hk hb (ns.map D.int) (by simpa using h0) (by simpa using h1) (fun x hx => by obtain ⟨i, _, rfl⟩ := List.mem_map.mp hx; rfl)
  obtain ⟨n, hn, rfl⟩ := List.mem_map.mp hx
  exact ⟨n, c', e, b, hn⟩
theorem GI.rows (h : GI es size N0) : ∃ rows, plainNotes es = some rows ∧ rows.map Row.n = N0 := by
  obtain ⟨rows, h1, h2, _⟩ := h.rep (goneB es) (fun _ _ => rfl)
  exact ⟨rows, h1, h2⟩
theorem ev_event (k : Nat) (hk : 4 ≤ k) {c : D} (hb : IsBox c) {es : List Ev} {size : Int} {N0 : List Int} (h : GI es size N0) (hl : es.length ≤ 100) (b d : Int) (h1 : 1 ≤ b ∧ b ≤ 4) (h2 : 1 ≤ d ∧ d ≤ 2) :
    ∃ e N1 c', callF prog k f__law_some_event [.ref 0, evsD false es, .tup [.int size, .int b, .int d]] [c] = .ok e.d [c'] ∧ IsBox c' ∧ GI (es ++ [e]) size N1 ∧ (∀ m ∈ N1, m ∈ N0 ∨ m = (es.length : Int)) ∧ okEv e = true := by
  obtain ⟨rows, hp, hN⟩ := h.rows
  have hrl := plain_len hp
  obtain ⟨N, T, e1, lr, _⟩ := cl_lives (k := k - 1) (by omega) false es rows (by omega) h.away hp [c]
  obtain ⟨way, c1, e2, b1, w0, w1⟩ := take0 (k := k - 1) (by omega) hb 14 (by decide) (by decide)
  have e3 : callIn (callF prog (k - 1)) f__law_backs [evsD false es] [] false [c1] = .ok (.lst ((lawBacks es).map D.int)) [c1] :=
    call_pure (by simp [evs_pure]) (ev_backs (k - 1) (by omega) es (by omega)) (pure_lst _ (fun _ => rfl) _)
  have hal : ((alive rows).map Row.n).length ≤ 100 := by
    have : (alive rows).length ≤ rows.length := List.length_filter_le _ _
    simp; omega
  have hsub : ∀ n ∈ (alive rows).map Row.n, n ∈ N0 := fun n hn => by
    obtain ⟨r, hr, rfl⟩ := List.mem_map.mp hn
    rw [← hN]
    exact List.mem_map.mpr ⟨r, (List.mem_filter.mp hr).1, rfl⟩
  have hcomp : evE (callF prog (k - 1)) (.lc [7] (.name 7) (.val (.ix (.var 3) (.lit (.str (Str.ofString "order"))))) (.some (.ix (.ix (.var 3) (.lit (.str (Str.ofString "there")))) (.var 7))) (.var 7)) [some (.ref 0), some (evsD false es), some (.tup [.int size, .int b, .int d]), some (lifeF (rows.map Row.n) N T es), some (.int way), none, none, none] [c1] = .ok (.lst (((alive rows).map Row.n).map D.int)) [c1] := by
    simp
    rw [fold_map (D.int ∘ Row.n) D.int (fun r : Row => if r.t = true then some r.n else none) (fun r => r ∈ rows) ?h rows [] (fun _ h => h) (by simp [line]; omega)]
    · rw [alive_names]; simp
    · intro r acc hm hl
      have hl' : acc.length < 16777216 := hl
      have gT := lr.inT r hm
      cases ht : r.t <;> simp [gT, ht, line, hl']
  generalize hth : (alive rows).map Row.n = there at hal hsub hcomp
  rw [callF_at p__law_some_event (by omega), run_at rfl]

  generalize hbk : lawBacks es = backs at e3
  have hbl : backs.length ≤ 100 := by rw [← hbk]; exact Nat.le_trans (lawBacks_len es) hl
  have hbs : ∀ b ∈ backs, ∀ j : Nat, es[j]? = some .settle → (j : Int) < b := fun b hb => settle_lt (by rw [hbk]; exact hb)
  have hsz := h.sz
  have hN0 : ∀ n ∈ N0, inB n = true := fun n hn => by
    obtain ⟨j, q, e, hj, _⟩ := h.nms n hn
    have := (List.getElem?_eq_some_iff.mp hj).1
    exact inB_of (by omega)
  have hbi : ∀ b ∈ backs, inB b = true := fun b hb => by
    have := lawBacks_ok (show b ∈ lawBacks es by rw [hbk]; exact hb)
    exact inB_of (by omega)
  let en : En := [some (.ref 0), some (evsD false es), some (.tup [.int size, .int b, .int d]), some (lifeF (rows.map Row.n) N T es), some (.int way), some (.lst (there.map D.int)), some (.lst (backs.map D.int)), none]
  have cA : ∀ m : Int, evE (callF prog (k - 1)) (.and (.cmp .lt (.var 4) (.lit (.int m))) (.cmp .ne (.var 5) (.list .nil))) en [c1] = .ok (.bl (decide (way < m ∧ there ≠ []))) [c1] := fun m => by
    by_cases h : way < m <;> by_cases h' : there = [] <;> simp [en, h, h', ne_ints_nil] <;> first | exact ne_ints_nil [] _ | skip
  have cB : ∀ m : Int, evE (callF prog (k - 1)) (.and (.cmp .lt (.var 4) (.lit (.int m))) (.cmp .ne (.var 6) (.list .nil))) en [c1] = .ok (.bl (decide (way < m ∧ backs ≠ []))) [c1] := fun m => by
    by_cases h : way < m <;> by_cases h' : backs = [] <;> simp [en, h, h', ne_ints_nil] <;> first | exact ne_ints_nil [] _ | skip
  have cA2 := cA 2
  have cA4 := cA 4
  have cB7 := cB 7
  simp only [en] at cA2 cA4 cB7
  clear cA cB
  by_cases ha : way < 2 ∧ there ≠ []
  · obtain ⟨n, c2, e4, b2, hn⟩ := pickI (k := k - 1) (by omega) b1 there ha.2 (by omega)
    refine ⟨.away n, N0, c2, ?_, b2, h.away' n (hsub n hn), fun m hm => .inl hm, hN0 n (hsub n hn)⟩
    rw [decide_eq_true ha] at cA2
    simp [c__law_some_event, -e_evE_lc, -e_evE_and, e1, e2, hcomp, e3, cA2, e4, Ev.d]
  rw [decide_eq_false ha] at cA2
  by_cases hi : way < 4 ∧ there ≠ []
  · obtain ⟨n, c2, e4, b2, hn⟩ := pickI (k := k - 1) (by omega) b1 there hi.2 (by omega)
    obtain ⟨w, c3, e5, b3, w0, w1⟩ := take0 (k := k - 1) (by omega) b2 size (by omega) (by omega)
    refine ⟨.instead n w, N0, c3, ?_, b3, h.instead' n w (hsub n hn) ⟨w0, w1⟩, fun m hm => .inl hm, by simp only [okEv, Bool.and_eq_true]; exact ⟨hN0 n (hsub n hn), inB_of (by omega)⟩⟩
    rw [decide_eq_true hi] at cA4
    simp [c__law_some_event, -e_evE_lc, -e_evE_and, e1, e2, hcomp, e3, cA2, cA4, e4, e5, Ev.d]
  rw [decide_eq_false hi] at cA4
  by_cases hk7 : way < 7 ∧ backs ≠ []
  · obtain ⟨n, c2, e4, b2, hn⟩ := pickI (k := k - 1) (by omega) b1 backs hk7.2 (by omega)
    refine ⟨.back n, N0, c2, ?_, b2, h.back n (hbs n hn), fun m hm => .inl hm, hbi n hn⟩
    rw [decide_eq_true hk7] at cB7
    simp [c__law_some_event, -e_evE_lc, -e_evE_and, e1, e2, hcomp, e3, cA2, cA4, cB7, e4, Ev.d]
  rw [decide_eq_false hk7] at cB7
  have c7 : ∃ (q : Bool) (c2 : D), IsBox c2 ∧ evE (callF prog (k - 1)) (.and (.cmp .eq (.var 4) (.lit (.int 7))) (.cmp .eq (.call f__law_take (.cons (.var 0) (.cons (.lit (.int 3)) .nil)) [0] false) (.lit (.int 0)))) [some (.ref 0), some (evsD false es), some (.tup [.int size, .int b, .int d]), some (lifeF (rows.map Row.n) N T es), some (.int way), some (.lst (there.map D.int)), some (.lst (backs.map D.int)), none] [c1] = .ok (.bl q) [c2] := by
    by_cases hw : way = 7
    · obtain ⟨w, c3, e5, b3, w0, w1⟩ := take0 (k := k - 1) (by omega) b1 3 (by omega) (by omega)
      exact ⟨decide (w = 0), c3, b3, by simp [hw, e5]⟩
    · exact ⟨false, c1, b1, by simp [hw]⟩
  obtain ⟨q, c2, b2, e7⟩ := c7
  cases q with
  | true =>
    obtain ⟨N1, hg, hs⟩ := h.settle
    refine ⟨.settle, N1, c2, ?_, b2, hg, fun m hm => .inl (hs m hm), rfl⟩
    simp [c__law_some_event, -e_evE_lc, -e_evE_and, e1, e2, hcomp, e3, cA2, cA4, cB7, e7, Ev.d]
  | false =>
    have cI : inD (.int way) [.int 8, .int 9] = some (decide (way = 8 ∨ way = 9)) := by
      by_cases h8 : way = 8
      · subst h8; rfl
      · by_cases h9 : way = 9
        · subst h9; rfl
        · simp [inD, h8, h9]; omega
    by_cases h8 : way = 8 ∨ way = 9
    · rw [decide_eq_true h8] at cI
      obtain ⟨l, v, c3, e4, b3, olv⟩ := ev_fact (k - 1) (by omega) b2 there (by omega) size b d h1 h2 (fun n hn => hN0 n (hsub n hn))
      have e4' := call_box (st := [c2]) (n := 0) (show ([c2] : Store)[0]? = some c2 from rfl) (box_pl b2) (by simp [D.pure, D.pureL]; exact pureL_map _ (fun _ => rfl) there) e4 rfl (box_pl b3) (ev_pure _)
      have e5 : callIn (callF prog (k - 1)) f__law_some_fact [.ref 0, .lst (there.map D.int), .tup [.int size, .int b, .int d]] [0] false [c2] = .ok (Ev.fact l v).d [c3] := e4'
      refine ⟨.fact l v, N0, c3, ?_, b3, h.fact l v, fun m hm => .inl hm, olv⟩
      simp [c__law_some_event, -e_evE_lc, -e_evE_and, e1, e2, hcomp, e3, cA2, cA4, cB7, e7, cI, e5]
    · rw [decide_eq_false h8] at cI
      obtain ⟨ys, s1, s2, s3⟩ := slB_sub ((rows.map Row.n).map D.int) ((((rows.map Row.n).map D.int).length : Nat) - 1 : Int) [c2]
      have hys : ∃ zs : List Int, ys = zs.map D.int ∧ ∀ z ∈ zs, z ∈ N0 := map_of D.int (fun z => z ∈ N0) fun y hy => by
        obtain ⟨i, hi, rfl⟩ := List.mem_map.mp (s2 y hy)
        exact ⟨i, rfl, by rw [← hN]; exact hi⟩
      obtain ⟨zs, rfl, hzs⟩ := hys
      have hzl : zs.length ≤ 100 := by simp at s3; omega
      obtain ⟨n, c3, e4, b3, hn⟩ := pickI (k := k - 1) (by omega) b2 (-1 :: (N0 ++ zs)) (by simp) (by rw [← hN]; simp; omega)
      obtain ⟨w, c4, e5, b4, w0, w1⟩ := take0 (k := k - 1) (by omega) b3 size (by omega) (by omega)
      have hn' : n = -1 ∨ n ∈ N0 := by
        rcases List.mem_cons.mp hn with z | z
        · exact .inl z
        · rcases List.mem_append.mp z with z | z
          · exact .inr z
          · exact .inr (hzs n z)
      obtain ⟨N1, hg, hs⟩ := h.behind n w hn' ⟨w0, w1⟩
      refine ⟨.behind n w, N1, c4, ?_, b4, hg, hs, by simp only [okEv, Bool.and_eq_true]; exact ⟨hn'.elim (fun z => by rw [z]; rfl) (hN0 n), inB_of (by omega)⟩⟩
      have a1 : ∀ st, binD .add (.lst [.int (-1)]) (nmD (rows.map Row.n)) st = .ok (.lst (D.int (-1) :: (rows.map Row.n).map D.int)) st := fun st => bin_add_lst (by simp [line]; omega)
      have a2 : ∀ st, binD .add (.lst (D.int (-1) :: (rows.map Row.n).map D.int)) (.lst (zs.map D.int)) st = .ok (.lst ((-1 :: (N0 ++ zs)).map D.int)) st := fun st => by
        rw [bin_add_lst (by simp [line]; omega), ← hN]; simp
      rw [List.length_map, List.length_map] at s1
      have s1' : slB (nmD (rows.map Row.n)) (some ((rows.length : Nat) - 1 : Int)) none [c2] = some (.lst (zs.map D.int)) := s1
      simp only [List.map_map, List.map_cons, List.map_append] at a1 a2 e4
      simp [len_nm, c__law_some_event, -e_evE_lc, -e_evE_and, e1, e2, hcomp, e3, cA2, cA4, cB7, e7, cI, h8, a1, s1', a2, e4, e5, Ev.d]
end K76

namespace PyE
open PySem
theorem call_look {cf : CallF} {f n m : Nat} {z : D} {st : Store} {c v c' d : D} {cs' : Store} (hnm : n ≠ m) (hn : st[n]? = some c) (hc : c.pure = true) (hm : st[m]? = some v) (hv : v.pure = true) (hz : z.pure = true) (h : cf f [.ref 0, v, z] [c] = .ok d cs') (h0 : cs'[0]? = some c') (hc' : c'.pure = true) (hcc : cleanCell c' = true) (hd : d.pure = true) (hdc : d.clean = true) :
    callIn cf f [.ref n, .ref m, z] [0] false st = .ok d (st.set n c') := by
  have e1 : prep [0] st 0 0 [.ref n, .ref m, z] = some ([.ref 0, v, z], [n], [m]) := by
    simp [prep, hm, hv, hz, D.pure]
  have e2 : cellsAt st [n] = some [c] := by
    simp [cellsAt, hn, hc]
  have hb : back [n] cs' d = some d := if_pos hd
  have hb' : back [n] cs' c' = some c' := if_pos hc'
  have e3 : putBack [n] cs' 0 [n] st = some (st.set n c') := by
    simp [putBack, h0, hb']
  have h1 : cs'.take 1 = [c'] := by
    cases cs' with
    | nil => simp at h0
    | cons a r => simp at h0; simp [h0]
  simp [callIn, e1, e2, h, callBack, e3, hb, hnm, Ne.symm hnm, hdc, h1, hcc]
end PyE
namespace K76
open PySem PyE
theorem cleanL_map {α : Type} (f : α → D) (h : ∀ a, (f a).clean = true) : ∀ xs : List α, D.cleanL (xs.map f) = true
  | [] => rfl
  | x :: xs => by simp [D.cleanL, h x, cleanL_map f h xs]
theorem oD_clean (o : Option Int) : (oD o).clean = true := by cases o <;> rfl
theorem look_clean (l : Look) : l.d.clean = true := by
  cases l <;> simp [Look.d, D.clean, D.cleanL, oD_clean]
  exact cleanL_map _ (fun _ => rfl) _
theorem ev_clean (e : Ev) : e.d.clean = true := by
  cases e <;> simp [Ev.d, D.clean, D.cleanL, look_clean]
  exact ⟨cleanL_map _ (fun _ => rfl) _, cleanL_map _ oD_clean _⟩
theorem box_clean {c : D} (h : IsBox c) : cleanCell c = true := by obtain ⟨g, r, rfl⟩ := h; rfl
theorem event_ok {k : Nat} (hk : 4 ≤ k) {c : D} (hb : IsBox c) {es : List Ev} {size : Int} {N0 : List Int} (h : GI es size N0) (hl : es.length ≤ 100) (b d : Int) (h1 : 1 ≤ b ∧ b ≤ 4) (h2 : 1 ≤ d ∧ d ≤ 2) :
    ∃ e N1 c', callIn (callF prog k) f__law_some_event [.ref 0, .ref 1, .tup [.int size, .int b, .int d]] [0] false [c, evsD false es] = .ok e.d [c', evsD false es] ∧ IsBox c' ∧ GI (es ++ [e]) size N1 ∧ ∀ m ∈ N1, m ∈ N0 ∨ m = (es.length : Int) := by
  obtain ⟨e, N1, c', e1, b1, g1, g2, _⟩ := ev_event k hk hb h hl b d h1 h2
  have := call_look (st := [c, evsD false es]) (n := 0) (m := 1) (by decide) rfl (box_pl hb) rfl (evs_pure false es) rfl e1 rfl (box_pl b1) (box_clean b1) (ev_pure e) (ev_clean e)
  exact ⟨e, N1, c', this, b1, g1, g2⟩
theorem sizes_ok {k : Nat} (hk : 2 ≤ k) {c : D} (hb : IsBox c) (L : Store) : ∃ a b d c', callIn (callF prog k) f__law_some_sizes [.ref 0] [0] false (c :: L) = .ok (.tup [.int a, .int b, .int d]) (c' :: L) ∧ IsBox c' ∧ (2 ≤ a ∧ a ≤ 4) ∧ (1 ≤ b ∧ b ≤ 4) ∧ (1 ≤ d ∧ d ≤ 2) := by
  obtain ⟨a, b, d, c', e1, b1, r⟩ := ev_sizes k hk hb
  exact ⟨a, b, d, c', call_box (st := c :: L) (n := 0) rfl (box_pl hb) rfl e1 rfl (box_pl b1) rfl, b1, r⟩
theorem text_ok {k : Nat} (hk : 2 ≤ k) {c : D} (hb : IsBox c) (L : Store) (many later : Int) (h0 : 0 < many ∧ many ≤ 10) (h1 : 0 < later ∧ later ≤ 10) : ∃ xs carry c', callIn (callF prog k) f__law_some_text [.ref 0, .int many, .int later] [0] false (c :: L) = .ok (Ev.text xs carry).d (c' :: L) ∧ IsBox c' ∧ (carry.length : Int) = many ∧ (∀ o ∈ carry, ∀ i, o = some i → 0 ≤ i ∧ i < later) ∧ okEv (.text xs carry) = true := by
  obtain ⟨xs, carry, c', e1, b1, r⟩ := ev_text k hk hb many later h0 h1
  exact ⟨xs, carry, c', call_box (st := c :: L) (n := 0) rfl (box_pl hb) rfl e1 rfl (box_pl b1) (ev_pure _), b1, r⟩
end K76

namespace K76
open PySem PyE
def szD (a b d : Int) : D := .tup [.int a, .int b, .int d]
def EvInv (j : Nat) (en : En) (st : Store) : Prop := ∃ c es a b d N0 x z, IsBox c ∧ GI es a N0 ∧ es.length = j ∧ (2 ≤ a ∧ a ≤ 4) ∧ (1 ≤ b ∧ b ≤ 4) ∧ (1 ≤ d ∧ d ≤ 2) ∧
  en = [some (.ref 0), some (.int 20), some (.bl true), x, some (.ref 1), some (szD a b d), z] ∧ st = [c, evsD false es]
theorem app_evs (c : D) (es : List Ev) (e : Ev) (h : es.length ≤ 100) : mtD .append (.ref 1) [e.d] [c, evsD false es] = .ok .non [c, evsD false (es ++ [e])] := by
  have := append_ok (st := [c, evsD false es]) (n := 1) (y := e.d) (ys := es.map Ev.d) rfl (by simp [line]; omega)
  rw [this]
  simp [evsD]
theorem mtTy_evs (es : List Ev) : mtTy .append (evsD false es) = true := rfl
theorem ev_step (k : Nat) (hk : 4 ≤ k) (x : D) (j : Nat) (en : En) (st : Store) (hj : j < 31) (h : EvInv j en st) : ∃ en' st', stepR (asT (callF prog k) (.name 3)) (evSs (callF prog k) b__law_events_0) [6, 3] 2 [] x en st = .ok en' st' ∧ EvInv (j + 1) en' st' := by
  obtain ⟨c, es, a, b, d, N0, x0, z, hb, hg, hl, ha, hbb, hd, rfl, rfl⟩ := h
  obtain ⟨t, c1, e1, b1, t0, t1⟩ := take_ok (k := k) (by omega) (st := [c, evsD false es]) (n := 0) rfl hb 8 (by decide) (by decide)
  have e1' : callIn (callF prog k) f__law_take [.ref 0, .int 8] [0] false [c, evsD false es] = .ok (.int t) [c1, evsD false es] := e1
  by_cases ht : t = 0
  · subst ht
    obtain ⟨a', b', d', c2, e2, b2, ha', hb', hd'⟩ := sizes_ok (k := k) (by omega) b1 [evsD false es]
    obtain ⟨xs, carry, c3, e3, b3, h1, h2, _⟩ := text_ok (k := k) (by omega) b2 [evsD false es] a a' (by omega) (by omega)
    have ap := app_evs c3 es (.text xs carry) (by omega)
    refine ⟨[some (.ref 0), some (.int 20), some (.bl true), none, some (.ref 1), some (szD a' b' d'), none], [c3, evsD false (es ++ [.text xs carry])], ?_, c3, es ++ [.text xs carry], a', b', d', N0, _, _, b3, hg.text xs carry a' (by omega) h1 h2, by simp [hl], ha', hb', hd', rfl, rfl⟩
    simp [stepR, b__law_events_0, e1', szD, e2, e3, ap, mtTy_evs]
  · obtain ⟨e, N1, c2, e2, b2, g2, _⟩ := event_ok (k := k) hk b1 hg (by omega) b d hbb hd
    have ap := app_evs c2 es e (by omega)
    refine ⟨[some (.ref 0), some (.int 20), some (.bl true), none, some (.ref 1), some (szD a b d), none], [c2, evsD false (es ++ [e])], ?_, c2, es ++ [e], a, b, d, N1, _, _, b2, g2, by simp [hl], ha, hbb, hd, rfl, rfl⟩
    simp only [szD]
    simp [stepR, b__law_events_0, e1', ht, e2, ap, mtTy_evs]
end K76

namespace K76
open PySem PyE
theorem GI.nil (a : Int) (h : 0 < a ∧ a ≤ 10) : GI [] a [] := by
  refine ⟨h, fun i e n hi => by simp at hi, fun G _ => ⟨[], rfl, rfl, fun _ h => (nomatch h)⟩, fun _ h => (nomatch h), fun c hc => ?_⟩
  have : c = 0 := by simpa using hc
  subst this
  rfl
theorem ev_events (k : Nat) (hk : 5 ≤ k) {c : D} (hb : IsBox c) : ∃ es a b d N0 c' r, callF prog k f__law_events [.ref 0, .int 20, .bl true] [c] = .ok (.tup [evsD true es, szD a b d]) (c' :: r) ∧ IsBox c' ∧ GI es a N0 ∧ es.length ≤ 30 ∧ (2 ≤ a ∧ a ≤ 4) ∧ (1 ≤ b ∧ b ≤ 4) ∧ (1 ≤ d ∧ d ≤ 2) := by
  obtain ⟨a, b, d, c1, e1, b1, ha, hbb, hd⟩ := sizes_ok (k := k - 1) (by omega) hb [.lst []]
  obtain ⟨t, c2, e2, b2, t0, t1⟩ := take_ok (k := k - 1) (by omega) (st := [c1, .lst []]) (n := 0) rfl b1 21 (by decide) (by decide)
  have e2' : callIn (callF prog (k - 1)) f__law_take [.ref 0, .int 21] [0] false [c1, .lst []] = .ok (.int t) [c2, .lst []] := e2
  have rg : rgOk t = true := by simp [rgOk]; omega
  have hlen : (rangeD 0 t.toNat).length ≤ 30 := by simp [rangeD]; omega
  obtain ⟨en', st', e3, c3, es, a', b', d', N0, x, z, b3, g3, hl, ha', hb', hd', rfl, rfl⟩ := for_ex (asg := asT (callF prog (k - 1)) (.name 3)) (body := evSs (callF prog (k - 1)) b__law_events_0) (ws := [6, 3]) (n := 2) (g := []) EvInv (rangeD 0 t.toNat) [some (.ref 0), some (.int 20), some (.bl true), none, some (.ref 1), some (szD a b d), none] [c2, .lst []]
    ⟨c2, [], a, b, d, [], _, _, b2, GI.nil a ⟨by omega, by omega⟩, rfl, ha, hbb, hd, rfl, rfl⟩
    (fun j x en st hx hi => ev_step (k - 1) (by omega) x j en st (by have := (List.getElem?_eq_some_iff.mp hx).1; omega) hi)
  refine ⟨es, a', b', d', N0, c3, [evsD false es], ?_, b3, g3, by omega, ha', hb', hd'⟩
  rw [callF_at p__law_events (by omega), run_at rfl]
  simp only [szD] at e3
  simp [c__law_events, e1, e2', rg, e3]
  rfl
end K76

namespace K76
open PySem PyE
def boxTail : Ss := (.cons (.asg (.name 3) (.ife (.cmp .ge (.var 2) (.bin .pow (.lit (.int 10)) (.lit (.int 18)))) (.var 2) (.lit (.int 0)))) (.cons (.ret (.mut (.list (.cons (.var 3) (.cons (.bin .add (.bin .mod (.bi .int (.cons (.bin .add (.bin .mul (.bin .mod (.bi .int (.cons (.var 2) .nil)) (.lit (.int 2147483563))) (.lit (.int 54250027))) (.bin .mul (.lit (.int 8101)) (.var 1))) .nil)) (.lit (.int 2147483563))) (.lit (.int 1))) .nil))))) .nil))
theorem box_body : c__law_box = ⟨2, 4, (.cons (.asg (.name 2) (.bin .add (.bin .mul (.lit (.int 27011)) (.var 1)) (.lit (.int 8101)))) (.cons (.ife (.cmp .lt (.var 1) (.bi .len (.cons (.var 0) .nil))) (.cons (.asg (.name 2) (.bi .abs (.cons (.bi .int (.cons (.ix (.var 0) (.var 1)) .nil)) .nil))) .nil) (.cons (.ife (.cmp .gt (.bi .len (.cons (.var 0) .nil)) (.lit (.int 0))) (.cons (.asg (.name 2) (.bin .add (.var 2) (.bin .mul (.bin .mod (.bi .int (.cons (.bi .abs (.cons (.bi .int (.cons (.ix (.var 0) (.bin .mod (.bi .int (.cons (.var 1) .nil)) (.bi .len (.cons (.var 0) .nil)))) .nil)) .nil)) .nil)) (.lit (.int 2147483563))) (.lit (.int 96137))))) .nil) .nil) .nil)) boxTail))⟩ := rfl
theorem pow18 (st : Store) : binD .pow (.int 10) (.int 18) st = .ok (.int 1000000000000000000) st := rfl
theorem ev_box (m : Nat) (ns : List Int) (hl : ns.length ≤ 63) (k : Nat) (hk : k < 6) : ∃ c, callF prog (m + 1) f__law_box [.lst (ns.map D.int), .int k] [] = .ok (.ref 0) [c] ∧ IsBox c := by
  have mul : ∀ (i j : Int) (st : Store), -18446744073709551616 < i → i < 18446744073709551616 → binD .mul (.int i) (.int j) st = .ok (.int (i * j)) st := fun i j st h1 h2 => bin_mul_int (.inl ⟨h1, h2⟩)
  have md : ∀ (i : Int) (st : Store), binD .mod (.int i) (.int 2147483563) st = .ok (.int (i % 2147483563)) st := fun i st => bin_mod_int (by decide)
  rw [callF_at p__law_box (by omega), run_at rfl]
  have tail : ∀ x : Int, (evSs (callF prog m) boxTail [some (.lst (ns.map D.int)), some (.int k), some (.int x), none] []) = .ok (.rt (.ref 0), [some (.lst (ns.map D.int)), some (.int k), some (.int x), some (.int (if x ≥ 1000000000000000000 then x else 0))]) [.lst [.int (if x ≥ 1000000000000000000 then x else 0), .int ((x % 2147483563 * 54250027 + 8101 * k) % 2147483563 + 1)]] := fun x => by
    have h1 := Int.emod_nonneg x (show (2147483563 : Int) ≠ 0 by decide)
    have h2 := Int.emod_lt_of_pos x (show (0 : Int) < 2147483563 by decide)
    have m1 := fun st => mul (x % 2147483563) 54250027 st (by omega) (by omega)
    have m2 := fun st => mul 8101 k st (by decide) (by decide)
    by_cases hx : x ≥ 1000000000000000000
    · simp [boxTail, md, pow18, m1, m2, hx]
    · simp [boxTail, md, pow18, m1, m2, hx]
  have out : ∀ x : Int, (∃ c, (evSs (callF prog m) boxTail [some (.lst (ns.map D.int)), some (.int k), some (.int x), none] []).bind (fun p s1 => match p.fst with
      | Fl.rt v => R.ok v s1
      | Fl.nx => R.ok D.non s1
      | _ => R.bad) = .ok (.ref 0) [c] ∧ IsBox c) := fun x => ⟨_, by rw [tail x]; rfl, _, _, rfl⟩
  have kk := fun st => mul 27011 (k : Int) st (by decide) (by decide)
  by_cases h : k < ns.length
  · have ha : L2.atI (ns.map D.int) (k : Int) = some (.int ns[k]) := by rw [atI_nn]; simp [h]
    obtain ⟨c, hc, hb⟩ := out (if ns[k] < 0 then -ns[k] else ns[k])
    refine ⟨c, ?_, hb⟩
    simp [box_body, kk, ha, h]
    exact hc
  · by_cases h0 : ns.length > 0
    · have hm : ((k : Int) % (ns.length : Int)) = ((k % ns.length : Nat) : Int) := rfl
      have hlt : k % ns.length < ns.length := Nat.mod_lt _ h0
      have ha : L2.atI (ns.map D.int) ((k : Int) % (ns.length : Int)) = some (.int ns[k % ns.length]) := by rw [hm, atI_nn]; simp [hlt]
      have m0 : ∀ st, binD .mod (.int (k : Int)) (.int (ns.length : Int)) st = .ok (.int ((k : Int) % (ns.length : Int))) st := fun st => bin_mod_int (by omega)
      generalize hy : (if ns[k % ns.length] < 0 then -ns[k % ns.length] else ns[k % ns.length]) = y
      have h1 := Int.emod_nonneg y (show (2147483563 : Int) ≠ 0 by decide)
      have h2 := Int.emod_lt_of_pos y (show (0 : Int) < 2147483563 by decide)
      have m1 := fun st => mul (y % 2147483563) 96137 st (by omega) (by omega)
      obtain ⟨c, hc, hb⟩ := out (27011 * k + 8101 + y % 2147483563 * 96137)
      refine ⟨c, ?_, hb⟩
      have h0' : 0 < ns.length := h0
      simp [box_body, kk, m0, ha, h, h0', hy, md, m1]
      exact hc
    · obtain ⟨c, hc, hb⟩ := out (27011 * k + 8101)
      refine ⟨c, ?_, hb⟩
      simp [box_body, kk, h, h0]
      exact hc
end K76

namespace K76
open PySem PyE
def okv : Nat → D → Bool
  | 0, _ => false
  | n + 1, .tup xs => decide (xs.length ≤ 100) && xs.all (okv n)
  | n + 1, .lst xs => decide (xs.length ≤ 100) && xs.all (okv n)
  | _ + 1, .int i => decide (-10 ≤ i) && decide (i ≤ 1000)
  | _ + 1, .str s => decide (s.length ≤ 1000) && (PyData.str s).canLay0
  | _ + 1, .non => true
  | _ + 1, .bl _ => true
  | _ + 1, _ => false
theorem okv_up : ∀ (n : Nat) (d : D), okv n d = true → okv (n + 1) d = true
  | 0, _, h => by cases h
  | n + 1, .tup xs, h => by
    simp only [okv, Bool.and_eq_true] at h ⊢
    exact ⟨h.1, List.all_eq_true.mpr fun x hx => okv_up n x (List.all_eq_true.mp h.2 x hx)⟩
  | n + 1, .lst xs, h => by
    simp only [okv, Bool.and_eq_true] at h ⊢
    exact ⟨h.1, List.all_eq_true.mpr fun x hx => okv_up n x (List.all_eq_true.mp h.2 x hx)⟩
  | n + 1, .int i, h => h
  | n + 1, .str i, h => h
  | n + 1, .non, h => h
  | n + 1, .bl _, h => h
  | n + 1, .dct _, h => by cases h
  | n + 1, .ref _, h => by cases h
  | n + 1, .fn _, h => by cases h
theorem okv_pure : ∀ (n : Nat) (d : D), okv n d = true → d.pure = true
  | 0, _, h => by cases h
  | n + 1, .tup xs, h => by
    simp only [okv, Bool.and_eq_true] at h
    simp only [D.pure]
    rw [pureL_iff]
    exact fun x hx => okv_pure n x (List.all_eq_true.mp h.2 x hx)
  | n + 1, .lst xs, h => by
    simp only [okv, Bool.and_eq_true] at h
    simp only [D.pure]
    rw [pureL_iff]
    exact fun x hx => okv_pure n x (List.all_eq_true.mp h.2 x hx)
  | n + 1, .int i, h => rfl
  | n + 1, .str i, h => rfl
  | n + 1, .non, h => rfl
  | n + 1, .bl _, h => rfl
  | n + 1, .dct _, h => by cases h
  | n + 1, .ref _, h => by cases h
  | n + 1, .fn _, h => by cases h
mutual
theorem okv_py : ∀ (n : Nat) (d : D), okv n d = true → ∃ p, d.py = some p ∧ p.canLay0 = true ∧ p.depth ≤ n
  | 0, _, h => by cases h
  | n + 1, .tup xs, h => by
    simp only [okv, Bool.and_eq_true] at h
    obtain ⟨ps, e, l, d⟩ := okv_pyL n xs h.2
    exact ⟨.tuple ps, by simp [D.py, e], by simp [PyData.canLay0, l], by simp [PyData.depth]; omega⟩
  | n + 1, .lst xs, h => by
    simp only [okv, Bool.and_eq_true] at h
    obtain ⟨ps, e, l, d⟩ := okv_pyL n xs h.2
    exact ⟨.list ps, by simp [D.py, e], by simp [PyData.canLay0, l], by simp [PyData.depth]; omega⟩
  | n + 1, .int i, h => ⟨.int i, rfl, by simp [PyData.canLay0], by simp [PyData.depth]⟩
  | n + 1, .str s, h => by
    simp only [okv, Bool.and_eq_true] at h
    exact ⟨.str s, rfl, h.2, by simp [PyData.depth]⟩
  | n + 1, .non, h => ⟨.none, rfl, by simp [PyData.canLay0], by simp [PyData.depth]⟩
  | n + 1, .bl b, h => ⟨.bool b, rfl, by simp [PyData.canLay0], by simp [PyData.depth]⟩
  | n + 1, .dct _, h => by cases h
  | n + 1, .ref _, h => by cases h
  | n + 1, .fn _, h => by cases h
theorem okv_pyL : ∀ (n : Nat) (xs : List D), xs.all (okv n) = true → ∃ ps, D.pyL xs = some ps ∧ PyData.canLayAll0 ps = true ∧ PyData.depthAll ps ≤ n
  | n, [], _ => ⟨[], rfl, by simp [PyData.canLayAll0], by simp [PyData.depthAll]⟩
  | n, x :: xs, h => by
    simp only [List.all_cons, Bool.and_eq_true] at h
    obtain ⟨p, e1, l1, d1⟩ := okv_py n x h.1
    obtain ⟨ps, e2, l2, d2⟩ := okv_pyL n xs h.2
    exact ⟨p :: ps, by simp [D.pyL, e1, e2], by simp [PyData.canLayAll0, l1, l2], by simp [PyData.depthAll]; omega⟩
end
theorem okv_shaped {n : Nat} {d : D} (h : okv n d = true) (hn : n ≤ 20) : ∃ p, d.py = some p ∧ SeqAt.shaped p = true := by
  obtain ⟨p, e, l, dd⟩ := okv_py n d h
  refine ⟨p, e, ?_⟩
  simp [SeqAt.shaped, l]; omega
theorem vw_okv {n : Nat} {d : D} (h : okv n d = true) (st : Store) : view st d = d := by
  cases n with
  | zero => cases h
  | succ n => cases d <;> first | rfl | cases h
/-- a tuple against the empty one -/
theorem eq_tup0 {n : Nat} {xs : List D} (h : okv n (.tup xs) = true) (hn : n ≤ 20) (st : Store) : cmpD .eq (.tup xs) (.tup []) st = .ok (.bl xs.isEmpty) st := by
  obtain ⟨p, e, s⟩ := okv_shaped h hn
  have s0 : SeqAt.shaped (.tuple []) = true := by simp [SeqAt.shaped, PyData.canLay0, PyData.canLayAll0, PyData.depth, PyData.depthAll]
  simp only [D.py, Option.map_eq_some_iff] at e
  obtain ⟨ps, e, rfl⟩ := e
  cases xs with
  | nil =>
    cases e
    simp [cmpD, cmpB, eqD, view, eqG, D.py, D.pyL, s0, PyData.eqv, PyData.eqvAll, opt]
  | cons x xs =>
    obtain ⟨q, qs, rfl⟩ : ∃ q qs, ps = q :: qs := by
      simp only [D.pyL, Option.bind_eq_some_iff, Option.map_eq_some_iff] at e
      obtain ⟨a, _, b, _, rfl⟩ := e
      exact ⟨a, b, rfl⟩
    have e' : D.py (.tup (x :: xs)) = some (.tuple (q :: qs)) := by simp [D.py, e]
    simp [cmpD, cmpB, eqD, view, eqG, e', s, s0, D.py, D.pyL, PyData.eqv, PyData.eqvAll, opt]
theorem eq_other0 {n : Nat} {d : D} (h : okv n d = true) (hn : n ≤ 20) (ht : ∀ xs, d ≠ .tup xs) (st : Store) : ∃ b, cmpD .eq d (.tup []) st = .ok (.bl b) st := by
  obtain ⟨p, e, s⟩ := okv_shaped h hn
  have s0 : SeqAt.shaped (.tuple []) = true := by simp [SeqAt.shaped, PyData.canLay0, PyData.canLayAll0, PyData.depth, PyData.depthAll]
  refine ⟨PyData.eqv p (.tuple []), ?_⟩
  have hv := vw_okv h st
  have : eqD st d (.tup []) = eqG st d (.tup []) := by
    unfold eqD
    rw [hv]
    cases d <;> rfl
  have hG : eqG st d (.tup []) = some (PyData.eqv p (.tuple [])) := by
    unfold eqG
    rw [hv, e]
    show (match some p, D.py (.tup []) with | some a, some b => if SeqAt.shaped a = true ∧ SeqAt.shaped b = true then some (PyData.eqv a b) else none | _, _ => none) = _
    simp [D.py, D.pyL, s, s0]
  simp [cmpD, cmpB, this, hG, opt]
/-- a row with a word ahead against that of one word -/
theorem eq_word {n : Nat} {w t : Str} {r : List D} (h : okv n (.tup (.str w :: r)) = true) (hn : n ≤ 20) (ht : (PyData.str t).canLay0 = true) (st : Store) : cmpD .eq (.tup (.str w :: r)) (.tup [.str t]) st = .ok (.bl (decide (w = t) && r.isEmpty)) st := by
  obtain ⟨p, e, s⟩ := okv_shaped h hn
  have s0 : SeqAt.shaped (.tuple [.str t]) = true := by
    have : PyData.canLayAll0 [PyData.str t] = true := by simp only [PyData.canLayAll0, ht, Bool.and_true]
    simp [SeqAt.shaped, PyData.canLay0, this, PyData.depth, PyData.depthAll]
  simp only [D.py, Option.map_eq_some_iff, D.pyL, Option.bind_eq_some_iff] at e
  obtain ⟨ps, ⟨a, ha, b, hb, rfl⟩, rfl⟩ := e
  cases ha
  have e' : D.py (.tup (.str w :: r)) = some (.tuple (.str w :: b)) := by simp [D.py, D.pyL, hb]
  have e0 : D.py (.tup [.str t]) = some (.tuple [.str t]) := by simp [D.py, D.pyL]
  have hr : b.isEmpty = r.isEmpty := by
    cases r with
    | nil => cases hb; rfl
    | cons x xs =>
      simp only [D.pyL, Option.bind_eq_some_iff, Option.map_eq_some_iff] at hb
      obtain ⟨_, _, _, _, rfl⟩ := hb
      rfl
  have hq : PyData.eqv (.tuple (.str w :: b)) (.tuple [.str t]) = (decide (w = t) && r.isEmpty) := by
    rw [← hr]
    cases b <;> simp [PyData.eqv, PyData.eqvAll]
    rw [Bool.eq_iff_iff]; simp
  simp [cmpD, cmpB, eqD, view, eqG, e', e0, s, s0, hq, opt]
def isNum (lo : Int) (hi : Option Int) : D → Bool
  | .int i => decide (lo ≤ i) && (match hi with
    | none => true
    | some h => decide (i ≤ h))
  | _ => false
def isTup (many : Option Int) : D → Bool
  | .tup xs => (match many with
    | none => true
    | some m => decide ((xs.length : Int) = m))
  | _ => false
theorem okv_pl {n : Nat} {d : D} (h : okv n d = true) : isPl d = true := by
  cases n with
  | zero => cases h
  | succ n => cases d <;> first | rfl | cases h
theorem ev_is_int (k : Nat) (hk : 1 ≤ k) {n : Nat} (d : D) (h : okv n d = true) : callF prog k f_is_int [d] [] = .ok (.bl (match d with | .int _ => true | _ => false)) [] := by
  have hp := okv_pl h
  have hv := vw_okv h []
  rw [callF_at p_is_int (by omega), run_at rfl]
  cases d <;> simp [c_is_int, hp, hv, isTy, isPl] <;> first | (cases n <;> cases h; done) | skip
theorem cl_is_int {k : Nat} (hk : 1 ≤ k) {n : Nat} (d : D) (h : okv n d = true) (st : Store) : callIn (callF prog k) f_is_int [d] [] false st = .ok (.bl (match d with | .int _ => true | _ => false)) st :=
  call_pure (by simp [okv_pure n d h]) (ev_is_int k hk d h) rfl
theorem ev_is_number (k : Nat) (hk : 2 ≤ k) {n : Nat} (d : D) (h : okv n d = true) (lo : Int) (hi : Option Int) : callF prog k f_is_number [d, .int lo, oD hi] [] = .ok (.bl (isNum lo hi d)) [] := by
  have c := cl_is_int (k := k - 1) (by omega) d h
  rw [callF_at p_is_number (by omega), run_at rfl]
  cases d with
  | int i =>
    by_cases h1 : lo ≤ i
    · cases hi with
      | none => simp [c_is_number, c, isNum, h1]
      | some m => simp [c_is_number, c, isNum, h1]
    · simp [c_is_number, c, isNum, h1]
  | _ => simp [c_is_number, c, isNum]
theorem cl_is_number {k : Nat} (hk : 2 ≤ k) {n : Nat} (d : D) (h : okv n d = true) (lo : Int) (hi : Option Int) (st : Store) : callIn (callF prog k) f_is_number [d, .int lo, oD hi] [] false st = .ok (.bl (isNum lo hi d)) st :=
  call_pure (by simp [okv_pure n d h, oD_pure]; rfl) (ev_is_number k hk d h lo hi) rfl
theorem ev_is_tuple (k : Nat) (hk : 1 ≤ k) {n : Nat} (d : D) (h : okv n d = true) (m : Option Int) : callF prog k f_is_tuple [d, oD m] [] = .ok (.bl (isTup m d)) [] := by
  have hp := okv_pl h
  rw [callF_at p_is_tuple (by omega), run_at rfl]
  cases d <;> cases m <;> simp [c_is_tuple, hp, isTy, isPl, isTup] <;> first | (cases n <;> cases h; done) | skip
theorem cl_is_tuple {k : Nat} (hk : 1 ≤ k) {n : Nat} (d : D) (h : okv n d = true) (m : Option Int) (st : Store) : callIn (callF prog k) f_is_tuple [d, oD m] [] false st = .ok (.bl (isTup m d)) st :=
  call_pure (by simp [okv_pure n d h, oD_pure]) (ev_is_tuple k hk d h m) rfl
end K76

namespace PyE
open PySem
theorem fold_D {F : D → List D → Store → R (List D)} {st : Store} {β : Type} (out : β → D) (f : D → Option β) (mem : D → Prop)
    (h : ∀ x acc, mem x → acc.length < line → F x acc st = .ok (addO out acc (f x)) st) (xs : List D) (hm : ∀ x ∈ xs, mem x) (hl : xs.length ≤ line) : foldR F xs [] st = .ok ((xs.filterMap f).map out) st := by
  have := fold_map (F := F) (st := st) (fun x : D => x) out f mem h xs [] hm (by simpa using hl)
  simpa using this
theorem zips_map {α β : Type} (f : α → D) (g : β → D) : ∀ (xs : List α) (ys : List β), zips (xs.map f) (ys.map g) = (xs.zip ys).map fun p => .tup [f p.1, g p.2]
  | [], _ => rfl
  | _ :: _, [] => rfl
  | x :: xs, y :: ys => by
    show D.tup [f x, g y] :: zips (xs.map f) (ys.map g) = _
    rw [zips_map f g xs ys]; rfl
theorem blsOf_map : ∀ bs : List Bool, blsOf (bs.map D.bl) = some bs
  | [] => rfl
  | b :: bs => by simp [blsOf, blsOf_map bs]
theorem bi_all_bls (bs : List Bool) (st : Store) : biD .all [.lst (bs.map D.bl)] st = .ok (.bl (bs.all id)) st := by
  show opt (blsB (fun bs => some (.bl (bs.all id))) (.lst (bs.map D.bl))) st = _
  simp [blsB, blsOf_map, opt]
theorem len_none {p : D → Bool} (xs : List D) : decide ((((xs.filterMap fun x => if p x = true then none else some x).length : Nat) : Int) = 0) = xs.all p := by
  induction xs with
  | nil => rfl
  | cons x xs ih =>
    cases h : p x with
    | true => rw [List.filterMap_cons_none (by rw [h]; rfl), ih, List.all_cons, h]; rfl
    | false =>
      rw [List.filterMap_cons_some (by rw [h]; rfl), List.all_cons, h]
      simp; omega
end PyE
namespace K76
open PySem PyE
theorem okv_mem {n : Nat} {xs : List D} (h : okv (n + 1) (.tup xs) = true) : xs.length ≤ 100 ∧ ∀ x ∈ xs, okv n x = true := by
  simp only [okv, Bool.and_eq_true, decide_eq_true_eq] at h
  exact ⟨h.1, fun x hx => List.all_eq_true.mp h.2 x hx⟩
theorem ev_is_numbers (k : Nat) (hk : 3 ≤ k) {n : Nat} {xs : List D} (h : okv (n + 1) (.tup xs) = true) (m lo : Int) (hi : Option Int) : callF prog k f_is_numbers [.tup xs, .int m, .int lo, oD hi] [] = .ok (.bl (decide ((xs.length : Int) = m) && xs.all (isNum lo hi))) [] := by
  obtain ⟨hl, hm⟩ := okv_mem h
  have c := cl_is_tuple (k := k - 1) (by omega) (.tup xs) h (some m)
  simp only [oD_some] at c
  rw [callF_at p_is_numbers (by omega), run_at rfl]
  by_cases hq : (xs.length : Int) = m
  · have cx : evE (callF prog (k - 1)) (.lc [4] (.name 4) (.val (.var 0)) (.some (.not (.call f_is_number (.cons (.var 4) (.cons (.var 2) (.cons (.var 3) .nil))) [] false))) (.var 4)) [some (.tup xs), some (.int m), some (.int lo), some (oD hi), none] [] = .ok (.lst (xs.filterMap fun x => if isNum lo hi x = true then none else some x)) [] := by
      simp
      rw [fold_D id (fun x => if isNum lo hi x = true then none else some x) (fun x => x ∈ xs) ?hh xs (fun _ h => h) (by simp [line]; omega)]
      · simp
      · intro x acc hx hl
        have hl' : acc.length < 16777216 := hl
        have c2 := cl_is_number (k := k - 1) (by omega) x (hm x hx) lo hi
        cases hn : isNum lo hi x <;> simp [c2, hn, line, hl']
    have ln := len_none (p := isNum lo hi) xs
    generalize (xs.filterMap fun x => if isNum lo hi x = true then none else some x) = ys at cx ln
    simp [c_is_numbers, -e_evE_lc, c, isTup, hq, cx, ← ln]
  · simp [c_is_numbers, -e_evE_lc, c, isTup, hq]
theorem cl_is_numbers {k : Nat} (hk : 3 ≤ k) {n : Nat} {xs : List D} (h : okv (n + 1) (.tup xs) = true) (m lo : Int) (hi : Option Int) (st : Store) : callIn (callF prog k) f_is_numbers [.tup xs, .int m, .int lo, oD hi] [] false st = .ok (.bl (decide ((xs.length : Int) = m) && xs.all (isNum lo hi))) st :=
  call_pure (by simp [okv_pure _ _ h, oD_pure]; exact ⟨rfl, rfl⟩) (ev_is_numbers k hk h m lo hi) rfl
def toI : D → Int
  | .int i => i
  | _ => 0
def ascI (ns : List Int) : Bool := (ns.zip (ns.drop 1)).all fun p => decide (p.1 < p.2)
def isLot (most : Int) : D → Bool
  | .tup xs => xs.all (isNum 0 (some most)) && ascI (xs.map toI)
  | _ => false
theorem nums_ints {lo : Int} {hi : Option Int} : ∀ {xs : List D}, xs.all (isNum lo hi) = true → xs = (xs.map toI).map D.int
  | [], _ => rfl
  | x :: xs, h => by
    simp only [List.all_cons, Bool.and_eq_true] at h
    have ih := nums_ints h.2
    cases x <;> first | (cases h.1; done) | skip
    rw [List.map_cons, List.map_cons, ← ih]; rfl
theorem all_map_id {α : Type} (f : α → Bool) (l : List α) : (l.map f).all id = l.all f := by
  induction l with
  | nil => rfl
  | cons a l ih => simp [ih]
theorem ev_is_lot (k : Nat) (hk : 4 ≤ k) {n : Nat} (v : D) (h : okv n v = true) (most : Int) : callF prog k f_is_lot [v, .int most] [] = .ok (.bl (isLot most v)) [] := by
  rw [callF_at p_is_lot (by omega), run_at rfl]
  have c := cl_is_tuple (k := k - 1) (by omega) v h none
  simp only [oD_none] at c
  by_cases ht : ∃ xs, v = .tup xs
  · obtain ⟨xs, rfl⟩ := ht
    obtain ⟨n, rfl⟩ : ∃ m, n = m + 1 := by cases n with | zero => cases h | succ m => exact ⟨m, rfl⟩
    obtain ⟨hl, hm⟩ := okv_mem h
    have c2 := cl_is_numbers (k := k - 1) (by omega) h (xs.length : Nat) 0 (some most)
    simp only [oD_some] at c2
    cases hx : xs.all (isNum 0 (some most)) with
    | false =>
      rw [hx] at c2
      simp [c_is_lot, c, isTup, c2, isLot, hx]
    | true =>
      rw [hx] at c2
      have e := nums_ints hx
      have hg : isLot most (.tup xs) = ascI (xs.map toI) := by simp [isLot, hx]
      rw [hg]
      generalize xs.map toI = ns at e
      subst e
      have hnl : ns.length ≤ 100 := by simpa using hl
      have cx : ∀ st, evE (callF prog (k - 1)) (.lc [2, 3] (.tup (.cons (.name 2) (.cons (.name 3) .nil))) (.zip (.var 0) (.sl (.var 0) (.some (.lit (.int 1))) .none)) .none (.cmp .lt (.var 2) (.var 3))) [some (.tup (ns.map D.int)), some (.int most), none, none] st = .ok (.lst (((ns.zip (ns.drop 1)).map fun p => decide (p.1 < p.2)).map D.bl)) st := fun st => by
        have s1 : ∀ st, slB (.tup (ns.map D.int)) (some 1) none st = some (.tup ((ns.drop 1).map D.int)) := fun st => by rw [sl_drop _ _ (by decide), List.map_drop]; rfl
        have vt : ∀ st, view st (.tup ((ns.drop 1).map D.int)) = .tup ((ns.drop 1).map D.int) := fun _ => rfl
        rw [e_evE_lc, e_evI_zip]
        simp only [e_evE_var, e_evE_sl, e_evO_some, e_evO_none, e_evE_lit, List.getElem?_cons_zero, rb_ok, s1, opt_some, vw_tup, zips_map]
        rw [fold_map (fun p : Int × Int => D.tup [.int p.1, .int p.2]) D.bl (fun p => some (decide (p.1 < p.2))) (fun _ => True) ?hh (ns.zip (ns.drop 1)) [] (fun _ _ => trivial) (by simp [line]; omega)]
        · simp
        · intro p acc _ hl
          have hl' : acc.length < 16777216 := hl
          simp [line, hl']
      have ba := fun st => bi_all_bls ((ns.zip (ns.drop 1)).map fun p => decide (p.1 < p.2)) st
      rw [all_map_id] at ba
      generalize ((ns.zip (ns.drop 1)).map fun p => decide (p.1 < p.2)).map D.bl = ys at cx ba
      have hlen : ∀ st, biD .len [.tup (ns.map D.int)] st = .ok (.int ((ns.map D.int).length : Nat)) st := fun _ => rfl
      generalize ns.map D.int = xs at *
      simp [c_is_lot, -e_evE_lc, c, isTup, c2, cx, ba, ascI]
  · have hb : isTup none v = false := by cases v <;> first | rfl | exact absurd ⟨_, rfl⟩ ht
    have hb2 : isLot most v = false := by cases v <;> first | rfl | exact absurd ⟨_, rfl⟩ ht
    simp [c_is_lot, c, hb, hb2]
theorem cl_is_lot {k : Nat} (hk : 4 ≤ k) {n : Nat} (v : D) (h : okv n v = true) (most : Int) (st : Store) : callIn (callF prog k) f_is_lot [v, .int most] [] false st = .ok (.bl (isLot most v)) st :=
  call_pure (by simp [okv_pure _ _ h]; rfl) (ev_is_lot k hk v h most) rfl
def SG : Str := Str.ofString " !\"#$&'()*+,-./0123456789:;<=>?@ABCDEFGHIJKLMNOPQRSTUVWXYZ[\\]^_`abcdefghijklmnopqrstuvwxyz{|}~"
def inS (c : Nat) : Bool := !(Builtin.Str.occurrences SG ⟨#[c]⟩ 0 SG.length 1).isEmpty
theorem in_SG (c : Nat) (st : Store) : cmpD .in_ (.str ⟨#[c]⟩) (.str SG) st = .ok (.bl (inS c)) st := rfl
theorem notin_SG (c : Nat) (st : Store) : cmpD .notin (.str ⟨#[c]⟩) (.str SG) st = .ok (.bl (!inS c)) st := rfl
def isWr : D → Bool
  | .str s => s.cps.toList.all inS
  | _ => false
theorem c_written : c_is_written = ⟨1, 2, (.cons (.ret (.and (.isi (.var 0) [.str]) (.bi .all (.cons (.lc [1] (.name 1) (.val (.var 0)) .none (.cmp .in_ (.var 1) (.lit (.str SG)))) .nil)))) .nil)⟩ := rfl
theorem ev_is_written (k : Nat) (hk : 1 ≤ k) {n : Nat} (v : D) (h : okv n v = true) : callF prog k f_is_written [v] [] = .ok (.bl (isWr v)) [] := by
  have hp := okv_pl h
  have hv := vw_okv h []
  rw [callF_at p_is_written (by omega), run_at rfl, c_written]
  by_cases hs : ∃ s, v = .str s
  · obtain ⟨s, rfl⟩ := hs
    have hsl : s.cps.toList.length ≤ 1000 := by
      cases n with
      | zero => cases h
      | succ n =>
        simp only [okv, Bool.and_eq_true, decide_eq_true_eq] at h
        have := h.1
        simpa [Str.length] using this
    have cx : evE (callF prog (k - 1)) (.lc [1] (.name 1) (.val (.var 0)) .none (.cmp .in_ (.var 1) (.lit (.str SG)))) [some (.str s), none] [] = .ok (.lst ((s.cps.toList.map inS).map D.bl)) [] := by
      have it : ∀ st, iterOf st (.str s) = some (s.cps.toList.map (fun c => D.str ⟨#[c]⟩), []) := fun _ => rfl
      rw [e_evE_lc, e_evI_val]
      simp only [e_evE_var, List.getElem?_cons_zero, rb_ok, it, opt_some]
      rw [fold_map (fun c : Nat => D.str ⟨#[c]⟩) D.bl (fun c => some (inS c)) (fun _ => True) ?hh s.cps.toList [] (fun _ _ => trivial) (by simp [line] at *; omega)]
      · simp
      · intro c acc _ hl
        have hl' : acc.length < 16777216 := hl
        simp [in_SG, line, hl']
    have ba := fun st => bi_all_bls (s.cps.toList.map inS) st
    rw [all_map_id] at ba
    generalize (s.cps.toList.map inS).map D.bl = ys at cx ba
    simp [-e_evE_lc, isPl, isTy, cx, ba, isWr]
  · have hb : isWr v = false := by cases v <;> first | rfl | exact absurd ⟨_, rfl⟩ hs
    have ht : isTy v .str = false := by cases v <;> first | rfl | exact absurd ⟨_, rfl⟩ hs
    simp [-e_evE_lc, hv, hp, ht, hb]
theorem cl_is_written {k : Nat} (hk : 1 ≤ k) {n : Nat} (v : D) (h : okv n v = true) (st : Store) : callIn (callF prog k) f_is_written [v] [] false st = .ok (.bl (isWr v)) st :=
  call_pure (by simp [okv_pure _ _ h]) (ev_is_written k hk v h) rfl
end K76

namespace K76
open PySem PyE
def allNum : D → Bool
  | .tup l => l.all (isNum 0 none)
  | _ => false
def carryOkB (a : Int) : D → Bool
  | .tup l => decide ((l.length : Int) = a) && l.all fun x => isNon x || isNum 0 none x
  | _ => false
def textB (a : Int) : List D → Bool
  | [w1, w2, xs, cs] => isWr w1 && (isWr w2 && (allNum xs && carryOkB a cs))
  | _ => false
theorem okv_el {n : Nat} {xs : List D} (h : okv (n + 1) (.tup xs) = true) {i : Nat} {x : D} (hx : xs[i]? = some x) : okv n x = true := (okv_mem h).2 x (List.mem_of_getElem? hx)
theorem ev_text_event (k : Nat) (hk : 4 ≤ k) {n : Nat} {w : D} {r : List D} (h : okv (n + 1) (.tup (w :: r)) = true) (a : Int) : callF prog k f_is_text_event [.int a, .tup (w :: r)] [] = .ok (.bl (textB a r)) [] := by
  rw [callF_at p_is_text_event (by omega), run_at rfl]
  have c := cl_is_tuple (k := k - 1) (by omega) _ h (some 5)
  simp only [oD_some] at c
  by_cases h5 : r.length = 4
  · obtain ⟨w1, w2, xs, cs, rfl⟩ : ∃ a b c d, r = [a, b, c, d] := by
      rcases r with _ | ⟨q1, _ | ⟨q2, _ | ⟨q3, _ | ⟨q4, _ | ⟨q5, r⟩⟩⟩⟩⟩ <;> first | (simp at h5; done) | exact ⟨q1, q2, q3, q4, rfl⟩
    have k1 := okv_el h (i := 1) rfl
    have k2 := okv_el h (i := 2) rfl
    have k3 := okv_el h (i := 3) rfl
    have k4 := okv_el h (i := 4) rfl
    have w1c := cl_is_written (k := k - 1) (by omega) w1 k1
    have w2c := cl_is_written (k := k - 1) (by omega) w2 k2
    have t3 := cl_is_tuple (k := k - 1) (by omega) xs k3 none
    have t4 := cl_is_tuple (k := k - 1) (by omega) cs k4 (some a)
    simp only [oD_some, oD_none] at t3 t4
    have i1 : ∀ st, ixD (.tup [w, w1, w2, xs, cs]) (.int 1) st = .ok w1 st := fun _ => rfl
    have i2 : ∀ st, ixD (.tup [w, w1, w2, xs, cs]) (.int 2) st = .ok w2 st := fun _ => rfl
    have i3 : ∀ st, ixD (.tup [w, w1, w2, xs, cs]) (.int 3) st = .ok xs st := fun _ => rfl
    have i4 : ∀ st, ixD (.tup [w, w1, w2, xs, cs]) (.int 4) st = .ok cs st := fun _ => rfl
    have c5 : isTup (some 5) (.tup [w, w1, w2, xs, cs]) = true := rfl
    rw [c5] at c
    generalize hV : D.tup [w, w1, w2, xs, cs] = V at *
    cases e1 : isWr w1 with
    | false => simp [c_is_text_event, -e_evE_lc, c, i1, w1c, e1, textB]
    | true =>
      cases e2 : isWr w2 with
      | false => simp [c_is_text_event, -e_evE_lc, c, i1, i2, w1c, w2c, e1, e2, textB]
      | true =>
        by_cases hx : ∃ l, xs = .tup l
        · obtain ⟨l, rfl⟩ := hx
          obtain ⟨n', rfl⟩ : ∃ m, n = m + 1 := by cases n with | zero => cases k3 | succ m => exact ⟨m, rfl⟩
          have nm := cl_is_numbers (k := k - 1) (by omega) k3 (l.length : Nat) 0 none
          simp only [oD_none] at nm
          have l3 : ∀ st, biD .len [.tup l] st = .ok (.int (l.length : Nat)) st := fun _ => rfl
          cases e3 : l.all (isNum 0 none) with
          | false => simp [c_is_text_event, -e_evE_lc, c, i1, i2, i3, w1c, w2c, e1, e2, t3, isTup, nm, e3, textB, allNum]
          | true =>
            by_cases hc : ∃ m, cs = .tup m
            · obtain ⟨m, rfl⟩ := hc
              obtain ⟨ml, mm⟩ := okv_mem k4
              by_cases hm : (m.length : Int) = a
              · have cx : evE (callF prog (k - 1)) (.lc [2] (.name 2) (.val (.ix (.var 1) (.lit (.int 4)))) .none (.or (.cmp .is (.var 2) (.lit .non)) (.call f_is_number (.cons (.var 2) (.cons (.lit (.int 0)) (.cons (.lit .non) .nil))) [] false))) [some (.int a), some V, none] [] = .ok (.lst ((m.map fun x => isNon x || isNum 0 none x).map D.bl)) [] := by
                  rw [e_evE_lc, e_evI_val]
                  simp [i4]
                  rw [fold_D D.bl (fun x => some (isNon x || isNum 0 none x)) (fun x => x ∈ m) ?hh m (fun _ h => h) (by simp [line]; omega)]
                  · simp
                  · intro x acc hx hl
                    have hl' : acc.length < 16777216 := hl
                    have cn := cl_is_number (k := k - 1) (by omega) x (mm x hx) 0 none
                    simp only [oD_none] at cn
                    cases hz : isNon x <;> simp [hz, cn, line, hl']
                have ba := fun st => bi_all_bls (m.map fun x => isNon x || isNum 0 none x) st
                rw [all_map_id] at ba
                generalize (m.map fun x => isNon x || isNum 0 none x).map D.bl = ys at cx ba
                simp [c_is_text_event, -e_evE_lc, c, i1, i2, i3, i4, w1c, w2c, e1, e2, t3, t4, isTup, nm, e3, hm, cx, ba, textB, allNum, carryOkB]
              · simp [c_is_text_event, -e_evE_lc, c, i1, i2, i3, i4, w1c, w2c, e1, e2, t3, t4, isTup, nm, e3, hm, textB, allNum, carryOkB]
            · have hb : isTup (some a) cs = false := by cases cs <;> first | rfl | exact absurd ⟨_, rfl⟩ hc
              have hb2 : carryOkB a cs = false := by cases cs <;> first | rfl | exact absurd ⟨_, rfl⟩ hc
              rw [hb] at t4
              have hi : isTup none (.tup l) = true := rfl
              rw [hi] at t3
              simp [c_is_text_event, -e_evE_lc, c, i1, i2, i3, i4, w1c, w2c, e1, e2, t3, t4, nm, e3, textB, allNum, hb2]
        · have hb : isTup none xs = false := by cases xs <;> first | rfl | exact absurd ⟨_, rfl⟩ hx
          have hb2 : allNum xs = false := by cases xs <;> first | rfl | exact absurd ⟨_, rfl⟩ hx
          simp [c_is_text_event, -e_evE_lc, c, i1, i2, i3, w1c, w2c, e1, e2, t3, hb, hb2, textB]
  · have hb : isTup (some 5) (.tup (w :: r)) = false := by
      simp [isTup]; omega
    have hb2 : textB a r = false := by
      rcases r with _ | ⟨q1, _ | ⟨q2, _ | ⟨q3, _ | ⟨q4, _ | ⟨q5, r⟩⟩⟩⟩⟩ <;> first | rfl | (simp at h5; done)
    rw [hb] at c
    simp [c_is_text_event, -e_evE_lc, c, hb2]
theorem cl_text_event {k : Nat} (hk : 4 ≤ k) {n : Nat} {w : D} {r : List D} (h : okv (n + 1) (.tup (w :: r)) = true) (a : Int) (st : Store) : callIn (callF prog k) f_is_text_event [.int a, .tup (w :: r)] [] false st = .ok (.bl (textB a r)) st :=
  call_pure (by simp [okv_pure _ _ h]; rfl) (ev_text_event k hk h a) rfl
theorem maxL_shift : ∀ (ns : List Int) (m : Int), maxL (m + 1) (ns.map (· + 1)) = maxL m ns + 1
  | [], _ => rfl
  | n :: ns, m => by
    show maxL (if n + 1 > m + 1 then n + 1 else m + 1) (ns.map (· + 1)) = maxL (if n > m then n else m) ns + 1
    by_cases h : n > m
    · rw [if_pos (by omega), if_pos h, maxL_shift ns]
    · rw [if_neg (by omega), if_neg h, maxL_shift ns]
def posS1 (es : List Ev) : List Int := (posSettle es).map (· + 1)
theorem ev_last_settle (k : Nat) (hk : 1 ≤ k) (es : List Ev) (hl : es.length ≤ 1000) : callF prog k f_last_of [evsD true es, .str (Str.ofString "settle")] [] = .ok (.int (lastSettle es + 1)) [] := by
  rw [callF_at p_last_of (by omega), run_at rfl]
  have fm : ∀ {F : D → List D → Store → R (List D)} (h : ∀ (p : Ev × Nat) (acc : List D), acc.length < line → F (.tup [.int (p.2 : Int), p.1.d]) acc [] = .ok (addO D.int acc (match p.1 with | .settle => some ((p.2 : Int) + 1) | _ => none)) []), foldR F (pairs 0 (es.map Ev.d)) [] [] = .ok ((posS1 es).map D.int) [] := fun {F} h => by
    rw [pairs_map, fold_map (fun p : Ev × Nat => .tup [.int (p.2 : Int), p.1.d]) D.int (fun p => match p.1 with | .settle => some ((p.2 : Int) + 1) | _ => none) (fun _ => True) (fun x acc _ hl => h x acc hl) _ [] (fun _ _ => trivial) (by simp [line]; omega)]
    have : ∀ l : List (Ev × Nat), (l.filterMap fun p => match p.1 with | Ev.settle => some ((p.2 : Int) + 1) | _ => none) = (l.filterMap fun p => match p.1 with | Ev.settle => some (p.2 : Int) | _ => none).map (· + 1) := fun l => by
      induction l with
      | nil => rfl
      | cons p l ih =>
        obtain ⟨e, i⟩ := p
        cases e <;> simp [ih]
    rw [this]; rfl
  have hp : (posS1 es).length ≤ 1000 := by
    unfold posS1 posSettle
    rw [List.length_map]
    exact Nat.le_trans (List.length_filterMap_le _ _) (by simpa using hl)
  have ad : ∀ st, binD .add (.lst [.int 0]) (.lst ((posS1 es).map D.int)) st = .ok (.lst (.int 0 :: (posS1 es).map D.int)) st := fun st => bin_add_lst (by simp [line]; omega)
  have mx : maxL 0 (posS1 es) = lastSettle es + 1 := by
    have := maxL_shift (posSettle es) (-1)
    rw [show (-1 : Int) + 1 = 0 from rfl] at this
    exact this
  simp [c_last_of]
  rw [fm ?h2]
  · simp [ad, bi_max_ints, mx]
  · intro p acc hl
    have hl' : acc.length < 16777216 := hl
    obtain ⟨e, i⟩ := p
    cases e <;> simp [Ev.d, line, hl']
theorem cl_last_settle {k : Nat} (hk : 1 ≤ k) (es : List Ev) (hl : es.length ≤ 1000) (st : Store) : callIn (callF prog k) f_last_of [evsD true es, .str (Str.ofString "settle")] [] false st = .ok (.int (lastSettle es + 1)) st :=
  call_pure (by simp [evs_pure]; rfl) (ev_last_settle k hk es hl) rfl
def isTaken : Ev → Bool
  | .behind _ _ => true
  | .away _ => true
  | .instead _ _ => true
  | .fact _ _ => true
  | _ => false
theorem mem_lawBacks (es : List Ev) (i : Int) : i ∈ lawBacks es ↔ ∃ (n : Nat) (e : Ev), i = (n : Int) ∧ es[n]? = some e ∧ lastSettle es < i ∧ i ∉ backs es ∧ isTaken e = true := by
  unfold lawBacks
  rw [List.mem_filterMap]
  constructor
  · rintro ⟨⟨e, n⟩, hp, h⟩
    have hg : es[n]? = some e := by
      have := List.mem_zipIdx_iff_getElem?.mp hp
      simpa using this
    unfold backable at h
    split at h
    · rename_i h1
      split at h
      · cases h
      · rename_i h2
        cases e <;> first | (cases h; done) | (cases h; exact ⟨n, _, rfl, hg, h1, h2, rfl⟩)
    · cases h
  · rintro ⟨n, e, rfl, hg, h1, h2, h3⟩
    refine ⟨(e, n), List.mem_zipIdx_iff_getElem?.mpr (by simpa using hg), ?_⟩
    unfold backable
    rw [if_pos h1, if_neg h2]
    cases e <;> first | rfl | cases h3
def canB (es : List Ev) : D → Bool
  | .int i => decide (i ∈ lawBacks es)
  | _ => false
theorem lastSettle_nn (es : List Ev) : -1 ≤ lastSettle es := (maxL_ge _ _).1
theorem ev_can_back (k : Nat) (hk : 3 ≤ k) {n : Nat} (v : D) (h : okv n v = true) (es : List Ev) (hl : es.length ≤ 900) : callF prog k f_can_back [evsD true es, v] [] = .ok (.bl (canB es v)) [] := by
  rw [callF_at p_can_back (by omega), run_at rfl]
  have ls := cl_last_settle (k := k - 1) (by omega) es (by omega)
  have nm := cl_is_number (k := k - 1) (by omega) v h (lastSettle es + 1) (some ((es.length : Nat) - 1 : Int))
  simp only [oD_some] at nm
  have ln := fun st => len_evs true es st
  have tb := cl_taken_back (k := k - 1) (by omega) true es (by omega)
  have h0 := lastSettle_nn es
  cases hn : isNum (lastSettle es + 1) (some ((es.length : Nat) - 1 : Int)) v with
  | false =>
    have hb : canB es v = false := by
      cases v <;> first | rfl | skip
      rename_i i
      simp only [canB, decide_eq_false_iff_not]
      intro hm
      have := lawBacks_ok hm
      simp [isNum] at hn
      omega
    rw [hn] at nm
    simp [c_can_back, ls, ln, nm, hb]
  | true =>
    rw [hn] at nm
    cases v <;> first | (cases hn; done) | skip
    rename_i i
    simp [isNum] at hn
    obtain ⟨m, rfl⟩ : ∃ m : Nat, i = (m : Int) := ⟨i.toNat, by omega⟩
    have hlt : m < es.length := by omega
    have hg := gone_has es (m : Int)
    by_cases hb : (m : Int) ∈ backs es
    · have hb2 : canB es (.int m) = false := by
        simp only [canB, decide_eq_false_iff_not]
        intro hm
        obtain ⟨_, _, _, _, _, h2, _⟩ := (mem_lawBacks es m).mp hm
        exact h2 hb
      simp [c_can_back, ls, ln, nm, tb, hg, hb, hb2]
    · have ix := fun st => ix_evs true es m es[m] (List.getElem?_eq_getElem hlt) st
      have hc : canB es (.int m) = isTaken es[m] := by
        simp only [canB]
        cases ht : isTaken es[m] with
        | true => exact decide_eq_true ((mem_lawBacks es m).mpr ⟨m, es[m], rfl, List.getElem?_eq_getElem hlt, by omega, hb, ht⟩)
        | false =>
          apply decide_eq_false
          intro hm
          obtain ⟨q, e, h1, h2, _, _, h5⟩ := (mem_lawBacks es m).mp hm
          have : q = m := by omega
          subst this
          rw [List.getElem?_eq_getElem hlt] at h2
          cases h2
          rw [ht] at h5; cases h5
      rw [hc]
      generalize es[m] = e at ix
      cases e <;> simp [c_can_back, ls, ln, nm, tb, hg, hb, ix, Ev.d, inD_4, isTaken]
theorem cl_can_back {k : Nat} (hk : 3 ≤ k) {n : Nat} (v : D) (h : okv n v = true) (es : List Ev) (hl : es.length ≤ 900) (st : Store) : callIn (callF prog k) f_can_back [evsD true es, v] [] false st = .ok (.bl (canB es v)) st :=
  call_pure (by simp [okv_pure _ _ h, evs_pure]) (ev_can_back k hk v h es hl) rfl
end K76

namespace K76
open PySem PyE
def sH : Str := Str.ofString "hand"
def sB : Str := Str.ofString "board"
def thereB (rows : List Row) : D → Bool
  | .int i => decide (0 ≤ i) && isThere rows i
  | _ => false
def lookB (rows : List Row) (b d : Int) : List D → Bool
  | .str w :: q => if w = sH then (match q with
      | [h] => isNum 0 (some (d - 1)) h
      | _ => false)
    else if w = sB then (match q with
      | [s, lot] => isLot (b - 1) lot && (isNon s || thereB rows s)
      | _ => false)
    else false
  | _ => false
def factB (rows : List Row) (b d : Int) : List D → Bool
  | [.tup l, ans] => isNum 0 (some 1) ans && lookB rows b d l
  | _ => false
theorem ev_is_fact (k : Nat) (hk : 5 ≤ k) {n : Nat} {w : D} {r : List D} (h : okv (n + 1) (.tup (w :: r)) = true) (rows : List Row) (a b d : Int) : callF prog k f_is_fact [rowsD rows, .tup [.int a, .int b, .int d], .tup (w :: r)] [] = .ok (.bl (factB rows b d r)) [] := by
  rw [callF_at p_is_fact (by omega), run_at rfl]
  have c := cl_is_tuple (k := k - 1) (by omega) _ h (some 3)
  simp only [oD_some] at c
  by_cases h2 : r.length = 2
  · obtain ⟨x, ans, rfl⟩ : ∃ x y, r = [x, y] := by
      rcases r with _ | ⟨q1, _ | ⟨q2, _ | ⟨q3, r⟩⟩⟩ <;> first | (simp at h2; done) | exact ⟨q1, q2, rfl⟩
    have k1 := okv_el h (i := 1) rfl
    have k2 := okv_el h (i := 2) rfl
    have t1 := cl_is_tuple (k := k - 1) (by omega) x k1 none
    simp only [oD_none] at t1
    have i1 : ∀ st, ixD (.tup [w, x, ans]) (.int 1) st = .ok x st := fun _ => rfl
    have s1 : ∀ st, slB (.tup [w, x, ans]) (some 1) none st = some (.tup [x, ans]) := fun _ => rfl
    have an := cl_is_number (k := k - 1) (by omega) ans k2 0 (some 1)
    simp only [oD_some] at an
    have c3 : isTup (some 3) (.tup [w, x, ans]) = true := rfl
    rw [c3] at c
    by_cases hx : ∃ l, x = .tup l
    · obtain ⟨l, rfl⟩ := hx
      obtain ⟨n', rfl⟩ : ∃ m, n = m + 1 := by cases n with | zero => cases k1 | succ m => exact ⟨m, rfl⟩
      have ht : isTup none (.tup l) = true := rfl
      rw [ht] at t1
      generalize hV : D.tup [w, .tup l, ans] = V at *
      cases l with
      | nil =>
        have e0 : factB rows b d [.tup [], ans] = false := by simp [factB, lookB]
        simp [c_is_fact, c, i1, t1, e0]
      | cons y q =>
        have ky := okv_el k1 (i := 0) rfl
        have hpy := okv_pl ky
        have vy := fun st => vw_okv ky st
        have iy : ∀ st, ixD (.tup (y :: q)) (.int 0) st = .ok y st := fun st => by rw [ix_tup, atI_0]; rfl
        obtain ⟨m, hm⟩ : ∃ m : Int, m = (q.length : Int) + 1 := ⟨_, rfl⟩
        have ly : ∀ st, biD .len [.tup (y :: q)] st = .ok (.int m) st := fun st => by rw [hm]; rfl
        have hq0 : ¬ m = 0 := by omega
        by_cases hs : ∃ s, y = .str s
        · obtain ⟨s, rfl⟩ := hs
          cases ha : isNum 0 (some 1) ans with
          | false =>
            have e0 : factB rows b d [.tup (.str s :: q), ans] = false := by simp [factB, ha]
            generalize D.tup (D.str s :: q) = T at *
            simp [c_is_fact, c, i1, t1, iy, ly, hq0, isPl, isTy, s1, an, ha, e0]
          | true =>
            have e0 : factB rows b d [.tup (.str s :: q), ans] = lookB rows b d (.str s :: q) := by simp [factB, ha]
            rw [e0]
            by_cases hh : s = sH
            · subst hh
              by_cases hl : q.length = 1
              · obtain ⟨z, rfl⟩ : ∃ z, q = [z] := by
                  rcases q with _ | ⟨q1, _ | ⟨q2, q⟩⟩ <;> first | (simp at hl; done) | exact ⟨q1, rfl⟩
                have kz := okv_el k1 (i := 1) rfl
                have cz := cl_is_number (k := k - 1) (by omega) z kz 0 (some (d - 1))
                simp only [oD_some] at cz
                have e1 : lookB rows b d [.str sH, z] = isNum 0 (some (d - 1)) z := by simp [lookB]
                rw [e1]
                simp only [sH] at *
                simp [c_is_fact, c, i1, t1, isPl, isTy, s1, an, ha, cz]
              · have e1 : lookB rows b d (.str sH :: q) = false := by
                  rcases q with _ | ⟨q1, _ | ⟨q2, q⟩⟩ <;> first | (simp [lookB]; done) | (simp at hl; done)
                have hl' : ¬ m = 2 := by omega
                rw [e1]
                simp only [sH] at *
                generalize D.tup (D.str _ :: q) = T at *
                simp [c_is_fact, c, i1, t1, iy, ly, hq0, isPl, isTy, s1, an, ha, hl']
            · by_cases hbd : s = sB
              · subst hbd
                by_cases hl : q.length = 2
                · obtain ⟨z, lot, rfl⟩ : ∃ z u, q = [z, u] := by
                    rcases q with _ | ⟨q1, _ | ⟨q2, _ | ⟨q3, q⟩⟩⟩ <;> first | (simp at hl; done) | exact ⟨q1, q2, rfl⟩
                  have kz := okv_el k1 (i := 1) rfl
                  have kl := okv_el k1 (i := 2) rfl
                  have cz := cl_is_number (k := k - 1) (by omega) z kz 0 none
                  simp only [oD_none] at cz
                  have cl := cl_is_lot (k := k - 1) (by omega) lot kl (b - 1)
                  have e1 : lookB rows b d [.str sB, z, lot] = (isLot (b - 1) lot && (isNon z || thereB rows z)) := by
                    simp [lookB, hh]
                  rw [e1]
                  have it := fun i st => cl_is_there (k := k - 1) (by omega) rows i st
                  simp only [sH, sB] at *
                  cases hlot : isLot (b - 1) lot with
                  | false => simp [c_is_fact, c, i1, t1, isPl, isTy, s1, an, ha, cl, hlot]
                  | true =>
                    rw [ha] at an
                    cases z with
                    | int i =>
                      have ci : isNum 0 none (.int i) = decide (0 ≤ i) := by simp [isNum]
                      rw [ci] at cz
                      by_cases hi : 0 ≤ i
                      · simp [c_is_fact, c, i1, t1, isPl, isTy, s1, an, cl, hlot, cz, hi, it, thereB]
                      · simp [c_is_fact, c, i1, t1, isPl, isTy, s1, an, cl, hlot, cz, hi, it, thereB]
                    | non => simp [c_is_fact, c, i1, t1, isPl, isTy, s1, an, cl, hlot, thereB]
                    | _ =>
                      simp only [isNum] at cz
                      simp [c_is_fact, c, i1, t1, isPl, isTy, s1, an, cl, hlot, cz, isNon, thereB]
                · have e1 : lookB rows b d (.str sB :: q) = false := by
                    rcases q with _ | ⟨q1, _ | ⟨q2, _ | ⟨q3, q⟩⟩⟩ <;> first | (simp [lookB, hh]; done) | (simp at hl; done)
                  have hl' : ¬ m = 3 := by omega
                  rw [e1]
                  simp only [sH, sB] at *
                  generalize D.tup (D.str _ :: q) = T at *
                  simp [c_is_fact, c, i1, t1, iy, ly, hq0, isPl, isTy, s1, an, ha, hl']
              · have e1 : lookB rows b d (.str s :: q) = false := by simp [lookB, hh, hbd]
                rw [e1]
                simp only [sH, sB] at *
                generalize D.tup (D.str s :: q) = T at *
                simp [c_is_fact, c, i1, t1, iy, ly, hq0, isPl, isTy, s1, an, ha, hh, hbd]
        · have hb : isTy y .str = false := by cases y <;> first | rfl | exact absurd ⟨_, rfl⟩ hs
          have hb2 : factB rows b d [.tup (y :: q), ans] = false := by
            cases y <;> first | (simp [factB, lookB]; done) | exact absurd ⟨_, rfl⟩ hs
          generalize D.tup (y :: q) = T at *
          simp [c_is_fact, c, i1, t1, iy, ly, hq0, hpy, vy, hb, hb2]
    · have hb : isTup none x = false := by cases x <;> first | rfl | exact absurd ⟨_, rfl⟩ hx
      have hb2 : factB rows b d [x, ans] = false := by cases x <;> first | rfl | exact absurd ⟨_, rfl⟩ hx
      rw [hb] at t1
      simp [c_is_fact, c, i1, t1, hb2]
  · have hb : isTup (some 3) (.tup (w :: r)) = false := by
      simp [isTup]; omega
    have hb2 : factB rows b d r = false := by
      rcases r with _ | ⟨q1, _ | ⟨q2, _ | ⟨q3, r⟩⟩⟩ <;> first | rfl | (simp at h2; done) | (cases q1 <;> rfl)
    rw [hb] at c
    simp [c_is_fact, c, hb2]
theorem cl_is_fact {k : Nat} (hk : 5 ≤ k) {n : Nat} {w : D} {r : List D} (h : okv (n + 1) (.tup (w :: r)) = true) (rows : List Row) (a b d : Int) (st : Store) : callIn (callF prog k) f_is_fact [rowsD rows, .tup [.int a, .int b, .int d], .tup (w :: r)] [] false st = .ok (.bl (factB rows b d r)) st :=
  call_pure (by simp [okv_pure _ _ h, rows_pure]; rfl) (ev_is_fact k hk h rows a b d) rfl
end K76

namespace K76
open PySem PyE
def wBehind : Str := Str.ofString "behind"
def wAway : Str := Str.ofString "away"
def wInstead : Str := Str.ofString "instead"
def wFact : Str := Str.ofString "fact"
def wBack : Str := Str.ofString "back"
def wSettle : Str := Str.ofString "settle"
def wText : Str := Str.ofString "text"
def spotB (rows : List Row) : D → Bool
  | .int i => decide (-1 ≤ i) && (spotIn rows i).isSome
  | _ => false
def behB (rows : List Row) (a : Int) : List D → Bool
  | [x, y] => spotB rows x && isNum 0 (some (a - 1)) y
  | _ => false
def awayB (rows : List Row) : List D → Bool
  | [x] => thereB rows x
  | _ => false
def insB (rows : List Row) (a : Int) : List D → Bool
  | [x, y] => thereB rows x && isNum 0 (some (a - 1)) y
  | _ => false
section
variable {k : Nat} {n : Nat} {r : List D} (rows : List Row) (a : Int)
theorem ev_behind_edit (hk : 4 ≤ k) (h : okv (n + 1) (.tup (.str wBehind :: r)) = true) : callF prog k f_is_edit [rowsD rows, .int a, .tup (.str wBehind :: r)] [] = .ok (.bl (behB rows a r)) [] := by
  rw [callF_at p_is_edit (by omega), run_at rfl]
  have i0 : ∀ st, ixD (.tup (.str wBehind :: r)) (.int 0) st = .ok (.str wBehind) st := fun st => by rw [ix_tup, atI_0]; rfl
  by_cases h2 : r.length = 2
  · obtain ⟨x, y, rfl⟩ : ∃ x y, r = [x, y] := by
      rcases r with _ | ⟨q1, _ | ⟨q2, _ | ⟨q3, r⟩⟩⟩ <;> first | (simp at h2; done) | exact ⟨q1, q2, rfl⟩
    have k1 := okv_el h (i := 1) rfl
    have k2 := okv_el h (i := 2) rfl
    have c1 := cl_is_number (k := k - 1) (by omega) x k1 (-1) none
    have c2 := cl_is_number (k := k - 1) (by omega) y k2 0 (some (a - 1))
    simp only [oD_some, oD_none] at c1 c2
    have sp := fun i st => cl_spot_in (k := k - 1) (by omega) rows i st
    show _ = R.ok (D.bl (spotB rows x && isNum 0 (some (a - 1)) y)) []
    simp only [wBehind] at *
    cases x with
    | int i =>
      have ci : isNum (-1) none (.int i) = decide (-1 ≤ i) := by simp [isNum]
      rw [ci] at c1
      by_cases hi : -1 ≤ i
      · cases hs : spotIn rows i with
        | none => simp [c_is_edit, c1, hi, sp, hs, spotB]
        | some s => simp [c_is_edit, c1, hi, sp, hs, spotB, c2]
      · simp [c_is_edit, c1, hi, spotB]
    | _ =>
      simp only [isNum] at c1
      simp [c_is_edit, c1, spotB]
  · have hb : behB rows a r = false := by
      rcases r with _ | ⟨q1, _ | ⟨q2, _ | ⟨q3, r⟩⟩⟩ <;> first | rfl | (simp at h2; done)
    obtain ⟨m, hm⟩ : ∃ m : Int, m = (r.length : Int) + 1 := ⟨_, rfl⟩
    have lv : ∀ st, biD .len [.tup (.str wBehind :: r)] st = .ok (.int m) st := fun st => by rw [hm]; rfl
    have h3 : ¬ m = 3 := by omega
    rw [hb]
    generalize D.tup (.str wBehind :: r) = V at *
    simp only [wBehind] at *
    simp [c_is_edit, i0, lv, h3]
theorem ev_there_edit (hk : 4 ≤ k) {w : Str} (hw : w = wAway ∨ w = wInstead) (h : okv (n + 1) (.tup (.str w :: r)) = true) : callF prog k f_is_edit [rowsD rows, .int a, .tup (.str w :: r)] [] = .ok (.bl (if w = wAway then awayB rows r else insB rows a r)) [] := by
  rw [callF_at p_is_edit (by omega), run_at rfl]
  have i0 : ∀ st, ixD (.tup (.str w :: r)) (.int 0) st = .ok (.str w) st := fun st => by rw [ix_tup, atI_0]; rfl
  obtain ⟨m, hm⟩ : ∃ m : Int, m = (r.length : Int) + 1 := ⟨_, rfl⟩
  have lv : ∀ st, biD .len [.tup (.str w :: r)] st = .ok (.int m) st := fun st => by rw [hm]; rfl
  cases r with
  | nil =>
    have hb : (if w = wAway then awayB rows [] else insB rows a []) = false := by split <;> rfl
    have h2 : m < 2 := by simp at hm; omega
    rw [hb]
    generalize D.tup (.str w :: []) = V at *
    rcases hw with rfl | rfl <;> simp only [wAway, wInstead] at * <;> simp [c_is_edit, i0, lv, h2]
  | cons x q =>
    have h2 : ¬ m < 2 := by simp at hm; omega
    have k1 := okv_el h (i := 1) rfl
    have c1 := cl_is_number (k := k - 1) (by omega) x k1 0 none
    simp only [oD_none] at c1
    have i1 : ∀ st, ixD (.tup (.str w :: x :: q)) (.int 1) st = .ok x st := fun st => by rw [ix_tup, atI_1]; rfl
    have it := fun i st => cl_is_there (k := k - 1) (by omega) rows i st
    have no : thereB rows x = false → (if w = wAway then awayB rows (x :: q) else insB rows a (x :: q)) = false := fun hx => by
      split
      · rcases q with _ | ⟨q1, q⟩
        · exact hx
        · rfl
      · rcases q with _ | ⟨q1, _ | ⟨q2, q⟩⟩ <;> simp [insB, hx]
    have fin : (thereB rows x = true) → (∃ i, x = .int i ∧ 0 ≤ i ∧ isThere rows i = true) := fun hx => by
      cases x <;> first | (cases hx; done) | skip
      rename_i i
      simp [thereB] at hx
      exact ⟨i, rfl, hx.1, hx.2⟩
    cases ht : thereB rows x with
    | false =>
      rw [no ht]
      clear no fin
      generalize D.tup (.str w :: x :: q) = V at *
      cases x with
      | int i =>
        have ci : isNum 0 none (.int i) = decide (0 ≤ i) := by simp [isNum]
        rw [ci] at c1
        by_cases hi : 0 ≤ i
        · simp [thereB, hi] at ht
          rcases hw with rfl | rfl <;> simp only [wAway, wInstead] at * <;> simp [c_is_edit, i0, i1, lv, h2, c1, hi, it, ht]
        · rcases hw with rfl | rfl <;> simp only [wAway, wInstead] at * <;> simp [c_is_edit, i0, i1, lv, h2, c1, hi]
      | _ =>
        simp only [isNum] at c1
        rcases hw with rfl | rfl <;> simp only [wAway, wInstead] at * <;> simp [c_is_edit, i0, i1, lv, h2, c1]
    | true =>
      obtain ⟨i, rfl, hi, hti⟩ := fin ht
      have ci : isNum 0 none (.int i) = decide (0 ≤ i) := by simp [isNum]
      rw [ci] at c1
      clear no fin
      rcases hw with rfl | rfl
      · have e0 : (if wAway = wAway then awayB rows (D.int i :: q) else insB rows a (D.int i :: q)) = decide (m = 2) := by
          rw [if_pos rfl]
          rcases q with _ | ⟨q1, q⟩
          · simp at hm; subst hm; simpa [awayB] using ht
          · have : ¬ m = 2 := by simp at hm; omega
            simp [awayB, this]
        rw [e0]
        generalize D.tup (.str wAway :: .int i :: q) = V at *
        simp only [wAway] at *
        simp [c_is_edit, i0, i1, lv, h2, c1, hi, it, hti]
      · have hne : ¬ wInstead = wAway := by simp [wInstead, wAway]
        rw [if_neg hne]
        by_cases h3 : q.length = 1
        · obtain ⟨y, rfl⟩ : ∃ y, q = [y] := by
            rcases q with _ | ⟨q1, _ | ⟨q2, q⟩⟩ <;> first | (simp at h3; done) | exact ⟨q1, rfl⟩
          have k2 := okv_el h (i := 2) rfl
          have c2 := cl_is_number (k := k - 1) (by omega) y k2 0 (some (a - 1))
          simp only [oD_some] at c2
          have i2 : ∀ st, ixD (.tup [.str wInstead, .int i, y]) (.int 2) st = .ok y st := fun st => rfl
          have h3 : m = 3 := by simp at hm; omega
          have e0 : insB rows a [.int i, y] = isNum 0 (some (a - 1)) y := by simp [insB, ht]
          rw [e0]
          generalize D.tup [.str wInstead, .int i, y] = V at *
          simp only [wInstead] at *
          simp [c_is_edit, i0, i1, i2, lv, h2, h3, c1, hi, it, hti, c2]
        · have e0 : insB rows a (.int i :: q) = false := by
            rcases q with _ | ⟨q1, _ | ⟨q2, q⟩⟩ <;> first | rfl | (simp at h3; done)
          have h3' : ¬ m = 3 := by simp at hm; omega
          rw [e0]
          generalize D.tup (.str wInstead :: .int i :: q) = V at *
          simp only [wInstead] at *
          simp [c_is_edit, i0, i1, lv, h2, h3', c1, hi, it, hti]
end
def backB (es : List Ev) : List D → Bool
  | [x] => canB es x
  | _ => false
def canV (es : List Ev) (rows : List Row) (a b d : Int) : D → Bool
  | .tup (.str w :: r) =>
    if w = wBehind then behB rows a r
    else if w = wAway then awayB rows r
    else if w = wInstead then insB rows a r
    else if w = wFact then factB rows b d r
    else if w = wBack then backB es r
    else if w = wSettle then r.isEmpty
    else if w = wText then textB a r
    else false
  | _ => false
theorem inD_3 (x a b c : Str) : inD (.str x) [.str a, .str b, .str c] = some (decide (a = x) || (decide (b = x) || decide (c = x))) := by simp [inD_def]
theorem ev_can_event (k : Nat) (hk : 6 ≤ k) {n : Nat} (hn : n + 1 ≤ 20) (v : D) (h : okv (n + 1) v = true) (es : List Ev) (hl : es.length ≤ 900) {rows : List Row} (hr : plainNotes es = some rows) (a b d : Int) : callF prog k f_can_event [evsD true es, .tup [.int a, .int b, .int d], v] [] = .ok (.bl (canV es rows a b d v)) [] := by
  rw [callF_at p_can_event (by omega), run_at rfl]
  have c := cl_is_tuple (k := k - 1) (by omega) v h none
  simp only [oD_none] at c
  by_cases ht : ∃ xs, v = .tup xs
  · obtain ⟨xs, rfl⟩ := ht
    have ct : isTup none (.tup xs) = true := rfl
    rw [ct] at c
    cases xs with
    | nil => simp [c_can_event, c, canV]
    | cons y r =>
      have ky := okv_el h (i := 0) rfl
      have hpy := okv_pl ky
      have vy := fun st => vw_okv ky st
      have i0 : ∀ st, ixD (.tup (y :: r)) (.int 0) st = .ok y st := fun st => by rw [ix_tup, atI_0]; rfl
      obtain ⟨m, hm⟩ : ∃ m : Int, m = (r.length : Int) + 1 := ⟨_, rfl⟩
      have lv : ∀ st, biD .len [.tup (y :: r)] st = .ok (.int m) st := fun st => by rw [hm]; rfl
      have h0 : ¬ m = 0 := by omega
      by_cases hs : ∃ w, y = .str w
      · obtain ⟨w, rfl⟩ := hs
        have pn := fun st => cl_plain_notes (k := k - 1) (by omega) true es rows hl hr st
        have hp : (D.tup (.str w :: r)).pure = true := okv_pure _ _ h
        have pe : ∀ st, ∀ b', callF prog (k - 1) f_is_edit [rowsD rows, .int a, .tup (.str w :: r)] [] = .ok (.bl b') [] → callIn (callF prog (k - 1)) f_is_edit [rowsD rows, .int a, .tup (.str w :: r)] [] false st = .ok (.bl b') st := fun st b' e =>
          call_pure (by simp [rows_pure, hp]; rfl) e rfl
        by_cases w1 : w = wBehind
        · subst w1
          have e := fun st => pe st _ (ev_behind_edit (k := k - 1) rows a (by omega) h)
          have e0 : canV es rows a b d (.tup (.str wBehind :: r)) = behB rows a r := by simp [canV]
          rw [e0]
          clear pe
          generalize D.tup (.str wBehind :: r) = V at *
          simp only [wBehind] at *
          simp [c_can_event, c, i0, lv, h0, isPl, isTy, inD_3, pn, e]
        · by_cases w2 : w = wAway ∨ w = wInstead
          · have e := fun st => pe st _ (ev_there_edit (k := k - 1) rows a (by omega) w2 h)
            have e0 : canV es rows a b d (.tup (.str w :: r)) = (if w = wAway then awayB rows r else insB rows a r) := by
              rcases w2 with rfl | rfl
              · simp [canV, w1]
              · have : ¬ wInstead = wAway := by simp [wInstead, wAway]
                simp [canV, w1, this]
            rw [e0]
            clear pe
            generalize (if w = wAway then awayB rows r else insB rows a r) = res at *
            generalize D.tup (.str w :: r) = V at *
            rcases w2 with rfl | rfl <;> simp only [wAway, wInstead] at * <;> simp [c_can_event, c, i0, lv, h0, isPl, isTy, inD_3, pn, e]
          · clear pe
            have w2a : ¬ w = wAway := fun z => w2 (.inl z)
            have w2b : ¬ w = wInstead := fun z => w2 (.inr z)
            have f1 : (wBehind = w) = False := eq_false fun z => w1 z.symm
            have f2 : (wAway = w) = False := eq_false fun z => w2a z.symm
            have f3 : (wInstead = w) = False := eq_false fun z => w2b z.symm
            by_cases w3 : w = wFact
            · subst w3
              have e := fun st => cl_is_fact (k := k - 1) (by omega) h rows a b d st
              have e0 : canV es rows a b d (.tup (.str wFact :: r)) = factB rows b d r := by simp [canV, w1, w2a, w2b]
              rw [e0]
              generalize D.tup (.str wFact :: r) = V at *
              simp only [wFact, wBehind, wAway, wInstead] at *
              simp [c_can_event, c, i0, lv, h0, isPl, isTy, inD_3, pn, e]
            · by_cases w4 : w = wBack
              · subst w4
                by_cases h1 : r.length = 1
                · obtain ⟨x, rfl⟩ : ∃ x, r = [x] := by
                    rcases r with _ | ⟨q1, _ | ⟨q2, r⟩⟩ <;> first | (simp at h1; done) | exact ⟨q1, rfl⟩
                  have k1 := okv_el h (i := 1) rfl
                  have i1 : ∀ st, ixD (.tup [.str wBack, x]) (.int 1) st = .ok x st := fun _ => rfl
                  have e := fun st => cl_can_back (k := k - 1) (by omega) x k1 es hl st
                  have e0 : canV es rows a b d (.tup [.str wBack, x]) = canB es x := by simp [canV, backB, w1, w2a, w2b, w3]
                  have h2 : m = 2 := by simp at hm; omega
                  rw [e0]
                  generalize D.tup [.str wBack, x] = V at *
                  simp only [wBack, wFact, wBehind, wAway, wInstead] at *
                  simp [c_can_event, c, i0, i1, lv, h0, h2, isPl, isTy, inD_3, e]
                · have e0 : canV es rows a b d (.tup (.str wBack :: r)) = false := by
                    have : backB es r = false := by
                      rcases r with _ | ⟨q1, _ | ⟨q2, r⟩⟩ <;> first | rfl | (simp at h1; done)
                    simp only [canV, w1, w2a, w2b, w3, if_false, if_true]
                    exact this
                  have h2 : ¬ m = 2 := by omega
                  rw [e0]
                  generalize D.tup (.str wBack :: r) = V at *
                  simp only [wBack, wFact, wBehind, wAway, wInstead] at *
                  simp [c_can_event, c, i0, lv, h0, h2, isPl, isTy, inD_3]
              · have eq := fun st => eq_word (t := wSettle) h hn (by simp [PyData.canLay0]; decide +kernel) st
                by_cases w5 : w = wSettle
                · subst w5
                  have e0 : canV es rows a b d (.tup (.str wSettle :: r)) = r.isEmpty := by simp [canV, w1, w2a, w2b, w3, w4]
                  have nt : ¬ wSettle = wText := by simp [wSettle, wText]
                  rw [e0]
                  generalize D.tup (.str wSettle :: r) = V at *
                  cases hre : r.isEmpty <;> simp only [hre, Bool.and_true, Bool.and_false] at eq <;> simp only [wSettle, wText, wBack, wFact, wBehind, wAway, wInstead] at * <;> simp [c_can_event, c, i0, lv, h0, isPl, isTy, inD_3, eq]
                · have e2 : decide (w = wSettle) = false := decide_eq_false w5
                  rw [e2, Bool.false_and] at eq
                  by_cases w6 : w = wText
                  · subst w6
                    have e := fun st => cl_text_event (k := k - 1) (by omega) h a st
                    have e0 : canV es rows a b d (.tup (.str wText :: r)) = textB a r := by simp [canV, w1, w2a, w2b, w3, w4, w5]
                    rw [e0]
                    generalize D.tup (.str wText :: r) = V at *
                    simp only [wSettle, wText, wBack, wFact, wBehind, wAway, wInstead] at *
                    simp [c_can_event, c, i0, lv, h0, isPl, isTy, inD_3, eq, e]
                  · have e0 : canV es rows a b d (.tup (.str w :: r)) = false := by simp [canV, w1, w2a, w2b, w3, w4, w5, w6]
                    rw [e0]
                    generalize D.tup (.str w :: r) = V at *
                    simp only [wSettle, wText, wBack, wFact, wBehind, wAway, wInstead] at *
                    simp [c_can_event, c, i0, lv, h0, isPl, isTy, inD_3, eq, f1, f2, f3, w3, w4, w6]
      · have hb : isTy y .str = false := by cases y <;> first | rfl | exact absurd ⟨_, rfl⟩ hs
        have hb2 : canV es rows a b d (.tup (y :: r)) = false := by cases y <;> first | rfl | exact absurd ⟨_, rfl⟩ hs
        rw [hb2]
        generalize D.tup (y :: r) = V at *
        simp [c_can_event, c, i0, lv, h0, hpy, vy, hb]
  · have hb : isTup none v = false := by cases v <;> first | rfl | exact absurd ⟨_, rfl⟩ ht
    have hb2 : canV es rows a b d v = false := by cases v <;> first | rfl | exact absurd ⟨_, rfl⟩ ht
    rw [hb] at c
    simp [c_can_event, c, hb2]
end K76

namespace PyE
open PySem
theorem eq_ints_nil (ns : List Int) (st : Store) : cmpD .eq (.lst (ns.map D.int)) (.lst []) st = .ok (.bl (decide (ns = []))) st := by
  simp [cmpD, cmpB, eqD_ints_nil, opt]
theorem nil_none {p : D → Bool} (xs : List D) : decide ((xs.filterMap fun x => if p x = true then none else some (1 : Int)) = []) = xs.all p := by
  induction xs with
  | nil => rfl
  | cons x xs ih =>
    cases h : p x with
    | true => rw [List.filterMap_cons_none (by rw [h]; rfl), ih, List.all_cons, h]; rfl
    | false =>
      rw [List.filterMap_cons_some (by rw [h]; rfl), List.all_cons, h]
      simp
theorem nil_noneT {α : Type} {p : α → Bool} (xs : List α) : decide ((xs.filterMap fun x => if p x = true then none else some (1 : Int)) = []) = xs.all p := by
  induction xs with
  | nil => rfl
  | cons x xs ih =>
    cases h : p x with
    | true => rw [List.filterMap_cons_none (by rw [h]; rfl), ih, List.all_cons, h]; rfl
    | false =>
      rw [List.filterMap_cons_some (by rw [h]; rfl), List.all_cons, h]
      simp
end PyE
namespace K76
open PySem PyE
theorem ev_law_num (k : Nat) (hk : 1 ≤ k) {n : Nat} (d : D) (h : okv n d = true) (lo hi : Int) : callF prog k f__law_is_number [d, .int lo, .int hi] [] = .ok (.bl (isNum lo (some hi) d)) [] := by
  have hp := okv_pl h
  have hv := vw_okv h []
  rw [callF_at p__law_is_number (by omega), run_at rfl]
  cases d with
  | int i => by_cases h1 : lo ≤ i <;> simp [c__law_is_number, isPl, isTy, isNum, h1]
  | non => simp [c__law_is_number, isPl, isTy, isNum]
  | bl b => simp [c__law_is_number, isPl, isTy, isNum]
  | str s => simp [c__law_is_number, isPl, isTy, isNum]
  | tup s => simp [c__law_is_number, isPl, isTy, isNum]
  | lst s => simp [c__law_is_number, isPl, isTy, isNum]
  | dct s => cases n <;> cases h
  | ref s => cases n <;> cases h
  | fn s => cases n <;> cases h
theorem cl_law_num {k : Nat} (hk : 1 ≤ k) {n : Nat} (d : D) (h : okv n d = true) (lo hi : Int) (st : Store) : callIn (callF prog k) f__law_is_number [d, .int lo, .int hi] [] false st = .ok (.bl (isNum lo (some hi) d)) st :=
  call_pure (by simp [okv_pure n d h]; exact ⟨rfl, rfl⟩) (ev_law_num k hk d h lo hi) rfl
theorem num_top {n : Nat} {d : D} (h : okv n d = true) (lo : Int) {hi : Int} (hh : 1000 ≤ hi) : isNum lo (some hi) d = isNum lo none d := by
  cases d <;> try rfl
  rename_i i
  cases n with
  | zero => cases h
  | succ n =>
    simp only [okv, Bool.and_eq_true, decide_eq_true_eq] at h
    simp only [isNum, Bool.and_true]
    rw [decide_eq_true (show i ≤ hi by omega), Bool.and_true]
theorem pow9 (st : Store) : binD .pow (.int 10) (.int 9) st = .ok (.int 1000000000) st := rfl
section
variable {rows : List Row} {N T : List D} (lr : LR rows N T)
include lr
theorem there_in_names {i : Int} (h : i ∈ rows.map Row.n) : dget T (.int i) = some (.bl (isThere rows i)) := by
  obtain ⟨r, hr, rfl⟩ := List.mem_map.mp h
  rw [lr.inT r hr]
  obtain ⟨j, e1, e2⟩ := idx_of_mem lr.nd hr
  have h0 : r.n ≠ -1 := by have := lr.nn r hr; omega
  simp [isThere, h0, rowAt, e1, e2]
omit lr in
theorem there_out {i : Int} (h : i ∉ rows.map Row.n) : isThere rows i = false := by
  cases ht : isThere rows i with
  | false => rfl
  | true =>
    obtain ⟨_, j, r, _, h1, rfl, _⟩ := isThere_row ht
    exact absurd (List.mem_map_of_mem (List.mem_of_getElem? h1)) h
omit lr in
theorem spot_names (i : Int) : (spotIn rows i).isSome = decide (i = -1 ∨ i ∈ rows.map Row.n) := by
  by_cases h1 : i = -1
  · subst h1; simp [spotIn]
  · rw [spotIn_idx h1, idx_names]
    by_cases hm : i ∈ rows.map Row.n
    · obtain ⟨j, hj⟩ := idxI_mem hm
      rw [hj]
      simp only [Option.map_some, Option.isSome_some]
      exact (decide_eq_true (.inr hm)).symm
    · have : idxI i (rows.map Row.n) = none := by
        generalize rows.map Row.n = ns at hm
        induction ns with
        | nil => rfl
        | cons m ms ih =>
          simp only [List.mem_cons, not_or] at hm
          unfold idxI
          rw [if_neg (fun z => hm.1 z.symm), ih hm.2]; rfl
      rw [this]
      simp only [Option.map_none, Option.isSome_none]
      exact (decide_eq_false (fun z => z.elim h1 hm)).symm
theorem names_nn {i : Int} (h : i ∈ rows.map Row.n) : 0 ≤ i := by
  obtain ⟨r, hr, rfl⟩ := List.mem_map.mp h
  exact lr.nn r hr
end
theorem notin_nm (i : Int) (nm : List Int) (st : Store) : cmpD .notin (.int i) (nmD nm) st = .ok (.bl (!decide (i ∈ nm))) st := by
  show opt (((inD (.int i) (nm.map D.int)).map (!·)).map D.bl) st = _
  rw [inD_ints]; rfl
theorem plT (xs : List D) : isPl (.tup xs) = true := rfl
theorem plS (s : Str) : isPl (.str s) = true := rfl
theorem tyT (xs : List D) : isTy (.tup xs) .tuple = true := rfl
theorem tyS (s : Str) : isTy (.str s) .str = true := rfl
theorem ev_law_fact (k : Nat) (hk : 3 ≤ k) {n : Nat} (hn : n + 1 ≤ 20) {w : D} {r : List D} (h : okv (n + 1) (.tup (w :: r)) = true) {rows : List Row} {N T : List D} (lr : LR rows N T) (es : List Ev) (a b d : Int) :
    callF prog k f__law_can_fact [lifeF (rows.map Row.n) N T es, .tup [.int a, .int b, .int d], .tup (w :: r)] [] = .ok (.bl (factB rows b d r)) [] := by
  rw [callF_at p__law_can_fact (by omega), run_at rfl]
  obtain ⟨m, hm⟩ : ∃ m : Int, m = (r.length : Int) + 1 := ⟨_, rfl⟩
  have lv : ∀ st, biD .len [.tup (w :: r)] st = .ok (.int m) st := fun st => by rw [hm]; rfl
  generalize hL : lifeF (rows.map Row.n) N T es = L
  have lo : ∀ st, ixD L (.str (Str.ofString "order")) st = .ok (nmD (rows.map Row.n)) st := fun st => by rw [← hL]; exact lf_order ..
  have lt : ∀ st, ixD L (.str (Str.ofString "there")) st = .ok (.dct T) st := fun st => by rw [← hL]; exact lf_there ..
  by_cases h2 : r.length = 2
  · obtain ⟨x, ans, rfl⟩ : ∃ x y, r = [x, y] := by
      rcases r with _ | ⟨q1, _ | ⟨q2, _ | ⟨q3, r⟩⟩⟩ <;> first | (simp at h2; done) | exact ⟨q1, q2, rfl⟩
    have h3 : m = 3 := by simp at hm; omega
    have k1 := okv_el h (i := 1) rfl
    have k2 := okv_el h (i := 2) rfl
    have p1 := okv_pl k1
    have v1 := fun st => vw_okv k1 st
    have i1 : ∀ st, ixD (.tup [w, x, ans]) (.int 1) st = .ok x st := fun _ => rfl
    have i2 : ∀ st, ixD (.tup [w, x, ans]) (.int 2) st = .ok ans st := fun _ => rfl
    have an := cl_law_num (k := k - 1) (by omega) ans k2 0 1
    by_cases hx : ∃ l, x = .tup l
    · obtain ⟨l, rfl⟩ := hx
      obtain ⟨n', rfl⟩ : ∃ m, n = m + 1 := by cases n with | zero => cases k1 | succ m => exact ⟨m, rfl⟩
      have e0 := fun st => eq_tup0 k1 (by omega) st
      generalize hV : D.tup [w, .tup l, ans] = V at *
      cases l with
      | nil =>
        have f0 : factB rows b d [.tup [], ans] = false := by simp [factB, lookB]
        rw [f0]
        simp [c__law_can_fact, lv, h3, i1, plT, plS, tyT, tyS, e0]
      | cons y q =>
        have ky := okv_el k1 (i := 0) rfl
        have hpy := okv_pl ky
        have vy := fun st => vw_okv ky st
        have iy : ∀ st, ixD (.tup (y :: q)) (.int 0) st = .ok y st := fun st => by rw [ix_tup, atI_0]; rfl
        obtain ⟨u, hu⟩ : ∃ u : Int, u = (q.length : Int) + 1 := ⟨_, rfl⟩
        have ly : ∀ st, biD .len [.tup (y :: q)] st = .ok (.int u) st := fun st => by rw [hu]; rfl
        have pT : ∀ T, D.tup (y :: q) = T → isPl T = true := fun T e => by rw [← e]; rfl
        have vT : ∀ T st, D.tup (y :: q) = T → view st T = T := fun T st e => by rw [← e]; rfl
        have tT : ∀ T, D.tup (y :: q) = T → isTy T .tuple = true := fun T e => by rw [← e]; rfl
        simp only [List.isEmpty_cons] at e0
        by_cases hs : ∃ s, y = .str s
        · obtain ⟨s, rfl⟩ := hs
          cases ha : isNum 0 (some 1) ans with
          | false =>
            have f0 : factB rows b d [.tup (.str s :: q), ans] = false := by simp [factB, ha]
            rw [f0]
            rw [ha] at an
            generalize hT : D.tup (.str s :: q) = TT at *
            simp [c__law_can_fact, lv, h3, i1, i2, pT TT rfl, vT TT [] rfl, tT TT rfl, e0, iy, plT, plS, tyT, tyS, an]
          | true =>
            have f0 : factB rows b d [.tup (.str s :: q), ans] = lookB rows b d (.str s :: q) := by simp [factB, ha]
            rw [f0]
            rw [ha] at an
            by_cases hh : s = sH
            · subst hh
              by_cases hl : q.length = 1
              · obtain ⟨z, rfl⟩ : ∃ z, q = [z] := by
                  rcases q with _ | ⟨q1, _ | ⟨q2, q⟩⟩ <;> first | (simp at hl; done) | exact ⟨q1, rfl⟩
                have kz := okv_el k1 (i := 1) rfl
                have cz := cl_law_num (k := k - 1) (by omega) z kz 0 (d - 1)
                have e1 : lookB rows b d [.str sH, z] = isNum 0 (some (d - 1)) z := by simp [lookB]
                rw [e1]
                simp only [sH] at *
                simp [c__law_can_fact, lv, h3, i1, i2, plT, plS, tyT, tyS, e0, an, cz]
              · have e1 : lookB rows b d (.str sH :: q) = false := by
                  rcases q with _ | ⟨q1, _ | ⟨q2, q⟩⟩ <;> first | (simp [lookB]; done) | (simp at hl; done)
                have hl' : ¬ u = 2 := by omega
                rw [e1]
                generalize hT : D.tup (.str sH :: q) = TT at *
                simp only [sH] at *
                simp [c__law_can_fact, lv, h3, i1, i2, pT TT rfl, vT TT [] rfl, tT TT rfl, e0, iy, plT, plS, tyT, tyS, an, ly, hl']
            · by_cases hbd : s = sB
              · subst hbd
                by_cases hl : q.length = 2
                · obtain ⟨z, lot, rfl⟩ : ∃ z u, q = [z, u] := by
                    rcases q with _ | ⟨q1, _ | ⟨q2, _ | ⟨q3, q⟩⟩⟩ <;> first | (simp at hl; done) | exact ⟨q1, q2, rfl⟩
                  have kz := okv_el k1 (i := 1) rfl
                  have kl := okv_el k1 (i := 2) rfl
                  have pl' := okv_pl kl
                  have vl := fun st => vw_okv kl st
                  have cz := cl_law_num (k := k - 1) (by omega) z kz 0 1000000000
                  rw [num_top kz 0 (by decide)] at cz
                  have e1 : lookB rows b d [.str sB, z, lot] = (isLot (b - 1) lot && (isNon z || thereB rows z)) := by
                    simp [lookB, hh]
                  rw [e1]
                  simp only [sH, sB] at *
                  by_cases hlt : ∃ bs, lot = .tup bs
                  · obtain ⟨bs, rfl⟩ := hlt
                    obtain ⟨n'', rfl⟩ : ∃ m, n' = m + 1 := by cases n' with | zero => cases kl | succ m => exact ⟨m, rfl⟩
                    obtain ⟨bl, bm⟩ := okv_mem kl
                    have iT : ∀ st, ixD (.tup [.str (Str.ofString "board"), z, .tup bs]) (.int 2) st = .ok (.tup bs) st := fun _ => rfl
                    let en : En := [some L, some (.tup [.int a, .int b, .int d]), some V, some (.tup [.str (Str.ofString "board"), z, .tup bs]), none, none, none]
                    have cx : ∀ st, evE (callF prog (k - 1)) (.lc [4] (.name 4) (.val (.ix (.var 3) (.lit (.int 2)))) (.some (.not (.call f__law_is_number (.cons (.var 4) (.cons (.lit (.int 0)) (.cons (.bin .sub (.ix (.var 1) (.lit (.int 1))) (.lit (.int 1))) .nil))) [] false))) (.lit (.int 1))) en st = .ok (.lst ((bs.filterMap fun x => if isNum 0 (some (b - 1)) x = true then none else some (1 : Int)).map D.int)) st := fun st => by
                      simp [en]
                      rw [fold_D D.int (fun x => if isNum 0 (some (b - 1)) x = true then none else some (1 : Int)) (fun x => x ∈ bs) ?hx bs (fun _ h => h) (by simp [line]; omega)]
                      · simp
                      · intro x acc hx hl
                        have hl' : acc.length < 16777216 := hl
                        have c2 := cl_law_num (k := k - 1) (by omega) x (bm x hx) 0 (b - 1)
                        cases hn : isNum 0 (some (b - 1)) x <;> simp [c2, hn, line, hl']
                    have nz := fun st => ne_ints_nil (bs.filterMap fun x => if isNum 0 (some (b - 1)) x = true then none else some (1 : Int)) st
                    rw [nil_none] at nz
                    generalize (bs.filterMap fun x => if isNum 0 (some (b - 1)) x = true then none else some (1 : Int)).map D.int = ys at cx nz
                    cases hall : bs.all (isNum 0 (some (b - 1))) with
                    | false =>
                      have e2 : isLot (b - 1) (.tup bs) = false := by simp [isLot, hall]
                      rw [e2]
                      rw [hall] at nz
                      simp only [en] at cx
                      simp [c__law_can_fact, -e_evE_lc, lv, h3, i1, i2, plT, plS, tyT, tyS, e0, an, cx, nz]
                    | true =>
                      have e2 : isLot (b - 1) (.tup bs) = ascI (bs.map toI) := by simp [isLot, hall]
                      rw [e2]
                      rw [hall] at nz
                      have eb := nums_ints hall
                      have cy : ∀ st, evE (callF prog (k - 1)) (.lc [5, 6] (.tup (.cons (.name 5) (.cons (.name 6) .nil))) (.zip (.ix (.var 3) (.lit (.int 2))) (.sl (.ix (.var 3) (.lit (.int 2))) (.some (.lit (.int 1))) .none)) (.some (.cmp .ge (.var 5) (.var 6))) (.lit (.int 1))) en st = .ok (.lst (((((bs.map toI).zip ((bs.map toI).drop 1)).filterMap fun p => if decide (p.1 < p.2) = true then none else some (1 : Int))).map D.int)) st := fun st => by
                        simp only [en]
                        generalize bs.map toI = ns at eb
                        subst eb
                        have nl : ns.length ≤ 100 := by simpa using bl
                        have s1 : ∀ st, slB (.tup (ns.map D.int)) (some 1) none st = some (.tup ((ns.drop 1).map D.int)) := fun st => by rw [sl_drop _ _ (by decide), List.map_drop]; rfl
                        rw [e_evE_lc, e_evI_zip]
                        have i3 : ∀ st, evE (callF prog (k - 1)) (.ix (.var 3) (.lit (.int 2))) [some L, some (.tup [.int a, .int b, .int d]), some V, some (.tup [.str (Str.ofString "board"), z, .tup (ns.map D.int)]), none, none, none] st = .ok (.tup (ns.map D.int)) st := fun st => by simp [iT]
                        simp only [e_evE_sl, e_evO_some, e_evO_none, e_evE_lit, i3, rb_ok, s1, opt_some, vw_tup, zips_map]
                        rw [fold_map (fun p : Int × Int => D.tup [.int p.1, .int p.2]) D.int (fun p => if decide (p.1 < p.2) = true then none else some (1 : Int)) (fun _ => True) ?hy (ns.zip (ns.drop 1)) [] (fun _ _ => trivial) (by simp [line]; omega)]
                        · simp
                        · intro p acc _ hl
                          have hl' : acc.length < 16777216 := hl
                          by_cases hp : p.1 < p.2
                          · have : ¬ p.2 ≤ p.1 := by omega
                            simp [line, hl', hp, this]
                          · have : p.2 ≤ p.1 := by omega
                            simp [line, hl', hp, this]
                      have ny := fun st => ne_ints_nil ((((bs.map toI).zip ((bs.map toI).drop 1)).filterMap fun p => if decide (p.1 < p.2) = true then none else some (1 : Int))) st
                      rw [nil_noneT (p := fun p : Int × Int => decide (p.1 < p.2))] at ny
                      rw [show (((bs.map toI).zip ((bs.map toI).drop 1)).all fun p : Int × Int => decide (p.1 < p.2)) = ascI (bs.map toI) from rfl] at ny
                      generalize (((((bs.map toI).zip ((bs.map toI).drop 1)).filterMap fun p => if decide (p.1 < p.2) = true then none else some (1 : Int))).map D.int) = zs at cy ny
                      generalize ascI (bs.map toI) = asc at *
                      simp only [en] at cx cy
                      have iz : ∀ st, ixD (.tup [.str (Str.ofString "board"), z, .tup bs]) (.int 1) st = .ok z st := fun _ => rfl
                      cases asc with
                      | false => simp [c__law_can_fact, -e_evE_lc, lv, h3, i1, i2, plT, plS, tyT, tyS, e0, an, cx, nz, cy, ny]
                      | true =>
                        cases z with
                        | int i =>
                          have ci : isNum 0 none (.int i) = decide (0 ≤ i) := by simp [isNum]
                          rw [ci] at cz
                          by_cases hi : 0 ≤ i
                          · have inn := fun st => inD_nm i (rows.map Row.n) st
                            by_cases hnm : i ∈ rows.map Row.n
                            · have tt := there_in_names lr hnm
                              generalize rows.map Row.n = nms at *
                              simp [c__law_can_fact, -e_evE_lc, lv, h3, i1, i2, plT, plS, tyT, tyS, e0, an, cx, nz, cy, ny, pow9, cz, hi, lo, lt, inn, hnm, tt, thereB]
                            · have tt := there_out hnm
                              generalize rows.map Row.n = nms at *
                              simp [c__law_can_fact, -e_evE_lc, lv, h3, i1, i2, plT, plS, tyT, tyS, e0, an, cx, nz, cy, ny, pow9, cz, hi, lo, lt, inn, hnm, tt, thereB]
                          · simp [c__law_can_fact, -e_evE_lc, lv, h3, i1, i2, plT, plS, tyT, tyS, e0, an, cx, nz, cy, ny, pow9, cz, hi, thereB]
                        | non => simp [c__law_can_fact, -e_evE_lc, lv, h3, i1, i2, plT, plS, tyT, tyS, e0, an, cx, nz, cy, ny, thereB]
                        | _ =>
                          simp only [isNum] at cz
                          simp [c__law_can_fact, -e_evE_lc, lv, h3, i1, i2, plT, plS, tyT, tyS, e0, an, cx, nz, cy, ny, pow9, cz, thereB, isNon]
                  · have hb : isTy lot .tuple = false := by cases lot <;> first | rfl | exact absurd ⟨_, rfl⟩ hlt
                    have hb2 : isLot (b - 1) lot = false := by cases lot <;> first | rfl | exact absurd ⟨_, rfl⟩ hlt
                    rw [hb2]
                    simp [c__law_can_fact, lv, h3, i1, i2, plT, plS, tyT, tyS, e0, an, pl', vl, hb]
                · have e1 : lookB rows b d (.str sB :: q) = false := by
                    rcases q with _ | ⟨q1, _ | ⟨q2, _ | ⟨q3, q⟩⟩⟩ <;> first | (simp [lookB, hh]; done) | (simp at hl; done)
                  have hl' : ¬ u = 3 := by omega
                  rw [e1]
                  generalize hT : D.tup (.str sB :: q) = TT at *
                  simp only [sH, sB] at *
                  simp [c__law_can_fact, lv, h3, i1, i2, pT TT rfl, vT TT [] rfl, tT TT rfl, e0, iy, plT, plS, tyT, tyS, an, ly, hl']
              · have e1 : lookB rows b d (.str s :: q) = false := by simp [lookB, hh, hbd]
                rw [e1]
                generalize hT : D.tup (.str s :: q) = TT at *
                simp only [sH, sB] at *
                simp [c__law_can_fact, lv, h3, i1, i2, pT TT rfl, vT TT [] rfl, tT TT rfl, e0, iy, plT, plS, tyT, tyS, an, hh, hbd]
        · have hb : isTy y .str = false := by cases y <;> first | rfl | exact absurd ⟨_, rfl⟩ hs
          have hb2 : factB rows b d [.tup (y :: q), ans] = false := by
            cases y <;> first | (simp [factB, lookB]; done) | exact absurd ⟨_, rfl⟩ hs
          rw [hb2]
          generalize hT : D.tup (y :: q) = TT at *
          simp [c__law_can_fact, lv, h3, i1, i2, pT TT rfl, vT TT [] rfl, tT TT rfl, e0, iy, hpy, vy, hb]
    · have hb : isTy x .tuple = false := by cases x <;> first | rfl | exact absurd ⟨_, rfl⟩ hx
      have hb2 : factB rows b d [x, ans] = false := by cases x <;> first | rfl | exact absurd ⟨_, rfl⟩ hx
      rw [hb2]
      generalize D.tup [w, x, ans] = V at *
      simp [c__law_can_fact, lv, h3, i1, p1, v1, hb]
  · have hb2 : factB rows b d r = false := by
      rcases r with _ | ⟨q1, _ | ⟨q2, _ | ⟨q3, r⟩⟩⟩ <;> first | rfl | (simp at h2; done) | (cases q1 <;> rfl)
    have h3 : ¬ m = 3 := by omega
    rw [hb2]
    generalize D.tup (w :: r) = V at *
    simp [c__law_can_fact, lv, h3]
end K76

namespace K76
open PySem PyE
theorem cl_law_fact {k : Nat} (hk : 3 ≤ k) {n : Nat} (hn : n + 1 ≤ 20) {w : D} {r : List D} (h : okv (n + 1) (.tup (w :: r)) = true) {rows : List Row} {N T : List D} (lr : LR rows N T) (es : List Ev) (a b d : Int) (st : Store) :
    callIn (callF prog k) f__law_can_fact [lifeF (rows.map Row.n) N T es, .tup [.int a, .int b, .int d], .tup (w :: r)] [] false st = .ok (.bl (factB rows b d r)) st :=
  call_pure (by simp [okv_pure _ _ h, life_pure _ _ _ _ lr.pN lr.pT]; rfl) (ev_law_fact k hk hn h lr es a b d) rfl
theorem cl_backs_t {k : Nat} (hk : 2 ≤ k) (es : List Ev) (hl : es.length ≤ 900) (st : Store) : callIn (callF prog k) f__law_backs [evsD true es] [] false st = .ok (.lst ((lawBacks es).map D.int)) st :=
  call_pure (by simp [evs_pure]) (ev_backs_t k hk es hl) (pure_lst _ (fun _ => rfl) _)
def wordsIf (w : Str) : Prop := w = wBehind ∨ w = wAway ∨ w = wInstead
theorem in_lstI (n : Int) (gs : List Int) (st : Store) : cmpD .in_ (.int n) (.lst (gs.map D.int)) st = .ok (.bl (decide (n ∈ gs))) st := by
  show opt ((inD (.int n) (gs.map D.int)).map D.bl) st = _
  rw [inD_ints]; rfl
section
variable {k : Nat} {n : Nat} {r : List D} {rows : List Row} {N T : List D} (lr : LR rows N T) (es : List Ev) (a b d : Int)
include lr
theorem law_can_back (hk : 4 ≤ k) (hn : n + 1 ≤ 20) (hl : es.length ≤ 900) (h : okv (n + 1) (.tup (.str wBack :: r)) = true) : callF prog k f__law_can [evsD true es, lifeF (rows.map Row.n) N T es, .tup [.int a, .int b, .int d], .tup (.str wBack :: r)] [] = .ok (.bl (backB es r)) [] := by
  rw [callF_at p__law_can (by omega), run_at rfl]
  have e0 := fun st => eq_tup0 h hn st
  simp only [List.isEmpty_cons] at e0
  obtain ⟨m, hm⟩ : ∃ m : Int, m = (r.length : Int) + 1 := ⟨_, rfl⟩
  have lv : ∀ st, biD .len [.tup (.str wBack :: r)] st = .ok (.int m) st := fun st => by rw [hm]; rfl
  have i0 : ∀ st, ixD (.tup (.str wBack :: r)) (.int 0) st = .ok (.str wBack) st := fun st => by rw [ix_tup, atI_0]; rfl
  have pV : isPl (.tup (.str wBack :: r)) = true := rfl
  have vV : ∀ st, view st (.tup (.str wBack :: r)) = .tup (.str wBack :: r) := fun _ => rfl
  have tV : isTy (.tup (.str wBack :: r)) .tuple = true := rfl
  generalize lifeF (rows.map Row.n) N T es = L
  by_cases h1 : r.length = 1
  · obtain ⟨x, rfl⟩ : ∃ x, r = [x] := by
      rcases r with _ | ⟨q1, _ | ⟨q2, r⟩⟩ <;> first | (simp at h1; done) | exact ⟨q1, rfl⟩
    have k1 := okv_el h (i := 1) rfl
    have i1 : ∀ st, ixD (.tup [.str wBack, x]) (.int 1) st = .ok x st := fun _ => rfl
    have cz := cl_law_num (k := k - 1) (by omega) x k1 0 (es.length : Nat)
    have ln := fun st => len_evs true es st
    have bk := fun st => cl_backs_t (k := k - 1) (by omega) es hl st
    have h2 : m = 2 := by simp at hm; omega
    show _ = R.ok (D.bl (canB es x)) []
    generalize D.tup [.str wBack, x] = V at *
    simp only [wBack] at *
    cases x with
    | int i =>
      have hc : canB es (.int i) = decide (i ∈ lawBacks es) := rfl
      rw [hc]
      by_cases hi : 0 ≤ i ∧ i ≤ (es.length : Int)
      · have ci : isNum 0 (some (es.length : Nat)) (.int i) = true := by simp [isNum]; omega
        rw [ci] at cz
        have inl := fun st => in_lstI i (lawBacks es) st
        generalize lawBacks es = bs at *
        generalize hB : bs.map D.int = B at *
        simp [c__law_can, e0, lv, i0, i1, pV, vV, tV, plS, tyS, h2, ln, cz, bk, -in_lst', inl]
      · have ci : isNum 0 (some (es.length : Nat)) (.int i) = false := by simp [isNum]; omega
        rw [ci] at cz
        have ho : decide (i ∈ lawBacks es) = false := decide_eq_false fun hm => by
          have := lawBacks_ok hm; omega
        rw [ho]
        simp [c__law_can, e0, lv, i0, i1, pV, vV, tV, plS, tyS, h2, ln, cz]
    | _ =>
      simp only [isNum] at cz
      simp [c__law_can, e0, lv, i0, i1, pV, vV, tV, plS, tyS, h2, ln, cz, canB]
  · have hb : backB es r = false := by
      rcases r with _ | ⟨q1, _ | ⟨q2, r⟩⟩ <;> first | rfl | (simp at h1; done)
    have h2 : ¬ m = 2 := by omega
    rw [hb]
    generalize D.tup (.str wBack :: r) = V at *
    simp only [wBack] at *
    simp [c__law_can, e0, lv, i0, pV, vV, tV, plS, tyS, h2]
/-- the three edits, and words that are none -/
theorem law_can_edit (hk : 4 ≤ k) (hn : n + 1 ≤ 20) {w : Str} (h : okv (n + 1) (.tup (.str w :: r)) = true) (f3 : ¬ w = wFact) (f4 : ¬ w = wBack) (f5 : ¬ w = wSettle) (f6 : ¬ w = wText) :
    callF prog k f__law_can [evsD true es, lifeF (rows.map Row.n) N T es, .tup [.int a, .int b, .int d], .tup (.str w :: r)] [] = .ok (.bl (if w = wBehind then behB rows a r else if w = wAway then awayB rows r else if w = wInstead then insB rows a r else false)) [] := by
  rw [callF_at p__law_can (by omega), run_at rfl]
  have e0 := fun st => eq_tup0 h hn st
  simp only [List.isEmpty_cons] at e0
  obtain ⟨m, hm⟩ : ∃ m : Int, m = (r.length : Int) + 1 := ⟨_, rfl⟩
  have lv : ∀ st, biD .len [.tup (.str w :: r)] st = .ok (.int m) st := fun st => by rw [hm]; rfl
  have i0 : ∀ st, ixD (.tup (.str w :: r)) (.int 0) st = .ok (.str w) st := fun st => by rw [ix_tup, atI_0]; rfl
  have pV : isPl (.tup (.str w :: r)) = true := rfl
  have vV : ∀ st, view st (.tup (.str w :: r)) = .tup (.str w :: r) := fun _ => rfl
  have tV : isTy (.tup (.str w :: r)) .tuple = true := rfl
  have lo : ∀ st, ixD (lifeF (rows.map Row.n) N T es) (.str (Str.ofString "order")) st = .ok (nmD (rows.map Row.n)) st := fun st => lf_order ..
  have lt : ∀ st, ixD (lifeF (rows.map Row.n) N T es) (.str (Str.ofString "there")) st = .ok (.dct T) st := fun st => lf_there ..
  generalize lifeF (rows.map Row.n) N T es = L at *
  cases r with
  | nil =>
    have hb : (if w = wBehind then behB rows a [] else if w = wAway then awayB rows [] else if w = wInstead then insB rows a [] else false) = false := by
      split
      · rfl
      · split
        · rfl
        · split <;> rfl
    have h2 : m < 2 := by simp at hm; omega
    rw [hb]
    generalize D.tup [.str w] = V at *
    simp only [wFact, wBack, wSettle, wText] at *
    simp [c__law_can, e0, lv, i0, pV, vV, tV, plS, tyS, h2, f3, f4, f5, f6]
  | cons x q =>
    have h2 : ¬ m < 2 := by simp at hm; omega
    have k1 := okv_el h (i := 1) rfl
    have i1 : ∀ st, ixD (.tup (.str w :: x :: q)) (.int 1) st = .ok x st := fun st => by rw [ix_tup, atI_1]; rfl
    have cx := cl_law_num (k := k - 1) (by omega) x k1 (-1) 1000000000
    rw [num_top k1 (-1) (by decide)] at cx
    have k2 : ∀ y, q = [y] → (∀ st, callIn (callF prog (k - 1)) f__law_is_number [y, .int 0, .int (a - 1)] [] false st = .ok (.bl (isNum 0 (some (a - 1)) y)) st) ∧ ∀ st, ixD (.tup (.str w :: x :: q)) (.int 2) st = .ok y st := fun y e => by
      subst e
      have k2 := okv_el h (i := 2) rfl
      exact ⟨cl_law_num (k := k - 1) (by omega) y k2 0 (a - 1), fun _ => rfl⟩
    by_cases hx : ∃ i, x = .int i ∧ -1 ≤ i
    · obtain ⟨i, rfl, hi⟩ := hx
      have ci : isNum (-1) none (.int i) = true := by simp [isNum, hi]
      rw [ci] at cx
      by_cases w1 : w = wBehind
      · rw [if_pos w1]
        by_cases hq : q.length = 1
        · obtain ⟨y, hy⟩ : ∃ y, q = [y] := by
            rcases q with _ | ⟨q1, _ | ⟨q2, q⟩⟩ <;> first | (simp at hq; done) | exact ⟨q1, rfl⟩
          obtain ⟨cy, i2⟩ := k2 y hy
          have h3 : m = 3 := by simp at hm; omega
          have e1 : behB rows a (.int i :: q) = (decide (i = -1 ∨ i ∈ rows.map Row.n) && isNum 0 (some (a - 1)) y) := by
            rw [hy]
            show (decide (-1 ≤ i) && (spotIn rows i).isSome && _) = _
            rw [spot_names, decide_eq_true hi, Bool.true_and]
          rw [e1]
          have inn := fun st => inD_nm i (rows.map Row.n) st
          clear k2
          generalize rows.map Row.n = nms at *
          generalize D.tup (.str w :: .int i :: q) = V at *
          subst w1
          simp only [wFact, wBack, wSettle, wText, wBehind] at *
          by_cases hm1 : i = -1
          · subst hm1
            simp [c__law_can, e0, lv, i0, i1, i2, pV, vV, tV, plS, tyS, h2, h3, pow9, cx, cy]
          · by_cases hmn : i ∈ nms
            · simp [c__law_can, e0, lv, i0, i1, i2, pV, vV, tV, plS, tyS, h2, h3, pow9, cx, hm1, cy, lo, inn, hmn]
            · simp [c__law_can, e0, lv, i0, i1, i2, pV, vV, tV, plS, tyS, h2, h3, pow9, cx, hm1, cy, lo, inn, hmn]
        · have h3 : ¬ m = 3 := by simp at hm; omega
          have e1 : behB rows a (.int i :: q) = false := by
            rcases q with _ | ⟨q1, _ | ⟨q2, q⟩⟩ <;> first | rfl | (simp at hq; done)
          rw [e1]
          clear k2
          generalize D.tup (.str w :: .int i :: q) = V at *
          subst w1
          simp only [wFact, wBack, wSettle, wText, wBehind] at *
          simp [c__law_can, e0, lv, i0, i1, pV, vV, tV, plS, tyS, h2, h3, pow9, cx]
      · rw [if_neg w1]
        have inn := fun st => notin_nm i (rows.map Row.n) st
        have no : thereB rows (.int i) = false → (if w = wAway then awayB rows (.int i :: q) else if w = wInstead then insB rows a (.int i :: q) else false) = false := fun hx => by
          split
          · rcases q with _ | ⟨q1, q⟩
            · exact hx
            · rfl
          · split
            · rcases q with _ | ⟨q1, _ | ⟨q2, q⟩⟩ <;> simp [insB, hx]
            · rfl
        by_cases hmn : i ∈ rows.map Row.n
        · have tt := there_in_names lr hmn
          have hi0 := names_nn lr hmn
          have eT : thereB rows (.int i) = isThere rows i := by simp [thereB, hi0]
          cases hth : isThere rows i with
          | false =>
            rw [no (by rw [eT, hth])]
            rw [hth] at tt
            clear k2 no
            generalize rows.map Row.n = nms at *
            generalize D.tup (.str w :: .int i :: q) = V at *
            simp only [wFact, wBack, wSettle, wText, wBehind] at *
            simp [c__law_can, e0, lv, i0, i1, pV, vV, tV, plS, tyS, h2, f3, f4, f5, f6, w1, pow9, cx, lo, lt, inn, hmn, tt]
          | true =>
            rw [hth] at tt eT
            by_cases w2 : w = wAway
            · rw [if_pos w2]
              have e1 : awayB rows (.int i :: q) = decide (m = 2) := by
                rcases q with _ | ⟨q1, q⟩
                · simp at hm; subst hm; simpa [awayB] using eT
                · have : ¬ m = 2 := by simp at hm; omega
                  simp [awayB, this]
              rw [e1]
              clear k2 no
              generalize rows.map Row.n = nms at *
              generalize D.tup (.str w :: .int i :: q) = V at *
              subst w2
              simp only [wFact, wBack, wSettle, wText, wBehind, wAway] at *
              by_cases hm2 : m = 2
              · simp [c__law_can, e0, lv, i0, i1, pV, vV, tV, plS, tyS, h2, pow9, cx, lo, lt, inn, hmn, tt, hm2]
              · simp [c__law_can, e0, lv, i0, i1, pV, vV, tV, plS, tyS, h2, pow9, cx, lo, lt, inn, hmn, tt, hm2]
            · rw [if_neg w2]
              by_cases w3 : w = wInstead
              · rw [if_pos w3]
                by_cases hq : q.length = 1
                · obtain ⟨y, hy⟩ : ∃ y, q = [y] := by
                    rcases q with _ | ⟨q1, _ | ⟨q2, q⟩⟩ <;> first | (simp at hq; done) | exact ⟨q1, rfl⟩
                  obtain ⟨cy, i2⟩ := k2 y hy
                  have h3 : m = 3 := by simp at hm; omega
                  have e1 : insB rows a (.int i :: q) = isNum 0 (some (a - 1)) y := by rw [hy]; simp [insB, eT]
                  rw [e1]
                  clear k2 no
                  generalize rows.map Row.n = nms at *
                  generalize D.tup (.str w :: .int i :: q) = V at *
                  subst w3
                  simp only [wFact, wBack, wSettle, wText, wBehind, wAway, wInstead] at *
                  simp [c__law_can, e0, lv, i0, i1, i2, pV, vV, tV, plS, tyS, h2, h3, pow9, cx, cy, lo, lt, inn, hmn, tt]
                · have h3 : ¬ m = 3 := by simp at hm; omega
                  have e1 : insB rows a (.int i :: q) = false := by
                    rcases q with _ | ⟨q1, _ | ⟨q2, q⟩⟩ <;> first | rfl | (simp at hq; done)
                  rw [e1]
                  clear k2 no
                  generalize rows.map Row.n = nms at *
                  generalize D.tup (.str w :: .int i :: q) = V at *
                  subst w3
                  simp only [wFact, wBack, wSettle, wText, wBehind, wAway, wInstead] at *
                  simp [c__law_can, e0, lv, i0, i1, pV, vV, tV, plS, tyS, h2, h3, pow9, cx, lo, lt, inn, hmn, tt]
              · rw [if_neg w3]
                clear k2 no
                generalize rows.map Row.n = nms at *
                generalize D.tup (.str w :: .int i :: q) = V at *
                simp only [wFact, wBack, wSettle, wText, wBehind, wAway, wInstead] at *
                simp [c__law_can, e0, lv, i0, i1, pV, vV, tV, plS, tyS, h2, f3, f4, f5, f6, w1, w2, w3, pow9, cx, lo, lt, inn, hmn, tt]
        · have hth := there_out hmn
          have eT : thereB rows (.int i) = false := by simp [thereB, hth]
          rw [no eT]
          clear k2 no
          generalize rows.map Row.n = nms at *
          generalize D.tup (.str w :: .int i :: q) = V at *
          simp only [wFact, wBack, wSettle, wText, wBehind] at *
          simp [c__law_can, e0, lv, i0, i1, pV, vV, tV, plS, tyS, h2, f3, f4, f5, f6, w1, pow9, cx, lo, lt, inn, hmn]
    · have ci : isNum (-1) none x = false := by
        cases x <;> try rfl
        rename_i i
        have : ¬ -1 ≤ i := fun z => hx ⟨i, rfl, z⟩
        simp [isNum, this]
      have sB : spotB rows x = false := by
        cases x <;> try rfl
        rename_i i
        have : ¬ -1 ≤ i := fun z => hx ⟨i, rfl, z⟩
        simp [spotB, this]
      have tB : thereB rows x = false := by
        cases x <;> try rfl
        rename_i i
        have : ¬ 0 ≤ i := fun z => hx ⟨i, rfl, by omega⟩
        simp [thereB, this]
      have hb : (if w = wBehind then behB rows a (x :: q) else if w = wAway then awayB rows (x :: q) else if w = wInstead then insB rows a (x :: q) else false) = false := by
        split
        · rcases q with _ | ⟨q1, _ | ⟨q2, q⟩⟩ <;> simp [behB, sB]
        · split
          · rcases q with _ | ⟨q1, q⟩
            · exact tB
            · rfl
          · split
            · rcases q with _ | ⟨q1, _ | ⟨q2, q⟩⟩ <;> simp [insB, tB]
            · rfl
      rw [ci] at cx
      rw [hb]
      clear k2
      generalize D.tup (.str w :: x :: q) = V at *
      simp only [wFact, wBack, wSettle, wText] at *
      simp [c__law_can, e0, lv, i0, i1, pV, vV, tV, plS, tyS, h2, f3, f4, f5, f6, pow9, cx]
end
end K76

namespace K76
open PySem PyE
def canText : Ss := (.cons (.ife (.or (.cmp .ne (.var 5) (.lit (.int 5))) (.or (.not (.isi (.ix (.var 3) (.lit (.int 1))) [.str])) (.or (.not (.isi (.ix (.var 3) (.lit (.int 2))) [.str])) (.or (.not (.isi (.ix (.var 3) (.lit (.int 3))) [.tuple])) (.not (.isi (.ix (.var 3) (.lit (.int 4))) [.tuple])))))) (.cons (.ret (.lit (.bl false))) .nil) .nil) (.cons (.asg (.name 6) (.lit (.str SG))) (.cons (.asg (.name 7) (.and (.cmp .eq (.lc [8] (.name 8) (.val (.bin .add (.ix (.var 3) (.lit (.int 1))) (.ix (.var 3) (.lit (.int 2))))) (.some (.cmp .notin (.var 8) (.var 6))) (.lit (.int 1))) (.list .nil)) (.cmp .eq (.lc [9] (.name 9) (.val (.ix (.var 3) (.lit (.int 3)))) (.some (.not (.call f__law_is_number (.cons (.var 9) (.cons (.lit (.int 0)) (.cons (.bin .pow (.lit (.int 10)) (.lit (.int 9))) .nil))) [] false))) (.lit (.int 1))) (.list .nil)))) (.cons (.ret (.and (.var 7) (.and (.cmp .eq (.bi .len (.cons (.ix (.var 3) (.lit (.int 4))) .nil)) (.ix (.var 2) (.lit (.int 0)))) (.cmp .eq (.lc [9] (.name 9) (.val (.ix (.var 3) (.lit (.int 4)))) (.some (.and (.cmp .isnot (.var 9) (.lit .non)) (.not (.call f__law_is_number (.cons (.var 9) (.cons (.lit (.int 0)) (.cons (.bin .pow (.lit (.int 10)) (.lit (.int 9))) .nil))) [] false)))) (.lit (.int 1))) (.list .nil))))) .nil))))
def canRest : Ss := match c__law_can.body with
  | .cons _ (.cons _ (.cons _ (.cons _ (.cons _ r)))) => r
  | _ => .nil
def canHead : C := (.or (.not (.isi (.var 3) [.tuple])) (.or (.cmp .eq (.var 3) (.tup .nil)) (.not (.isi (.ix (.var 3) (.lit (.int 0))) [.str]))))
theorem can_body : c__law_can = ⟨4, 10, (.cons (.ife canHead (.cons (.ret (.lit (.bl false))) .nil) .nil) (.cons (.asg (.tup (.cons (.name 4) (.cons (.name 5) .nil))) (.tup (.cons (.ix (.var 3) (.lit (.int 0))) (.cons (.bi .len (.cons (.var 3) .nil)) .nil)))) (.cons (.ife (.cmp .eq (.var 4) (.lit (.str (Str.ofString "settle")))) (.cons (.ret (.cmp .eq (.var 5) (.lit (.int 1)))) .nil) .nil) (.cons (.ife (.cmp .eq (.var 4) (.lit (.str (Str.ofString "fact")))) (.cons (.ret (.call f__law_can_fact (.cons (.var 1) (.cons (.var 2) (.cons (.var 3) .nil))) [] false)) .nil) .nil) (.cons (.ife (.cmp .eq (.var 4) (.lit (.str (Str.ofString "text")))) canText .nil) canRest)))))⟩ := rfl
section
variable {k : Nat} {n : Nat} {r : List D} {rows : List Row} {N T : List D} (lr : LR rows N T) (es : List Ev) (a b d : Int)
include lr
theorem law_can_settle (hk : 4 ≤ k) (hn : n + 1 ≤ 20) (h : okv (n + 1) (.tup (.str wSettle :: r)) = true) : callF prog k f__law_can [evsD true es, lifeF (rows.map Row.n) N T es, .tup [.int a, .int b, .int d], .tup (.str wSettle :: r)] [] = .ok (.bl r.isEmpty) [] := by
  rw [callF_at p__law_can (by omega), run_at rfl, can_body]
  have e0 := fun st => eq_tup0 h hn st
  simp only [List.isEmpty_cons] at e0
  obtain ⟨m, hm⟩ : ∃ m : Int, m = (r.length : Int) + 1 := ⟨_, rfl⟩
  have lv : ∀ st, biD .len [.tup (.str wSettle :: r)] st = .ok (.int m) st := fun st => by rw [hm]; rfl
  have i0 : ∀ st, ixD (.tup (.str wSettle :: r)) (.int 0) st = .ok (.str wSettle) st := fun st => by rw [ix_tup, atI_0]; rfl
  have pV : isPl (.tup (.str wSettle :: r)) = true := rfl
  have vV : ∀ st, view st (.tup (.str wSettle :: r)) = .tup (.str wSettle :: r) := fun _ => rfl
  have tV : isTy (.tup (.str wSettle :: r)) .tuple = true := rfl
  have er : r.isEmpty = decide (m = 1) := by
    cases r with
    | nil => simp at hm; subst hm; rfl
    | cons x r =>
      have : ¬ m = 1 := by simp at hm; omega
      simp [this]
  rw [er]
  generalize lifeF (rows.map Row.n) N T es = L
  generalize D.tup (.str wSettle :: r) = V at *
  simp only [wSettle] at *
  simp [canHead, e0, lv, i0, pV, vV, tV, plS, tyS]
theorem law_can_fact' (hk : 4 ≤ k) (hn : n + 1 ≤ 20) (h : okv (n + 1) (.tup (.str wFact :: r)) = true) : callF prog k f__law_can [evsD true es, lifeF (rows.map Row.n) N T es, .tup [.int a, .int b, .int d], .tup (.str wFact :: r)] [] = .ok (.bl (factB rows b d r)) [] := by
  rw [callF_at p__law_can (by omega), run_at rfl, can_body]
  have e0 := fun st => eq_tup0 h hn st
  simp only [List.isEmpty_cons] at e0
  obtain ⟨m, hm⟩ : ∃ m : Int, m = (r.length : Int) + 1 := ⟨_, rfl⟩
  have lv : ∀ st, biD .len [.tup (.str wFact :: r)] st = .ok (.int m) st := fun st => by rw [hm]; rfl
  have i0 : ∀ st, ixD (.tup (.str wFact :: r)) (.int 0) st = .ok (.str wFact) st := fun st => by rw [ix_tup, atI_0]; rfl
  have pV : isPl (.tup (.str wFact :: r)) = true := rfl
  have vV : ∀ st, view st (.tup (.str wFact :: r)) = .tup (.str wFact :: r) := fun _ => rfl
  have tV : isTy (.tup (.str wFact :: r)) .tuple = true := rfl
  have e := fun st => cl_law_fact (k := k - 1) (by omega) hn h lr es a b d st
  generalize lifeF (rows.map Row.n) N T es = L at *
  generalize D.tup (.str wFact :: r) = V at *
  simp only [wFact] at *
  simp [canHead, e0, lv, i0, pV, vV, tV, plS, tyS, e]
theorem law_can_text (hk : 4 ≤ k) (hn : n + 1 ≤ 20) (h : okv (n + 1) (.tup (.str wText :: r)) = true) : callF prog k f__law_can [evsD true es, lifeF (rows.map Row.n) N T es, .tup [.int a, .int b, .int d], .tup (.str wText :: r)] [] = .ok (.bl (textB a r)) [] := by
  rw [callF_at p__law_can (by omega), run_at rfl, can_body]
  have e0 := fun st => eq_tup0 h hn st
  simp only [List.isEmpty_cons] at e0
  obtain ⟨m, hm⟩ : ∃ m : Int, m = (r.length : Int) + 1 := ⟨_, rfl⟩
  have lv : ∀ st, biD .len [.tup (.str wText :: r)] st = .ok (.int m) st := fun st => by rw [hm]; rfl
  have i0 : ∀ st, ixD (.tup (.str wText :: r)) (.int 0) st = .ok (.str wText) st := fun st => by rw [ix_tup, atI_0]; rfl
  have pV : isPl (.tup (.str wText :: r)) = true := rfl
  have vV : ∀ st, view st (.tup (.str wText :: r)) = .tup (.str wText :: r) := fun _ => rfl
  have tV : isTy (.tup (.str wText :: r)) .tuple = true := rfl
  generalize lifeF (rows.map Row.n) N T es = L at *
  by_cases h5 : r.length = 4
  · obtain ⟨w1, w2, xs, cs, rfl⟩ : ∃ a b c d, r = [a, b, c, d] := by
      rcases r with _ | ⟨q1, _ | ⟨q2, _ | ⟨q3, _ | ⟨q4, _ | ⟨q5, r⟩⟩⟩⟩⟩ <;> first | (simp at h5; done) | exact ⟨q1, q2, q3, q4, rfl⟩
    have m5 : m = 5 := by simp at hm; omega
    have k1 := okv_el h (i := 1) rfl
    have k2 := okv_el h (i := 2) rfl
    have k3 := okv_el h (i := 3) rfl
    have k4 := okv_el h (i := 4) rfl
    have i1 : ∀ st, ixD (.tup [.str wText, w1, w2, xs, cs]) (.int 1) st = .ok w1 st := fun _ => rfl
    have i2 : ∀ st, ixD (.tup [.str wText, w1, w2, xs, cs]) (.int 2) st = .ok w2 st := fun _ => rfl
    have i3 : ∀ st, ixD (.tup [.str wText, w1, w2, xs, cs]) (.int 3) st = .ok xs st := fun _ => rfl
    have i4 : ∀ st, ixD (.tup [.str wText, w1, w2, xs, cs]) (.int 4) st = .ok cs st := fun _ => rfl
    show _ = R.ok (D.bl (isWr w1 && (isWr w2 && (allNum xs && carryOkB a cs)))) []
    generalize hV : D.tup [.str wText, w1, w2, xs, cs] = V at *
    have p1 := okv_pl k1
    have v1 := fun st => vw_okv k1 st
    have p2 := okv_pl k2
    have v2 := fun st => vw_okv k2 st
    have p3 := okv_pl k3
    have v3 := fun st => vw_okv k3 st
    have p4 := okv_pl k4
    have v4 := fun st => vw_okv k4 st
    simp only [wText] at *
    by_cases s1 : ∃ s, w1 = .str s
    · by_cases s2 : ∃ s, w2 = .str s
      · by_cases s3 : ∃ s, xs = .tup s
        · by_cases s4 : ∃ s, cs = .tup s
          · obtain ⟨u1, rfl⟩ := s1
            obtain ⟨u2, rfl⟩ := s2
            obtain ⟨l, rfl⟩ := s3
            obtain ⟨c, rfl⟩ := s4
            obtain ⟨n', rfl⟩ : ∃ m, n = m + 1 := by cases n with | zero => cases k3 | succ m => exact ⟨m, rfl⟩
            obtain ⟨l3, m3⟩ := okv_mem k3
            obtain ⟨l4, m4⟩ := okv_mem k4
            have q1 : u1.cps.toList.length ≤ 1000 := by
              simp only [okv, Bool.and_eq_true, decide_eq_true_eq] at k1
              simpa [Str.length] using k1.1
            have q2 : u2.cps.toList.length ≤ 1000 := by
              simp only [okv, Bool.and_eq_true, decide_eq_true_eq] at k2
              simpa [Str.length] using k2.1
            have cc : ∀ st, binD .add (.str u1) (.str u2) st = .ok (.str (u1 ++ u2)) st := fun st => by
              show guardB (decide (u1.length + u2.length ≤ line)) _ = _
              have : u1.length + u2.length ≤ line := by
                simp only [Array.length_toList] at q1 q2
                simp only [Str.length, line]; omega
              rw [decide_eq_true this]; rfl
            have it : ∀ st, iterOf st (.str (u1 ++ u2)) = some ((u1.cps.toList ++ u2.cps.toList).map (fun c => D.str ⟨#[c]⟩), []) := fun st => by
              have : (u1 ++ u2).cps.toList = u1.cps.toList ++ u2.cps.toList := by
                show (u1.cps ++ u2.cps).toList = _
                exact Array.toList_append
              show some ((u1 ++ u2).cps.toList.map (fun c => D.str ⟨#[c]⟩), ([] : Guard)) = _
              rw [this]
            let en : En := [some (evsD true es), some L, some (.tup [.int a, .int b, .int d]), some V, some (.str (Str.ofString "text")), some (.int m), some (.str SG), none, none, none]
            have c1 : ∀ st, evE (callF prog (k - 1)) (.lc [8] (.name 8) (.val (.bin .add (.ix (.var 3) (.lit (.int 1))) (.ix (.var 3) (.lit (.int 2))))) (.some (.cmp .notin (.var 8) (.var 6))) (.lit (.int 1))) en st = .ok (.lst (((u1.cps.toList ++ u2.cps.toList).filterMap fun x => if inS x = true then none else some (1 : Int)).map D.int)) st := fun st => by
              have ev : ∀ st, evE (callF prog (k - 1)) (.bin .add (.ix (.var 3) (.lit (.int 1))) (.ix (.var 3) (.lit (.int 2)))) en st = .ok (.str (u1 ++ u2)) st := fun st => by simp [en, i1, i2, cc]
              rw [e_evE_lc, e_evI_val, ev]
              simp only [rb_ok, it, opt_some]
              rw [fold_map (fun c : Nat => D.str ⟨#[c]⟩) D.int (fun x => if inS x = true then none else some (1 : Int)) (fun _ => True) ?hs (u1.cps.toList ++ u2.cps.toList) [] (fun _ _ => trivial) (by simp [line] at *; omega)]
              · simp
              · intro c acc _ hl
                have hl' : acc.length < 16777216 := hl
                cases hi : inS c <;> simp [en, notin_SG, hi, line, hl']
            have z1 := fun st => eq_ints_nil ((u1.cps.toList ++ u2.cps.toList).filterMap fun x => if inS x = true then none else some (1 : Int)) st
            rw [nil_noneT, List.all_append] at z1
            generalize ((u1.cps.toList ++ u2.cps.toList).filterMap fun x => if inS x = true then none else some (1 : Int)).map D.int = ys1 at c1 z1
            have c2 : ∀ st, evE (callF prog (k - 1)) (.lc [9] (.name 9) (.val (.ix (.var 3) (.lit (.int 3)))) (.some (.not (.call f__law_is_number (.cons (.var 9) (.cons (.lit (.int 0)) (.cons (.bin .pow (.lit (.int 10)) (.lit (.int 9))) .nil))) [] false))) (.lit (.int 1))) en st = .ok (.lst ((l.filterMap fun x => if isNum 0 none x = true then none else some (1 : Int)).map D.int)) st := fun st => by
              simp [en, i3]
              rw [fold_D D.int (fun x => if isNum 0 none x = true then none else some (1 : Int)) (fun x => x ∈ l) ?ht l (fun _ h => h) (by simp [line]; omega)]
              · simp
              · intro x acc hx hl
                have hl' : acc.length < 16777216 := hl
                have c2 := cl_law_num (k := k - 1) (by omega) x (m3 x hx) 0 1000000000
                rw [num_top (m3 x hx) 0 (by decide)] at c2
                cases hn : isNum 0 none x <;> simp [pow9, c2, hn, line, hl']
            have z2 := fun st => eq_ints_nil (l.filterMap fun x => if isNum 0 none x = true then none else some (1 : Int)) st
            rw [nil_none] at z2
            generalize (l.filterMap fun x => if isNum 0 none x = true then none else some (1 : Int)).map D.int = ys2 at c2 z2
            have g : isWr (.str u1) = u1.cps.toList.all inS := rfl
            have g2 : isWr (.str u2) = u2.cps.toList.all inS := rfl
            have g3 : allNum (.tup l) = l.all (isNum 0 none) := rfl
            have g4 : carryOkB a (.tup c) = (decide ((c.length : Int) = a) && c.all fun x => isNon x || isNum 0 none x) := rfl
            rw [g, g2, g3, g4]
            generalize hA1 : u1.cps.toList.all inS = A1 at *
            generalize hA2 : u2.cps.toList.all inS = A2 at *
            generalize hA3 : l.all (isNum 0 none) = A3 at *
            by_cases hG : (A1 && A2 && A3) = true
            · simp only [Bool.and_eq_true] at hG
              obtain ⟨⟨rfl, rfl⟩, rfl⟩ := hG
              by_cases hc : (c.length : Int) = a
              · have c3 : ∀ st, evE (callF prog (k - 1)) (.lc [9] (.name 9) (.val (.ix (.var 3) (.lit (.int 4)))) (.some (.and (.cmp .isnot (.var 9) (.lit .non)) (.not (.call f__law_is_number (.cons (.var 9) (.cons (.lit (.int 0)) (.cons (.bin .pow (.lit (.int 10)) (.lit (.int 9))) .nil))) [] false)))) (.lit (.int 1))) (en.set 7 (some (.bl true))) st = .ok (.lst ((c.filterMap fun x => if (isNon x || isNum 0 none x) = true then none else some (1 : Int)).map D.int)) st := fun st => by
                  simp [en, i4]
                  rw [fold_D D.int (fun x => if (isNon x || isNum 0 none x) = true then none else some (1 : Int)) (fun x => x ∈ c) ?hu c (fun _ h => h) (by simp [line]; omega)]
                  · simp
                  · intro x acc hx hl
                    have hl' : acc.length < 16777216 := hl
                    have c2 := cl_law_num (k := k - 1) (by omega) x (m4 x hx) 0 1000000000
                    rw [num_top (m4 x hx) 0 (by decide)] at c2
                    cases hz : isNon x with
                    | true => simp [hz, line, hl']
                    | false => cases hn : isNum 0 none x <;> simp [hz, pow9, c2, hn, line, hl']
                have z3 := fun st => eq_ints_nil (c.filterMap fun x => if (isNon x || isNum 0 none x) = true then none else some (1 : Int)) st
                rw [nil_none (p := fun x => isNon x || isNum 0 none x)] at z3
                generalize (c.filterMap fun x => if (isNon x || isNum 0 none x) = true then none else some (1 : Int)).map D.int = ys3 at c3 z3
                generalize (c.all fun x => isNon x || isNum 0 none x) = A4 at *
                simp only [en] at c1 c2 c3
                simp only [List.set_cons_succ, List.set_cons_zero] at c3
                simp [canHead, canText, -e_evE_lc, e0, lv, i0, pV, vV, tV, plS, tyS, plT, tyT, m5, i1, i2, i3, i4, hc]
                rw [m5] at c1 c2 c3
                simp [-e_evE_lc, c1, z1, c2, z2, c3, z3, i4, hc]
              · simp only [en] at c1 c2
                rw [m5] at c1 c2
                simp [canHead, canText, -e_evE_lc, e0, lv, i0, pV, vV, tV, plS, tyS, plT, tyT, m5, i1, i2, i3, i4, hc]
                simp [-e_evE_lc, c1, z1, c2, z2, i4, hc]
            · have hF : (A1 && (A2 && (A3 && (decide ((c.length : Int) = a) && c.all fun x => isNon x || isNum 0 none x)))) = false := by
                cases A1 <;> cases A2 <;> cases A3 <;> first | rfl | exact absurd rfl hG
              rw [hF]
              simp only [en] at c1 c2
              rw [m5] at c1 c2
              simp [canHead, canText, -e_evE_lc, e0, lv, i0, pV, vV, tV, plS, tyS, plT, tyT, m5, i1, i2, i3, i4]
              cases h12 : (A1 && A2) with
              | false =>
                rw [h12] at z1
                simp [-e_evE_lc, c1, z1]
              | true =>
                rw [h12] at z1 hG
                have : A3 = false := by cases A3 <;> first | rfl | exact absurd rfl hG
                rw [this] at z2
                simp [-e_evE_lc, c1, z1, c2, z2]
          · have t4 : isTy cs .tuple = false := by cases cs <;> first | rfl | exact absurd ⟨_, rfl⟩ s4
            have hF : (isWr w1 && (isWr w2 && (allNum xs && carryOkB a cs))) = false := by
              have : carryOkB a cs = false := by cases cs <;> first | rfl | exact absurd ⟨_, rfl⟩ s4
              rw [this]; simp
            rw [hF]
            obtain ⟨u1, rfl⟩ := s1
            obtain ⟨u2, rfl⟩ := s2
            obtain ⟨l, rfl⟩ := s3
            simp [canHead, canText, e0, lv, i0, pV, vV, tV, plS, tyS, plT, tyT, m5, i1, i2, i3, i4, p4, v4, t4]
        · have t3 : isTy xs .tuple = false := by cases xs <;> first | rfl | exact absurd ⟨_, rfl⟩ s3
          have hF : (isWr w1 && (isWr w2 && (allNum xs && carryOkB a cs))) = false := by
            have : allNum xs = false := by cases xs <;> first | rfl | exact absurd ⟨_, rfl⟩ s3
            rw [this]; simp
          rw [hF]
          obtain ⟨u1, rfl⟩ := s1
          obtain ⟨u2, rfl⟩ := s2
          simp [canHead, canText, e0, lv, i0, pV, vV, tV, plS, tyS, plT, tyT, m5, i1, i2, i3, p3, v3, t3]
      · have t2 : isTy w2 .str = false := by cases w2 <;> first | rfl | exact absurd ⟨_, rfl⟩ s2
        have hF : (isWr w1 && (isWr w2 && (allNum xs && carryOkB a cs))) = false := by
          have : isWr w2 = false := by cases w2 <;> first | rfl | exact absurd ⟨_, rfl⟩ s2
          rw [this]; simp
        rw [hF]
        obtain ⟨u1, rfl⟩ := s1
        simp [canHead, canText, e0, lv, i0, pV, vV, tV, plS, tyS, plT, tyT, m5, i1, i2, p2, v2, t2]
    · have t1 : isTy w1 .str = false := by cases w1 <;> first | rfl | exact absurd ⟨_, rfl⟩ s1
      have hF : (isWr w1 && (isWr w2 && (allNum xs && carryOkB a cs))) = false := by
        have : isWr w1 = false := by cases w1 <;> first | rfl | exact absurd ⟨_, rfl⟩ s1
        rw [this]; simp
      rw [hF]
      simp [canHead, canText, e0, lv, i0, pV, vV, tV, plS, tyS, plT, tyT, m5, i1, p1, v1, t1]
  · have hb2 : textB a r = false := by
      rcases r with _ | ⟨q1, _ | ⟨q2, _ | ⟨q3, _ | ⟨q4, _ | ⟨q5, r⟩⟩⟩⟩⟩ <;> first | rfl | (simp at h5; done)
    have m5 : ¬ m = 5 := by omega
    rw [hb2]
    generalize D.tup (.str wText :: r) = V at *
    simp only [wText] at *
    simp [canHead, canText, e0, lv, i0, pV, vV, tV, plS, tyS, m5]
theorem ev_law_can (hk : 4 ≤ k) (hn : n + 1 ≤ 20) (hl : es.length ≤ 900) (v : D) (h : okv (n + 1) v = true) : callF prog k f__law_can [evsD true es, lifeF (rows.map Row.n) N T es, .tup [.int a, .int b, .int d], v] [] = .ok (.bl (canV es rows a b d v)) [] := by
  by_cases ht : ∃ w r, v = .tup (.str w :: r)
  · obtain ⟨w, r, rfl⟩ := ht
    by_cases w3 : w = wFact
    · subst w3
      have : canV es rows a b d (.tup (.str wFact :: r)) = factB rows b d r := by simp [canV, wFact, wBehind, wAway, wInstead]
      rw [this]
      exact law_can_fact' lr es a b d hk hn h
    · by_cases w4 : w = wBack
      · subst w4
        have : canV es rows a b d (.tup (.str wBack :: r)) = backB es r := by simp [canV, wFact, wBehind, wAway, wInstead, wBack]
        rw [this]
        exact law_can_back lr es a b d hk hn hl h
      · by_cases w5 : w = wSettle
        · subst w5
          have : canV es rows a b d (.tup (.str wSettle :: r)) = r.isEmpty := by simp [canV, wFact, wBehind, wAway, wInstead, wBack, wSettle]
          rw [this]
          exact law_can_settle lr es a b d hk hn h
        · by_cases w6 : w = wText
          · subst w6
            have : canV es rows a b d (.tup (.str wText :: r)) = textB a r := by simp [canV, wFact, wBehind, wAway, wInstead, wBack, wSettle, wText]
            rw [this]
            exact law_can_text lr es a b d hk hn h
          · have : canV es rows a b d (.tup (.str w :: r)) = (if w = wBehind then behB rows a r else if w = wAway then awayB rows r else if w = wInstead then insB rows a r else false) := by
              simp only [canV, w3, w4, w5, w6, if_false]
            rw [this]
            exact law_can_edit lr es a b d hk hn h w3 w4 w5 w6
  · have hb : canV es rows a b d v = false := by
      unfold canV
      split
      · exact absurd ⟨_, _, rfl⟩ ht
      · rfl
    rw [hb, callF_at p__law_can (by omega), run_at rfl, can_body]
    generalize lifeF (rows.map Row.n) N T es = L
    have pv := okv_pl h
    have vv := fun st => vw_okv h st
    by_cases hx : ∃ xs, v = .tup xs
    · obtain ⟨xs, rfl⟩ := hx
      have e0 := fun st => eq_tup0 h hn st
      cases xs with
      | nil => simp [canHead, plT, tyT, e0]
      | cons y q =>
        have ky := okv_el h (i := 0) rfl
        have py := okv_pl ky
        have vy := fun st => vw_okv ky st
        have i0 : ∀ st, ixD (.tup (y :: q)) (.int 0) st = .ok y st := fun st => by rw [ix_tup, atI_0]; rfl
        have ty : isTy y .str = false := by cases y <;> first | rfl | exact absurd ⟨_, _, rfl⟩ ht
        have tV : isTy (.tup (y :: q)) .tuple = true := rfl
        simp only [List.isEmpty_cons] at e0
        generalize D.tup (y :: q) = V at *
        simp [canHead, pv, vv, tV, e0, i0, py, vy, ty]
    · have tv : isTy v .tuple = false := by cases v <;> first | rfl | exact absurd ⟨_, rfl⟩ hx
      simp [canHead, pv, vv, tv]
end
end K76

namespace PyE
open PySem
theorem for_same {asg : D → En → Store → R En} {body : En → Store → R (Fl × En)} {ws : List Nat} {n : Nat} {g : Guard} {en : En} {st : Store} : ∀ (items : List D), (∀ x ∈ items, stepR asg body ws n g x en st = .ok en st) → forR asg body ws n g items en st = .ok (.nx, en) st
  | [], _ => rfl
  | x :: items, h => by
    rw [for_step (h x List.mem_cons_self)]
    exact for_same items fun y hy => h y (List.mem_cons_of_mem _ hy)
theorem call_fresh {cf : CallF} {f : Nat} {xs : List D} {st : Store} {c : D} (hx : xs.all D.pure = true) (h : cf f xs [] = .ok (.ref 0) [c]) (hc : c.pure = true) : callIn cf f xs [] true st = .ok (.ref st.length) (st ++ [c]) := by
  have e : cellsAt st [] = some [] := rfl
  have hp : putBack [] [c] 0 [] st = some st := rfl
  simp only [callIn, prep_pure xs st 0 0 hx, e, h, callBack, hp]
  simp [hc, guardB]
theorem belL_ints (n : Nat) : ∀ ns : List Int, D.belL n (ns.map D.int) = true
  | [] => rfl
  | _ :: ns => by simp only [List.map_cons, D.belL, D.bel, Bool.true_and]; exact belL_ints n ns
end PyE
namespace K76
open PySem PyE
theorem okv_int {n : Nat} {i : Int} (h : inB i = true) : okv (n + 1) (.int i) = true := by
  simp only [inB, Bool.and_eq_true, decide_eq_true_eq] at h
  simp only [okv, Bool.and_eq_true, decide_eq_true_eq]
  omega
theorem okv_oD {n : Nat} {o : Option Int} (h : inO o = true) : okv (n + 1) (oD o) = true := by
  cases o with
  | none => rfl
  | some i => exact okv_int h
theorem okv_tup {n : Nat} {xs : List D} (hl : xs.length ≤ 100) (h : ∀ x ∈ xs, okv n x = true) : okv (n + 1) (.tup xs) = true := by
  simp only [okv, Bool.and_eq_true, decide_eq_true_eq]
  exact ⟨hl, List.all_eq_true.mpr h⟩
theorem okv_le {n m : Nat} (hnm : n ≤ m) {d : D} (h : okv n d = true) : okv m d = true := by
  induction hnm with
  | refl => exact h
  | step _ ih => exact okv_up _ _ ih
def okS (s : Str) : Bool := decide (s.length ≤ 1000) && (PyData.str s).canLay0
theorem okv_str {n : Nat} {s : Str} (h : okS s = true) : okv (n + 1) (.str s) = true := h
theorem oS1 : okS (Str.ofString "behind") = true := by simp only [okS, PyData.canLay0]; decide +kernel
theorem oS2 : okS (Str.ofString "away") = true := by simp only [okS, PyData.canLay0]; decide +kernel
theorem oS3 : okS (Str.ofString "instead") = true := by simp only [okS, PyData.canLay0]; decide +kernel
theorem oS4 : okS (Str.ofString "fact") = true := by simp only [okS, PyData.canLay0]; decide +kernel
theorem oS5 : okS (Str.ofString "back") = true := by simp only [okS, PyData.canLay0]; decide +kernel
theorem oS6 : okS (Str.ofString "settle") = true := by simp only [okS, PyData.canLay0]; decide +kernel
theorem oS7 : okS (Str.ofString "text") = true := by simp only [okS, PyData.canLay0]; decide +kernel
theorem oS8 : okS (Str.ofString "hand") = true := by simp only [okS, PyData.canLay0]; decide +kernel
theorem oS9 : okS (Str.ofString "board") = true := by simp only [okS, PyData.canLay0]; decide +kernel
theorem oS10 : okS (Str.ofString "shelf") = true := by simp only [okS, PyData.canLay0]; decide +kernel
theorem oS11 : okS (Str.ofString "store") = true := by simp only [okS, PyData.canLay0]; decide +kernel
theorem oS12 : okS (Str.ofString "a\tb") = true := by simp only [okS, PyData.canLay0]; decide +kernel
theorem all2 {p : D → Prop} {a b : D} (ha : p a) (hb : p b) : ∀ x ∈ [a, b], p x := fun x hx => by
  rcases List.mem_cons.mp hx with rfl | hx
  · exact ha
  · rw [List.mem_singleton.mp hx]; exact hb
theorem all1 {p : D → Prop} {a : D} (ha : p a) : ∀ x ∈ [a], p x := fun x hx => by rw [List.mem_singleton.mp hx]; exact ha
theorem all3 {p : D → Prop} {a b c : D} (ha : p a) (hb : p b) (hc : p c) : ∀ x ∈ [a, b, c], p x := fun x hx => by
  rcases List.mem_cons.mp hx with rfl | hx
  · exact ha
  · exact all2 hb hc x hx
theorem okv_look {l : Look} (h : okLook l = true) : okv 3 l.d = true := by
  cases l with
  | hand i => exact okv_tup (by simp) (all2 (okv_str oS8) (okv_int h))
  | board o lot =>
    simp only [okLook, Bool.and_eq_true, decide_eq_true_eq, List.all_eq_true] at h
    refine okv_tup (by simp) (all3 (okv_str oS9) (okv_oD h.1) (okv_tup (by simpa using h.2.1) fun x hx => ?_))
    obtain ⟨i, hi, rfl⟩ := List.mem_map.mp hx
    exact okv_int (h.2.2 i hi)
theorem okv_ev {e : Ev} (h : okEv e = true) : okv 4 e.d = true := by
  cases e with
  | behind n w =>
    simp only [okEv, Bool.and_eq_true] at h
    exact okv_tup (by simp) (all3 (okv_str oS1) (okv_int h.1) (okv_int h.2))
  | away n => exact okv_tup (by simp) (all2 (okv_str oS2) (okv_int h))
  | instead n w =>
    simp only [okEv, Bool.and_eq_true] at h
    exact okv_tup (by simp) (all3 (okv_str oS3) (okv_int h.1) (okv_int h.2))
  | back n => exact okv_tup (by simp) (all2 (okv_str oS5) (okv_int h))
  | fact l a =>
    simp only [okEv, Bool.and_eq_true] at h
    exact okv_tup (by simp) (all3 (okv_str oS4) (okv_look h.1) (okv_int h.2))
  | text xs carry =>
    simp only [okEv, Bool.and_eq_true, decide_eq_true_eq, List.all_eq_true] at h
    refine okv_tup (by simp) fun x hx => ?_
    simp only [List.mem_cons, List.not_mem_nil, or_false] at hx
    rcases hx with rfl | rfl | rfl | rfl | rfl
    · exact okv_str oS7
    · exact okv_str oS10
    · exact okv_str oS11
    · refine okv_tup (by simpa using h.1.1) fun x hx => ?_
      obtain ⟨i, hi, rfl⟩ := List.mem_map.mp hx
      exact okv_int (h.1.2 i hi)
    · refine okv_tup (by simpa using h.2.1) fun x hx => ?_
      obtain ⟨i, hi, rfl⟩ := List.mem_map.mp hx
      exact okv_oD (h.2.2 i hi)
  | settle => exact okv_tup (by simp) (all1 (okv_str oS6))
theorem ev_tup (e : Ev) : ∃ xs, e.d = .tup xs ∧ xs.length ≤ 5 ∧ 1 ≤ xs.length := by
  cases e <;> exact ⟨_, rfl, by simp, by simp⟩
structure Ctx (k : Nat) (es : List Ev) (rows : List Row) (L : D) (a b d : Int) : Prop where
  hk : 7 ≤ k
  len : es.length ≤ 30
  rows_eq : plainNotes es = some rows
  life : ∃ N T, L = lifeF (rows.map Row.n) N T es ∧ LR rows N T
theorem Ctx.same {k : Nat} {es : List Ev} {rows : List Row} {L : D} {a b d : Int} (c : Ctx k es rows L a b d) {n : Nat} (hn : n + 1 ≤ 20) {v : D} (h : okv (n + 1) v = true) (st : Store) :
    ∃ r : Bool, callIn (callF prog k) f_can_event [evsD true es, szD a b d, v] [] false st = .ok (.bl r) st ∧ callIn (callF prog k) f__law_can [evsD true es, L, szD a b d, v] [] false st = .ok (.bl r) st ∧ callIn (callF prog k) f__law_same [.bl r, .bl r] [] false st = .ok (.bl true) st := by
  obtain ⟨N, T, rfl, lr⟩ := c.life
  have hk := c.hk
  have hl := c.len
  refine ⟨canV es rows a b d v, ?_, ?_, cl_same (n := 1) (by omega) _ rfl st⟩
  · exact call_pure (by simp [evs_pure, okv_pure _ _ h, szD]; rfl) (ev_can_event k (by omega) hn v h es (by omega) c.rows_eq a b d) rfl
  · exact call_pure (by simp [evs_pure, okv_pure _ _ h, szD, life_pure _ _ _ _ lr.pN lr.pT]; rfl) (ev_law_can lr es a b d (by omega) hn (by omega) v h) rfl
theorem Ctx.ask2 {k : Nat} {es : List Ev} {rows : List Row} {L : D} {a b d : Int} (c : Ctx k es rows L a b d) {n : Nat} (hn : n + 1 ≤ 20) {v : D} (h : okv (n + 1) v = true) (S : D) (kk : Nat) (i : Int) (st : Store) :
    stepR (asT (callF prog k) (.name 11)) (evSs (callF prog k) b_law_2) [11] st.length [] v [some S, some (.int kk), some (.ref 0), some (.int i), none, none, none, some (evsD true es), some (szD a b d), some L, some (.int a), none, none, none, none, none] st =
      .ok [some S, some (.int kk), some (.ref 0), some (.int i), none, none, none, some (evsD true es), some (szD a b d), some L, some (.int a), none, none, none, none, none] st := by
  obtain ⟨r, e1, e2, e3⟩ := c.same hn h st
  simp [stepR, b_law_2, e1, e2, e3]
def e6 (S : D) (kk : Nat) (es : List Ev) (L : D) (a b d : Int) (x4 x5 : Option D) : En := [some S, some (.int kk), some (.ref 0), none, x4, x5, none, some (evsD true es), some (szD a b d), some L, some (.int a), none, none, none, none, none]
theorem Ctx.ask3 {k : Nat} {es : List Ev} {rows : List Row} {L : D} {a b d : Int} (c : Ctx k es rows L a b d) (ha : 2 ≤ a ∧ a ≤ 4) (S : D) (kk : Nat) (i : Int) (hi : inB i = true) (bx : D) :
    stepR (asT (callF prog k) (.name 3)) (evSs (callF prog k) b_law_3) [3, 11] 1 [] (.int i) (e6 S kk es L a b d none none) [bx] = .ok (e6 S kk es L a b d none none) [bx] := by
  have lp : forR (asT (callF prog k) (.name 11)) (evSs (callF prog k) b_law_2) [11] 1 [] [.tup [.str (Str.ofString "away"), .int i], .tup [.str (Str.ofString "instead"), .int i, .int 0], .tup [.str (Str.ofString "behind"), .int i, .int (a - 1)], .tup [.str (Str.ofString "back"), .int i], .tup [.str (Str.ofString "fact"), .tup [.str (Str.ofString "board"), .int i, .tup [.int 0]], .int 1]]
      [some S, some (.int kk), some (.ref 0), some (.int i), none, none, none, some (evsD true es), some (szD a b d), some L, some (.int a), none, none, none, none, none] [bx] = .ok (.nx, [some S, some (.int kk), some (.ref 0), some (.int i), none, none, none, some (evsD true es), some (szD a b d), some L, some (.int a), none, none, none, none, none]) [bx] := for_same _ fun x hx => by
    have ok : okv (5 + 1) x = true := by
      simp only [List.mem_cons, List.not_mem_nil, or_false] at hx
      rcases hx with rfl | rfl | rfl | rfl | rfl
      · exact okv_tup (by simp) (all2 (okv_str oS2) (okv_int hi))
      · exact okv_tup (by simp) (all3 (okv_str oS3) (okv_int hi) (okv_int rfl))
      · exact okv_tup (by simp) (all3 (okv_str oS1) (okv_int hi) (okv_int (inB_of (by omega))))
      · exact okv_tup (by simp) (all2 (okv_str oS5) (okv_int hi))
      · exact okv_tup (by simp) (all3 (okv_str oS4) (okv_tup (by simp) (all3 (okv_str oS9) (okv_int hi) (okv_tup (by simp) (all1 (okv_int rfl))))) (okv_int rfl))
    exact c.ask2 (n := 5) (by decide) ok S kk i [bx]
  simp only [stepR, e6]
  simp [b_law_3, lp]
end K76

namespace PyE
open PySem
theorem flat_rep (x : D) : ∀ n : Nat, (List.replicate n [x]).flatten = List.replicate n x
  | 0 => rfl
  | n + 1 => by rw [List.replicate_succ, List.flatten_cons, flat_rep x n]; rfl
theorem bin_rep {x : D} {j : Int} {st : Store} (h : 2 ≤ j) (h2 : j ≤ 1000) : binD .mul (.tup [x]) (.int j) st = .ok (.tup (List.replicate j.toNat x)) st := by
  show guardB (!([x] : List D).isEmpty && decide (2 ≤ j) && decide (j ≤ 1000) && decide (([x] : List D).length ≤ 1000)) (R.ok (D.tup (List.replicate j.toNat [x]).flatten) st) = _
  rw [decide_eq_true h, decide_eq_true h2, flat_rep]; rfl
end PyE
namespace K76
open PySem PyE
def odds (a b d : Int) : List D := [.non, .bl true, .int (-1), .int a, .str (Str.ofString "away"), .str (Str.ofString "a\tb"), .tup [], .lst [.int 0], .tup (List.replicate a.toNat .non), .tup (List.replicate a.toNat (.int 0)), .tup (List.replicate a.toNat (.bl true)), .tup (List.replicate (a + 1).toNat (.int 0)), .str (Str.ofString "settle"), .tup [.str (Str.ofString "hand"), .int d], .tup [.str (Str.ofString "board"), .non, .tup [.int b]], .tup [.str (Str.ofString "board"), .non, .tup [.int 0, .int 0]], .tup [.str (Str.ofString "board"), .non, .lst [.int 0]], .tup [.str (Str.ofString "hand"), .bl true], .int 2]
theorem okv_rep {n : Nat} {x : D} {m : Nat} (hm : m ≤ 100) (h : okv n x = true) : okv (n + 1) (.tup (List.replicate m x)) = true :=
  okv_tup (by simpa using hm) fun y hy => by rw [(List.mem_replicate.mp hy).2]; exact h
theorem odds_ok {a b d : Int} (ha : 2 ≤ a ∧ a ≤ 4) (hb : 1 ≤ b ∧ b ≤ 4) (hd : 1 ≤ d ∧ d ≤ 2) : ∀ x ∈ odds a b d, okv 4 x = true := fun x hx => by
  simp only [odds, List.mem_cons, List.not_mem_nil, or_false] at hx
  rcases hx with rfl | rfl | rfl | rfl | rfl | rfl | rfl | rfl | rfl | rfl | rfl | rfl | rfl | rfl | rfl | rfl | rfl | rfl | rfl
  · rfl
  · rfl
  · rfl
  · exact okv_int (inB_of (by omega))
  · exact okv_str oS2
  · exact okv_str oS12
  · rfl
  · rfl
  · exact okv_rep (by omega) rfl
  · exact okv_rep (by omega) rfl
  · exact okv_rep (by omega) rfl
  · exact okv_rep (by omega) rfl
  · exact okv_str oS6
  · exact okv_tup (by simp) (all2 (okv_str oS8) (okv_int (inB_of (by omega))))
  · exact okv_tup (by simp) (all3 (okv_str oS9) rfl (okv_tup (by simp) (all1 (okv_int (inB_of (by omega))))))
  · exact okv_tup (by simp) (all3 (okv_str oS9) rfl (okv_tup (by simp) (all2 (okv_int rfl) (okv_int rfl))))
  · exact okv_tup (by simp) (all3 (okv_str oS9) rfl rfl)
  · exact okv_tup (by simp) (all2 (okv_str oS8) rfl)
  · rfl
def e7 (S : D) (kk : Nat) (es : List Ev) (L : D) (a b d : Int) (th bs : D) (x6 x11 x12 x13 : Option D) : En := [some S, some (.int kk), some (.ref 0), none, some th, some bs, x6, some (evsD true es), some (szD a b d), some L, some (.int a), x11, x12, x13, none, none]
theorem Ctx.ask0 {k : Nat} {es : List Ev} {rows : List Row} {L : D} {a b d : Int} (c : Ctx k es rows L a b d) {n : Nat} (hn : n + 1 ≤ 20) {v : D} (h : okv (n + 1) v = true) (S : D) (kk : Nat) (th bs : D) (x6 x11 x12 x13 : Option D) (bx : D) :
    stepR (asT (callF prog k) (.name 14)) (evSs (callF prog k) b_law_0) [14] 1 [] v (e7 S kk es L a b d th bs x6 x11 x12 x13) [bx] = .ok (e7 S kk es L a b d th bs x6 x11 x12 x13) [bx] := by
  obtain ⟨r, e1, e2, e3⟩ := c.same hn h [bx]
  simp only [stepR, e7]
  simp [b_law_0, e1, e2, e3]
def oddsC : C := (.list (.cons (.lit .non) (.cons (.lit (.bl true)) (.cons (.bin .sub (.lit (.int 0)) (.lit (.int 1))) (.cons (.var 10) (.cons (.lit (.str (Str.ofString "away"))) (.cons (.lit (.str (Str.ofString "a\tb"))) (.cons (.tup .nil) (.cons (.list (.cons (.lit (.int 0)) .nil)) (.cons (.bin .mul (.tup (.cons (.lit .non) .nil)) (.var 10)) (.cons (.bin .mul (.tup (.cons (.lit (.int 0)) .nil)) (.var 10)) (.cons (.bin .mul (.tup (.cons (.lit (.bl true)) .nil)) (.var 10)) (.cons (.bin .mul (.tup (.cons (.lit (.int 0)) .nil)) (.bin .add (.var 10) (.lit (.int 1)))) (.cons (.lit (.str (Str.ofString "settle"))) (.cons (.tup (.cons (.lit (.str (Str.ofString "hand"))) (.cons (.ix (.var 8) (.lit (.int 2))) .nil))) (.cons (.tup (.cons (.lit (.str (Str.ofString "board"))) (.cons (.lit .non) (.cons (.tup (.cons (.ix (.var 8) (.lit (.int 1))) .nil)) .nil)))) (.cons (.tup (.cons (.lit (.str (Str.ofString "board"))) (.cons (.lit .non) (.cons (.tup (.cons (.lit (.int 0)) (.cons (.lit (.int 0)) .nil))) .nil)))) (.cons (.tup (.cons (.lit (.str (Str.ofString "board"))) (.cons (.lit .non) (.cons (.list (.cons (.lit (.int 0)) .nil)) .nil)))) (.cons (.tup (.cons (.lit (.str (Str.ofString "hand"))) (.cons (.lit (.bl true)) .nil))) (.cons (.lit (.int 2)) .nil))))))))))))))))))))
def manyC : C := (.list (.cons (.var 11) (.cons (.bin .add (.bin .add (.sl (.var 11) .none (.some (.var 12))) (.tup (.cons (.var 13) .nil))) (.sl (.var 11) (.some (.bin .add (.var 12) (.lit (.int 1)))) .none)) (.cons (.bin .add (.var 11) (.tup (.cons (.var 13) .nil))) (.cons (.sl (.var 11) .none (.some (.var 12))) (.cons (.bi .list (.cons (.var 11) .nil)) (.cons (.var 13) .nil)))))))
theorem b1_eq : b_law_1 = (.cons (.asg (.name 11) (.call f__law_pick (.cons (.var 2) (.cons (.var 5) .nil)) [0] false)) (.cons (.asg (.name 12) (.call f__law_take (.cons (.var 2) (.cons (.bi .len (.cons (.var 11) .nil)) .nil)) [0] false)) (.cons (.asg (.name 13) (.call f__law_pick (.cons (.var 2) (.cons oddsC .nil)) [0] false)) (.cons (.for_ (.name 14) (.val manyC) [14] b_law_0) .nil)))) := rfl
theorem Ctx.ask1 {k : Nat} {es : List Ev} {rows : List Row} {L : D} {a b d : Int} (c : Ctx k es rows L a b d) (ha : 2 ≤ a ∧ a ≤ 4) (hb : 1 ≤ b ∧ b ≤ 4) (hd : 1 ≤ d ∧ d ≤ 2) (S : D) (kk : Nat) (th : D) (base : List Ev) (hb0 : base ≠ []) (hbl : base.length ≤ 100) (hbe : ∀ e ∈ base, okEv e = true) {bx : D} (hbx : IsBox bx) (x : D) :
    ∃ bx', IsBox bx' ∧ stepR (asT (callF prog k) (.name 6)) (evSs (callF prog k) b_law_1) [13, 14, 12, 6, 11] 1 [] x (e7 S kk es L a b d th (.lst (base.map Ev.d)) none none none none) [bx] = .ok (e7 S kk es L a b d th (.lst (base.map Ev.d)) none none none none) [bx'] := by
  have hk := c.hk
  obtain ⟨v, c1, q1, b1, hv⟩ := pick0 (k := k) (by omega) hbx (base.map Ev.d) (by simpa using hb0) (by simp; omega) (fun x hx => by obtain ⟨e, _, rfl⟩ := List.mem_map.mp hx; exact ev_pure e)
  obtain ⟨e, he, rfl⟩ := List.mem_map.mp hv
  obtain ⟨xs, hxs, hl5, hl1⟩ := ev_tup e
  have oe := okv_ev (hbe e he)
  rw [hxs] at q1 oe
  obtain ⟨s, c2, q2, b2, s0, s1⟩ := take0 (k := k) (by omega) b1 (xs.length : Nat) (by omega) (by omega)
  obtain ⟨odd, c3, q3, b3, ho⟩ := pick0 (k := k) (by omega) b2 (odds a b d) (by simp [odds]) (by simp [odds]) (fun x hx => okv_pure 4 x (odds_ok ha hb hd x hx))
  have oo := odds_ok ha hb hd odd ho
  obtain ⟨_, om⟩ := okv_mem oe
  have om4 : ∀ x ∈ xs, okv 4 x = true := fun x hx => okv_up 3 x (om x hx)
  have bd : ∀ l : List D, l.length ≤ 11 → (∀ x ∈ l, okv 4 x = true) → okv (4 + 1) (.tup l) = true := fun l hl h => okv_tup (by omega) h
  let vs : List D := [.tup xs, .tup (xs.take s.toNat ++ [odd] ++ xs.drop (s + 1).toNat), .tup (xs ++ [odd]), .tup (xs.take s.toNat), .lst xs, odd]
  have vok : ∀ v ∈ vs, okv (4 + 1) v = true := fun v hv => by
    simp only [vs, List.mem_cons, List.not_mem_nil, or_false] at hv
    rcases hv with rfl | rfl | rfl | rfl | rfl | rfl
    · exact bd xs (by omega) om4
    · refine bd _ (by simp; omega) fun x hx => ?_
      simp only [List.mem_append, List.mem_singleton] at hx
      rcases hx with (hx | rfl) | hx
      · exact om4 x (List.mem_of_mem_take hx)
      · exact oo
      · exact om4 x (List.mem_of_mem_drop hx)
    · refine bd _ (by simp; omega) fun x hx => ?_
      simp only [List.mem_append, List.mem_singleton] at hx
      rcases hx with hx | rfl
      · exact om4 x hx
      · exact oo
    · exact bd _ (by simp; omega) fun x hx => om4 x (List.mem_of_mem_take hx)
    · simp only [okv, Bool.and_eq_true, decide_eq_true_eq]
      exact ⟨by omega, List.all_eq_true.mpr om4⟩
    · exact okv_up 4 _ oo
  have lp : forR (asT (callF prog k) (.name 14)) (evSs (callF prog k) b_law_0) [14] 1 [] vs (e7 S kk es L a b d th (.lst (base.map Ev.d)) (some x) (some (.tup xs)) (some (.int s)) (some odd)) [c3] = .ok (.nx, e7 S kk es L a b d th (.lst (base.map Ev.d)) (some x) (some (.tup xs)) (some (.int s)) (some odd)) [c3] :=
    for_same _ fun v hv => c.ask0 (n := 4) (by decide) (vok v hv) S kk th _ _ _ _ _ c3
  have eo : ∀ st, evE (callF prog k) oddsC (e7 S kk es L a b d th (.lst (base.map Ev.d)) (some x) (some (.tup xs)) (some (.int s)) none) st = .ok (.lst (odds a b d)) st := fun st => by
    have r1 : ∀ x st, binD .mul (.tup [x]) (.int a) st = .ok (.tup (List.replicate a.toNat x)) st := fun x st => bin_rep ha.1 (by omega)
    have r2 : ∀ x st, binD .mul (.tup [x]) (.int (a + 1)) st = .ok (.tup (List.replicate (a + 1).toNat x)) st := fun x st => bin_rep (by omega) (by omega)
    have s1 : ∀ st, ixD (szD a b d) (.int 1) st = .ok (.int b) st := fun _ => rfl
    have s2 : ∀ st, ixD (szD a b d) (.int 2) st = .ok (.int d) st := fun _ => rfl
    simp [oddsC, e7, r1, r2, s1, s2, odds]
    exact mkLst_ok (by simp [line])
  have em : ∀ st, evE (callF prog k) manyC (e7 S kk es L a b d th (.lst (base.map Ev.d)) (some x) (some (.tup xs)) (some (.int s)) (some odd)) st = .ok (.lst vs) st := fun st => by
    have t1 : ∀ st, slB (.tup xs) none (some s) st = some (.tup (xs.take s.toNat)) := fun st => sl_take _ _ s0
    have t2 : ∀ st, slB (.tup xs) (some (s + 1)) none st = some (.tup (xs.drop (s + 1).toNat)) := fun st => sl_drop _ _ (by omega)
    have a1 : ∀ st, binD .add (.tup (xs.take s.toNat)) (.tup [odd]) st = .ok (.tup (xs.take s.toNat ++ [odd])) st := fun st => bin_add_tup (by simp [line]; omega)
    have a2 : ∀ st, binD .add (.tup (xs.take s.toNat ++ [odd])) (.tup (xs.drop (s + 1).toNat)) st = .ok (.tup (xs.take s.toNat ++ [odd] ++ xs.drop (s + 1).toNat)) st := fun st => bin_add_tup (by simp [line]; omega)
    have a3 : ∀ st, binD .add (.tup xs) (.tup [odd]) st = .ok (.tup (xs ++ [odd])) st := fun st => bin_add_tup (by simp [line]; omega)
    generalize hA : xs.take s.toNat ++ [odd] = A at a1 a2
    simp [manyC, e7, t1, t2, a1, a2, a3, vs, hA]
  refine ⟨c3, b3, ?_⟩
  generalize hvs : vs = VS at lp em
  have lx : ∀ st, biD .len [.tup xs] st = .ok (.int (xs.length : Nat)) st := fun _ => rfl
  generalize odds a b d = OD at *
  generalize base.map Ev.d = BS at *
  simp only [stepR]
  simp only [e7] at *
  simp [b1_eq, q1, lx, q2, eo, q3, em, lp]
end K76

namespace K76
open PySem PyE
theorem box_ok {m : Nat} {ns : List Int} (hl : ns.length ≤ 63) {k : Nat} (hk : k < 6) (st : Store) : ∃ c, callIn (callF prog (m + 1)) f__law_box [.lst (ns.map D.int), .int k] [] true st = .ok (.ref st.length) (st ++ [c]) ∧ IsBox c := by
  obtain ⟨c, e, b⟩ := ev_box m ns hl k hk
  exact ⟨c, call_fresh (by simp [D.pure]; exact pureL_map _ (fun _ => rfl) ns) e (box_pl b), b⟩
theorem events_ok {k : Nat} (hk : 5 ≤ k) {c : D} (hb : IsBox c) : ∃ es a b d N0 c', callIn (callF prog k) f__law_events [.ref 0, .int 20, .bl true] [0] false [c] = .ok (.tup [evsD true es, szD a b d]) [c'] ∧ IsBox c' ∧ GI es a N0 ∧ es.length ≤ 30 ∧ (2 ≤ a ∧ a ≤ 4) ∧ (1 ≤ b ∧ b ≤ 4) ∧ (1 ≤ d ∧ d ≤ 2) := by
  obtain ⟨es, a, b, d, N0, c', r, e, b1, g, l, ha, hbb, hd⟩ := ev_events k hk hb
  refine ⟨es, a, b, d, N0, c', ?_, b1, g, l, ha, hbb, hd⟩
  have hp : (D.tup [evsD true es, szD a b d]).pure = true := by
    simp [D.pure, D.pureL, szD, evs_pure]
  exact call_box (st := [c]) (n := 0) rfl (box_pl hb) rfl e rfl (box_pl b1) hp
theorem event0 {k : Nat} (hk : 4 ≤ k) {c : D} (hb : IsBox c) {es : List Ev} {size : Int} {N0 : List Int} (h : GI es size N0) (hl : es.length ≤ 100) (b d : Int) (h1 : 1 ≤ b ∧ b ≤ 4) (h2 : 1 ≤ d ∧ d ≤ 2) :
    ∃ e c', callIn (callF prog k) f__law_some_event [.ref 0, .lst (es.map Ev.d), szD size b d] [0] false [c] = .ok e.d [c'] ∧ IsBox c' ∧ okEv e = true := by
  obtain ⟨e, N1, c', e1, b1, _, _, ok⟩ := ev_event k hk hb h hl b d h1 h2
  have hp : ([evsD false es, szD size b d] : List D).all D.pure = true := by
    simp only [List.all_cons, List.all_nil, Bool.and_true, Bool.and_eq_true]
    exact ⟨evs_pure false es, rfl⟩
  exact ⟨e, c', call_box (st := [c]) (n := 0) (xs := [evsD false es, szD size b d]) rfl (box_pl hb) hp e1 rfl (box_pl b1) (ev_pure e), b1, ok⟩
theorem fact0 {k : Nat} (hk : 3 ≤ k) {c : D} (hb : IsBox c) (there : List Int) (hl : there.length ≤ 1000) (a b d : Int) (h1 : 1 ≤ b ∧ b ≤ 4) (h2 : 1 ≤ d ∧ d ≤ 2) (ht : ∀ n ∈ there, inB n = true) : ∃ e c', callIn (callF prog k) f__law_some_fact [.ref 0, .lst (there.map D.int), szD a b d] [0] false [c] = .ok e.d [c'] ∧ IsBox c' ∧ okEv e = true := by
  obtain ⟨l, v, c', e1, b1, ok⟩ := ev_fact k hk hb there hl a b d h1 h2 ht
  exact ⟨.fact l v, c', call_box (st := [c]) (n := 0) rfl (box_pl hb) (by simp [D.pure, D.pureL, szD]; exact pureL_map _ (fun _ => rfl) there) e1 rfl (box_pl b1) (ev_pure _), b1, ok⟩
def baseC : C := (.bin .add (.lc [6] (.name 6) (.range1 (.lit (.int 3))) .none (.call f__law_some_event (.cons (.var 2) (.cons (.bi .list (.cons (.var 7) .nil)) (.cons (.var 8) .nil))) [0] false)) (.list (.cons (.call f__law_some_text (.cons (.var 2) (.cons (.var 10) (.cons (.lit (.int 3)) .nil))) [0] false) (.cons (.call f__law_some_fact (.cons (.var 2) (.cons (.var 4) (.cons (.var 8) .nil))) [0] false) (.cons (.call f__law_some_fact (.cons (.var 2) (.cons (.var 4) (.cons (.var 8) .nil))) [0] false) .nil)))))
def thereC : C := (.lc [15] (.name 15) (.val (.ix (.var 9) (.lit (.str (Str.ofString "order"))))) (.some (.ix (.ix (.var 9) (.lit (.str (Str.ofString "there")))) (.var 15))) (.var 15))
theorem b4_eq : b_law_4 = (.cons (.asg (.name 2) (.call f__law_box (.cons (.var 0) (.cons (.var 1) .nil)) [] true)) (.cons (.asg (.tup (.cons (.name 7) (.cons (.name 8) .nil))) (.call f__law_events (.cons (.var 2) (.cons (.lit (.int 20)) (.cons (.lit (.bl true)) .nil))) [0] false)) (.cons (.asg (.tup (.cons (.name 9) (.cons (.name 10) .nil))) (.tup (.cons (.call f__law_lives (.cons (.var 7) .nil) [] false) (.cons (.ix (.var 8) (.lit (.int 0))) .nil)))) (.cons (.for_ (.name 3) (.range2 (.bin .sub (.lit (.int 0)) (.lit (.int 1))) (.bin .add (.bi .len (.cons (.var 7) .nil)) (.lit (.int 2)))) [3, 11] b_law_3) (.cons (.asg (.name 4) thereC) (.cons (.asg (.name 5) baseC) (.cons (.for_ (.name 6) (.range1 (.lit (.int 14))) [13, 14, 12, 6, 11] b_law_1) .nil))))))) := rfl
theorem base_ok {k : Nat} (hk : 4 ≤ k) {c : D} (hb : IsBox c) {es : List Ev} {a : Int} {N0 : List Int} (g : GI es a N0) (hl : es.length ≤ 30) (b d : Int) (ha : 2 ≤ a ∧ a ≤ 4) (h1 : 1 ≤ b ∧ b ≤ 4) (h2 : 1 ≤ d ∧ d ≤ 2) (there : List Int) (htl : there.length ≤ 1000) (ht : ∀ n ∈ there, inB n = true) (S : D) (kk : Nat) (L : D) :
    ∃ base c', base ≠ [] ∧ base.length ≤ 100 ∧ (∀ e ∈ base, okEv e = true) ∧ IsBox c' ∧ evE (callF prog k) baseC (e6 S kk es L a b d (some (.lst (there.map D.int))) none) [c] = .ok (.lst (base.map Ev.d)) [c'] := by
  have li : ∀ st, biD .list [evsD true es] st = .ok (.lst (es.map Ev.d)) st := fun _ => rfl
  have cx : ∃ zs st', evE (callF prog k) (.lc [6] (.name 6) (.range1 (.lit (.int 3))) .none (.call f__law_some_event (.cons (.var 2) (.cons (.bi .list (.cons (.var 7) .nil)) (.cons (.var 8) .nil))) [0] false)) (e6 S kk es L a b d (some (.lst (there.map D.int))) none) [c] = .ok (.lst zs) st' ∧ BoxSt st' ∧ (∀ z ∈ zs, ∃ e : Ev, z = e.d ∧ okEv e = true) ∧ zs.length = (rangeD 0 3).length := by
    have rg : rgOk 3 = true := rfl
    simp only [e6]
    simp [rg]
    refine fold_lst1 (items := rangeD 0 3) BoxSt (fun z => ∃ e : Ev, z = e.d ∧ okEv e = true) (fun _ => True) (fun _ _ => trivial) ⟨c, rfl, hb⟩ (by simp [rangeD, line]) fun x acc st _ ⟨c, hs, hc⟩ hl' => ?_
    subst hs
    have hl'' : acc.length < 16777216 := hl'
    obtain ⟨e, c1, e1, b1, ok⟩ := event0 (k := k) hk hc g (by omega) b d h1 h2
    exact ⟨e.d, [c1], by simp [li, e1, line, hl''], ⟨c1, rfl, b1⟩, e, rfl, ok⟩
  obtain ⟨zs, st1, e1, ⟨c1, rfl, b1⟩, hz, hzl⟩ := cx
  obtain ⟨b3, rfl, hb3⟩ := map_of Ev.d (fun e => okEv e = true) hz
  obtain ⟨xs, carry, c2, e2, b2, _, _, ot⟩ := text_ok (k := k) (by omega) b1 [] a 3 (by omega) (by omega)
  obtain ⟨f1, c3, e3, b3', o1⟩ := fact0 (k := k) (by omega) b2 there htl a b d h1 h2 ht
  obtain ⟨f2, c4, e4, b4, o2⟩ := fact0 (k := k) (by omega) b3' there htl a b d h1 h2 ht
  have l3 : b3.length = 3 := by simpa [rangeD] using hzl
  refine ⟨b3 ++ [.text xs carry, f1, f2], c4, by simp, by simp; omega, fun e he => ?_, b4, ?_⟩
  · rcases List.mem_append.mp he with he | he
    · exact hb3 e he
    · simp only [List.mem_cons, List.not_mem_nil, or_false] at he
      rcases he with rfl | rfl | rfl
      · exact ot
      · exact o1
      · exact o2
  · have ad : ∀ st, binD .add (.lst (b3.map Ev.d)) (.lst [(Ev.text xs carry).d, f1.d, f2.d]) st = .ok (.lst ((b3 ++ [.text xs carry, f1, f2]).map Ev.d)) st := fun st => by
      rw [bin_add_lst (by simp [line]; omega)]; simp
    generalize (b3 ++ [.text xs carry, f1, f2]).map Ev.d = BS at ad
    generalize b3.map Ev.d = B3 at *
    simp only [e6] at *
    simp [baseC, -e_evE_lc, e1, e2, e3, e4, ad]
theorem there_ev {cf : CallF} {rows : List Row} {N T : List D} (lr : LR rows N T) (es : List Ev) (hl : rows.length ≤ 900) (S : D) (kk : Nat) (a b d : Int) (st : Store) :
    evE cf thereC (e6 S kk es (lifeF (rows.map Row.n) N T es) a b d none none) st = .ok (.lst (((alive rows).map Row.n).map D.int)) st := by
  simp [thereC, e6]
  rw [fold_map (D.int ∘ Row.n) D.int (fun r : Row => if r.t = true then some r.n else none) (fun r => r ∈ rows) ?h rows [] (fun _ h => h) (by simp [line]; omega)]
  · rw [alive_names]; simp
  · intro r acc hm hl
    have hl' : acc.length < 16777216 := hl
    have gT := lr.inT r hm
    cases ht : r.t <;> simp [gT, ht, line, hl']
def AskInv (E : En) (j : Nat) (en : En) (st : Store) : Prop := en = E ∧ ∃ c, st = [c] ∧ IsBox c
theorem law4 {k : Nat} (hk : 8 ≤ k) (ns : List Int) (hn : ns.length ≤ 63) (kk : Nat) (h6 : kk < 6) :
    stepR (asT (callF prog k) (.name 1)) (evSs (callF prog k) b_law_4) [5, 2, 7, 1, 9, 10, 3, 13, 14, 8, 12, 4, 6, 11] 0 [] (.int kk) [some (.lst (ns.map D.int)), none, none, none, none, none, none, none, none, none, none, none, none, none, none, none] [] = .ok [some (.lst (ns.map D.int)), none, none, none, none, none, none, none, none, none, none, none, none, none, none, none] [] := by
  obtain ⟨k', rfl⟩ : ∃ k', k = k' + 1 := ⟨k - 1, by omega⟩
  obtain ⟨c0, q0, b0⟩ := box_ok (m := k') hn h6 []
  obtain ⟨es, a, b, d, N0, c1, q1, b1, g, hl, ha, hbb, hd⟩ := events_ok (k := k' + 1) (by omega) b0
  have q0' : callIn (callF prog (k' + 1)) f__law_box [.lst (ns.map D.int), .int kk] [] true [] = .ok (.ref 0) [c0] := q0
  obtain ⟨rows, hr, hN⟩ := g.rows
  have hrl : rows.length ≤ 30 := by have := plain_len hr; omega
  obtain ⟨N, T, q2, lr, lt⟩ := cl_lives (k := k' + 1) (by omega) true es rows (by omega) g.away hr [c1]
  have th := fun S kk a b d st => there_ev (cf := callF prog (k' + 1)) lr es (by omega) S kk a b d st
  have cx : Ctx (k' + 1) es rows (lifeF (rows.map Row.n) N T es) a b d := ⟨by omega, hl, hr, N, T, rfl, lr⟩
  have htb : ∀ n ∈ (alive rows).map Row.n, inB n = true := fun n hn' => by
    obtain ⟨r, hr', rfl⟩ := List.mem_map.mp hn'
    have h1 := lr.nn r (List.mem_filter.mp hr').1
    have h2 := lt r.n (List.mem_map_of_mem (List.mem_filter.mp hr').1)
    exact inB_of (by omega)
  have hal : ((alive rows).map Row.n).length ≤ 1000 := by
    have : (alive rows).length ≤ rows.length := List.length_filter_le _ _
    simp; omega
  generalize lifeF (rows.map Row.n) N T es = L at *
  generalize hTH : (alive rows).map Row.n = TH at *
  obtain ⟨base, c2, hb0, hbl, hbe, b2, q3⟩ := base_ok (k := k' + 1) (by omega) b1 g hl b d ha hbb hd TH hal htb (.lst (ns.map D.int)) kk L
  have lp3 : forR (asT (callF prog (k' + 1)) (.name 3)) (evSs (callF prog (k' + 1)) b_law_3) [3, 11] 1 [] (rangeD (-1) ((es.length : Int) + 2 - -1).toNat) (e6 (.lst (ns.map D.int)) kk es L a b d none none) [c1] = .ok (.nx, e6 (.lst (ns.map D.int)) kk es L a b d none none) [c1] := for_same _ fun x hx => by
    obtain ⟨i, hi, rfl⟩ := List.mem_map.mp hx
    have := List.mem_range.mp hi
    exact cx.ask3 ha _ kk _ (inB_of (by omega)) c1
  obtain ⟨en', st', lp1, rfl, c3, rfl, b3⟩ := for_ex (asg := asT (callF prog (k' + 1)) (.name 6)) (body := evSs (callF prog (k' + 1)) b_law_1) (ws := [13, 14, 12, 6, 11]) (n := 1) (g := []) (AskInv (K76.e7 (.lst (ns.map D.int)) kk es L a b d (.lst (TH.map D.int)) (.lst (base.map Ev.d)) none none none none)) (rangeD 0 14) (K76.e7 (.lst (ns.map D.int)) kk es L a b d (.lst (TH.map D.int)) (.lst (base.map Ev.d)) none none none none) [c2]
    ⟨rfl, c2, rfl, b2⟩ (fun j x en st _ hi => by
      obtain ⟨rfl, c, rfl, hb⟩ := hi
      obtain ⟨c', b', e'⟩ := cx.ask1 ha hbb hd (.lst (ns.map D.int)) kk (.lst (TH.map D.int)) base hb0 hbl hbe hb x
      exact ⟨_, [c'], e', rfl, c', rfl, b'⟩)
  have ln := fun st => len_evs true es st
  have r1 : rgOk (-1) = true := rfl
  have r2 : rgOk ((es.length : Int) + 2) = true := by simp [rgOk]; omega
  have r14 : rgOk 14 = true := rfl
  have s0 : ∀ st, ixD (szD a b d) (.int 0) st = .ok (.int a) st := fun _ => rfl
  have tr : trim 0 [some (.lst (ns.map D.int)), none, none, none, none, none, none, none, none, none, none, none, none, none, none, none] [c3] = [] := by
    unfold trim
    have := belL_ints 0 ns
    simp [D.bel, this]
  have th := th (.lst (ns.map D.int)) kk a b d
  generalize hR14 : rangeD 0 14 = R14 at *
  generalize hRn : rangeD (-1) ((es.length : Int) + 2 - -1).toNat = Rn at *
  have hRn' : rangeD (-1) ((es.length : Int) + 2 + 1).toNat = Rn := by rw [← hRn]; congr 1
  simp only [stepR]
  simp only [e6, K76.e7] at *
  generalize szD a b d = sz at *
  simp [b4_eq, q0', q1, q2, s0, ln, r1, r2, hRn, hRn', lp3, th, q3, r14, hR14, lp1, tr]
theorem law_true (ns : List Int) (hn : ns.length ≤ 63) : ∃ st, callF prog 60 35 [.lst (ns.map .int)] [] = .ok (.bl true) st := by
  refine ⟨[], ?_⟩
  obtain ⟨m, hm, h6, em⟩ : ∃ m : Int, 0 ≤ m ∧ m ≤ 6 ∧ (if (if (6 : Int) < (ns.length : Int) then 6 else (ns.length : Int)) > 3 then (if (6 : Int) < (ns.length : Int) then 6 else (ns.length : Int)) else 3) = m := ⟨_, by split <;> split <;> omega, by split <;> split <;> omega, rfl⟩
  have rg : rgOk m = true := by simp [rgOk]; omega
  have lp : forR (asT (callF prog 59) (.name 1)) (evSs (callF prog 59) b_law_4) [5, 2, 7, 1, 9, 10, 3, 13, 14, 8, 12, 4, 6, 11] 0 [] (rangeD 0 m.toNat) [some (.lst (ns.map D.int)), none, none, none, none, none, none, none, none, none, none, none, none, none, none, none] [] = .ok (.nx, [some (.lst (ns.map D.int)), none, none, none, none, none, none, none, none, none, none, none, none, none, none, none]) [] := for_same _ fun x hx => by
    obtain ⟨i, hi, rfl⟩ := List.mem_map.mp hx
    have := List.mem_range.mp hi
    rw [Int.zero_add]
    exact law4 (k := 59) (by omega) ns hn i (by omega)
  have mn : ∀ st, biD .min2 [.int (ns.length : Nat), .int 6] st = .ok (.int (if (6 : Int) < (ns.length : Int) then 6 else (ns.length : Int))) st := fun _ => rfl
  have mx : ∀ (j : Int) st, biD .max2 [.int 3, .int j] st = .ok (.int (if j > 3 then j else 3)) st := fun _ _ => rfl
  rw [show (35 : Nat) = f_law from rfl, callF_at p_law (by omega), run_at rfl]
  simp [c_law, -bq_max2, -bq_min2, mn, mx, em, rg, lp]
end K76

namespace K76
open PySem PySem.Spec PyProof.Rows L2 PyE
def d_is_int : He.DefD := ⟨("is_int", none), "is_int", "is_int", defArgs (top 1), defBody (top 1), defScope (top 1), [], []⟩
def d_is_number : He.DefD := ⟨("is_number", none), "is_number", "is_number", defArgs (top 2), defBody (top 2), defScope (top 2), [.int 0, .non], []⟩
def d_is_tuple : He.DefD := ⟨("is_tuple", none), "is_tuple", "is_tuple", defArgs (top 3), defBody (top 3), defScope (top 3), [.non], []⟩
def d_is_numbers : He.DefD := ⟨("is_numbers", none), "is_numbers", "is_numbers", defArgs (top 4), defBody (top 4), defScope (top 4), [.int 0, .non], []⟩
def d_is_lot : He.DefD := ⟨("is_lot", none), "is_lot", "is_lot", defArgs (top 5), defBody (top 5), defScope (top 5), [], []⟩
def d_spot_in : He.DefD := ⟨("spot_in", none), "spot_in", "spot_in", defArgs (top 11), defBody (top 11), defScope (top 11), [], []⟩
def d_is_there : He.DefD := ⟨("is_there", none), "is_there", "is_there", defArgs (top 12), defBody (top 12), defScope (top 12), [], []⟩
def d_turned : He.DefD := ⟨("turned", none), "turned", "turned", defArgs (top 13), defBody (top 13), defScope (top 13), [], []⟩
def d_carried : He.DefD := ⟨("carried", none), "carried", "carried", defArgs (top 14), defBody (top 14), defScope (top 14), [], []⟩
def d_rows_after : He.DefD := ⟨("rows_after", none), "rows_after", "rows_after", defArgs (top 15), defBody (top 15), defScope (top 15), [], []⟩
def d_taken_back : He.DefD := ⟨("taken_back", none), "taken_back", "taken_back", defArgs (top 16), defBody (top 16), defScope (top 16), [], []⟩
def d_plain_notes : He.DefD := ⟨("plain_notes", none), "plain_notes", "plain_notes", defArgs (top 17), defBody (top 17), defScope (top 17), [], []⟩
def d_last_of : He.DefD := ⟨("last_of", none), "last_of", "last_of", defArgs (top 18), defBody (top 18), defScope (top 18), [], []⟩
def d_is_written : He.DefD := ⟨("is_written", none), "is_written", "is_written", defArgs (top 19), defBody (top 19), defScope (top 19), [], []⟩
def d_is_text_event : He.DefD := ⟨("is_text_event", none), "is_text_event", "is_text_event", defArgs (top 20), defBody (top 20), defScope (top 20), [], []⟩
def d_is_fact : He.DefD := ⟨("is_fact", none), "is_fact", "is_fact", defArgs (top 21), defBody (top 21), defScope (top 21), [], []⟩
def d_can_back : He.DefD := ⟨("can_back", none), "can_back", "can_back", defArgs (top 22), defBody (top 22), defScope (top 22), [], []⟩
def d_is_edit : He.DefD := ⟨("is_edit", none), "is_edit", "is_edit", defArgs (top 23), defBody (top 23), defScope (top 23), [], []⟩
def d_can_event : He.DefD := ⟨("can_event", none), "can_event", "can_event", defArgs (top 24), defBody (top 24), defScope (top 24), [], []⟩
def d__law_box : He.DefD := ⟨("_law_box", none), "_law_box", "_law_box", defArgs (top 26), defBody (top 26), defScope (top 26), [], []⟩
def d__law_take : He.DefD := ⟨("_law_take", none), "_law_take", "_law_take", defArgs (top 27), defBody (top 27), defScope (top 27), [], []⟩
def d__law_pick : He.DefD := ⟨("_law_pick", none), "_law_pick", "_law_pick", defArgs (top 28), defBody (top 28), defScope (top 28), [], []⟩
def d__law_same : He.DefD := ⟨("_law_same", none), "_law_same", "_law_same", defArgs (top 29), defBody (top 29), defScope (top 29), [], []⟩
def d__law_life : He.DefD := ⟨("_law_life", none), "_law_life", "_law_life", defArgs (top 30), defBody (top 30), defScope (top 30), [], []⟩
def d__law_gone_events : He.DefD := ⟨("_law_gone_events", none), "_law_gone_events", "_law_gone_events", defArgs (top 31), defBody (top 31), defScope (top 31), [], []⟩
def d__law_lives : He.DefD := ⟨("_law_lives", none), "_law_lives", "_law_lives", defArgs (top 32), defBody (top 32), defScope (top 32), [], []⟩
def d__law_backs : He.DefD := ⟨("_law_backs", none), "_law_backs", "_law_backs", defArgs (top 33), defBody (top 33), defScope (top 33), [], []⟩
def d__law_some_fact : He.DefD := ⟨("_law_some_fact", none), "_law_some_fact", "_law_some_fact", defArgs (top 34), defBody (top 34), defScope (top 34), [], []⟩
def d__law_some_event : He.DefD := ⟨("_law_some_event", none), "_law_some_event", "_law_some_event", defArgs (top 35), defBody (top 35), defScope (top 35), [], []⟩
def d__law_some_sizes : He.DefD := ⟨("_law_some_sizes", none), "_law_some_sizes", "_law_some_sizes", defArgs (top 36), defBody (top 36), defScope (top 36), [], []⟩
def d__law_some_text : He.DefD := ⟨("_law_some_text", none), "_law_some_text", "_law_some_text", defArgs (top 37), defBody (top 37), defScope (top 37), [], []⟩
def d__law_events : He.DefD := ⟨("_law_events", none), "_law_events", "_law_events", defArgs (top 38), defBody (top 38), defScope (top 38), [], []⟩
def d__law_is_number : He.DefD := ⟨("_law_is_number", none), "_law_is_number", "_law_is_number", defArgs (top 39), defBody (top 39), defScope (top 39), [], []⟩
def d__law_can_fact : He.DefD := ⟨("_law_can_fact", none), "_law_can_fact", "_law_can_fact", defArgs (top 40), defBody (top 40), defScope (top 40), [], []⟩
def d__law_can : He.DefD := ⟨("_law_can", none), "_law_can", "_law_can", defArgs (top 41), defBody (top 41), defScope (top 41), [], []⟩
def d_law : He.DefD := ⟨("law", none), "law", "law", defArgs (top 42), defBody (top 42), defScope (top 42), [], []⟩
def fn : List He.DefD := [d_is_int, d_is_number, d_is_tuple, d_is_numbers, d_is_lot, d_spot_in, d_is_there, d_turned, d_carried, d_rows_after, d_taken_back, d_plain_notes, d_last_of, d_is_written, d_is_text_event, d_is_fact, d_can_back, d_is_edit, d_can_event, d__law_box, d__law_take, d__law_pick, d__law_same, d__law_life, d__law_gone_events, d__law_lives, d__law_backs, d__law_some_fact, d__law_some_event, d__law_some_sizes, d__law_some_text, d__law_events, d__law_is_number, d__law_can_fact, d__law_can, d_law]
def fa : List He.Fa := [.glo "is_int", .glo "is_number", .glo "is_tuple", .glo "is_numbers", .glo "is_lot", .glo "spot_in", .glo "is_there", .glo "turned", .glo "carried", .glo "rows_after", .glo "taken_back", .glo "plain_notes", .glo "last_of", .glo "is_written", .glo "is_text_event", .glo "is_fact", .glo "can_back", .glo "is_edit", .glo "can_event", .glo "_law_box", .glo "_law_take", .glo "_law_pick", .glo "_law_same", .glo "_law_life", .glo "_law_gone_events", .glo "_law_lives", .glo "_law_backs", .glo "_law_some_fact", .glo "_law_some_event", .glo "_law_some_sizes", .glo "_law_some_text", .glo "_law_events", .glo "_law_is_number", .glo "_law_can_fact", .glo "_law_can", .glo "law", .free "len", .free "abs", .free "int", .free "max", .free "min", .free "sum", .free "all", .free "any", .free "tuple", .free "list", .free "sorted", .free "str", .free "set", .free "bool", .free "isinstance", .free "range", .free "enumerate", .free "zip"]
abbrev R : PySem.W.OpenRow := PySem.W.OpenLaw.row PySem.Challenge.rw_meantlog_k76_any_event_that_can_be
abbrev hk : PySem.W.Hook := hookM 4 fa fn glb
def ob (s : PySem.W.SharedT) : He.AlD × Bool := obsM 4 fa fn glb (HandSHeadRun.getT s)
theorem ob_eq (s : PySem.W.SharedT) : ob s = hk.obs s.abs := obsM_eq (HandSHeadRun.getT_eq s)
def loose0 : List Str := ["is_int", "is_number", "is_tuple", "is_numbers", "is_lot", "SIGNS", "BEGIN", "EDITS", "TAKEN", "spot_in", "is_there", "turned", "carried", "rows_after", "taken_back", "plain_notes", "last_of", "is_written", "is_text_event", "is_fact", "can_back", "is_edit", "can_event", "_law_box", "_law_take", "_law_pick", "_law_same", "_law_life", "_law_gone_events", "_law_lives"]
def loose1 : List Str := ["_law_backs", "_law_some_fact", "_law_some_event", "_law_some_sizes", "_law_some_text", "_law_events", "_law_is_number", "_law_can_fact", "_law_can"]
def loose : List Str := loose0 ++ loose1
theorem run (w : World) : HandSHeadRun.RunEq R (PySem.W.view R.prog [42]) hk ob 3000 loose w := by
  intro os
  kernel_rfl
section
variable {K : PySem.W.Frag} {h : Heap} {mg : Str → Option Value} (X : K.In h) (G : h.Ns mainGlobals mg) (c : He.SaysD fa fn K)
include X G c
theorem ok_is_int : ∃ fd, DefOk K mg prog glb fns 0 t_is_int (He.fAd K ("is_int", none)) fd := by
  obtain ⟨fd, F⟩ := c.def_ 0 (d := d_is_int) rfl
  refine ⟨fd, He.glo_ok X G (c.fact 0 (f := .glo "is_int") rfl), ⟨c_is_int, n_is_int, _, _, _, _, _, _, _, rfl, F, by kernel_rfl, rfl, rfl, by kernel_rfl⟩, ?_⟩
  intro p hp
  cases hp with
  | head => exact pat_kw F 1 [] fun _ _ _ _ _ _ us ws h1 h2 => match us, ws, h1, h2 with | [_], [], _, _ => rfl
  | tail _ hp =>
    cases hp

theorem ok_is_number : ∃ fd, DefOk K mg prog glb fns 1 t_is_number (He.fAd K ("is_number", none)) fd := by
  obtain ⟨fd, F⟩ := c.def_ 1 (d := d_is_number) rfl
  refine ⟨fd, He.glo_ok X G (c.fact 1 (f := .glo "is_number") rfl), ⟨c_is_number, n_is_number, _, _, _, _, _, _, _, rfl, F, by kernel_rfl, rfl, rfl, by kernel_rfl⟩, ?_⟩
  intro p hp
  cases hp with
  | head => exact pat_df F (fun e => nomatch e) 3 [] [] 2 rfl fun _ _ _ _ _ _ _ us ws its h1 h2 h3 => match us, ws, its, h1, h2, h3 with | [_, _, _], [], [_, _], _, _, _ => ⟨_, rfl, rfl⟩
  | tail _ hp =>
    cases hp with
    | head => exact pat_df F (fun e => nomatch e) 1 [] [(.int 0), .non] 0 rfl fun _ _ _ _ _ _ _ us ws its h1 h2 h3 => match us, ws, its, h1, h2, h3 with | [_], [], [_, _], _, _, _ => ⟨_, rfl, rfl⟩
    | tail _ hp =>
      cases hp with
      | head => exact pat_df F (fun e => nomatch e) 2 [] [.non] 1 rfl fun _ _ _ _ _ _ _ us ws its h1 h2 h3 => match us, ws, its, h1, h2, h3 with | [_, _], [], [_, _], _, _, _ => ⟨_, rfl, rfl⟩
      | tail _ hp =>
        cases hp

theorem ok_is_tuple : ∃ fd, DefOk K mg prog glb fns 2 t_is_tuple (He.fAd K ("is_tuple", none)) fd := by
  obtain ⟨fd, F⟩ := c.def_ 2 (d := d_is_tuple) rfl
  refine ⟨fd, He.glo_ok X G (c.fact 2 (f := .glo "is_tuple") rfl), ⟨c_is_tuple, n_is_tuple, _, _, _, _, _, _, _, rfl, F, by kernel_rfl, rfl, rfl, by kernel_rfl⟩, ?_⟩
  intro p hp
  cases hp with
  | head => exact pat_df F (fun e => nomatch e) 2 [] [] 1 rfl fun _ _ _ _ _ _ _ us ws its h1 h2 h3 => match us, ws, its, h1, h2, h3 with | [_, _], [], [_], _, _, _ => ⟨_, rfl, rfl⟩
  | tail _ hp =>
    cases hp with
    | head => exact pat_df F (fun e => nomatch e) 1 [] [.non] 0 rfl fun _ _ _ _ _ _ _ us ws its h1 h2 h3 => match us, ws, its, h1, h2, h3 with | [_], [], [_], _, _, _ => ⟨_, rfl, rfl⟩
    | tail _ hp =>
      cases hp

theorem ok_is_numbers : ∃ fd, DefOk K mg prog glb fns 3 t_is_numbers (He.fAd K ("is_numbers", none)) fd := by
  obtain ⟨fd, F⟩ := c.def_ 3 (d := d_is_numbers) rfl
  refine ⟨fd, He.glo_ok X G (c.fact 3 (f := .glo "is_numbers") rfl), ⟨c_is_numbers, n_is_numbers, _, _, _, _, _, _, _, rfl, F, by kernel_rfl, rfl, rfl, by kernel_rfl⟩, ?_⟩
  intro p hp
  cases hp with
  | head => exact pat_df F (fun e => nomatch e) 4 [] [] 2 rfl fun _ _ _ _ _ _ _ us ws its h1 h2 h3 => match us, ws, its, h1, h2, h3 with | [_, _, _, _], [], [_, _], _, _, _ => ⟨_, rfl, rfl⟩
  | tail _ hp =>
    cases hp with
    | head => exact pat_df F (fun e => nomatch e) 2 [] [(.int 0), .non] 0 rfl fun _ _ _ _ _ _ _ us ws its h1 h2 h3 => match us, ws, its, h1, h2, h3 with | [_, _], [], [_, _], _, _, _ => ⟨_, rfl, rfl⟩
    | tail _ hp =>
      cases hp

theorem ok_is_lot : ∃ fd, DefOk K mg prog glb fns 4 t_is_lot (He.fAd K ("is_lot", none)) fd := by
  obtain ⟨fd, F⟩ := c.def_ 4 (d := d_is_lot) rfl
  refine ⟨fd, He.glo_ok X G (c.fact 4 (f := .glo "is_lot") rfl), ⟨c_is_lot, n_is_lot, _, _, _, _, _, _, _, rfl, F, by kernel_rfl, rfl, rfl, by kernel_rfl⟩, ?_⟩
  intro p hp
  cases hp with
  | head => exact pat_kw F 2 [] fun _ _ _ _ _ _ us ws h1 h2 => match us, ws, h1, h2 with | [_, _], [], _, _ => rfl
  | tail _ hp =>
    cases hp

theorem ok_spot_in : ∃ fd, DefOk K mg prog glb fns 5 t_spot_in (He.fAd K ("spot_in", none)) fd := by
  obtain ⟨fd, F⟩ := c.def_ 5 (d := d_spot_in) rfl
  refine ⟨fd, He.glo_ok X G (c.fact 5 (f := .glo "spot_in") rfl), ⟨c_spot_in, n_spot_in, _, _, _, _, _, _, _, rfl, F, by kernel_rfl, rfl, rfl, by kernel_rfl⟩, ?_⟩
  intro p hp
  cases hp with
  | head => exact pat_kw F 2 [] fun _ _ _ _ _ _ us ws h1 h2 => match us, ws, h1, h2 with | [_, _], [], _, _ => rfl
  | tail _ hp =>
    cases hp

theorem ok_is_there : ∃ fd, DefOk K mg prog glb fns 6 t_is_there (He.fAd K ("is_there", none)) fd := by
  obtain ⟨fd, F⟩ := c.def_ 6 (d := d_is_there) rfl
  refine ⟨fd, He.glo_ok X G (c.fact 6 (f := .glo "is_there") rfl), ⟨c_is_there, n_is_there, _, _, _, _, _, _, _, rfl, F, by kernel_rfl, rfl, rfl, by kernel_rfl⟩, ?_⟩
  intro p hp
  cases hp with
  | head => exact pat_kw F 2 [] fun _ _ _ _ _ _ us ws h1 h2 => match us, ws, h1, h2 with | [_, _], [], _, _ => rfl
  | tail _ hp =>
    cases hp

theorem ok_turned : ∃ fd, DefOk K mg prog glb fns 7 t_turned (He.fAd K ("turned", none)) fd := by
  obtain ⟨fd, F⟩ := c.def_ 7 (d := d_turned) rfl
  refine ⟨fd, He.glo_ok X G (c.fact 7 (f := .glo "turned") rfl), ⟨c_turned, n_turned, _, _, _, _, _, _, _, rfl, F, by kernel_rfl, rfl, rfl, by kernel_rfl⟩, ?_⟩
  intro p hp
  cases hp with
  | head => exact pat_kw F 4 [] fun _ _ _ _ _ _ us ws h1 h2 => match us, ws, h1, h2 with | [_, _, _, _], [], _, _ => rfl
  | tail _ hp =>
    cases hp

theorem ok_carried : ∃ fd, DefOk K mg prog glb fns 8 t_carried (He.fAd K ("carried", none)) fd := by
  obtain ⟨fd, F⟩ := c.def_ 8 (d := d_carried) rfl
  refine ⟨fd, He.glo_ok X G (c.fact 8 (f := .glo "carried") rfl), ⟨c_carried, n_carried, _, _, _, _, _, _, _, rfl, F, by kernel_rfl, rfl, rfl, by kernel_rfl⟩, ?_⟩
  intro p hp
  cases hp with
  | head => exact pat_kw F 2 [] fun _ _ _ _ _ _ us ws h1 h2 => match us, ws, h1, h2 with | [_, _], [], _, _ => rfl
  | tail _ hp =>
    cases hp

theorem ok_rows_after : ∃ fd, DefOk K mg prog glb fns 9 t_rows_after (He.fAd K ("rows_after", none)) fd := by
  obtain ⟨fd, F⟩ := c.def_ 9 (d := d_rows_after) rfl
  refine ⟨fd, He.glo_ok X G (c.fact 9 (f := .glo "rows_after") rfl), ⟨c_rows_after, n_rows_after, _, _, _, _, _, _, _, rfl, F, by kernel_rfl, rfl, rfl, by kernel_rfl⟩, ?_⟩
  intro p hp
  cases hp with
  | head => exact pat_kw F 4 [] fun _ _ _ _ _ _ us ws h1 h2 => match us, ws, h1, h2 with | [_, _, _, _], [], _, _ => rfl
  | tail _ hp =>
    cases hp

theorem ok_taken_back : ∃ fd, DefOk K mg prog glb fns 10 t_taken_back (He.fAd K ("taken_back", none)) fd := by
  obtain ⟨fd, F⟩ := c.def_ 10 (d := d_taken_back) rfl
  refine ⟨fd, He.glo_ok X G (c.fact 10 (f := .glo "taken_back") rfl), ⟨c_taken_back, n_taken_back, _, _, _, _, _, _, _, rfl, F, by kernel_rfl, rfl, rfl, by kernel_rfl⟩, ?_⟩
  intro p hp
  cases hp with
  | head => exact pat_kw F 1 [] fun _ _ _ _ _ _ us ws h1 h2 => match us, ws, h1, h2 with | [_], [], _, _ => rfl
  | tail _ hp =>
    cases hp

theorem ok_plain_notes : ∃ fd, DefOk K mg prog glb fns 11 t_plain_notes (He.fAd K ("plain_notes", none)) fd := by
  obtain ⟨fd, F⟩ := c.def_ 11 (d := d_plain_notes) rfl
  refine ⟨fd, He.glo_ok X G (c.fact 11 (f := .glo "plain_notes") rfl), ⟨c_plain_notes, n_plain_notes, _, _, _, _, _, _, _, rfl, F, by kernel_rfl, rfl, rfl, by kernel_rfl⟩, ?_⟩
  intro p hp
  cases hp with
  | head => exact pat_kw F 1 [] fun _ _ _ _ _ _ us ws h1 h2 => match us, ws, h1, h2 with | [_], [], _, _ => rfl
  | tail _ hp =>
    cases hp

theorem ok_last_of : ∃ fd, DefOk K mg prog glb fns 12 t_last_of (He.fAd K ("last_of", none)) fd := by
  obtain ⟨fd, F⟩ := c.def_ 12 (d := d_last_of) rfl
  refine ⟨fd, He.glo_ok X G (c.fact 12 (f := .glo "last_of") rfl), ⟨c_last_of, n_last_of, _, _, _, _, _, _, _, rfl, F, by kernel_rfl, rfl, rfl, by kernel_rfl⟩, ?_⟩
  intro p hp
  cases hp with
  | head => exact pat_kw F 2 [] fun _ _ _ _ _ _ us ws h1 h2 => match us, ws, h1, h2 with | [_, _], [], _, _ => rfl
  | tail _ hp =>
    cases hp

theorem ok_is_written : ∃ fd, DefOk K mg prog glb fns 13 t_is_written (He.fAd K ("is_written", none)) fd := by
  obtain ⟨fd, F⟩ := c.def_ 13 (d := d_is_written) rfl
  refine ⟨fd, He.glo_ok X G (c.fact 13 (f := .glo "is_written") rfl), ⟨c_is_written, n_is_written, _, _, _, _, _, _, _, rfl, F, by kernel_rfl, rfl, rfl, by kernel_rfl⟩, ?_⟩
  intro p hp
  cases hp with
  | head => exact pat_kw F 1 [] fun _ _ _ _ _ _ us ws h1 h2 => match us, ws, h1, h2 with | [_], [], _, _ => rfl
  | tail _ hp =>
    cases hp

theorem ok_is_text_event : ∃ fd, DefOk K mg prog glb fns 14 t_is_text_event (He.fAd K ("is_text_event", none)) fd := by
  obtain ⟨fd, F⟩ := c.def_ 14 (d := d_is_text_event) rfl
  refine ⟨fd, He.glo_ok X G (c.fact 14 (f := .glo "is_text_event") rfl), ⟨c_is_text_event, n_is_text_event, _, _, _, _, _, _, _, rfl, F, by kernel_rfl, rfl, rfl, by kernel_rfl⟩, ?_⟩
  intro p hp
  cases hp with
  | head => exact pat_kw F 2 [] fun _ _ _ _ _ _ us ws h1 h2 => match us, ws, h1, h2 with | [_, _], [], _, _ => rfl
  | tail _ hp =>
    cases hp

theorem ok_is_fact : ∃ fd, DefOk K mg prog glb fns 15 t_is_fact (He.fAd K ("is_fact", none)) fd := by
  obtain ⟨fd, F⟩ := c.def_ 15 (d := d_is_fact) rfl
  refine ⟨fd, He.glo_ok X G (c.fact 15 (f := .glo "is_fact") rfl), ⟨c_is_fact, n_is_fact, _, _, _, _, _, _, _, rfl, F, by kernel_rfl, rfl, rfl, by kernel_rfl⟩, ?_⟩
  intro p hp
  cases hp with
  | head => exact pat_kw F 3 [] fun _ _ _ _ _ _ us ws h1 h2 => match us, ws, h1, h2 with | [_, _, _], [], _, _ => rfl
  | tail _ hp =>
    cases hp

theorem ok_can_back : ∃ fd, DefOk K mg prog glb fns 16 t_can_back (He.fAd K ("can_back", none)) fd := by
  obtain ⟨fd, F⟩ := c.def_ 16 (d := d_can_back) rfl
  refine ⟨fd, He.glo_ok X G (c.fact 16 (f := .glo "can_back") rfl), ⟨c_can_back, n_can_back, _, _, _, _, _, _, _, rfl, F, by kernel_rfl, rfl, rfl, by kernel_rfl⟩, ?_⟩
  intro p hp
  cases hp with
  | head => exact pat_kw F 2 [] fun _ _ _ _ _ _ us ws h1 h2 => match us, ws, h1, h2 with | [_, _], [], _, _ => rfl
  | tail _ hp =>
    cases hp

theorem ok_is_edit : ∃ fd, DefOk K mg prog glb fns 17 t_is_edit (He.fAd K ("is_edit", none)) fd := by
  obtain ⟨fd, F⟩ := c.def_ 17 (d := d_is_edit) rfl
  refine ⟨fd, He.glo_ok X G (c.fact 17 (f := .glo "is_edit") rfl), ⟨c_is_edit, n_is_edit, _, _, _, _, _, _, _, rfl, F, by kernel_rfl, rfl, rfl, by kernel_rfl⟩, ?_⟩
  intro p hp
  cases hp with
  | head => exact pat_kw F 3 [] fun _ _ _ _ _ _ us ws h1 h2 => match us, ws, h1, h2 with | [_, _, _], [], _, _ => rfl
  | tail _ hp =>
    cases hp

theorem ok_can_event : ∃ fd, DefOk K mg prog glb fns 18 t_can_event (He.fAd K ("can_event", none)) fd := by
  obtain ⟨fd, F⟩ := c.def_ 18 (d := d_can_event) rfl
  refine ⟨fd, He.glo_ok X G (c.fact 18 (f := .glo "can_event") rfl), ⟨c_can_event, n_can_event, _, _, _, _, _, _, _, rfl, F, by kernel_rfl, rfl, rfl, by kernel_rfl⟩, ?_⟩
  intro p hp
  cases hp with
  | head => exact pat_kw F 2 ["value"] fun _ _ _ _ _ _ us ws h1 h2 => match us, ws, h1, h2 with | [_, _], [_], _, _ => rfl
  | tail _ hp =>
    cases hp with
    | head => exact pat_kw F 3 [] fun _ _ _ _ _ _ us ws h1 h2 => match us, ws, h1, h2 with | [_, _, _], [], _, _ => rfl
    | tail _ hp =>
      cases hp

theorem ok__law_box : ∃ fd, DefOk K mg prog glb fns 19 t__law_box (He.fAd K ("_law_box", none)) fd := by
  obtain ⟨fd, F⟩ := c.def_ 19 (d := d__law_box) rfl
  refine ⟨fd, He.glo_ok X G (c.fact 19 (f := .glo "_law_box") rfl), ⟨c__law_box, n__law_box, _, _, _, _, _, _, _, rfl, F, by kernel_rfl, rfl, rfl, by kernel_rfl⟩, ?_⟩
  intro p hp
  cases hp with
  | head => exact pat_kw F 2 [] fun _ _ _ _ _ _ us ws h1 h2 => match us, ws, h1, h2 with | [_, _], [], _, _ => rfl
  | tail _ hp =>
    cases hp

theorem ok__law_take : ∃ fd, DefOk K mg prog glb fns 20 t__law_take (He.fAd K ("_law_take", none)) fd := by
  obtain ⟨fd, F⟩ := c.def_ 20 (d := d__law_take) rfl
  refine ⟨fd, He.glo_ok X G (c.fact 20 (f := .glo "_law_take") rfl), ⟨c__law_take, n__law_take, _, _, _, _, _, _, _, rfl, F, by kernel_rfl, rfl, rfl, by kernel_rfl⟩, ?_⟩
  intro p hp
  cases hp with
  | head => exact pat_kw F 2 [] fun _ _ _ _ _ _ us ws h1 h2 => match us, ws, h1, h2 with | [_, _], [], _, _ => rfl
  | tail _ hp =>
    cases hp

theorem ok__law_pick : ∃ fd, DefOk K mg prog glb fns 21 t__law_pick (He.fAd K ("_law_pick", none)) fd := by
  obtain ⟨fd, F⟩ := c.def_ 21 (d := d__law_pick) rfl
  refine ⟨fd, He.glo_ok X G (c.fact 21 (f := .glo "_law_pick") rfl), ⟨c__law_pick, n__law_pick, _, _, _, _, _, _, _, rfl, F, by kernel_rfl, rfl, rfl, by kernel_rfl⟩, ?_⟩
  intro p hp
  cases hp with
  | head => exact pat_kw F 2 [] fun _ _ _ _ _ _ us ws h1 h2 => match us, ws, h1, h2 with | [_, _], [], _, _ => rfl
  | tail _ hp =>
    cases hp

theorem ok__law_same : ∃ fd, DefOk K mg prog glb fns 22 t__law_same (He.fAd K ("_law_same", none)) fd := by
  obtain ⟨fd, F⟩ := c.def_ 22 (d := d__law_same) rfl
  refine ⟨fd, He.glo_ok X G (c.fact 22 (f := .glo "_law_same") rfl), ⟨c__law_same, n__law_same, _, _, _, _, _, _, _, rfl, F, by kernel_rfl, rfl, rfl, by kernel_rfl⟩, ?_⟩
  intro p hp
  cases hp with
  | head => exact pat_kw F 2 [] fun _ _ _ _ _ _ us ws h1 h2 => match us, ws, h1, h2 with | [_, _], [], _, _ => rfl
  | tail _ hp =>
    cases hp

theorem ok__law_life : ∃ fd, DefOk K mg prog glb fns 23 t__law_life (He.fAd K ("_law_life", none)) fd := by
  obtain ⟨fd, F⟩ := c.def_ 23 (d := d__law_life) rfl
  refine ⟨fd, He.glo_ok X G (c.fact 23 (f := .glo "_law_life") rfl), ⟨c__law_life, n__law_life, _, _, _, _, _, _, _, rfl, F, by kernel_rfl, rfl, rfl, by kernel_rfl⟩, ?_⟩
  intro p hp
  cases hp with
  | head => exact pat_kw F 0 [] fun _ _ _ _ _ _ us ws h1 h2 => match us, ws, h1, h2 with | [], [], _, _ => rfl
  | tail _ hp =>
    cases hp

theorem ok__law_gone_events : ∃ fd, DefOk K mg prog glb fns 24 t__law_gone_events (He.fAd K ("_law_gone_events", none)) fd := by
  obtain ⟨fd, F⟩ := c.def_ 24 (d := d__law_gone_events) rfl
  refine ⟨fd, He.glo_ok X G (c.fact 24 (f := .glo "_law_gone_events") rfl), ⟨c__law_gone_events, n__law_gone_events, _, _, _, _, _, _, _, rfl, F, by kernel_rfl, rfl, rfl, by kernel_rfl⟩, ?_⟩
  intro p hp
  cases hp with
  | head => exact pat_kw F 1 [] fun _ _ _ _ _ _ us ws h1 h2 => match us, ws, h1, h2 with | [_], [], _, _ => rfl
  | tail _ hp =>
    cases hp

theorem ok__law_lives : ∃ fd, DefOk K mg prog glb fns 25 t__law_lives (He.fAd K ("_law_lives", none)) fd := by
  obtain ⟨fd, F⟩ := c.def_ 25 (d := d__law_lives) rfl
  refine ⟨fd, He.glo_ok X G (c.fact 25 (f := .glo "_law_lives") rfl), ⟨c__law_lives, n__law_lives, _, _, _, _, _, _, _, rfl, F, by kernel_rfl, rfl, rfl, by kernel_rfl⟩, ?_⟩
  intro p hp
  cases hp with
  | head => exact pat_kw F 1 [] fun _ _ _ _ _ _ us ws h1 h2 => match us, ws, h1, h2 with | [_], [], _, _ => rfl
  | tail _ hp =>
    cases hp

theorem ok__law_backs : ∃ fd, DefOk K mg prog glb fns 26 t__law_backs (He.fAd K ("_law_backs", none)) fd := by
  obtain ⟨fd, F⟩ := c.def_ 26 (d := d__law_backs) rfl
  refine ⟨fd, He.glo_ok X G (c.fact 26 (f := .glo "_law_backs") rfl), ⟨c__law_backs, n__law_backs, _, _, _, _, _, _, _, rfl, F, by kernel_rfl, rfl, rfl, by kernel_rfl⟩, ?_⟩
  intro p hp
  cases hp with
  | head => exact pat_kw F 1 [] fun _ _ _ _ _ _ us ws h1 h2 => match us, ws, h1, h2 with | [_], [], _, _ => rfl
  | tail _ hp =>
    cases hp

theorem ok__law_some_fact : ∃ fd, DefOk K mg prog glb fns 27 t__law_some_fact (He.fAd K ("_law_some_fact", none)) fd := by
  obtain ⟨fd, F⟩ := c.def_ 27 (d := d__law_some_fact) rfl
  refine ⟨fd, He.glo_ok X G (c.fact 27 (f := .glo "_law_some_fact") rfl), ⟨c__law_some_fact, n__law_some_fact, _, _, _, _, _, _, _, rfl, F, by kernel_rfl, rfl, rfl, by kernel_rfl⟩, ?_⟩
  intro p hp
  cases hp with
  | head => exact pat_kw F 3 [] fun _ _ _ _ _ _ us ws h1 h2 => match us, ws, h1, h2 with | [_, _, _], [], _, _ => rfl
  | tail _ hp =>
    cases hp

theorem ok__law_some_event : ∃ fd, DefOk K mg prog glb fns 28 t__law_some_event (He.fAd K ("_law_some_event", none)) fd := by
  obtain ⟨fd, F⟩ := c.def_ 28 (d := d__law_some_event) rfl
  refine ⟨fd, He.glo_ok X G (c.fact 28 (f := .glo "_law_some_event") rfl), ⟨c__law_some_event, n__law_some_event, _, _, _, _, _, _, _, rfl, F, by kernel_rfl, rfl, rfl, by kernel_rfl⟩, ?_⟩
  intro p hp
  cases hp with
  | head => exact pat_kw F 3 [] fun _ _ _ _ _ _ us ws h1 h2 => match us, ws, h1, h2 with | [_, _, _], [], _, _ => rfl
  | tail _ hp =>
    cases hp

theorem ok__law_some_sizes : ∃ fd, DefOk K mg prog glb fns 29 t__law_some_sizes (He.fAd K ("_law_some_sizes", none)) fd := by
  obtain ⟨fd, F⟩ := c.def_ 29 (d := d__law_some_sizes) rfl
  refine ⟨fd, He.glo_ok X G (c.fact 29 (f := .glo "_law_some_sizes") rfl), ⟨c__law_some_sizes, n__law_some_sizes, _, _, _, _, _, _, _, rfl, F, by kernel_rfl, rfl, rfl, by kernel_rfl⟩, ?_⟩
  intro p hp
  cases hp with
  | head => exact pat_kw F 1 [] fun _ _ _ _ _ _ us ws h1 h2 => match us, ws, h1, h2 with | [_], [], _, _ => rfl
  | tail _ hp =>
    cases hp

theorem ok__law_some_text : ∃ fd, DefOk K mg prog glb fns 30 t__law_some_text (He.fAd K ("_law_some_text", none)) fd := by
  obtain ⟨fd, F⟩ := c.def_ 30 (d := d__law_some_text) rfl
  refine ⟨fd, He.glo_ok X G (c.fact 30 (f := .glo "_law_some_text") rfl), ⟨c__law_some_text, n__law_some_text, _, _, _, _, _, _, _, rfl, F, by kernel_rfl, rfl, rfl, by kernel_rfl⟩, ?_⟩
  intro p hp
  cases hp with
  | head => exact pat_kw F 3 [] fun _ _ _ _ _ _ us ws h1 h2 => match us, ws, h1, h2 with | [_, _, _], [], _, _ => rfl
  | tail _ hp =>
    cases hp

theorem ok__law_events : ∃ fd, DefOk K mg prog glb fns 31 t__law_events (He.fAd K ("_law_events", none)) fd := by
  obtain ⟨fd, F⟩ := c.def_ 31 (d := d__law_events) rfl
  refine ⟨fd, He.glo_ok X G (c.fact 31 (f := .glo "_law_events") rfl), ⟨c__law_events, n__law_events, _, _, _, _, _, _, _, rfl, F, by kernel_rfl, rfl, rfl, by kernel_rfl⟩, ?_⟩
  intro p hp
  cases hp with
  | head => exact pat_kw F 3 [] fun _ _ _ _ _ _ us ws h1 h2 => match us, ws, h1, h2 with | [_, _, _], [], _, _ => rfl
  | tail _ hp =>
    cases hp

theorem ok__law_is_number : ∃ fd, DefOk K mg prog glb fns 32 t__law_is_number (He.fAd K ("_law_is_number", none)) fd := by
  obtain ⟨fd, F⟩ := c.def_ 32 (d := d__law_is_number) rfl
  refine ⟨fd, He.glo_ok X G (c.fact 32 (f := .glo "_law_is_number") rfl), ⟨c__law_is_number, n__law_is_number, _, _, _, _, _, _, _, rfl, F, by kernel_rfl, rfl, rfl, by kernel_rfl⟩, ?_⟩
  intro p hp
  cases hp with
  | head => exact pat_kw F 3 [] fun _ _ _ _ _ _ us ws h1 h2 => match us, ws, h1, h2 with | [_, _, _], [], _, _ => rfl
  | tail _ hp =>
    cases hp

theorem ok__law_can_fact : ∃ fd, DefOk K mg prog glb fns 33 t__law_can_fact (He.fAd K ("_law_can_fact", none)) fd := by
  obtain ⟨fd, F⟩ := c.def_ 33 (d := d__law_can_fact) rfl
  refine ⟨fd, He.glo_ok X G (c.fact 33 (f := .glo "_law_can_fact") rfl), ⟨c__law_can_fact, n__law_can_fact, _, _, _, _, _, _, _, rfl, F, by kernel_rfl, rfl, rfl, by kernel_rfl⟩, ?_⟩
  intro p hp
  cases hp with
  | head => exact pat_kw F 3 [] fun _ _ _ _ _ _ us ws h1 h2 => match us, ws, h1, h2 with | [_, _, _], [], _, _ => rfl
  | tail _ hp =>
    cases hp

theorem ok__law_can : ∃ fd, DefOk K mg prog glb fns 34 t__law_can (He.fAd K ("_law_can", none)) fd := by
  obtain ⟨fd, F⟩ := c.def_ 34 (d := d__law_can) rfl
  refine ⟨fd, He.glo_ok X G (c.fact 34 (f := .glo "_law_can") rfl), ⟨c__law_can, n__law_can, _, _, _, _, _, _, _, rfl, F, by kernel_rfl, rfl, rfl, by kernel_rfl⟩, ?_⟩
  intro p hp
  cases hp with
  | head => exact pat_kw F 4 [] fun _ _ _ _ _ _ us ws h1 h2 => match us, ws, h1, h2 with | [_, _, _, _], [], _, _ => rfl
  | tail _ hp =>
    cases hp

theorem ok_law : ∃ fd, DefOk K mg prog glb fns 35 t_law (He.fAd K ("law", none)) fd := by
  obtain ⟨fd, F⟩ := c.def_ 35 (d := d_law) rfl
  refine ⟨fd, He.glo_ok X G (c.fact 35 (f := .glo "law") rfl), ⟨c_law, n_law, _, _, _, _, _, _, _, rfl, F, by kernel_rfl, rfl, rfl, by kernel_rfl⟩, ?_⟩
  intro p hp
  cases hp with
  | head => exact pat_kw F 1 [] fun _ _ _ _ _ _ us ws h1 h2 => match us, ws, h1, h2 with | [_], [], _, _ => rfl
  | tail _ hp =>
    cases hp

theorem ok_all : ∀ f ft, fns[f]? = some ft → ∃ a fd, DefOk K mg prog glb fns f ft a fd
  | 0, _, h => by cases h; exact ⟨_, ok_is_int X G c⟩
  | 1, _, h => by cases h; exact ⟨_, ok_is_number X G c⟩
  | 2, _, h => by cases h; exact ⟨_, ok_is_tuple X G c⟩
  | 3, _, h => by cases h; exact ⟨_, ok_is_numbers X G c⟩
  | 4, _, h => by cases h; exact ⟨_, ok_is_lot X G c⟩
  | 5, _, h => by cases h; exact ⟨_, ok_spot_in X G c⟩
  | 6, _, h => by cases h; exact ⟨_, ok_is_there X G c⟩
  | 7, _, h => by cases h; exact ⟨_, ok_turned X G c⟩
  | 8, _, h => by cases h; exact ⟨_, ok_carried X G c⟩
  | 9, _, h => by cases h; exact ⟨_, ok_rows_after X G c⟩
  | 10, _, h => by cases h; exact ⟨_, ok_taken_back X G c⟩
  | 11, _, h => by cases h; exact ⟨_, ok_plain_notes X G c⟩
  | 12, _, h => by cases h; exact ⟨_, ok_last_of X G c⟩
  | 13, _, h => by cases h; exact ⟨_, ok_is_written X G c⟩
  | 14, _, h => by cases h; exact ⟨_, ok_is_text_event X G c⟩
  | 15, _, h => by cases h; exact ⟨_, ok_is_fact X G c⟩
  | 16, _, h => by cases h; exact ⟨_, ok_can_back X G c⟩
  | 17, _, h => by cases h; exact ⟨_, ok_is_edit X G c⟩
  | 18, _, h => by cases h; exact ⟨_, ok_can_event X G c⟩
  | 19, _, h => by cases h; exact ⟨_, ok__law_box X G c⟩
  | 20, _, h => by cases h; exact ⟨_, ok__law_take X G c⟩
  | 21, _, h => by cases h; exact ⟨_, ok__law_pick X G c⟩
  | 22, _, h => by cases h; exact ⟨_, ok__law_same X G c⟩
  | 23, _, h => by cases h; exact ⟨_, ok__law_life X G c⟩
  | 24, _, h => by cases h; exact ⟨_, ok__law_gone_events X G c⟩
  | 25, _, h => by cases h; exact ⟨_, ok__law_lives X G c⟩
  | 26, _, h => by cases h; exact ⟨_, ok__law_backs X G c⟩
  | 27, _, h => by cases h; exact ⟨_, ok__law_some_fact X G c⟩
  | 28, _, h => by cases h; exact ⟨_, ok__law_some_event X G c⟩
  | 29, _, h => by cases h; exact ⟨_, ok__law_some_sizes X G c⟩
  | 30, _, h => by cases h; exact ⟨_, ok__law_some_text X G c⟩
  | 31, _, h => by cases h; exact ⟨_, ok__law_events X G c⟩
  | 32, _, h => by cases h; exact ⟨_, ok__law_is_number X G c⟩
  | 33, _, h => by cases h; exact ⟨_, ok__law_can_fact X G c⟩
  | 34, _, h => by cases h; exact ⟨_, ok__law_can X G c⟩
  | 35, _, h => by cases h; exact ⟨_, ok_law X G c⟩
  | n + 36, _, h => by simp [fns] at h
theorem bi_all : ∀ x ∈ bltNames, mg x = none := by
  intro x hx
  rcases List.mem_cons.mp hx with rfl | hx
  · exact He.free_ok X G (c.fact 36 (f := .free "len") rfl)
  rcases List.mem_cons.mp hx with rfl | hx
  · exact He.free_ok X G (c.fact 37 (f := .free "abs") rfl)
  rcases List.mem_cons.mp hx with rfl | hx
  · exact He.free_ok X G (c.fact 38 (f := .free "int") rfl)
  rcases List.mem_cons.mp hx with rfl | hx
  · exact He.free_ok X G (c.fact 39 (f := .free "max") rfl)
  rcases List.mem_cons.mp hx with rfl | hx
  · exact He.free_ok X G (c.fact 40 (f := .free "min") rfl)
  rcases List.mem_cons.mp hx with rfl | hx
  · exact He.free_ok X G (c.fact 41 (f := .free "sum") rfl)
  rcases List.mem_cons.mp hx with rfl | hx
  · exact He.free_ok X G (c.fact 42 (f := .free "all") rfl)
  rcases List.mem_cons.mp hx with rfl | hx
  · exact He.free_ok X G (c.fact 43 (f := .free "any") rfl)
  rcases List.mem_cons.mp hx with rfl | hx
  · exact He.free_ok X G (c.fact 44 (f := .free "tuple") rfl)
  rcases List.mem_cons.mp hx with rfl | hx
  · exact He.free_ok X G (c.fact 45 (f := .free "list") rfl)
  rcases List.mem_cons.mp hx with rfl | hx
  · exact He.free_ok X G (c.fact 46 (f := .free "sorted") rfl)
  rcases List.mem_cons.mp hx with rfl | hx
  · exact He.free_ok X G (c.fact 47 (f := .free "str") rfl)
  rcases List.mem_cons.mp hx with rfl | hx
  · exact He.free_ok X G (c.fact 48 (f := .free "set") rfl)
  rcases List.mem_cons.mp hx with rfl | hx
  · exact He.free_ok X G (c.fact 49 (f := .free "bool") rfl)
  rcases List.mem_cons.mp hx with rfl | hx
  · exact He.free_ok X G (c.fact 50 (f := .free "isinstance") rfl)
  rcases List.mem_cons.mp hx with rfl | hx
  · exact He.free_ok X G (c.fact 51 (f := .free "range") rfl)
  rcases List.mem_cons.mp hx with rfl | hx
  · exact He.free_ok X G (c.fact 52 (f := .free "enumerate") rfl)
  rcases List.mem_cons.mp hx with rfl | hx
  · exact He.free_ok X G (c.fact 53 (f := .free "zip") rfl)
  cases hx
omit X G c in
theorem facts {P : Program} {w : World} (X : K.In h) (G : h.Ns mainGlobals mg) (c : He.SaysD fa fn K) (gb : globsB K glb = true) : ∃ fd : FuncData, (∀ (s : Shared) (v : Value), BindsTo s fd ⟨[v], []⟩ [("script", v)]) ∧ mg "law" = some (.ref (He.fAd K ("law", none))) ∧ ∀ base : Heap, K.In base → base.Ns mainGlobals mg → FnOk P w K mg base PyE.CX0 60 (He.fAd K ("law", none)) fd ["script"] (spF K (callF prog 60) 35) := by
  obtain ⟨fd, d⟩ := ok_law X G c
  obtain ⟨fd', F⟩ := c.def_ 35 (d := d_law) rfl
  have hm := d.mg
  have hfd : fd = fd' := by
    obtain ⟨_, _, _, _, _, _, _, _, _, _, F', _⟩ := d.ex
    obtain ⟨_, _, _, _, _, _, _, _, _, _, e1, l1, _⟩ := F'.ex
    obtain ⟨_, _, _, _, _, _, _, _, _, _, e2, l2, _⟩ := F.ex
    have l3 := Option.some.inj (l1.symm.trans l2)
    cases l3
    rfl
  subst hfd
  have b := FunD.bindsA (ps := ["script"]) F fun _ _ _ _ _ _ us hl => match us, hl with | [_], _ => rfl
  exact ⟨fd, fun s v => b s [v] rfl, hm, fun base _ _ => fn_all (globs_ok X G gb) (bi_all X G c) (ok_all X G c) 60 35 t_law _ fd d⟩
end
end K76
open PySem PySem.W PySem.Calls PyProof.Rows
theorem PySem.Challenge.cw_meantlog_k76_any_event_that_can_be_holds : PySem.Challenge.rw_meantlog_k76_any_event_that_can_be.Holds := by
  w_on; o_law
  refine HandSHeadRun.head_any (r := OpenLaw.row PySem.Challenge.rw_meantlog_k76_any_event_that_can_be) (q := view (OpenLaw.row PySem.Challenge.rw_meantlog_k76_any_event_that_can_be).prog [42]) (H := K76.hk) (ob := K76.ob) (M := 3000) (loose := K76.loose) (d := HandSHeadRun.topDef (OpenLaw.row PySem.Challenge.rw_meantlog_k76_any_event_that_can_be).prog 42) (kwd := []) K76.ob_eq
    (by kernel_rfl) (fun s => by kernel_rfl) K76.run (by kernel_rfl) (by kernel_rfl) (by kernel_rfl) (by rfl) (by first | assumption | decide +kernel) (by decide +kernel) ⟨rfl, rfl, rfl, rfl, rfl, by decide +kernel⟩ ?hw ?hc
  case hw => w_witness2
  case hc =>
    refine L2.walk_ofE (l := PySem.Challenge.rw_meantlog_k76_any_event_that_can_be) (n := 63) (k := 60) (x := "script") (CX := PyE.CX0) rfl (by decide) (by kernel_rfl) ⟨rfl, by decide, by decide⟩ ?F (fun _ _ _ _ z => z)
    intro w mg fa h Y G hmg0
    obtain ⟨K, KX, c, nl, gb⟩ := Y
    have hmg : mg ("law" : PySem.Str) = some (.ref fa) := by
      have e : (HandSHeadRun.topDef (OpenLaw.row PySem.Challenge.rw_meantlog_k76_any_event_that_can_be).prog 42).name = ("law" : PySem.Str) := by kernel_rfl
      rw [← e]
      exact hmg0
    obtain ⟨fd, hb, hm, hF⟩ := K76.facts (P := (PySem.Challenge.rw_meantlog_k76_any_event_that_can_be).prog) (w := w) KX G c gb
    have e := hmg.symm.trans hm
    cases e
    exact ⟨K, fd, _, KX, hb, fun H a ns hl _ hS => PyE.spF_law nl hS (K76.law_true ns hl), hF⟩


